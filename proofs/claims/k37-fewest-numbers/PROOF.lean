import PyProof.Rows.All
import Wide.All
import OpenK.AllK
import Wide.FinOn
import HandS.ForMost
import HandS.ForExc
import HandS.Evl
import HandS.IsInst
import HandS.Wide
import HandS.WideBits
import HandS.TupAny
import HandS.Flow
import HandS.Walk
import HandS.Zip
import HandS.ExcInit
import HandS.ExcField
import HandS.TryMany
import HandS.HotCalls
import HandS.Lambda
import HandS.Nested
import HandS.EndOwn
import HandS.GenCall
import HandS.GenList
import HandS.FStr
import HandS.SortKw
import HandS.Replace
import HandS.TupMul
import KE.DatumOrd
import KE.GoesMore
import KE.GoesEnum
import KE.GoesZip
import KE.KOpsOwn
import KE.KCallOwn
import HandS.ClsMeth
import KE.KeyNested
import KE.SortData
import KE.KDictPairs
import HandS.Set
import HandS.SetTxt0
import HandS.SetBool
import KE.GoesSet
import HandS.Conv
import HandS.Iter
import HandS.DictComp
import KE.GoesRaise
import HandS.Defaults
import HandS.MakeKw
import HandS.MakeKwOnly
import HandS.Property
import HandS.OwnEq
import HandS.RaiseMore
import HandS.Style
import HandS.Star
import KE.SortKeyHeap
import PySem.Challenge.RW_sparenots_k37_fewest_numbers
set_option Elab.async false
set_option linter.all false
set_option maxRecDepth 100000
set_option maxHeartbeats 4000000
namespace My
open PySem PySem.Spec PyProof.Rows L2 RZ
abbrev St := L2.St
def rPar (i j : Nat) (σ : St) (nx : St → Hp → Prop) : List V → Hp → Prop := fun vs H => ∃ v w, vs = [v, w] ∧ nx ((σ.set i (some v)).set j (some w)) H
section steps
variable {σ σ' : St} {H H1 : Hp} {i j : Nat} {v x y z : V} {ta tb te tc : TE} {t u : TS} {c c' : TT} {b : Bool} {K : PySem.W.Frag} {a p : Addr} {Q : VK} {QT : Bool → Hp → Prop} {nx bk ct : St → Hp → Prop} {rt : VK} {tr : TA} {QA : List V → Hp → Prop}
theorem s_var (h : σ[i]? = some (some v)) (q : Q v H) : tVar i σ H Q := ⟨v, h, q⟩
theorem s_c (q : Q v H) : tC v σ H Q := q
theorem s_op {r : R2} (h : ta σ H fun x H1 => tb σ H1 fun y H2 => r x y H2 Q) : tOp r ta tb σ H Q := h
theorem s_un {r : V → Hp → VK → Prop} (h : ta σ H fun x H1 => r x H1 Q) : tUn r ta σ H Q := h
theorem s_rI0 {g : Int → Int → V} {m n : Int} (q : Q (g m n) H) : rI0 g (.int m) (.int n) H Q := ⟨m, n, rfl, rfl, q⟩
theorem s_rI {C : Int → Int → Prop} {g : Int → Int → V} {m n : Int} (hc : C m n) (q : Q (g m n) H) : rI C g (.int m) (.int n) H Q := ⟨m, n, rfl, rfl, hc, q⟩
theorem s_rU {g : Int → V} {m : Int} (q : Q (g m) H) : rU g (.int m) H Q := ⟨m, rfl, q⟩
theorem s_rEqI {m n : Int} (q : Q (.bl (decide (m = n))) H) : rEq (.int m) (.int n) H Q := ⟨rfl, by
  have e : decide (V.int m = V.int n) = decide (m = n) := decide_eq_decide.mpr ⟨fun h => V.int.inj h, fun h => by rw [h]⟩
  rw [e]; exact q⟩
theorem s_rNeI {m n : Int} (q : Q (.bl (!decide (m = n))) H) : rNe (.int m) (.int n) H Q := ⟨rfl, by
  have e : decide (V.int m = V.int n) = decide (m = n) := decide_eq_decide.mpr ⟨fun h => V.int.inj h, fun h => by rw [h]⟩
  rw [e]; exact q⟩
theorem s_rEqS {m n : Str} (q : Q (.bl (decide (m = n))) H) : rEq (.str m) (.str n) H Q := ⟨rfl, by
  have e : decide (V.str m = V.str n) = decide (m = n) := decide_eq_decide.mpr ⟨fun h => V.str.inj h, fun h => by rw [h]⟩
  rw [e]; exact q⟩
theorem s_rNeS {m n : Str} (q : Q (.bl (!decide (m = n))) H) : rNe (.str m) (.str n) H Q := ⟨rfl, by
  have e : decide (V.str m = V.str n) = decide (m = n) := decide_eq_decide.mpr ⟨fun h => V.str.inj h, fun h => by rw [h]⟩
  rw [e]; exact q⟩
theorem s_rEqB {m n : Bool} (q : Q (.bl (decide (m = n))) H) : rEq (.bl m) (.bl n) H Q := ⟨rfl, by
  have e : decide (V.bl m = V.bl n) = decide (m = n) := decide_eq_decide.mpr ⟨fun h => V.bl.inj h, fun h => by rw [h]⟩
  rw [e]; exact q⟩
theorem s_rNeB {m n : Bool} (q : Q (.bl (!decide (m = n))) H) : rNe (.bl m) (.bl n) H Q := ⟨rfl, by
  have e : decide (V.bl m = V.bl n) = decide (m = n) := decide_eq_decide.mpr ⟨fun h => V.bl.inj h, fun h => by rw [h]⟩
  rw [e]; exact q⟩
theorem s_test (h : te σ H fun x H' => ∃ k, x = .bl k ∧ QT k H') : tTest te σ H QT := h
theorem s_B (h : te σ H fun x H' => ∃ k, x = .bl k ∧ QT k H') : tB te σ H QT := h
theorem s_and (h : c σ H fun k H1 => if k = true then c' σ H1 QT else QT false H1) : tAnd c c' σ H QT := h
theorem s_or (h : c σ H fun k H1 => if k = true then QT true H1 else c' σ H1 QT) : tOr c c' σ H QT := h
theorem s_not (h : c σ H fun k H1 => QT (!k) H1) : tNot c σ H QT := h
theorem s_andV (h : ta σ H fun x H1 => ∃ k, x = .bl k ∧ if k = true then tb σ H1 Q else Q (.bl false) H1) : tAndV ta tb σ H Q := h
theorem s_orV (h : ta σ H fun x H1 => ∃ k, x = .bl k ∧ if k = true then Q (.bl true) H1 else tb σ H1 Q) : tOrV ta tb σ H Q := h
theorem s_notV (h : ta σ H fun x H1 => ∃ k, x = .bl k ∧ Q (.bl (!k)) H1) : tNotV ta σ H Q := h
theorem s_exbP {P : Bool → Prop} (q : P b) : ∃ k, V.bl b = .bl k ∧ P k := ⟨b, rfl, q⟩
theorem s_if (h : c σ H fun k H1 => if k = true then ta σ H1 Q else tb σ H1 Q) : tIf c ta tb σ H Q := h
theorem s_nil (q : QA [] H) : tNil σ H QA := q
theorem s_cons (h : ta σ H fun x H1 => tr σ H1 fun xs H2 => QA (x :: xs) H2) : tCons ta tr σ H QA := h
theorem s_tup (h : tr σ H fun xs H1 => xs.length ≤ sizeLine ∧ ∀ p, H1 p = none → Q (.ref p) (upd H1 p (.tup xs))) : tTup tr σ H Q := h
theorem s_lst (h : tr σ H fun xs H1 => xs.length ≤ sizeLine ∧ ∀ p, H1 p = none → Q (.ref p) (upd H1 p (.lst xs))) : tLst tr σ H Q := h
theorem s_CB {r : List V → Hp → VK → Prop} (h : tr σ H fun vs H1 => r vs H1 Q) : tCB r tr σ H Q := h
theorem s_BM {T : String} {r : V → List V → Hp → VK → Prop} (h : te σ H fun x H1 => tyV K T x H1 ∧ tr σ H1 fun xs H2 => r x xs H2 Q) : tBM K T r te tr σ H Q := h
theorem s_BM0 {T : String} {r : V → List V → Hp → VK → Prop} (h : te σ H fun x H1 => tyV K T x H1 ∧ r x [] H1 Q) : tBM0 K T r te σ H Q := h
theorem s_call {sp : Sp} {E : XK} (h : tr σ H fun vs H1 => sp vs H1 Q E) : tCall sp [] E tr σ H Q := by
  unfold tCall
  simpa only [List.append_nil] using h
theorem s_seq (h : t ⟨fun σ' H' => u ⟨nx, rt, bk, ct⟩ σ' H', rt, bk, ct⟩ σ H) : tSeq t u ⟨nx, rt, bk, ct⟩ σ H := h
theorem s_ret (h : te σ H rt) : tRet te ⟨nx, rt, bk, ct⟩ σ H := h
theorem s_retN (h : rt .non H) : tRetN ⟨nx, rt, bk, ct⟩ σ H := h
theorem s_next (h : nx σ H) : tNext ⟨nx, rt, bk, ct⟩ σ H := h
theorem s_break (h : bk σ H) : tBreak ⟨nx, rt, bk, ct⟩ σ H := h
theorem s_cont (h : ct σ H) : tCont ⟨nx, rt, bk, ct⟩ σ H := h
theorem s_asg {g : TG} (h : te σ H fun x H1 => g x σ H1 nx) : tAsg te g ⟨nx, rt, bk, ct⟩ σ H := h
theorem s_name (e : σ.set i (some v) = σ') (h : nx σ' H) : gName i v σ H nx := by unfold gName; rw [e]; exact h
theorem s_drop (h : te σ H fun _ H1 => nx σ H1) : tDrop te ⟨nx, rt, bk, ct⟩ σ H := h
theorem s_ifS (h : c σ H fun k H1 => if k = true then t ⟨nx, rt, bk, ct⟩ σ H1 else u ⟨nx, rt, bk, ct⟩ σ H1) : tIfS c t u ⟨nx, rt, bk, ct⟩ σ H := h
theorem s_par (h : tr σ H fun vs H1 => rPar i j σ nx vs H1) : tPar i j tr ⟨nx, rt, bk, ct⟩ σ H := h
theorem s_par2 (e : (σ.set i (some v)).set j (some x) = σ') (h : nx σ' H) : rPar i j σ nx [v, x] H := ⟨v, x, rfl, by rw [e]; exact h⟩
theorem s_sub {ti to : TE} {s : TSet} {w : V} (h : to σ H fun o H1 => ti σ H1 fun i H2 => s o i w H2 fun H3 => nx σ H3) : gSub to ti s w σ H nx := h
theorem s_setL {xs : List V} {k : Int} {n : Nat} {w : V} {R : Hp → Prop} (h : H p = some (.lst xs)) (e : ixN xs.length k = some n) (q : R (upd H p (.lst (xs.set n w)))) : rSetL (.ref p) (.int k) w H R := ⟨p, xs, k, n, rfl, rfl, h, e, q⟩
theorem s_ixL {xs : List V} {k : Int} (h : SqL K H p xs) (e : atI xs k = some v) (q : Q v H) : rIx K (.ref p) (.int k) H Q := .inl ⟨p, xs, k, v, rfl, rfl, h, e, q⟩
theorem s_ixT {xs : List V} {k : Int} (h : SqT K H p xs) (e : atI xs k = some v) (q : Q v H) : rIx K (.ref p) (.int k) H Q := .inr (.inl ⟨p, xs, k, v, rfl, rfl, h, e, q⟩)
end steps
/-- tests -/
theorem if_dec {p A B : Prop} [Decidable p] (h1 : p → A) (h2 : ¬ p → B) : if decide p = true then A else B := by
  by_cases h : p
  · rw [if_pos (decide_eq_true h)]; exact h1 h
  · rw [if_neg (by rw [decide_eq_false h]; exact Bool.false_ne_true)]; exact h2 h
theorem ite_t {b : Bool} {A B : Prop} (e : b = true) (h : A) : if b = true then A else B := by rw [if_pos e]; exact h
theorem ite_f {b : Bool} {A B : Prop} (e : b = false) (h : B) : if b = true then A else B := by rw [if_neg (by rw [e]; exact Bool.false_ne_true)]; exact h
theorem ndec_t {p : Prop} [Decidable p] (h : ¬ p) : (!decide p) = true := by rw [decide_eq_false h]; rfl
theorem ndec_f {p : Prop} [Decidable p] (h : p) : (!decide p) = false := by rw [decide_eq_true h]; rfl
theorem szb {n : Nat} (h : Nat.ble n 1000 = true) : n ≤ sizeLine := Nat.le_trans (Nat.le_of_ble_eq_true h) (by decide)
theorem sz {n : Nat} (h : n ≤ 1000) : n ≤ sizeLine := Nat.le_trans h (by decide)
def rAddG (K : PySem.W.Frag) : R2 := fun x y H Q => rI0 (fun i j => .int (i + j)) x y H Q ∨ (∃ i j, x = .str i ∧ y = .str j ∧ i.length + j.length ≤ sizeLine ∧ Q (.str (i ++ j)) H) ∨ rCatA K x y H Q ∨ rCat x y H Q
theorem opAdd {X : Cx} : OpR X (binaryOp .Add) (rAddG X.K) := op_add.or (op_add_str.or (op_catA.or op_cat))
def rEqG' (K : PySem.W.Frag) : R2 := fun x y H Q => rEq x y H Q ∨ rEqD K x y H Q
def rNeG' (K : PySem.W.Frag) : R2 := fun x y H Q => rNe x y H Q ∨ rNeD K x y H Q
theorem opEq {X : Cx} (hu : X.A.units + 64 < cLine) : OpR X (compareOp .Eq) (rEqG' X.K) := op_eq.or (op_eqD hu)
theorem opNe {X : Cx} (hu : X.A.units + 64 < cLine) : OpR X (compareOp .NotEq) (rNeG' X.K) := op_ne.or (op_neD hu)
section
variable {K : PySem.W.Frag} {H : Hp} {Q : VK} {x y : V} {m n : Int} {s t : Str}
theorem s_addI (q : Q (.int (m + n)) H) : rAddG K (.int m) (.int n) H Q := .inl (s_rI0 q)
theorem s_eqI (q : Q (.bl (decide (m = n))) H) : rEqG' K (.int m) (.int n) H Q := .inl (s_rEqI q)
theorem s_neI (q : Q (.bl (!decide (m = n))) H) : rNeG' K (.int m) (.int n) H Q := .inl (s_rNeI q)
theorem s_eqS (q : Q (.bl (decide (s = t))) H) : rEqG' K (.str s) (.str t) H Q := .inl (s_rEqS q)
theorem s_neS (q : Q (.bl (!decide (s = t))) H) : rNeG' K (.str s) (.str t) H Q := .inl (s_rNeS q)
theorem s_eqB {b c : Bool} (q : Q (.bl (decide (b = c))) H) : rEqG' K (.bl b) (.bl c) H Q := .inl (s_rEqB q)
theorem s_neB {b c : Bool} (q : Q (.bl (!decide (b = c))) H) : rNeG' K (.bl b) (.bl c) H Q := .inl (s_rNeB q)
/-- int(x), len(x), list(x), by names -/
def rInt1 : List V → Hp → VK → Prop := fun xs H Q => (∃ i, xs = [.int i] ∧ Q (.int i) H) ∨ ∃ k, xs = [.bl k] ∧ Q (.int (if k then 1 else 0)) H
theorem callInt {X : Cx} : CallR X (.type "int") rInt1 := call_int1
theorem s_int1 (q : Q (.int m) H) : rInt1 [.int m] H Q := .inl ⟨m, rfl, q⟩
def rLen (K : PySem.W.Frag) : List V → Hp → VK → Prop := fun xs H Q => (∃ p ys, xs = [.ref p] ∧ (SqL K H p ys ∨ SqT K H p ys) ∧ Q (.int ys.length) H) ∨ (∃ z, xs = [.str z] ∧ z.length ≤ sizeLine ∧ Q (.int z.length) H) ∨ ∃ a kvs, xs = [V.ref a] ∧ H a = some (.dK kvs) ∧ Q (.int kvs.length) H
theorem callLen {X : Cx} : CallR X (.builtin "len") (rLen X.K) := call_len_seq.or (call_len_str.or call_lenD)
theorem s_lenL {p : Addr} {xs : List V} (h : SqL K H p xs) (q : Q (.int xs.length) H) : rLen K [.ref p] H Q := .inl ⟨p, xs, rfl, .inl h, q⟩
theorem s_lenT {p : Addr} {xs : List V} (h : SqT K H p xs) (q : Q (.int xs.length) H) : rLen K [.ref p] H Q := .inl ⟨p, xs, rfl, .inr h, q⟩
def rList (K : PySem.W.Frag) : List V → Hp → VK → Prop := fun xs H Q => ∃ p ys, xs = [.ref p] ∧ (SqL K H p ys ∨ SqT K H p ys) ∧ ∀ l, H l = none → Q (.ref l) (upd H l (.lst ys))
theorem callList {X : Cx} : CallR X (.type "list") (rList X.K) := call_list_of
theorem s_listL {p : Addr} {xs : List V} (h : SqL K H p xs) (q : ∀ l, H l = none → Q (.ref l) (upd H l (.lst xs))) : rList K [.ref p] H Q := ⟨p, xs, rfl, .inl h, q⟩
theorem s_all {p : Addr} {bs : List Bool} (h : SqL K H p (bs.map V.bl)) (q : Q (.bl (bs.all id)) H) : rAll K [.ref p] H Q := ⟨p, bs, rfl, h, q⟩
theorem s_mul (h : (-(2 ^ 64) < m ∧ m < 2 ^ 64) ∨ (-(2 ^ 64) < n ∧ n < 2 ^ 64)) (q : Q (.int (m * n)) H) : rI CMul (fun i j => .int (i * j)) (.int m) (.int n) H Q := s_rI (C := CMul) h q
theorem s_fdiv (h : 0 < n ∧ n < 1073741824) (q : Q (.int (m / n)) H) : rI CDiv (fun i j => .int (i / j)) (.int m) (.int n) H Q := s_rI (C := CDiv) h q
theorem s_mod (h : 0 < n) (q : Q (.int (m % n)) H) : rI (fun _ j => 0 < j) (fun i j => .int (i % j)) (.int m) (.int n) H Q := s_rI (C := fun _ j => 0 < j) h q
theorem s_pow (h : 0 ≤ n ∧ n ≤ 1000000 ∧ m.natAbs < 2 ^ 64) (q : Q (.int (m ^ n.toNat)) H) : rI CPow (fun i j => .int (i ^ j.toNat)) (.int m) (.int n) H Q := s_rI (C := CPow) h q
theorem s_pow9 (q : Q (.int 1000000000) H) : rI CPow (fun i j => .int (i ^ j.toNat)) (.int 10) (.int 9) H Q := s_pow ⟨by decide, by decide, by decide⟩ (by
  rw [show (10 : Int) ^ (9 : Int).toNat = 1000000000 by decide]; exact q)
theorem s_pow18 (q : Q (.int 1000000000000000000) H) : rI CPow (fun i j => .int (i ^ j.toNat)) (.int 10) (.int 18) H Q := s_pow ⟨by decide, by decide, by decide⟩ (by
  rw [show (10 : Int) ^ (18 : Int).toNat = 1000000000000000000 by decide]; exact q)
end
theorem s_isN {σ : St} {H : Hp} {Q : VK} {ta : TE} (h : ta σ H fun x H1 => Q (.bl (decide (x = .non))) H1) : tIsN ta σ H Q := h
theorem s_notN {σ : St} {H : Hp} {Q : VK} {ta : TE} (h : ta σ H fun x H1 => Q (.bl (!decide (x = .non))) H1) : tNotN ta σ H Q := h
abbrev opMul {X : Cx} := @op_mul X
abbrev opDiv {X : Cx} := @op_fdiv X
theorem at0 {α : Type} {x0 : α} {l : List α} : atI (x0 :: l) 0 = some x0 := atI_nat (j := 0) rfl
theorem ix0 {x0 : V} {l : List V} : ixN (x0 :: l).length 0 = some 0 := by
  have h : (0 : Int) < ((x0 :: l).length : Nat) := by simp only [List.length_cons]; omega
  unfold ixN
  rw [if_pos (by decide), if_pos h]
  rfl
theorem at1 {α : Type} {x0 x1 : α} {l : List α} : atI (x0 :: x1 :: l) 1 = some x1 := atI_nat (j := 1) rfl
theorem ix1 {x0 x1 : V} {l : List V} : ixN (x0 :: x1 :: l).length 1 = some 1 := by
  have h : (1 : Int) < ((x0 :: x1 :: l).length : Nat) := by simp only [List.length_cons]; omega
  unfold ixN
  rw [if_pos (by decide), if_pos h]
  rfl
theorem at2 {α : Type} {x0 x1 x2 : α} {l : List α} : atI (x0 :: x1 :: x2 :: l) 2 = some x2 := atI_nat (j := 2) rfl
theorem ix2 {x0 x1 x2 : V} {l : List V} : ixN (x0 :: x1 :: x2 :: l).length 2 = some 2 := by
  have h : (2 : Int) < ((x0 :: x1 :: x2 :: l).length : Nat) := by simp only [List.length_cons]; omega
  unfold ixN
  rw [if_pos (by decide), if_pos h]
  rfl
theorem at3 {α : Type} {x0 x1 x2 x3 : α} {l : List α} : atI (x0 :: x1 :: x2 :: x3 :: l) 3 = some x3 := atI_nat (j := 3) rfl
theorem ix3 {x0 x1 x2 x3 : V} {l : List V} : ixN (x0 :: x1 :: x2 :: x3 :: l).length 3 = some 3 := by
  have h : (3 : Int) < ((x0 :: x1 :: x2 :: x3 :: l).length : Nat) := by simp only [List.length_cons]; omega
  unfold ixN
  rw [if_pos (by decide), if_pos h]
  rfl
theorem at4 {α : Type} {x0 x1 x2 x3 x4 : α} {l : List α} : atI (x0 :: x1 :: x2 :: x3 :: x4 :: l) 4 = some x4 := atI_nat (j := 4) rfl
theorem ix4 {x0 x1 x2 x3 x4 : V} {l : List V} : ixN (x0 :: x1 :: x2 :: x3 :: x4 :: l).length 4 = some 4 := by
  have h : (4 : Int) < ((x0 :: x1 :: x2 :: x3 :: x4 :: l).length : Nat) := by simp only [List.length_cons]; omega
  unfold ixN
  rw [if_pos (by decide), if_pos h]
  rfl
theorem at5 {α : Type} {x0 x1 x2 x3 x4 x5 : α} {l : List α} : atI (x0 :: x1 :: x2 :: x3 :: x4 :: x5 :: l) 5 = some x5 := atI_nat (j := 5) rfl
theorem ix5 {x0 x1 x2 x3 x4 x5 : V} {l : List V} : ixN (x0 :: x1 :: x2 :: x3 :: x4 :: x5 :: l).length 5 = some 5 := by
  have h : (5 : Int) < ((x0 :: x1 :: x2 :: x3 :: x4 :: x5 :: l).length : Nat) := by simp only [List.length_cons]; omega
  unfold ixN
  rw [if_pos (by decide), if_pos h]
  rfl
theorem at6 {α : Type} {x0 x1 x2 x3 x4 x5 x6 : α} {l : List α} : atI (x0 :: x1 :: x2 :: x3 :: x4 :: x5 :: x6 :: l) 6 = some x6 := atI_nat (j := 6) rfl
theorem ix6 {x0 x1 x2 x3 x4 x5 x6 : V} {l : List V} : ixN (x0 :: x1 :: x2 :: x3 :: x4 :: x5 :: x6 :: l).length 6 = some 6 := by
  have h : (6 : Int) < ((x0 :: x1 :: x2 :: x3 :: x4 :: x5 :: x6 :: l).length : Nat) := by simp only [List.length_cons]; omega
  unfold ixN
  rw [if_pos (by decide), if_pos h]
  rfl
theorem at7 {α : Type} {x0 x1 x2 x3 x4 x5 x6 x7 : α} {l : List α} : atI (x0 :: x1 :: x2 :: x3 :: x4 :: x5 :: x6 :: x7 :: l) 7 = some x7 := atI_nat (j := 7) rfl
theorem ix7 {x0 x1 x2 x3 x4 x5 x6 x7 : V} {l : List V} : ixN (x0 :: x1 :: x2 :: x3 :: x4 :: x5 :: x6 :: x7 :: l).length 7 = some 7 := by
  have h : (7 : Int) < ((x0 :: x1 :: x2 :: x3 :: x4 :: x5 :: x6 :: x7 :: l).length : Nat) := by simp only [List.length_cons]; omega
  unfold ixN
  rw [if_pos (by decide), if_pos h]
  rfl
/-- a for over a walk -/
def ForGo (g : TG) (tb : TS) (nx : St → Hp → Prop) (rt : VK) (σ : St) : It → Hp → Prop := fun J H => ∃ W : Nat → Nat → St → Hp → Prop, (∃ m, W 0 m σ H) ∧ ∀ i m σ H, W i m σ H →
      (J.stop i H ∧ nx σ H) ∨ (J.go i H ∧ ∃ N : St → Hp → Prop, (∀ σ' H', N σ' H' → ∃ m', m' < m ∧ W (i + 1) m' σ' H') ∧ ∀ x H', J.yld i H x H' → g x σ H' fun σ2 H2 => tb ⟨N, rt, nx, N⟩ σ2 H2)
theorem for_by {J : It} {n : Nat} {G : Hp → Prop} {Y : Nat → Hp → V → Hp → Prop} (w : Walk J n G Y) {σ : St} {H : Hp} {nx : St → Hp → Prop} {rt : VK} {g : TG} {tb : TS} (Pv : Nat → St → Hp → Prop) (h0 : Pv 0 σ H) (hG : ∀ i σ H, i ≤ n → Pv i σ H → G H)
    (hs : ∀ i x σ H H', i < n → Pv i σ H → Y i H x H' → g x σ H' fun σ2 H2 => tb ⟨Pv (i + 1), rt, nx, Pv (i + 1)⟩ σ2 H2) (hd : ∀ σ H, Pv n σ H → nx σ H) : ForGo g tb nx rt σ J H :=
  for_it (D := ⟨nx, rt, fun _ _ => False, fun _ _ => False⟩) w Pv h0 hG hs hd
theorem walk_range0 {n : Nat} : Walk (Itr 0 n) n (fun _ => True) (YFn fun i => .int (i : Nat)) :=
  ⟨fun _ _ hi _ => hi, fun _ _ => Nat.le_refl _, fun i H x H' _ _ y => ⟨y.1, by rw [y.2, Int.zero_add]⟩⟩
def rRng1 : List V → Hp → (It → Hp → Prop) → Prop := fun vs H R => ∃ j : Int, vs = [.int j] ∧ -(2 ^ 62) ≤ j ∧ j < 2 ^ 62 ∧ R (Itr 0 j.toNat) H
def rRng2 : List V → Hp → (It → Hp → Prop) → Prop := fun vs H R => ∃ i j : Int, vs = [.int i, .int j] ∧ (-(2 ^ 62) ≤ i ∧ i < 2 ^ 62 ∧ -(2 ^ 62) ≤ j ∧ j < 2 ^ 62) ∧ R (Itr i (j - i).toNat) H
def rLst1 (K : PySem.W.Frag) : V → Hp → (It → Hp → Prop) → Prop := fun x H R => ∃ a, x = .ref a ∧ (∃ xs, SqL K H a xs) ∧ R (Itl K a) H
def rTup1 (K : PySem.W.Frag) : V → Hp → (It → Hp → Prop) → Prop := fun x H R => ∃ a, x = .ref a ∧ (∃ xs, SqT K H a xs) ∧ R (Itt K a) H
section
variable {σ : St} {H : Hp} {R : It → Hp → Prop} {ta : TA} {tl : TE} {K : PySem.W.Frag} {a : Addr} {xs : List V} {m n : Int}
theorem s_iRng1 (h : ta σ H fun vs H1 => rRng1 vs H1 R) : iRng1 ta σ H R := h
theorem s_iRng2 (h : ta σ H fun vs H1 => rRng2 vs H1 R) : iRng2 ta σ H R := h
theorem s_iList (h : tl σ H fun x H1 => rLst1 K x H1 R) : iList K tl σ H R := h
theorem s_iTup (h : tl σ H fun x H1 => rTup1 K x H1 R) : iTup K tl σ H R := h
theorem s_rng1 (h : -4611686018427387904 ≤ n ∧ n < 4611686018427387904) (q : R (Itr 0 n.toNat) H) : rRng1 [.int n] H R := ⟨n, rfl, h.1, h.2, q⟩
theorem s_rng2 (h : -4611686018427387904 ≤ m ∧ m < 4611686018427387904 ∧ -4611686018427387904 ≤ n ∧ n < 4611686018427387904) (q : R (Itr m (n - m).toNat) H) : rRng2 [.int m, .int n] H R := ⟨m, n, rfl, h, q⟩
theorem s_lst1 (h : SqL K H a xs) (q : R (Itl K a) H) : rLst1 K (.ref a) H R := ⟨a, rfl, ⟨xs, h⟩, q⟩
theorem s_tup1 (h : SqT K H a xs) (q : R (Itt K a) H) : rTup1 K (.ref a) H R := ⟨a, rfl, ⟨xs, h⟩, q⟩
end
theorem s_for {σ : St} {H : Hp} {nx bk ct : St → Hp → Prop} {rt : VK} {wi : TI} {g : TG} {tb : TS} (h : wi σ H (ForGo g tb nx rt σ)) : tFor wi g tb ⟨nx, rt, bk, ct⟩ σ H := h
def rSlG (K : PySem.W.Frag) : V → Option Int → Option Int → Hp → VK → Prop := fun x lo hi H Q => rSlL K x lo hi H Q ∨ rSlA K x lo hi H Q ∨ rSlS x lo hi H Q
theorem opSl {X : Cx} : SlR X (rSlG X.K) := sl_list.or (sl_tupA.or sl_str)
theorem s_slL {K : PySem.W.Frag} {H : Hp} {Q : VK} {p : Addr} {xs : List V} {lo hi : Option Int} (h : SqL K H p xs) (q : ∀ l, H l = none → Q (.ref l) (upd H l (.lst (cutV xs lo hi)))) : rSlG K (.ref p) lo hi H Q := .inl ⟨p, xs, rfl, h, q⟩
theorem s_sl {σ : St} {H : Hp} {Q : VK} {r : V → Option Int → Option Int → Hp → VK → Prop} {te : TE} {tl th : TO} (h : te σ H fun x H1 => tl σ H1 fun l H2 => th σ H2 fun u H3 => r x l u H3 Q) : tSl r te tl th σ H Q := h
theorem s_noPart {σ : St} {H : Hp} {Q : Option Int → Hp → Prop} (q : Q none H) : tNoPart σ H Q := q
theorem s_part {σ : St} {H : Hp} {Q : Option Int → Hp → Prop} {t : TE} (h : t σ H fun x H1 => ∃ i, x = .int i ∧ Q (some i) H1) : tPart t σ H Q := h
theorem s_exi {m : Int} {P : Int → Prop} (q : P m) : ∃ i, V.int m = .int i ∧ P i := ⟨m, rfl, q⟩
theorem s_bits {σ : St} {H : Hp} {Q : VK} {to : TE} (h : to σ H fun x H1 => ∃ i, x = .int i ∧ Q (.int (Builtin.Int.intBits i : Nat)) H1) : tBits to σ H Q := h
theorem cut_all {xs : List V} {n : Int} (h : (xs.length : Int) ≤ n) : cutV xs none (some n) = xs := by
  unfold cutV
  rw [HT.sIx_none]
  obtain ⟨k, rfl⟩ : ∃ k : Nat, n = (k : Int) := ⟨n.toNat, by omega⟩
  rw [HT.sIx_nat]
  rw [List.drop_zero, Nat.sub_zero]
  exact List.take_of_length_le (by omega)
end My
namespace My
open PySem PySem.Spec PyProof.Rows L2 RZ
/-- all that was tracked outside N is as it was; tuples stay anyway -/
structure Fr (N : Addr → Prop) (H H' : Hp) : Prop where
  tup : ∀ a xs, H a = some (.tup xs) → H' a = some (.tup xs)
  keep : ∀ a o, H a = some o → ¬ N a → H' a = some o
  hd : ∀ a x r, H a = some (.lst (.ref x :: r)) → ∃ r', H' a = some (.lst (.ref x :: r'))
abbrev N0 : Addr → Prop := fun _ => False
abbrev N1 (b : Addr) : Addr → Prop := fun a => a = b
theorem Fr.refl {N : Addr → Prop} {H : Hp} : Fr N H H := ⟨fun _ _ h => h, fun _ _ h _ => h, fun _ _ _ h => ⟨_, h⟩⟩
theorem Fr.trans {N : Addr → Prop} {H H1 H2 : Hp} (a : Fr N H H1) (b : Fr N H1 H2) : Fr N H H2 := ⟨fun c o h => b.tup c o (a.tup c o h), fun c o h n => b.keep c o (a.keep c o h n) n, fun c x r h => let ⟨_, h'⟩ := a.hd c x r h; b.hd c x _ h'⟩
theorem Fr.mono {N N' : Addr → Prop} {H H' : Hp} (a : Fr N H H') (h : ∀ x, N x → N' x) : Fr N' H H' := ⟨a.tup, fun c o e n => a.keep c o e fun z => n (h c z), a.hd⟩
theorem Fr.same {H H' : Hp} (a : Fr N0 H H') : Same H H' := fun b o e => a.keep b o e id
theorem Fr.ofSame {N : Addr → Prop} {H H' : Hp} (a : Same H H') : Fr N H H' := ⟨fun b xs e => a b _ e, fun b o e _ => a b o e, fun b x r e => ⟨_, a b _ e⟩⟩
theorem Fr.new {N : Addr → Prop} {H : Hp} {p : Addr} {o : HO} (h : H p = none) : Fr N H (upd H p o) := .ofSame fun b x e => by
  rw [upd_ne (ne_of_none e h)]
  exact e
theorem Fr.wr {N : Addr → Prop} {H : Hp} {p : Addr} {o : HO} {xs : List V} (h : H p = some (.lst xs)) (n : N p) (hh : ∀ x r, xs = .ref x :: r → ∃ r', o = .lst (.ref x :: r') := by (rintro _ _ ⟨⟩; exact ⟨_, rfl⟩)) : Fr N H (upd H p o) := ⟨fun b ys e => by
  rw [upd_ne (ne_of e h (by intro z; cases z))]
  exact e, fun b x e nb => by
  rw [upd_ne (fun z => nb (by rw [z]; exact n))]
  exact e, fun b x r e => by
  by_cases hb : b = p
  · rw [hb, h] at e
    obtain ⟨r', e'⟩ := hh x r (HO.lst.inj (Option.some.inj e))
    exact ⟨r', by rw [hb, upd_same, e']⟩
  · exact ⟨r, by rw [upd_ne hb]; exact e⟩⟩
/-- an object that H does not know may change -/
theorem Fr.mut {N : Addr → Prop} {H H' : Hp} {p : Addr} {o : HO} (f : Fr N H H') (h : H p = none) : Fr N H (upd H' p o) := ⟨fun a xs e => by
  rw [upd_ne (ne_of_none e h)]
  exact f.tup a xs e, fun a x e n => by
  rw [upd_ne (ne_of_none e h)]
  exact f.keep a x e n, fun a x r e => by
  rw [upd_ne (ne_of_none e h)]
  exact f.hd a x r e⟩
theorem Fr.free {N : Addr → Prop} {H H' : Hp} {p : Addr} (a : Fr N H H') (h : H' p = none) (n : ¬ N p) : H p = none := by
  cases q : H p with
  | none => rfl
  | some o => rw [a.keep p o q n] at h; cases h
theorem Fr.rdL {N : Addr → Prop} {K : PySem.W.Frag} {H H' : Hp} {p : Addr} {xs : List V} (a : Fr N H H') (h : SqL K H p xs) (n : ¬ N p) : SqL K H' p xs := by
  rcases h with (h | ⟨o, h⟩) | h
  · exact .inl (.inl (a.keep _ _ h n))
  · exact .inl (.inr ⟨o, a.keep _ _ h n⟩)
  · exact .inr h
theorem nat0 {p : Int} (h : 0 ≤ p) : ∃ j : Nat, p = (j : Int) := ⟨p.toNat, by omega⟩
/-- the bag of draws at b -/
structure Bag (b : Addr) (H : Hp) : Prop where
  ex : ∃ (c : Addr) (ns : List Int) (p cur seed : Int), H b = some (.lst [.ref c, .int p, .int cur, .int seed]) ∧ H c = some (.lst (ns.map V.int)) ∧ ns.length ≤ 63 ∧ 0 ≤ p ∧ 0 ≤ cur ∧ 0 ≤ seed ∧ seed < 2147483563
theorem bag_ne {H : Hp} {b c : Addr} {x : Addr} {r : List V} {ns : List Int} (h1 : H b = some (.lst (.ref x :: r))) (h2 : H c = some (.lst (ns.map V.int))) : c ≠ b := by
  intro e
  subst e
  rw [h1] at h2
  cases ns with
  | nil => cases h2
  | cons n l => cases h2
theorem Bag.fr {b : Addr} {H H' : Hp} (B : Bag b H) (f : Fr N0 H H') : Bag b H' := by
  obtain ⟨c, ns, p, cur, seed, h1, h2, r⟩ := B.ex
  exact ⟨c, ns, p, cur, seed, f.same _ _ h1, f.same _ _ h2, r⟩
theorem Bag.some {b : Addr} {H : Hp} (B : Bag b H) : ∃ xs, H b = some (.lst xs) := let ⟨_, _, _, _, _, h, _⟩ := B.ex; ⟨_, h⟩
end My
namespace My
open PySem PySem.Spec PyProof.Rows L2 RZ
/-- a tuple at a: tracked, or of the written part -/
def TupAt (K : PySem.W.Frag) (H : Hp) (a : Addr) (xs : List V) : Prop :=
  H a = some (.tup xs) ∨ ∃ (o : Obj) (its : Array Value) (n : Nat), K.lookup a = some o ∧ o.cls = .type "tuple" ∧ o.data = .seq its n ∧ its.size ≤ sizeLine ∧ Vals xs its.toList
theorem TupAt.sq {K : PySem.W.Frag} {H : Hp} {a : Addr} {xs : List V} (h : TupAt K H a xs) : SqT K H a xs := by
  rcases h with h | h
  · exact .inl (.inl h)
  · exact .inr h
theorem TupAt.of {K : PySem.W.Frag} {H : Hp} {a : Addr} {xs : List V} (h : H a = some (.tup xs)) : TupAt K H a xs := .inl h
theorem TupAt.fr {N : Addr → Prop} {K : PySem.W.Frag} {H H' : Hp} {a : Addr} {xs : List V} (f : Fr N H H') (h : TupAt K H a xs) : TupAt K H' a xs := by
  rcases h with h | h
  · exact .inl (f.tup a xs h)
  · exact .inr h
def keyD : Key → PyData
  | .inl i => .int i
  | .inr s => .str s
mutual
inductive Hd (N : Addr → Prop) (K : PySem.W.Frag) (H : Hp) : V → PyData → Prop
  | non : Hd N K H .non .none
  | bl (b : Bool) : Hd N K H (.bl b) (.bool b)
  | int (i : Int) : Hd N K H (.int i) (.int i)
  | str (x : Str) : Hd N K H (.str x) (.str x)
  | lst {a : Addr} {xs : List V} {ds : List PyData} : H a = some (.lst xs) → ¬ N a → HdL N K H xs ds → Hd N K H (.ref a) (.list ds)
  | tup {a : Addr} {xs : List V} {ds : List PyData} : TupAt K H a xs → HdL N K H xs ds → Hd N K H (.ref a) (.tuple ds)
  | dct {a : Addr} {kvs : List (Key × V)} {ds : List (PyData × PyData)} : H a = some (.dK kvs) → ¬ N a → HdK N K H kvs ds → Hd N K H (.ref a) (.dict ds)
inductive HdL (N : Addr → Prop) (K : PySem.W.Frag) (H : Hp) : List V → List PyData → Prop
  | nil : HdL N K H [] []
  | cons {v : V} {vs : List V} {d : PyData} {ds : List PyData} : Hd N K H v d → HdL N K H vs ds → HdL N K H (v :: vs) (d :: ds)
inductive HdK (N : Addr → Prop) (K : PySem.W.Frag) (H : Hp) : List (Key × V) → List (PyData × PyData) → Prop
  | nil : HdK N K H [] []
  | cons {k : Key} {v : V} {vs : List (Key × V)} {d : PyData} {ds : List (PyData × PyData)} : Hd N K H v d → HdK N K H vs ds → HdK N K H ((k, v) :: vs) ((keyD k, d) :: ds)
end
section
variable {N N' : Addr → Prop} {K : PySem.W.Frag} {H H' : Hp}
mutual
theorem Hd.fr (f : Fr N H H') : ∀ (d : PyData) (v : V), Hd N K H v d → Hd N K H' v d
  | .none, _, h => by cases h; exact .non
  | .bool b, _, h => by cases h; exact .bl b
  | .int i, _, h => by cases h; exact .int i
  | .str x, _, h => by cases h; exact .str x
  | .list ds, _, h => by
    cases h with
    | lst e n r => exact .lst (f.keep _ _ e n) n (HdL.fr f ds _ r)
  | .tuple ds, _, h => by
    cases h with
    | tup e r => exact .tup (e.fr f) (HdL.fr f ds _ r)
  | .dict ds, _, h => by
    cases h with
    | dct e n r => exact .dct (f.keep _ _ e n) n (HdK.fr f ds _ r)
theorem HdL.fr (f : Fr N H H') : ∀ (ds : List PyData) (vs : List V), HdL N K H vs ds → HdL N K H' vs ds
  | [], _, h => by cases h; exact .nil
  | d :: ds, _, h => by
    cases h with
    | cons a b => exact .cons (Hd.fr f d _ a) (HdL.fr f ds _ b)
theorem HdK.fr (f : Fr N H H') : ∀ (ds : List (PyData × PyData)) (vs : List (Key × V)), HdK N K H vs ds → HdK N K H' vs ds
  | [], _, h => by cases h; exact .nil
  | (_, d) :: ds, _, h => by
    cases h with
    | cons a b => exact .cons (Hd.fr f d _ a) (HdK.fr f ds _ b)
end
mutual
theorem Hd.dp : ∀ (d : PyData) (v : V), Hd N K H v d → d.canLay0 = true → Dp K H v d
  | .none, _, h, _ => by cases h; exact .non
  | .bool b, _, h, _ => by cases h; exact .bl b
  | .int i, _, h, _ => by cases h; exact .int i
  | .str x, _, h, _ => by cases h; exact .str x
  | .list ds, _, h, c => by
    cases h with
    | lst e n r => exact .lst (SqL.of e) (HdL.dp ds _ r (by simpa [PyData.canLay0] using c))
  | .tuple ds, _, h, c => by
    cases h with
    | tup e r => exact .tup e.sq (HdL.dp ds _ r (by simpa [PyData.canLay0] using c))
  | .dict ds, _, h, c => by simp [PyData.canLay0] at c
theorem HdL.dp : ∀ (ds : List PyData) (vs : List V), HdL N K H vs ds → PyData.canLayAll0 ds = true → DpAll K H vs ds
  | [], _, h, _ => by cases h; exact .nil
  | d :: ds, _, h, c => by
    cases h with
    | cons a b =>
      have c' : d.canLay0 = true ∧ PyData.canLayAll0 ds = true := by simpa [PyData.canLayAll0] using c
      exact .cons (Hd.dp d _ a c'.1) (HdL.dp ds _ b c'.2)
end
theorem HdL.len : ∀ {ds : List PyData} {vs : List V}, HdL N K H vs ds → vs.length = ds.length
  | [], _, h => by cases h; rfl
  | d :: ds, _, h => by
    cases h with
    | cons a b => rw [List.length_cons, List.length_cons, HdL.len b]
theorem HdL.get : ∀ {ds : List PyData} {vs : List V} {i : Nat} {v : V}, HdL N K H vs ds → vs[i]? = some v → ∃ d, ds[i]? = some d ∧ Hd N K H v d
  | [], _, _, _, h, e => by cases h; simp at e
  | d :: ds, _, 0, _, h, e => by
    cases h with
    | cons a b => simp at e; subst e; exact ⟨d, rfl, a⟩
  | d :: ds, _, i + 1, _, h, e => by
    cases h with
    | cons a b =>
      obtain ⟨d', e', r⟩ := HdL.get b (by simpa using e)
      exact ⟨d', by simpa using e', r⟩
end
end My
namespace My
open PySem PySem.Spec PyProof.Rows L2 RZ
def tyD : PyData → String
  | .none => "NoneType" | .bool _ => "bool" | .int _ => "int" | .str _ => "str" | .list _ => "list" | .tuple _ => "tuple" | .dict _ => "dict"
section
variable {N : Addr → Prop} {K : PySem.W.Frag} {H : Hp}
theorem TupAt.ty {a : Addr} {xs : List V} (h : TupAt K H a xs) : TyX K H (.ref a) (.type "tuple") := by
  rcases h with h | ⟨o, its, n, hk, hc, _⟩
  · exact .base (.tup h)
  · exact .kTuple hk hc
theorem Hd.ty : ∀ {d : PyData} {v : V}, Hd N K H v d → TyX K H v (.type (tyD d))
  | .none, _, h => by cases h; exact .base .non
  | .bool b, _, h => by cases h; exact .base (.bl b)
  | .int i, _, h => by cases h; exact .base (.int i)
  | .str x, _, h => by cases h; exact .base (.str x)
  | .list ds, _, h => by
    cases h with
    | lst e n r => exact .base (.lst e)
  | .tuple ds, _, h => by
    cases h with
    | tup e r => exact e.ty
  | .dict ds, _, h => by
    cases h with
    | dct e n r => exact .base (.dK e)
def isList : PyData → Bool | .list _ => true | _ => false
def isTup : PyData → Bool | .tuple _ => true | _ => false
def isDict : PyData → Bool | .dict _ => true | _ => false
def isBool : PyData → Bool | .bool _ => true | _ => false
def isInt : PyData → Bool | .bool _ => true | .int _ => true | _ => false
def isStr : PyData → Bool | .str _ => true | _ => false
theorem kit_list (d : PyData) : kitB (tyD d) "list" = some (isList d) := by cases d <;> simp only [tyD, isList, isTup, isDict, isBool, isInt, isStr] <;> decide +kernel
theorem kit_tuple (d : PyData) : kitB (tyD d) "tuple" = some (isTup d) := by cases d <;> simp only [tyD, isList, isTup, isDict, isBool, isInt, isStr] <;> decide +kernel
theorem kit_dict (d : PyData) : kitB (tyD d) "dict" = some (isDict d) := by cases d <;> simp only [tyD, isList, isTup, isDict, isBool, isInt, isStr] <;> decide +kernel
theorem kit_bool (d : PyData) : kitB (tyD d) "bool" = some (isBool d) := by cases d <;> simp only [tyD, isList, isTup, isDict, isBool, isInt, isStr] <;> decide +kernel
theorem kit_int (d : PyData) : kitB (tyD d) "int" = some (isInt d) := by cases d <;> simp only [tyD, isList, isTup, isDict, isBool, isInt, isStr] <;> decide +kernel
theorem kit_str (d : PyData) : kitB (tyD d) "str" = some (isStr d) := by cases d <;> simp only [tyD, isList, isTup, isDict, isBool, isInt, isStr] <;> decide +kernel
def rIsiG (K : PySem.W.Frag) : List V → Hp → VK → Prop := fun xs H Q => rIsi K xs H Q ∨ rIsiT K xs H Q
theorem callIsi {X : Cx} : CallR X (.builtin "isinstance") (rIsiG X.K) := call_isi.or call_isiT
variable {Q : VK} {x : V} {d : PyData}
theorem s_isi {n : String} {b : Bool} (h : Hd N K H x d) (e : kitB (tyD d) n = some b) (q : Q (.bl b) H) : rIsiG K [x, .ty n] H Q := .inl ⟨x, .ty n, _, _, b, rfl, .ty n, h.ty, kit_ty e, q⟩
theorem s_isi_list (h : Hd N K H x d) (q : Q (.bl (isList d)) H) : rIsiG K [x, .ty "list"] H Q := s_isi h (kit_list d) q
theorem s_isi_tuple (h : Hd N K H x d) (q : Q (.bl (isTup d)) H) : rIsiG K [x, .ty "tuple"] H Q := s_isi h (kit_tuple d) q
theorem s_isi_dict (h : Hd N K H x d) (q : Q (.bl (isDict d)) H) : rIsiG K [x, .ty "dict"] H Q := s_isi h (kit_dict d) q
theorem s_isi_bool (h : Hd N K H x d) (q : Q (.bl (isBool d)) H) : rIsiG K [x, .ty "bool"] H Q := s_isi h (kit_bool d) q
theorem s_isi_int (h : Hd N K H x d) (q : Q (.bl (isInt d)) H) : rIsiG K [x, .ty "int"] H Q := s_isi h (kit_int d) q
theorem s_isi_str (h : Hd N K H x d) (q : Q (.bl (isStr d)) H) : rIsiG K [x, .ty "str"] H Q := s_isi h (kit_str d) q
theorem s_isi_lt {p : Addr} (h : Hd N K H x d) (hp : H p = some (.tup [.ty "list", .ty "tuple"])) (q : Q (.bl (isList d || isTup d)) H) : rIsiG K [x, .ref p] H Q := by
  refine .inr ⟨x, p, _, _, [.type "list", .type "tuple"], _, rfl, hp, .cons (.ty _) (.cons (.ty _) .nil), h.ty, ?_, q⟩
  refine kitAny_cons (kit_ty (kit_list d)) (fun e => ?_) (fun e => by rw [e, Bool.true_or])
  rw [e, Bool.false_or]
  exact kitAny_cons (kit_ty (kit_tuple d)) (fun e => by rw [e]; exact kitAny_nil) (fun e => e)
end
/-- what holds between two turns of a comprehension: P by the turn, the list so far and the heap -/
def Pvx (P : Addr → Nat → List V → Hp → Prop) (D : Addr) (i : Nat) (H : Hp) : Prop := ∃ acc, acc.length ≤ i ∧ P D i acc H ∧ H D = some (.lst acc)
theorem pvx_add {P : Addr → Nat → List V → Hp → Prop} {D : Addr} {i : Nat} {acc : List V} {y : V} {H : Hp} (e : H D = some (.lst acc)) (hl : acc.length ≤ i) (hi : i < sizeLine) (p : P D (i + 1) (acc ++ [y]) (upd H D (.lst (acc ++ [y])))) :
    ∃ acc', H D = some (.lst acc') ∧ acc'.length < sizeLine ∧ Pvx P D (i + 1) (upd H D (.lst (acc' ++ [y]))) :=
  ⟨acc, e, by omega, acc ++ [y], by rw [List.length_append]; show acc.length + 1 ≤ i + 1; omega, p, upd_same⟩
def LcGo (g : TG) (tt : TT) (te : TE) (vs : List Nat) (σ : St) (Q : VK) : It → Hp → Prop := fun J H1 => ∀ D, H1 D = none → ∃ W : Nat → Nat → Hp → Prop, (∃ m, W 0 m (upd H1 D (.lst []))) ∧ ∀ i m H, W i m H →
      (J.stop i H ∧ Q (.ref D) H) ∨ (J.go i H ∧ ∃ Nx : Hp → Prop, (∀ H', Nx H' → ∃ m', m' < m ∧ W (i + 1) m' H') ∧ ∀ x H', J.yld i H x H' → g x (wipe σ vs) H' fun σ2 H2 => wipe σ2 vs = wipe σ vs ∧ tt σ2 H2 fun b H3 =>
        if b = true then te σ2 H3 fun y H4 => ∃ acc, H4 D = some (.lst acc) ∧ acc.length < sizeLine ∧ Nx (upd H4 D (.lst (acc ++ [y]))) else Nx H3)
theorem lc_by {J : It} {n : Nat} {G : Hp → Prop} {Y : Nat → Hp → V → Hp → Prop} (w : Walk J n G Y) {g : TG} {tt : TT} {te : TE} {vs : List Nat} {σ σ0 : St} {H1 : Hp} {Q : VK} (P : Addr → Nat → List V → Hp → Prop) (hw : wipe σ vs = σ0)
    (h0 : ∀ D, H1 D = none → P D 0 [] (upd H1 D (.lst []))) (hG : ∀ D i acc H, P D i acc H → H D = some (.lst acc) → G H)
    (hs : ∀ D i acc x H H', H1 D = none → i < n → acc.length ≤ i → P D i acc H → H D = some (.lst acc) → Y i H x H' → g x σ0 H' fun σ2 H2 => wipe σ2 vs = σ0 ∧ tt σ2 H2 fun b H3 =>
      if b = true then te σ2 H3 fun y H4 => ∃ acc', H4 D = some (.lst acc') ∧ acc'.length < sizeLine ∧ Pvx P D (i + 1) (upd H4 D (.lst (acc' ++ [y]))) else Pvx P D (i + 1) H3)
    (hd : ∀ D acc H, H1 D = none → P D n acc H → H D = some (.lst acc) → Q (.ref D) H) : LcGo g tt te vs σ Q J H1 := by
  subst hw
  exact fun D hD => lc_it w (Qd := fun H => Q (.ref D) H) (Pvx P D) ⟨[], Nat.le_refl _, h0 D hD, upd_same⟩ (fun i H _ ⟨acc, _, p, e⟩ => hG D i acc H p e) (fun i x H H' hi ⟨acc, hl, p, e⟩ y => hs D i acc x H H' hD hi hl p e y) (fun H ⟨acc, _, p, e⟩ => hd D acc H hD p e)
theorem s_lc {wi : TI} {g : TG} {tt : TT} {te : TE} {vs : List Nat} {σ : St} {H : Hp} {Q : VK} (h : wi σ H (LcGo g tt te vs σ Q)) : tLc wi g tt te vs σ H Q := h
def rZipA (K : PySem.W.Frag) : List V → Hp → (It → Hp → Prop) → Prop := fun vs H R => ∃ a b xs ys, vs = [.ref a, .ref b] ∧ ((SqL K H a xs ∧ SqL K H b ys ∧ R (Itz K a b) H) ∨ (SqT K H a xs ∧ SqT K H b ys ∧ R (ItzT K a b) H))
theorem s_zipA {σ : St} {H : Hp} {R : It → Hp → Prop} {ta : TA} {K : PySem.W.Frag} (h : ta σ H fun vs H1 => rZipA K vs H1 R) : iZipA K ta σ H R := h
theorem s_zipL {H : Hp} {R : It → Hp → Prop} {K : PySem.W.Frag} {a b : Addr} {xs ys : List V} (h1 : SqL K H a xs) (h2 : SqL K H b ys) (q : R (Itz K a b) H) : rZipA K [.ref a, .ref b] H R := ⟨a, b, xs, ys, rfl, .inl ⟨h1, h2, q⟩⟩
theorem s_zipT {H : Hp} {R : It → Hp → Prop} {K : PySem.W.Frag} {a b : Addr} {xs ys : List V} (h1 : SqT K H a xs) (h2 : SqT K H b ys) (q : R (ItzT K a b) H) : rZipA K [.ref a, .ref b] H R := ⟨a, b, xs, ys, rfl, .inr ⟨h1, h2, q⟩⟩
theorem walk_zipT {K : PySem.W.Frag} {a b : Addr} {xs ys : List V} {n : Nat} (hn : n = min xs.length ys.length) : Walk (ItzT K a b) n (fun H => SqT K H a xs ∧ SqT K H b ys) (YPair (fun i => xs[i]?) (fun i => ys[i]?)) := by
  subst hn
  refine ⟨fun i _ hi q => ?_, fun _ q => ⟨xs, ys, q.1, q.2, by omega⟩, fun i H v H' _ q y => ?_⟩
  · have h1 : i < xs.length := by omega
    have h2 : i < ys.length := by omega
    exact ⟨xs, ys, xs[i], ys[i], q.1, q.2, by simp [h1], by simp [h2]⟩
  · obtain ⟨T, x, z, h1, h2, h3, h4, h5⟩ := y
    exact ⟨T, x, z, h1, h2, h3, h4 xs q.1, h5 ys q.2⟩
/-- a, b = a pair -/
theorem s_gTup {K : PySem.W.Frag} {n : Nat} {t : TGs} {a : Addr} {xs : List V} {σ : St} {H : Hp} {R : St → Hp → Prop} (h : SqT K H a xs) (e : xs.length = n) (q : t xs σ H R) : gTup K n t (.ref a) σ H R := ⟨a, xs, rfl, h, e, q⟩
theorem s_gCons {t : TG} {u : TGs} {x : V} {r : List V} {σ : St} {H : Hp} {R : St → Hp → Prop} (q : t x σ H fun σ' H' => u r σ' H' R) : gCons t u (x :: r) σ H R := ⟨x, r, rfl, q⟩
theorem s_gNil {σ : St} {H : Hp} {R : St → Hp → Prop} (q : R σ H) : gNil [] σ H R := ⟨rfl, q⟩
theorem s_yes {σ : St} {H : Hp} {Q : Bool → Hp → Prop} (q : Q true H) : tYes σ H Q := q
/-- == of data -/
theorem s_eqD {N : Addr → Prop} {K : PySem.W.Frag} {H : Hp} {Q : VK} {x y : V} {d e : PyData} (hx : Hd N K H x d) (hy : Hd N K H y e) (sd : SeqAt.shaped d = true) (se : SeqAt.shaped e = true) (q : Q (.bl (PyData.eqv d e)) H) : rEqG' K x y H Q :=
  .inr ⟨d, e, Hd.dp d x hx (SeqAt.canLay_of_shaped sd), Hd.dp e y hy (SeqAt.canLay_of_shaped se), sd, se, q⟩
end My
theorem L2H.RoomH.units {k : Nat} {A : PySem.Around} (r : L2H.RoomH k A) : A.units + 64 < PySem.cLine := by
  have := r.un
  omega
namespace My
open PySem PySem.Spec PyProof.Rows L2 RZ
open LamX (ExtN Tabs TabS TabB CodeO)
def tXg (K : PySem.W.Frag) (a : Addr) (cls : Value) (d : Option Addr) (n : Str) (te : TE) : TE := fun σ H Q => te σ H fun x H1 => x = .ref a ∧ ∃ C, cls = .ref C ∧ XfC K C ∧ PySem.W.findIn K (.ref C) n = some none ∧
  ∃ (dd : Addr) (fs : List (Str × V)) (v : V), d = some dd ∧ H1 dd = some (.xd fs) ∧ fs.lookup n = some v ∧ Q v H1
end My
namespace My
open PySem PySem.Spec PyProof.Rows L2 RZ
open LamX (ExtN Tabs TabS TabB CodeO)
def rOst (K : PySem.W.Frag) (f : Str) (y : V) (nx : Hp → Prop) : V → Hp → Prop := fun x H2 => ∃ a C : Addr, x = .ref a ∧ OexC K C ∧ PySem.W.findIn K (.ref C) f = some none ∧
  ((H2 a = some (exo a C none) ∧ ∀ dx, H2 dx = none → dx ≠ a → nx (upd (upd H2 dx (exd dx [(f, y)])) a (exo a C (some dx)))) ∨
    ∃ (dx : Addr) (fs : List (Str × V)), H2 a = some (exo a C (some dx)) ∧ H2 dx = some (exd dx fs) ∧ fs.length ≤ 900 ∧ nx (upd H2 dx (exd dx ((f, y) :: fs))))
theorem s_ost {K : PySem.W.Frag} {f : Str} {to te : TE} {σ : L2.St} {H : Hp} {nx bk ct : L2.St → Hp → Prop} {rt : VK} (h : te σ H fun y H1 => to σ H1 (rOst K f y (nx σ))) : tOst K f to te ⟨nx, rt, bk, ct⟩ σ H := h
def rMkO (C : Addr) (sp : Sp) (Q : XK) : List V → Hp → Prop := fun vs H1 => vs.length ≤ 1000 ∧ ∀ a, H1 a = none → sp (.ref a :: (vs ++ [])) (upd H1 a (exo a C none))
  (fun v H2 => v = .non ∧ ∃ (d : Addr) (fs : List (Str × V)), H2 a = some (exo a C (some d)) ∧ H2 d = some (exd d fs) ∧ H1 d = none ∧ Q (.ref C) (some d) (upd (del H2 a) d (.xd fs))) (fun _ _ _ => False)
theorem s_mkO {C : Addr} {sp : Sp} {σ : L2.St} {H : Hp} {Q : XK} {ta : TA} (h : ta σ H (rMkO C sp Q)) : tMkO C sp [] ta σ H Q := h
/-- the field that the law reads of an exception with that word -/
def fldName (w : Str) : Option Str :=
  if inV (.str w) [.str "invalidsteps", .str "invalidcode", .str "invalidtext", .str "invalidcorner", .str "notquiet", .str "invaliddeed"] = true then some "position"
  else if inV (.str w) [.str "invalidcount", .str "invalidconstant", .str "invalidbudget"] = true then some "value"
  else if inV (.str w) [.str "invalidname", .str "duplicatename", .str "unknownname"] = true then some "name"
  else if inV (.str w) [.str "invalidfile", .str "invalidcommand"] = true then some "line"
  else if decide (w = "gateinuse") = true then none
  else if decide (w = "limitexceeded") = true then some "limit"
  else if decide (w = "invalidsize") = true then some "size"
  else if decide (w = "invalidneeded") = true then some "needed"
  else if decide (w = "budgetexceeded") = true then some "amount"
  else none
def isGate (w : Str) : Bool := decide (w = "gateinuse")
def fldVal (w : Str) (fs : List (Str × V)) : Option V := match fldName w with
  | some n => fs.lookup n
  | none => if isGate w = true then none else some .non
/-- what the law tells of an exception's fields: one of them, None, or the two of a gate in use as a new pair -/
def Told (w : Str) (fs : List (Str × V)) (H : Hp) (Q : VK) : Prop :=
  (∃ v, fldVal w fs = some v ∧ ∀ H', Fr N0 H H' → Q v H') ∨
  (isGate w = true ∧ ∃ n u, fs.lookup ("name" : Str) = some n ∧ fs.lookup ("users" : Str) = some u ∧ ∀ H', Fr N0 H H' → ∀ p, H' p = none → Q (.ref p) (upd H' p (.tup [n, u])))
theorem Told.mono {w : Str} {fs : List (Str × V)} {H : Hp} {Q Q' : VK} (h : ∀ v H2, Q v H2 → Q' v H2) (t : Told w fs H Q) : Told w fs H Q' :=
  t.imp (fun ⟨v, e, k⟩ => ⟨v, e, fun H' f => h _ _ (k H' f)⟩) fun ⟨g, n, u, e1, e2, k⟩ => ⟨g, n, u, e1, e2, fun H' f p hp => h _ _ (k H' f p hp)⟩
def rXg (K : PySem.W.Frag) (a : Addr) (cls : Value) (d : Option Addr) (n : Str) (Q : VK) : V → Hp → Prop := fun x H1 => x = .ref a ∧ ∃ C, cls = .ref C ∧ XfC K C ∧ PySem.W.findIn K (.ref C) n = some none ∧
  ∃ (dd : Addr) (fs : List (Str × V)) (v : V), d = some dd ∧ H1 dd = some (.xd fs) ∧ fs.lookup n = some v ∧ Q v H1
theorem s_xgR {K : PySem.W.Frag} {a : Addr} {cls : Value} {d : Option Addr} {n : Str} {te : TE} {σ : L2.St} {H : Hp} {Q : VK} (h : te σ H (rXg K a cls d n Q)) : tXg K a cls d n te σ H Q := h
theorem s_callS {sp : Sp} {E : L2.St → XK} {t : TA} {σ : L2.St} {H : Hp} {Q : VK} (h : t σ H fun vs H1 => sp vs H1 Q (E σ)) : tCallS sp E t σ H Q := h
end My
namespace My
open PySem PySem.Spec PyProof.Rows L2 RZ
section
variable (K : PySem.W.Frag) {X : Cx}
theorem opAddK (e : X.K = K := by rfl) : OpR X (binaryOp .Add) (rAddG K) := e ▸ opAdd
theorem opEqK (hu : X.A.units + 64 < cLine) (e : X.K = K := by rfl) : OpR X (compareOp .Eq) (rEqG' K) := e ▸ opEq hu
theorem opNeK (hu : X.A.units + 64 < cLine) (e : X.K = K := by rfl) : OpR X (compareOp .NotEq) (rNeG' K) := e ▸ opNe hu
theorem callLenK (e : X.K = K := by rfl) : CallR X (.builtin "len") (rLen K) := e ▸ callLen
theorem callIsiK (e : X.K = K := by rfl) : CallR X (.builtin "isinstance") (rIsiG K) := e ▸ callIsi
theorem callListK (e : X.K = K := by rfl) : CallR X (.type "list") (rList K) := e ▸ callList
theorem allK (hc : X.calm = true) (e : X.K = K := by rfl) : CallR X (.builtin "all") (rAll K) := e ▸ cr_all hc
theorem opSlK (e : X.K = K := by rfl) : SlR X (rSlG K) := e ▸ opSl
theorem ixK (e : X.K = K := by rfl) : IxR X (rIx K) := e ▸ ix_seq
section
variable {a o x : Expr} {es : List Expr} {ta to te : TE} {t : TA} {pos apos cpos p tpos : Pos} {name : Str} {f : Str} {T id : String} {r : V → List V → Hp → VK → Prop} {tg : Expr} {elts : List Expr} {kk : Nat}
theorem pi_listK (hl : PE X x te) (e : X.K = K := by rfl) : PI X tg x (iList K te) := e ▸ pi_list hl
end
end
end My
namespace My
open PySem PySem.Spec PyProof.Rows L2 RZ
open LamX (ExtN Tabs TabS TabB CodeO)
theorem ExtN.lst {H H' : Hp} {a : Addr} {xs : List V} (x : ExtN H H') (h : H a = some (.lst xs)) : H' a = some (.lst xs) := x _ _ h fun _ z => by cases z
end My
namespace My
open PySem PySem.Spec PyProof.Rows L2 RZ GenW
section
variable {X : Cx}
def tGFor (wi : TI) (g : TG) (tb : TGn) : TGn := fun D ys σ H => wi σ H fun J H1 => ∃ W : Nat → Nat → List V → L2.St → Hp → Prop, (∃ m, W 0 m ys σ H1) ∧ ∀ i m ys σ H, W i m ys σ H →
  (J.stop i H ∧ D.nx ys σ H) ∨ (J.go i H ∧ ∃ N : List V → L2.St → Hp → Prop, (∀ ys' σ' H', N ys' σ' H' → ∃ m', m' < m ∧ W (i + 1) m' ys' σ' H') ∧ ∀ x H', J.yld i H x H' → g x σ H' fun σ2 H2 => tb { D with nx := N, ct := N, bk := D.nx } ys σ2 H2)
end
def GForGo (g : TG) (tb : TGn) (D : GEnds) (ys : List V) (σ : L2.St) : It → Hp → Prop := fun J H1 => ∃ W : Nat → Nat → List V → L2.St → Hp → Prop, (∃ m, W 0 m ys σ H1) ∧ ∀ i m ys σ H, W i m ys σ H →
  (J.stop i H ∧ D.nx ys σ H) ∨ (J.go i H ∧ ∃ N : List V → L2.St → Hp → Prop, (∀ ys' σ' H', N ys' σ' H' → ∃ m', m' < m ∧ W (i + 1) m' ys' σ' H') ∧ ∀ x H', J.yld i H x H' → g x σ H' fun σ2 H2 => tb { D with nx := N, ct := N, bk := D.nx } ys σ2 H2)
section
variable {D : GEnds} {ys : List V} {σ : L2.St} {H : Hp}
theorem s_gfor {wi : TI} {g : TG} {tb : TGn} (h : wi σ H (GForGo g tb D ys σ)) : tGFor wi g tb D ys σ H := h
theorem s_gthen {t u : TGn} (h : t { D with nx := fun ys' σ' H' => u D ys' σ' H' } ys σ H) : tGThen t u D ys σ H := h
theorem s_g0 (h : D.nx ys σ H) : tG0 D ys σ H := h
theorem s_gplain {t : TS} (h : t ⟨D.nx ys, D.rt ys, D.bk ys, D.ct ys⟩ σ H) : tPlain t D ys σ H := h
end
def rOut (Q : VK) : List V → Hp → Prop := fun out H2 => ∀ p, H2 p = none → Q (.ref p) (upd H2 p (.lst out))
theorem s_listG {sp : SpG} {E : XK} {t : TA} {σ : L2.St} {H : Hp} {Q : VK} (h : t σ H fun vs H1 => sp vs H1 (rOut Q) E) : tListG (tCallG sp [] E t) σ H Q := by
  show t σ H fun vs H1 => sp (vs ++ []) H1 (rOut Q) E
  simpa only [List.append_nil] using h
def rMax2 : List V → Hp → VK → Prop := fun xs H Q => ∃ i j, xs = [.int i, .int j] ∧ Q (.int (if j > i then j else i)) H
def rMin2 : List V → Hp → VK → Prop := fun xs H Q => ∃ i j, xs = [.int i, .int j] ∧ Q (.int (if j < i then j else i)) H
theorem s_max2 {i j : Int} {H : Hp} {Q : VK} (q : Q (.int (if j > i then j else i)) H) : rMax2 [.int i, .int j] H Q := ⟨i, j, rfl, q⟩
theorem s_min2 {i j : Int} {H : Hp} {Q : VK} (q : Q (.int (if j < i then j else i)) H) : rMin2 [.int i, .int j] H Q := ⟨i, j, rfl, q⟩
end My
namespace My
open PySem PySem.Spec PyProof.Rows L2 RZ
/-- a source: a list, a tuple, a text -/
inductive Kv | l (a : Addr) | t (a : Addr) | s (z : Str)
def Kv.v : Kv → V | .l a => .ref a | .t a => .ref a | .s z => .str z
def signs (z : Str) : List V := z.cps.toList.map fun c => V.str ⟨#[c]⟩
def Kv.seq (K : PySem.W.Frag) (H : Hp) (xs : List V) : Kv → Prop
  | .l a => SqL K H a xs
  | .t a => SqT K H a xs
  | .s z => xs = signs z
def Kv.at (t : Tok) (h : Heap) (it : Addr) (i : Nat) : Kv → Prop
  | .l a => h.IsListIter it a i
  | .t a => h.IsTupleIter it a i
  | .s z => h.IsStrIter it (strIterType z) z t i
def Kv.own : Kv → List Addr | .l a => [a] | .t a => [a] | .s _ => []
def Kv.obj (t : Tok) : Kv → Obj
  | .l a => { cls := .type "list_iterator", data := .fields #[.ref a, .int 0 0] }
  | .t a => { cls := .type "tuple_iterator", data := .fields #[.ref a, .int 0 0] }
  | .s z => { cls := .type (strIterType z), data := .fields #[.str z t, .int 0 0] }
section
variable {X : Cx} {pins : List (Addr × Obj)} {σ : L2.St} {H : Hp} {s : Shared}
theorem Kv.inj {k : Kv} {xs ys : List V} (I : Inv X pins σ H s) (h : k.seq X.K H xs) (h' : k.seq X.K H ys) : xs = ys := by
  cases k with
  | l a => exact I.list_inj h h'
  | t a => exact I.tuple_inj h h'
  | s z => exact Eq.trans h (Eq.symm h')
theorem Kv.start {k : Kv} {t : Tok} {h : Heap} {it : Addr} (e : h.get? it = some (k.obj t)) : k.at t h it 0 := by
  cases k with
  | l a => exact ⟨_, e, rfl, rfl⟩
  | t a => exact ⟨_, e, rfl, rfl⟩
  | s z => exact ⟨_, e, rfl, rfl⟩
end
def ItzG (K : PySem.W.Frag) (k1 k2 : Kv) : It :=
  ⟨fun i H => ∃ (xs ys : List V) (x y : V), k1.seq K H xs ∧ k2.seq K H ys ∧ xs[i]? = some x ∧ ys[i]? = some y,
    fun i H v H' => ∃ T x y, v = .ref T ∧ H T = none ∧ H' = upd H T (.tup [x, y]) ∧ (∀ xs, k1.seq K H xs → xs[i]? = some x) ∧ ∀ ys, k2.seq K H ys → ys[i]? = some y,
    fun i H => ∃ xs ys : List V, k1.seq K H xs ∧ k2.seq K H ys ∧ i = min xs.length ys.length⟩
def iZipG (K : PySem.W.Frag) (ta : TA) : TI := fun σ H R => ta σ H fun vs H1 => ∃ (k1 k2 : Kv) (xs ys : List V), vs = [k1.v, k2.v] ∧ k1.seq K H1 xs ∧ k2.seq K H1 ys ∧ R (ItzG K k1 k2) H1
def IteG (K : PySem.W.Frag) (k : Kv) : It :=
  ⟨fun i H => ∃ (xs : List V) (x : V), k.seq K H xs ∧ xs[i]? = some x,
    fun i H v H' => ∃ T x, v = .ref T ∧ H T = none ∧ H' = upd H T (.tup [.int (i : Nat), x]) ∧ ∀ xs, k.seq K H xs → xs[i]? = some x,
    fun i H => ∃ xs : List V, k.seq K H xs ∧ i = xs.length⟩
def iEnumG (K : PySem.W.Frag) (ta : TA) : TI := fun σ H R => ta σ H fun vs H1 => ∃ (k : Kv) (xs : List V), vs = [k.v] ∧ k.seq K H1 xs ∧ R (IteG K k) H1
section
variable {K : PySem.W.Frag} {σ : L2.St} {H : Hp} {R : It → Hp → Prop} {ta : TA}
def rZipG (K : PySem.W.Frag) : List V → Hp → (It → Hp → Prop) → Prop := fun vs H R => ∃ (k1 k2 : Kv) (xs ys : List V), vs = [k1.v, k2.v] ∧ k1.seq K H xs ∧ k2.seq K H ys ∧ R (ItzG K k1 k2) H
def rEnumG (K : PySem.W.Frag) : List V → Hp → (It → Hp → Prop) → Prop := fun vs H R => ∃ (k : Kv) (xs : List V), vs = [k.v] ∧ k.seq K H xs ∧ R (IteG K k) H
theorem s_izipG (h : ta σ H fun vs H1 => rZipG K vs H1 R) : iZipG K ta σ H R := h
theorem s_ienumG (h : ta σ H fun vs H1 => rEnumG K vs H1 R) : iEnumG K ta σ H R := h
end
end My
namespace My
open PySem PySem.Spec PyProof.Rows L2 RZ
section
variable {K : PySem.W.Frag} {σ : L2.St} {H : Hp} {Q : VK} {C a dx : Addr} {f : Str} {v : V} {fs : List (Str × V)} {te tv : TE} {t : TA} {sp : Sp} {dvs : List V} {E : XK} {nx bk ct : L2.St → Hp → Prop} {rt : VK}
def rFld (K : PySem.W.Frag) (f : Str) (Q : VK) : V → Hp → Prop := fun x H1 => ∃ a C dx fs v, x = .ref a ∧ H1 a = some (.ins C dx fs) ∧ Cls K C ∧ NoAttr K C f ∧ fs.lookup f = some v ∧ Q v H1
theorem s_fldR (h : te σ H (rFld K f Q)) : tFld K te f σ H Q := h
def rSto (K : PySem.W.Frag) (f : Str) (y : V) (nx : Hp → Prop) : V → Hp → Prop := fun x H2 => ∃ a C dx fs, x = .ref a ∧ H2 a = some (.ins C dx fs) ∧ Cls K C ∧ NoAttr K C f ∧ fs.length < 1000 ∧ nx (upd H2 a (.ins C dx (putF f y fs)))
theorem s_stoR (h : tv σ H fun y H1 => te σ H1 (rSto K f y (nx σ))) : sFld K te tv f ⟨nx, rt, bk, ct⟩ σ H := h
def rMake (C : Addr) (sp : Sp) (E : XK) (Q : VK) : List V → Hp → Prop := fun vs H1 => ∀ x dx, H1 x = none → H1 dx = none → dx ≠ x → sp (.ref x :: vs) (upd (upd H1 dx (.own x)) x (.ins C dx [])) (fun v H2 => v = .non ∧ Q (.ref x) H2) E
theorem s_makeR (h : t σ H (rMake C sp E Q)) : tMake C sp [] E t σ H Q := by
  unfold tMake
  simp only [List.append_nil]
  exact h
def rMeth (C : Addr) (m : Str) (sp : Sp) (E : XK) (t : TA) (σ : L2.St) (Q : VK) : V → Hp → Prop := fun x H1 => ∃ a dx fs, x = .ref a ∧ H1 a = some (.ins C dx fs) ∧ fs.lookup m = none ∧ t σ H1 fun vs H2 => sp (x :: vs) H2 Q E
theorem s_methR {m : Str} (h : te σ H (rMeth C m sp E t σ Q)) : tMeth C m sp [] E te t σ H Q := by
  unfold tMeth
  simp only [List.append_nil]
  exact h
end
/-- a new instance, its own dict: what was tracked stays -/
theorem Fr.obj {N : Addr → Prop} {H : Hp} {x dx : Addr} {o : HO} (h1 : H x = none) (h2 : H dx = none) (n : dx ≠ x) : Fr N H (upd (upd H dx (.own x)) x o) := (Fr.new h2).mut h1
end My
namespace My
open PySem PySem.Spec PyProof.Rows L2 RZ
theorem s_ckw {r : List V → List V → Hp → VK → Prop} {t tk : TA} {σ : L2.St} {H : Hp} {Q : VK} (h : t σ H fun vs H1 => tk σ H1 fun zs H2 => r vs zs H2 Q) : tCKw r t tk σ H Q := h
def tJoined (ts : List TE) : TE := fun σ H Q => tJs ts Str.empty σ H fun out H1 => Q (.str out) H1
def rJ (ts : List TE) (acc : Str) (σ : L2.St) (Q : Str → Hp → Prop) : V → Hp → Prop := fun x H1 => ∃ y : Str, x = .str y ∧ (acc ++ y).length ≤ sizeLine ∧ tJs ts (acc ++ y) σ H1 Q
theorem s_joined {ts : List TE} {σ : L2.St} {H : Hp} {Q : VK} (h : tJs ts Str.empty σ H fun out H1 => Q (.str out) H1) : tJoined ts σ H Q := h
theorem s_js {t : TE} {ts : List TE} {acc : Str} {σ : L2.St} {H : Hp} {Q : Str → Hp → Prop} (h : t σ H (rJ ts acc σ Q)) : tJs (t :: ts) acc σ H Q := h
theorem s_js0 {acc : Str} {σ : L2.St} {H : Hp} {Q : Str → Hp → Prop} (h : Q acc H) : tJs [] acc σ H Q := h
def rFmt (Q : VK) : V → Hp → Prop := fun x H1 => (∃ y : Str, x = .str y ∧ y.length ≤ sizeLine ∧ Q (.str y) H1) ∨ ∃ i : Int, x = .int i ∧ i.natAbs.log2 < 1920 ∧ Q (.str (toString i)) H1
theorem s_fmt {te : TE} {σ : L2.St} {H : Hp} {Q : VK} (h : te σ H (rFmt Q)) : tFmt te σ H Q := h
end My
namespace My
open PySem PySem.Spec PyProof.Rows L2 RZ
def rStr1 (R : It → Hp → Prop) : V → Hp → Prop := fun v H1 => ∃ x, v = .str x ∧ R (Its x) H1
theorem s_iStr {te : TE} {σ : L2.St} {H : Hp} {R : It → Hp → Prop} (h : te σ H (rStr1 R)) : iStr te σ H R := h
theorem s_str1 {x : Str} {H : Hp} {R : It → Hp → Prop} (h : R (Its x) H) : rStr1 R (.str x) H := ⟨x, rfl, h⟩
def rInSign : V → V → Hp → VK → Prop := fun x y H Q => ∃ (c : Nat) (z : Str), x = .str ⟨#[c]⟩ ∧ y = .str z ∧ Q (.bl (decide (c ∈ z.cps.toList))) H
theorem s_inSign {c : Nat} {z : Str} {H : Hp} {Q : VK} (q : Q (.bl (decide (c ∈ z.cps.toList))) H) : rInSign (.str ⟨#[c]⟩) (.str z) H Q := ⟨c, z, rfl, rfl, q⟩
theorem s_ifx {tt : TT} {ta tb : TE} {σ : L2.St} {H : Hp} {Q : VK} (h : tt σ H fun b H1 => if b = true then ta σ H1 Q else tb σ H1 Q) : tIf tt ta tb σ H Q := h
end My
namespace My
open PySem PySem.Spec PyProof.Rows L2 RZ
/-- so many numbers, each within -/
def Rng (n : Nat) (lo hi : Int) (vs : List V) : Prop := ∃ ns : List Int, vs = ns.map V.int ∧ ns.length = n ∧ ∀ i ∈ ns, lo ≤ i ∧ i < hi
theorem Rng.nil {lo hi : Int} : Rng 0 lo hi [] := ⟨[], rfl, rfl, fun _ h => by cases h⟩
end My
local macro_rules | `(tactic| walk_at "at") => `(tactic| (first | with_reducible exact My.at0 | with_reducible exact My.at1 | with_reducible exact My.at2 | with_reducible exact My.at3 | with_reducible exact My.at4 | with_reducible exact My.at5 | with_reducible exact My.at6 | with_reducible exact My.at7))
local macro_rules | `(tactic| walk_at "ix") => `(tactic| (first | with_reducible exact My.ix0 | with_reducible exact My.ix1 | with_reducible exact My.ix2 | with_reducible exact My.ix3 | with_reducible exact My.ix4 | with_reducible exact My.ix5 | with_reducible exact My.ix6 | with_reducible exact My.ix7))
local macro_rules | `(tactic| walk_at "tt") => `(tactic| first | exact rfl | exact decide_eq_true (by first | rfl | omega) | exact My.ndec_t (by omega))
local macro_rules | `(tactic| walk_at "ff") => `(tactic| first | exact rfl | exact decide_eq_false (by omega) | exact My.ndec_f (by first | rfl | omega))
local macro_rules | `(tactic| walk_at "rd1") => `(tactic| first
  | with_reducible refine My.s_seq ?_
  | with_reducible refine My.s_asg ?_
  | ((with_reducible apply My.s_var); (focus exact rfl))
  | with_reducible refine My.s_c ?_
  | with_reducible refine My.s_op ?_
  | with_reducible refine My.s_un ?_
  | ((with_reducible apply My.s_name); (focus (simp only [List.set_cons_zero, List.set_cons_succ]; try exact rfl)))
  | with_reducible refine My.s_addI ?_
  | with_reducible refine My.s_rI0 ?_
  | with_reducible refine My.s_eqI ?_
  | with_reducible refine My.s_neI ?_
  | with_reducible refine My.s_eqS ?_
  | with_reducible refine My.s_neS ?_
  | with_reducible refine My.s_eqB ?_
  | with_reducible refine My.s_neB ?_
  | with_reducible refine My.s_rU ?_
  | with_reducible refine My.s_test ?_
  | with_reducible refine My.s_B ?_
  | with_reducible refine My.s_exbP ?_
  | with_reducible refine My.s_exi ?_
  | with_reducible refine My.s_and ?_
  | with_reducible refine My.s_or ?_
  | with_reducible refine My.s_not ?_
  | with_reducible refine My.s_andV ?_
  | with_reducible refine My.s_orV ?_
  | with_reducible refine My.s_notV ?_
  | with_reducible refine My.s_if ?_
  | with_reducible refine My.s_ifS ?_
  | ((with_reducible refine My.ite_t ?_ ?_); (focus (walk_at "tt")))
  | ((with_reducible refine My.ite_f ?_ ?_); (focus (walk_at "ff")))
  | with_reducible refine My.s_isN ?_
  | with_reducible refine My.s_notN ?_
  | with_reducible refine My.s_nil ?_
  | with_reducible refine My.s_cons ?_
  | with_reducible refine My.s_tup ?_
  | with_reducible refine My.s_lst ?_
  | with_reducible refine My.s_CB ?_
  | with_reducible refine My.s_BM ?_
  | with_reducible refine My.s_BM0 ?_
  | with_reducible refine My.s_call ?_
  | with_reducible refine My.s_ret ?_
  | with_reducible refine My.s_retN ?_
  | with_reducible refine My.s_next ?_
  | with_reducible refine My.s_break ?_
  | with_reducible refine My.s_cont ?_
  | with_reducible refine My.s_drop ?_
  | with_reducible refine My.s_par ?_
  | with_reducible refine My.s_sub ?_
  | ((with_reducible apply My.s_ixL); (focus (first | assumption | (apply L2.SqL.of; first | assumption | exact L2.upd_same))); (focus (walk_at "at")))
  | ((with_reducible apply My.s_ixT); (focus (first | assumption | (apply L2.SqT.of; first | assumption | exact L2.upd_same) | (apply My.TupAt.sq; assumption))); (focus (walk_at "at")))
  | ((with_reducible apply My.s_setL); (focus assumption); (focus (walk_at "ix")))
  | ((with_reducible apply My.s_lenL); (focus (first | assumption | (apply L2.SqL.of; first | assumption | exact L2.upd_same))))
  | ((with_reducible apply My.s_lenT); (focus (first | assumption | (apply L2.SqT.of; first | assumption | exact L2.upd_same) | (apply My.TupAt.sq; assumption))))
  | ((with_reducible apply My.s_par2); (focus (simp only [List.set_cons_zero, List.set_cons_succ]; try exact rfl)))
  | with_reducible refine My.s_int1 ?_
  | with_reducible refine My.s_for ?_
  | with_reducible refine My.s_iRng1 ?_
  | with_reducible refine My.s_iRng2 ?_
  | with_reducible refine My.s_iList ?_
  | with_reducible refine My.s_iTup ?_
  | ((with_reducible refine My.s_rng1 ?_ ?_); (focus omega))
  | ((with_reducible refine My.s_rng2 ?_ ?_); (focus omega))
  | ((with_reducible apply My.s_lst1); (focus (first | assumption | (apply L2.SqL.of; first | assumption | exact L2.upd_same))))
  | ((with_reducible apply My.s_tup1); (focus (first | assumption | (apply L2.SqT.of; first | assumption | exact L2.upd_same) | (apply My.TupAt.sq; assumption))))
  | with_reducible refine My.s_sl ?_
  | with_reducible refine My.s_noPart ?_
  | with_reducible refine My.s_part ?_
  | with_reducible refine My.s_bits ?_
  | ((with_reducible refine My.s_mul ?_ ?_); (focus omega))
  | ((with_reducible refine My.s_fdiv ?_ ?_); (focus omega))
  | ((with_reducible refine My.s_mod ?_ ?_); (focus omega))
  | with_reducible refine My.s_pow9 ?_
  | with_reducible refine My.s_pow18 ?_
  | ((with_reducible refine My.s_pow ?_ ?_); (focus (refine ⟨by decide, by decide, by decide⟩))))
local macro_rules | `(tactic| walk_at "rd") => `(tactic| repeat walk_at "rd1")
local macro_rules | `(tactic| walk_at "wipe") => `(tactic| (simp only [L2.wipe, List.map_cons, List.map_nil, List.set_cons_zero, List.set_cons_succ]; try exact rfl))
local macro_rules | `(tactic| walk_at "rd1") => `(tactic| first
  | with_reducible refine My.s_lc ?_
  | with_reducible refine My.s_zipA ?_
  | with_reducible refine My.s_gCons ?_
  | with_reducible refine My.s_gNil ?_
  | with_reducible refine My.s_yes ?_
  | ((with_reducible apply My.s_gTup); (focus (first | assumption | (apply L2.SqT.of; first | assumption | exact L2.upd_same) | (apply My.TupAt.sq; assumption))); (focus exact rfl))
  | ((with_reducible apply My.s_zipL); (focus (first | assumption | (apply L2.SqL.of; first | assumption | exact L2.upd_same))); (focus (first | assumption | (apply L2.SqL.of; first | assumption | exact L2.upd_same))))
  | ((with_reducible apply My.s_zipT); (focus (first | assumption | (apply L2.SqT.of; first | assumption | exact L2.upd_same) | (apply My.TupAt.sq; assumption))); (focus (first | assumption | (apply L2.SqT.of; first | assumption | exact L2.upd_same) | (apply My.TupAt.sq; assumption))))
  | ((with_reducible apply My.s_isi_list); (focus (walk_at "hd")))
  | ((with_reducible apply My.s_isi_tuple); (focus (walk_at "hd")))
  | ((with_reducible apply My.s_isi_dict); (focus (walk_at "hd")))
  | ((with_reducible apply My.s_isi_bool); (focus (walk_at "hd")))
  | ((with_reducible apply My.s_isi_int); (focus (walk_at "hd")))
  | ((with_reducible apply My.s_isi_str); (focus (walk_at "hd"))))
local macro_rules | `(tactic| walk_at "hd") => `(tactic| first
  | with_reducible assumption
  | with_reducible exact My.Hd.int (N := My.N0) _
  | with_reducible exact My.Hd.str (N := My.N0) _
  | with_reducible exact My.Hd.bl (N := My.N0) _
  | with_reducible exact My.Hd.non (N := My.N0))
local macro_rules | `(tactic| walk_at "rd1") => `(tactic| first
  | with_reducible refine My.s_xgR ?_
  | with_reducible refine My.s_callS ?_
  | with_reducible refine My.s_mkO ?_
  | with_reducible refine My.s_ost ?_)
local macro_rules | `(tactic| walk_at "rd1") => `(tactic| first
  | with_reducible refine My.s_gfor ?_
  | with_reducible refine My.s_gthen ?_
  | with_reducible refine My.s_g0 ?_
  | with_reducible refine My.s_gplain ?_
  | with_reducible refine My.s_max2 ?_
  | with_reducible refine My.s_min2 ?_
  | with_reducible refine My.s_listG ?_)
local macro_rules | `(tactic| walk_at "rd1") => `(tactic| first
  | with_reducible refine My.s_fldR ?_
  | with_reducible refine My.s_stoR ?_
  | with_reducible refine My.s_makeR ?_
  | with_reducible refine My.s_methR ?_
  | with_reducible refine My.s_izipG ?_
  | with_reducible refine My.s_ienumG ?_)
local macro_rules | `(tactic| walk_at "rd1") => `(tactic| first
  | with_reducible refine My.s_ckw ?_
  | with_reducible refine My.s_joined ?_
  | with_reducible refine My.s_js ?_
  | with_reducible refine My.s_js0 ?_
  | with_reducible refine My.s_fmt ?_)
local macro_rules | `(tactic| walk_at "rd1") => `(tactic| first
  | with_reducible refine My.s_ifx ?_
  | with_reducible refine My.s_iStr ?_
  | with_reducible refine My.s_str1 ?_
  | with_reducible refine My.s_inSign ?_)
namespace My
open PySem PySem.Spec PyProof.Rows L2 RZ
open LamX (ExtN Tabs TabS TabB CodeO)
def top (i : Nat) : Stmt := PySem.Challenge.pw_sparenots_k37_fewest_numbers.main.body.getD i (.Pass ⟨0, 0, 0, 0⟩)
abbrev s_fewest_nots : Stmt := top 1
abbrev lv_fewest_nots : Nat := 1
theorem sc_fewest_nots : FnScope ["falls"] ["falls"] (defScope s_fewest_nots) := ⟨rfl, rfl, rfl, by decide +kernel, rfl, by decide +kernel, by decide +kernel⟩
abbrev s__law_bag : Stmt := top 3
abbrev lv__law_bag : Nat := 1
theorem sc__law_bag : FnScope ["_law_script", "_law_salt", "_law_cell"] ["_law_script"] (defScope s__law_bag) := ⟨rfl, rfl, rfl, by decide +kernel, rfl, by decide +kernel, by decide +kernel⟩
abbrev s__law_pull : Stmt := top 4
abbrev lv__law_pull : Nat := 1
theorem sc__law_pull : FnScope ["_law_bag_here", "_law_many", "_law_cell", "_law_got", "_law_seed"] ["_law_bag_here", "_law_many"] (defScope s__law_pull) := ⟨rfl, rfl, rfl, by decide +kernel, rfl, by decide +kernel, by decide +kernel⟩
abbrev s__law_great : Stmt := top 5
abbrev lv__law_great : Nat := 2
theorem sc__law_great : FnScope ["_law_bag_here", "_law_result", "_law_turn"] ["_law_bag_here"] (defScope s__law_great) := ⟨rfl, rfl, rfl, by decide +kernel, rfl, by decide +kernel, by decide +kernel⟩
abbrev s__law_like : Stmt := top 6
abbrev lv__law_like : Nat := 6
theorem sc__law_like : FnScope ["_law_found", "_law_due", "_law_one", "_law_other", "_law_name"] ["_law_found", "_law_due"] (defScope s__law_like) := ⟨rfl, rfl, rfl, by decide +kernel, rfl, by decide +kernel, by decide +kernel⟩
abbrev s__law_nots : Stmt := top 7
abbrev lv__law_nots : Nat := 1
theorem sc__law_nots : FnScope ["_law_falls", "_law_number", "_law_power", "_law_turn"] ["_law_falls"] (defScope s__law_nots) := ⟨rfl, rfl, rfl, by decide +kernel, rfl, by decide +kernel, by decide +kernel⟩
abbrev s_law : Stmt := top 8
abbrev lv_law : Nat := 7
theorem sc_law : FnScope ["_law_script", "_law_bag_here", "_law_turn", "_law_power", "_law_again", "_law_falls"] ["_law_script"] (defScope s_law) := ⟨rfl, rfl, rfl, by decide +kernel, rfl, by decide +kernel, by decide +kernel⟩
structure Txt (K : PySem.W.Frag) (mg : Str → Option Value) : Type where
  f_fewest_nots : Addr
  fd_fewest_nots : FuncData
  F_fewest_nots : Fun K "fewest_nots" "fewest_nots" s_fewest_nots f_fewest_nots fd_fewest_nots
  g_fewest_nots : mg "fewest_nots" = some (.ref f_fewest_nots)
  b_fewest_nots : Binds K fd_fewest_nots ["falls"] []
  f__law_bag : Addr
  fd__law_bag : FuncData
  F__law_bag : Fun K "_law_bag" "_law_bag" s__law_bag f__law_bag fd__law_bag
  g__law_bag : mg "_law_bag" = some (.ref f__law_bag)
  b__law_bag : Binds K fd__law_bag ["_law_script"] []
  f__law_pull : Addr
  fd__law_pull : FuncData
  F__law_pull : Fun K "_law_pull" "_law_pull" s__law_pull f__law_pull fd__law_pull
  g__law_pull : mg "_law_pull" = some (.ref f__law_pull)
  b__law_pull : Binds K fd__law_pull ["_law_bag_here", "_law_many"] []
  f__law_great : Addr
  fd__law_great : FuncData
  F__law_great : Fun K "_law_great" "_law_great" s__law_great f__law_great fd__law_great
  g__law_great : mg "_law_great" = some (.ref f__law_great)
  b__law_great : Binds K fd__law_great ["_law_bag_here"] []
  f__law_like : Addr
  fd__law_like : FuncData
  F__law_like : Fun K "_law_like" "_law_like" s__law_like f__law_like fd__law_like
  g__law_like : mg "_law_like" = some (.ref f__law_like)
  b__law_like : Binds K fd__law_like ["_law_found", "_law_due"] []
  f__law_nots : Addr
  fd__law_nots : FuncData
  F__law_nots : Fun K "_law_nots" "_law_nots" s__law_nots f__law_nots fd__law_nots
  g__law_nots : mg "_law_nots" = some (.ref f__law_nots)
  b__law_nots : Binds K fd__law_nots ["_law_falls"] []
  f_law : Addr
  fd_law : FuncData
  F_law : Fun K "law" "law" s_law f_law fd_law
  g_law : mg "law" = some (.ref f_law)
  b_law : Binds K fd_law ["_law_script"] []
  z_all : mg "all" = none
  z_bool : mg "bool" = none
  z_dict : mg "dict" = none
  z_int : mg "int" = none
  z_isinstance : mg "isinstance" = none
  z_len : mg "len" = none
  z_list : mg "list" = none
  z_range : mg "range" = none
  z_str : mg "str" = none
  z_tuple : mg "tuple" = none
  z_zip : mg "zip" = none
end My
namespace My
open PySem PySem.Spec PyProof.Rows L2 RZ
/-- fewest_nots(n), n not negative -/
def sp_fewest_nots (_ : PySem.W.Frag) : Sp := fun vs H Q _ => ∃ n : Int, vs = [.int n] ∧ Q (.int (Builtin.Int.intBits n : Nat)) H
theorem ok_fewest_nots {P : Program} {w : World} {K : PySem.W.Frag} {mg : Str → Option Value} {base : Heap} (T : Txt K mg) : FnOk P w K mg base CX0 lv_fewest_nots T.f_fewest_nots T.fd_fewest_nots ["falls"] (sp_fewest_nots K) := by
  refine T.F_fewest_nots.ok sc_fewest_nots (fun vs H Q E h => ?_) (fun cdv A outer s H vs Q E hr h => ?_)
  · obtain ⟨n, rfl, _⟩ := h
    rfl
  · obtain ⟨n, rfl, k⟩ := h
    refine ⟨_, (pss_one (ps_ret (pe_bits (pv 0)))), ?_⟩
    (try dsimp only [cxOf, L2H.cxH, gcxOf, Cx.nox, Cx.wish]); rw [show L2.start _ [(.int n : V)] = [some (.int n)] from rfl]
    walk_at "rd"
    exact k
end My
namespace My
open PySem PySem.Spec PyProof.Rows L2 RZ
def sp__law_bag (K : PySem.W.Frag) : Sp := fun vs H Q _ => ∃ (a : Addr) (ns : List Int), vs = [.ref a] ∧ SqL K H a (ns.map V.int) ∧ ns.length ≤ 63 ∧ ∀ b H', H b = none → Bag b H' → Fr N0 H H' → Q (.ref b) H'
theorem ok__law_bag {P : Program} {w : World} {K : PySem.W.Frag} {mg : Str → Option Value} {base : Heap} (T : Txt K mg) : FnOk P w K mg base CX0 lv__law_bag T.f__law_bag T.fd__law_bag ["_law_script"] (sp__law_bag K) := by
  refine T.F__law_bag.ok sc__law_bag (fun vs H Q E h => ?_) (fun cdv A outer s H vs Q E hr h => ?_)
  · obtain ⟨a, ns, rfl, _⟩ := h
    rfl
  · obtain ⟨a, ns, rfl, hS, hl, k⟩ := h
    have hc : cutV (ns.map V.int) none (some 63) = ns.map V.int := cut_all (by rw [List.length_map]; omega)
    refine ⟨_, (pss_cons (ps_set (i := 1) sc__law_bag.nd rfl (by first | exact .inl rfl | exact .inr rfl) pe_int)
      (pss_cons (ps_for PassesOwn.never rfl (pi_listK K (pe_slice (opSlK K) (pv 0) po_none (po_some pe_int))) (pg_name (i := 2) sc__law_bag.nd rfl (by first | exact .inl rfl | exact .inr rfl))
        (pss_one (ps_set (i := 1) sc__law_bag.nd rfl (by first | exact .inl rfl | exact .inr rfl) (pe_op op_mod (pe_callTy callInt (by rfl) T.z_int (by first | exact PySem.boot_int | exact boot_int | decide +kernel) (pa_cons (pe_op (opAddK K) (pe_op (opAddK K) (pe_op opMul (pv 1) pe_int) (pe_op op_mod (pe_callTy callInt (by rfl) T.z_int (by first | exact PySem.boot_int | exact boot_int | decide +kernel) (pa_cons (pv 2) pa_nil)) pe_int)) pe_int) pa_nil)) pe_int))))
      (pss_one (ps_ret (pe_lst (pa_cons (pe_callTy (callListK K) (by rfl) T.z_list (by first | exact PySem.boot_list | exact boot_list | decide +kernel) (pa_cons (pe_slice (opSlK K) (pv 0) po_none (po_some pe_int)) pa_nil)) (pa_cons pe_int (pa_cons pe_int (pa_cons (pv 1) pa_nil))))))))), ?_⟩
    (try dsimp only [cxOf, L2H.cxH, gcxOf, Cx.nox, Cx.wish]); rw [show L2.start _ [(.ref a : V)] = [some (.ref a), none, none] from rfl]
    walk_at "rd"
    refine s_slL hS fun l nl => ?_
    rw [hc]
    refine s_lst1 (SqL.of upd_same) ?_
    refine for_by (walk_list (xs := ns.map V.int)) (fun i σ H' => ∃ (z : Int) (v : Option V), σ = [some (.ref a), some (.int z), v] ∧ 0 ≤ z ∧ z < 2147483563 ∧ H' = upd H l (.lst (ns.map V.int))) ⟨4935, none, rfl, by decide, by decide, rfl⟩ (fun i σ H' _ ⟨_, _, _, _, _, e⟩ => by rw [e]; exact SqL.of upd_same) ?_ ?_
    · rintro i x σ H' _ hi ⟨z, v, rfl, h0, h1, rfl⟩ ⟨rfl, hx⟩
      obtain ⟨n, rfl⟩ : ∃ n, x = V.int n := by
        rw [List.getElem?_map] at hx
        cases e : ns[i]? with
        | none => rw [e] at hx; cases hx
        | some n => rw [e] at hx; exact ⟨n, (Option.some.inj hx).symm⟩
      walk_at "rd"
      exact ⟨_, _, rfl, Int.emod_nonneg _ (by decide), Int.emod_lt_of_pos _ (by decide), rfl⟩
    · rintro σ H' ⟨z, v, rfl, h0, h1, rfl⟩
      have f1 : Fr N0 H (upd H l (.lst (ns.map V.int))) := Fr.new nl
      walk_at "rd"
      refine s_slL (f1.rdL hS id) fun l2 nl2 => ?_
      rw [hc]
      walk_at "rd"
      have f2 := f1.trans (Fr.new (o := .lst (ns.map V.int)) nl2)
      refine s_listL (SqL.of upd_same) fun l3 nl3 => ?_
      have f3 := f2.trans (Fr.new (o := .lst (ns.map V.int)) nl3)
      walk_at "rd"
      refine ⟨by show 4 ≤ sizeLine; decide, fun b nb => ?_⟩
      have f4 := f3.trans (Fr.new (o := .lst [.ref l3, .int 0, .int 0, .int z]) nb)
      refine k b _ (f3.free nb id) ⟨l3, ns, 0, 0, z, upd_same, ?_, hl, by decide, by decide, h0, h1⟩ f4
      rw [upd_ne (fun e => by rw [e] at nb; rw [upd_same] at nb; cases nb)]
      exact upd_same
end My
namespace My
open PySem PySem.Spec PyProof.Rows L2 RZ
def sp__law_pull (_ : PySem.W.Frag) : Sp := fun vs H Q _ => ∃ (b : Addr) (n : Int), vs = [.ref b, .int n] ∧ Bag b H ∧ 0 < n ∧ n < 1073741824 ∧ ∀ (r : Int) H', 0 ≤ r → r < n → Bag b H' → Fr (N1 b) H H' → Q (.int r) H'
theorem s_pull {K : PySem.W.Frag} {b : Addr} {n : Int} {H : Hp} {Q : VK} {E : XK} (B : Bag b H) (h : 0 < n ∧ n < 1073741824) (k : ∀ (r : Int) H', 0 ≤ r → r < n → Bag b H' → Fr (N1 b) H H' → Q (.int r) H') : sp__law_pull K [.ref b, .int n] H Q E := ⟨b, n, rfl, B, h.1, h.2, k⟩
theorem ok__law_pull {P : Program} {w : World} {K : PySem.W.Frag} {mg : Str → Option Value} {base : Heap} (T : Txt K mg) : FnOk P w K mg base CX0 lv__law_pull T.f__law_pull T.fd__law_pull ["_law_bag_here", "_law_many"] (sp__law_pull K) := by
  refine T.F__law_pull.ok sc__law_pull (fun vs H Q E h => ?_) (fun cdv A outer s H vs Q E hr h => ?_)
  · obtain ⟨b, n, rfl, _⟩ := h
    rfl
  · obtain ⟨b, n, rfl, B, hn, hn2, k⟩ := h
    refine ⟨_, (Evl.pss_cut (ps_if (PW.pt (pw_and (pt_cmpR (opEqK K hr.units) (pe_ix (ixK K) (pv 0) pe_int (fun _ _ => rfl)) pe_int (by first | exact nomark _ | rfl)) (pw_and1 (pt_cmpR op_lt (pe_ix (ixK K) (pv 0) pe_int (fun _ _ => rfl)) (pe_callB (callLenK K) (by rfl) T.z_len (by first | exact PySem.boot_len | exact boot_len | decide +kernel) (pa_cons (pe_ix (ixK K) (pv 0) pe_int (fun _ _ => rfl)) pa_nil)) (by first | exact nomark _ | rfl)))))
        (pss_cons (ps_set (i := 2) sc__law_pull.nd rfl (by first | exact .inl rfl | exact .inr rfl) (pe_ix (ixK K) (pe_ix (ixK K) (pv 0) pe_int (fun _ _ => rfl)) (pe_ix (ixK K) (pv 0) pe_int (fun _ _ => rfl)) (fun _ _ => rfl)))
        (pss_cons (ps_asg (pe_op (opAddK K) (pe_ix (ixK K) (pv 0) pe_int (fun _ _ => rfl)) pe_int) (pg_sub (pv 0) pe_int set_list))
        (pss_one (ps_if (pt_cmpR op_ge (pv 2) (pe_op op_pow pe_int pe_int) (by first | exact nomark _ | rfl))
          (pss_one (ps_asg (pe_op op_sub (pv 2) (pe_op op_pow pe_int pe_int)) (pg_sub (pv 0) pe_int set_list)))
          (pss_one (ps_asg (pe_op op_mod (pe_callTy callInt (by rfl) T.z_int (by first | exact PySem.boot_int | exact boot_int | decide +kernel) (pa_cons (pe_op (opAddK K) (pe_op (opAddK K) (pe_op opMul (pe_ix (ixK K) (pv 0) pe_int (fun _ _ => rfl)) pe_int) (pe_op opMul (pe_op op_mod (pe_callTy callInt (by rfl) T.z_int (by first | exact PySem.boot_int | exact boot_int | decide +kernel) (pa_cons (pv 2) pa_nil)) pe_int) pe_int)) pe_int) pa_nil)) pe_int) (pg_sub (pv 0) pe_int set_list)))))))
        pss_nil)
      (pss_cons (ps_if (pt_cmpR op_gt (pe_ix (ixK K) (pv 0) pe_int (fun _ _ => rfl)) pe_int (by first | exact nomark _ | rfl))
        (pss_cons (ps_set (i := 3) sc__law_pull.nd rfl (by first | exact .inl rfl | exact .inr rfl) (pe_op op_mod (pe_callTy callInt (by rfl) T.z_int (by first | exact PySem.boot_int | exact boot_int | decide +kernel) (pa_cons (pe_ix (ixK K) (pv 0) pe_int (fun _ _ => rfl)) pa_nil)) (pe_callTy callInt (by rfl) T.z_int (by first | exact PySem.boot_int | exact boot_int | decide +kernel) (pa_cons (pv 1) pa_nil))))
        (pss_cons (ps_asg (pe_op opDiv (pe_ix (ixK K) (pv 0) pe_int (fun _ _ => rfl)) (pv 1)) (pg_sub (pv 0) pe_int set_list))
        (pss_one (ps_ret (pv 3)))))
        pss_nil)
      (pss_cons (ps_set (i := 4) sc__law_pull.nd rfl (by first | exact .inl rfl | exact .inr rfl) (pe_ix (ixK K) (pv 0) pe_int (fun _ _ => rfl)))
      (pss_cons (ps_asg (pe_op op_mod (pe_callTy callInt (by rfl) T.z_int (by first | exact PySem.boot_int | exact boot_int | decide +kernel) (pa_cons (pe_op (opAddK K) (pe_op (opAddK K) (pe_op opMul (pe_op opMul (pv 4) (pv 4)) pe_int) (pe_op opMul (pv 4) pe_int)) pe_int) pa_nil)) pe_int) (pg_sub (pv 0) pe_int set_list))
      (pss_one (ps_ret (pe_op op_mod (pe_callTy callInt (by rfl) T.z_int (by first | exact PySem.boot_int | exact boot_int | decide +kernel) (pa_cons (pe_op (opAddK K) (pe_op opDiv (pe_ix (ixK K) (pv 0) pe_int (fun _ _ => rfl)) pe_int) (pe_op opMul (pe_op op_mod (pe_callTy callInt (by rfl) T.z_int (by first | exact PySem.boot_int | exact boot_int | decide +kernel) (pa_cons (pe_ix (ixK K) (pv 0) pe_int (fun _ _ => rfl)) pa_nil)) pe_int) pe_int)) pa_nil)) (pe_callTy callInt (by rfl) T.z_int (by first | exact PySem.boot_int | exact boot_int | decide +kernel) (pa_cons (pv 1) pa_nil))))))))), ?_⟩
    (try dsimp only [cxOf, L2H.cxH, gcxOf, Cx.nox, Cx.wish]); rw [show L2.start _ [(.ref b : V), (.int n : V)] = [some (.ref b), some (.int n), none, none, none] from rfl]
    refine ⟨fun σ' H' => ∃ v, σ' = [some (.ref b), some (.int n), v, none, none] ∧ Bag b H' ∧ Fr (N1 b) H H', ?_, ?_⟩
    · obtain ⟨c, ns, p, cur, seed, h1, h2, hlen, hp, hcur, hs0, hs1⟩ := B.ex
      have nc : c ≠ b := bag_ne h1 h2
      obtain ⟨j, rfl⟩ := nat0 hp
      walk_at "rd"
      refine if_dec (fun ec => ?_) (fun _ => iteF ⟨none, rfl, B, .refl⟩)
      walk_at "rd"
      rw [List.length_map]
      walk_at "rd"
      refine if_dec (fun hj => ?_) (fun _ => ⟨none, rfl, B, .refl⟩)
      have hj2 : j < ns.length := by omega
      walk_at "rd"
      refine s_ixL (SqL.of h2) (atI_nat (j := j) (v := .int ns[j]) (by rw [List.getElem?_map, List.getElem?_eq_getElem hj2]; rfl)) ?_
      walk_at "rd"
      have f1 : Fr (N1 b) H (upd H b (.lst ([V.ref c, .int j, .int cur, .int seed].set 1 (.int (j + 1))))) := Fr.wr h1 rfl
      have g1 := f1.keep c _ h2 nc
      have g2 : upd H b (.lst ([V.ref c, .int j, .int cur, .int seed].set 1 (.int (j + 1)))) b = _ := upd_same
      generalize upd H b (.lst ([V.ref c, .int j, .int cur, .int seed].set 1 (.int (j + 1)))) = H1 at f1 g1 g2 ⊢
      simp only [List.set_cons_zero, List.set_cons_succ] at g2
      refine if_dec (fun hb => ?_) (fun _ => ?_)
      · walk_at "rd"
        refine ⟨_, rfl, ⟨c, ns, _, _, _, upd_same, ?_, hlen, ?_, ?_, hs0, hs1⟩, f1.trans (Fr.wr g2 rfl)⟩
        · rw [upd_ne nc]; exact g1
        · omega
        · omega
      · walk_at "rd"
        refine ⟨_, rfl, ⟨c, ns, _, _, _, upd_same, ?_, hlen, ?_, hcur, Int.emod_nonneg _ (by decide), Int.emod_lt_of_pos _ (by decide)⟩, f1.trans (Fr.wr g2 rfl)⟩
        · rw [upd_ne nc]; exact g1
        · omega
    · rintro σ' H1 ⟨v, rfl, B1, f1⟩
      obtain ⟨c, ns, p, cur, seed, h1, h2, hlen, hp, hcur, hs0, hs1⟩ := B1.ex
      have nc : c ≠ b := bag_ne h1 h2
      walk_at "rd"
      refine if_dec (fun h0 => ?_) (fun _ => ?_)
      · walk_at "rd"
        refine k _ _ (Int.emod_nonneg _ (by omega)) (Int.emod_lt_of_pos _ hn) ⟨c, ns, _, _, _, upd_same, ?_, hlen, hp, Int.ediv_nonneg hcur (by omega), hs0, hs1⟩ (f1.trans (Fr.wr h1 rfl))
        rw [upd_ne nc]; exact h2
      · walk_at "rd"
        have f2 := f1.trans (Fr.wr (o := .lst ([V.ref c, .int p, .int cur, .int seed].set 3 (.int ((seed * seed * 3 + seed * 16807 + 1013904223) % 2147483563)))) h1 rfl)
        have g2 : upd H1 b (.lst ([V.ref c, .int p, .int cur, .int seed].set 3 (.int ((seed * seed * 3 + seed * 16807 + 1013904223) % 2147483563)))) b = _ := upd_same
        have g1 := Eq.trans (upd_ne (H := H1) (o := .lst ([V.ref c, .int p, .int cur, .int seed].set 3 (.int ((seed * seed * 3 + seed * 16807 + 1013904223) % 2147483563)))) nc) h2
        generalize upd H1 b _ = H2 at f2 g1 g2 ⊢
        simp only [List.set_cons_zero, List.set_cons_succ] at g2
        walk_at "rd"
        exact k _ _ (Int.emod_nonneg _ (by omega)) (Int.emod_lt_of_pos _ hn) ⟨c, ns, _, _, _, g2, g1, hlen, hp, hcur, Int.emod_nonneg _ (by decide), Int.emod_lt_of_pos _ (by decide)⟩ f2
end My
namespace My
open PySem PySem.Spec PyProof.Rows L2 RZ
def sp__law_great (_ : PySem.W.Frag) : Sp := fun vs H Q _ => ∃ (b : Addr), vs = [.ref b] ∧ Bag b H ∧ ∀ (r : Int) H', 0 ≤ r → r < 1000 * 1000000000 ^ 3 → Bag b H' → Fr (N1 b) H H' → Q (.int r) H'
theorem s_great {K : PySem.W.Frag} {b : Addr} {H : Hp} {Q : VK} {E : XK} (B : Bag b H) (k : ∀ (r : Int) H', 0 ≤ r → r < 1000 * 1000000000 ^ 3 → Bag b H' → Fr (N1 b) H H' → Q (.int r) H') : sp__law_great K [.ref b] H Q E := ⟨b, rfl, B, k⟩
theorem great_lt {z r : Int} {i : Nat} (h : z < 1000 * 1000000000 ^ i) (h2 : r < 1000000000) : z * 1000000000 + r < 1000 * 1000000000 ^ (i + 1) := by
  rw [Int.pow_succ]
  omega
theorem ok__law_great {P : Program} {w : World} {K : PySem.W.Frag} {mg : Str → Option Value} {base : Heap} (T : Txt K mg) : FnOk P w K mg base CX0 lv__law_great T.f__law_great T.fd__law_great ["_law_bag_here"] (sp__law_great K) := by
  refine T.F__law_great.ok sc__law_great (fun vs H Q E h => ?_) (fun cdv A outer s H vs Q E hr h => ?_)
  · obtain ⟨b, rfl, _⟩ := h
    rfl
  · obtain ⟨b, rfl, B, k⟩ := h
    have G__law_pull := ok__law_pull (P := P) (w := w) (base := base) T
    refine ⟨_, (pss_cons (ps_set (i := 1) sc__law_great.nd rfl (by first | exact .inl rfl | exact .inr rfl) (pe_call G__law_pull (hr.mono (by first | decide | omega)) (by rfl) T.g__law_pull T.F__law_pull.kp T.b__law_pull .nil pass0 (pa_cons (pv 0) (pa_cons pe_int pa_nil))))
      (pss_cons (ps_for PassesOwn.never rfl (pi_range1 (by rfl) T.z_range (pa_cons pe_int pa_nil)) (pg_name (i := 2) sc__law_great.nd rfl (by first | exact .inl rfl | exact .inr rfl))
        (pss_one (ps_set (i := 1) sc__law_great.nd rfl (by first | exact .inl rfl | exact .inr rfl) (pe_op (opAddK K) (pe_op opMul (pv 1) (pe_op op_pow pe_int pe_int)) (pe_call G__law_pull (hr.mono (by first | decide | omega)) (by rfl) T.g__law_pull T.F__law_pull.kp T.b__law_pull .nil pass0 (pa_cons (pv 0) (pa_cons (pe_op op_pow pe_int pe_int) pa_nil)))))))
      (pss_one (ps_ret (pv 1))))), ?_⟩
    (try dsimp only [cxOf, L2H.cxH, gcxOf, Cx.nox, Cx.wish]); rw [show L2.start _ [(.ref b : V)] = [some (.ref b), none, none] from rfl]
    walk_at "rd"
    refine s_pull B (by decide) fun r H1 r0 r1 B1 f1 => ?_
    walk_at "rd"
    refine for_by walk_range0 (fun i σ H' => ∃ (z : Int) (v : Option V), σ = [some (.ref b), some (.int z), v] ∧ 0 ≤ z ∧ z < 1000 * 1000000000 ^ i ∧ Bag b H' ∧ Fr (N1 b) H H') ⟨r, none, rfl, r0, by omega, B1, f1⟩ (fun _ _ _ _ _ => trivial) ?_ ?_
    · rintro i _ σ H' _ hi ⟨z, v, rfl, z0, z1, B', f'⟩ ⟨rfl, rfl⟩
      walk_at "rd"
      refine s_pull B' (by decide) fun r H2 r0 r1 B2 f2 => ?_
      walk_at "rd"
      exact ⟨_, _, rfl, by omega, great_lt z1 r1, B2, f'.trans f2⟩
    · rintro σ H' ⟨z, v, rfl, z0, z1, B', f'⟩
      walk_at "rd"
      exact k _ _ z0 z1 B' f'
end My
namespace My
open PySem PySem.Spec PyProof.Rows L2 RZ
open LamX (ExtN Tabs TabS TabB CodeO)
mutual
/-- no dict within -/
def plainD : PyData → Bool
  | .none | .bool _ | .int _ | .str _ => true
  | .list xs | .tuple xs => decide (xs.length ≤ 100000) && plainL xs
  | .dict _ => false
def plainL : List PyData → Bool
  | [] => true
  | x :: xs => plainD x && plainL xs
end
mutual
def deepD : PyData → Nat
  | .none | .bool _ | .int _ | .str _ => 0
  | .list xs | .tuple xs => deepL xs + 1
  | .dict _ => 0
def deepL : List PyData → Nat
  | [] => 0
  | x :: xs => max (deepD x) (deepL xs)
end
theorem plain_get : ∀ {xs : List PyData} {i : Nat} {d : PyData}, plainL xs = true → xs[i]? = some d → plainD d = true
  | [], _, _, _, e => by simp at e
  | x :: xs, 0, _, h, e => by
    simp at e
    subst e
    simp only [plainL, Bool.and_eq_true] at h
    exact h.1
  | x :: xs, i + 1, _, h, e => by
    simp only [plainL, Bool.and_eq_true] at h
    exact plain_get h.2 (by simpa using e)
theorem deep_get : ∀ {xs : List PyData} {i : Nat} {d : PyData}, xs[i]? = some d → deepD d ≤ deepL xs
  | [], _, _, e => by simp at e
  | x :: xs, 0, _, e => by
    simp at e
    subst e
    simp only [deepL]
    omega
  | x :: xs, i + 1, _, e => by
    have h := deep_get (xs := xs) (i := i) (by simpa using e)
    simp only [deepL]
    omega
theorem all_rep (n : Nat) : (List.replicate n true).all id = true := by
  induction n with
  | zero => rfl
  | succ n ih => rw [List.replicate_succ, List.all_cons, ih]; rfl
/-- _law_like of the same data: True -/
def sp_like_n (K : PySem.W.Frag) (n : Nat) : Sp := fun vs H Q _ => ∃ (x y : V) (d : PyData), vs = [x, y] ∧ Hd N0 K H x d ∧ Hd N0 K H y d ∧ plainD d = true ∧ deepD d < n ∧ ∀ H', Fr N0 H H' → Q (.bl true) H'
def sp__law_like (K : PySem.W.Frag) : Sp := sp_like_n K 6
theorem s_like {K : PySem.W.Frag} {H : Hp} {Q : VK} {E : XK} {x y : V} {d : PyData} (hx : Hd N0 K H x d) (hy : Hd N0 K H y d) (hp : plainD d = true) (hn : deepD d < 6) (k : ∀ H', Fr N0 H H' → Q (.bl true) H') : sp__law_like K [x, y] H Q E := ⟨x, y, d, rfl, hx, hy, hp, hn, k⟩
theorem s_like_n {K : PySem.W.Frag} {n : Nat} {H : Hp} {Q : VK} {E : XK} {x y : V} {d : PyData} (hx : Hd N0 K H x d) (hy : Hd N0 K H y d) (hp : plainD d = true) (hn : deepD d < n) (k : ∀ H', Fr N0 H H' → Q (.bl true) H') : sp_like_n K n [x, y] H Q E := ⟨x, y, d, rfl, hx, hy, hp, hn, k⟩
theorem ok_like_step {P : Program} {w : World} {K : PySem.W.Frag} {mg : Str → Option Value} {base : Heap} (T : Txt K mg) {n : Nat} (G__law_like : FnOk P w K mg base CX0 n T.f__law_like T.fd__law_like ["_law_found", "_law_due"] (sp_like_n K n)) : FnOk P w K mg base CX0 (n + 1) T.f__law_like T.fd__law_like ["_law_found", "_law_due"] (sp_like_n K (n + 1)) := by
  refine T.F__law_like.ok sc__law_like (fun vs H Q E h => ?_) (fun cdv A outer s H vs Q E hr h => ?_)
  · obtain ⟨x, y, d, rfl, _⟩ := h
    rfl
  · obtain ⟨x, y, d, rfl, hx, hy, hp, hn, k⟩ := h
    refine ⟨_, (pss_cons (ps_if (pt_val (pe_callB (callIsiK K) (by rfl) T.z_isinstance (by first | exact PySem.boot_isinstance | exact boot_isinstance | decide +kernel) (pa_cons (pv 1) (pa_cons (pe_tup (pa_cons (pe_bltn (v := .ty "list") (by rfl) T.z_list (by first | exact boot_list | decide +kernel) rfl) (pa_cons (pe_bltn (v := .ty "tuple") (by rfl) T.z_tuple (by first | exact boot_tuple | decide +kernel) rfl) pa_nil))) pa_nil))))
        (pss_cons (ps_if (pt_cmpR (opNeK K hr.units) (pe_callB (callIsiK K) (by rfl) T.z_isinstance (by first | exact PySem.boot_isinstance | exact boot_isinstance | decide +kernel) (pa_cons (pv 0) (pa_cons (pe_bltn (v := .ty "list") (by rfl) T.z_list (by first | exact boot_list | decide +kernel) rfl) pa_nil))) (pe_callB (callIsiK K) (by rfl) T.z_isinstance (by first | exact PySem.boot_isinstance | exact boot_isinstance | decide +kernel) (pa_cons (pv 1) (pa_cons (pe_bltn (v := .ty "list") (by rfl) T.z_list (by first | exact boot_list | decide +kernel) rfl) pa_nil))) (by first | exact nomark _ | rfl))
          (pss_one (ps_ret pe_bl))
          pss_nil)
        (pss_cons (ps_if (pt_cmpR (opNeK K hr.units) (pe_callB (callIsiK K) (by rfl) T.z_isinstance (by first | exact PySem.boot_isinstance | exact boot_isinstance | decide +kernel) (pa_cons (pv 0) (pa_cons (pe_bltn (v := .ty "tuple") (by rfl) T.z_tuple (by first | exact boot_tuple | decide +kernel) rfl) pa_nil))) (pe_callB (callIsiK K) (by rfl) T.z_isinstance (by first | exact PySem.boot_isinstance | exact boot_isinstance | decide +kernel) (pa_cons (pv 1) (pa_cons (pe_bltn (v := .ty "tuple") (by rfl) T.z_tuple (by first | exact boot_tuple | decide +kernel) rfl) pa_nil))) (by first | exact nomark _ | rfl))
          (pss_one (ps_ret pe_bl))
          pss_nil)
        (pss_cons (ps_if (pt_cmpR (opNeK K hr.units) (pe_callB (callLenK K) (by rfl) T.z_len (by first | exact PySem.boot_len | exact boot_len | decide +kernel) (pa_cons (pv 0) pa_nil)) (pe_callB (callLenK K) (by rfl) T.z_len (by first | exact PySem.boot_len | exact boot_len | decide +kernel) (pa_cons (pv 1) pa_nil)) (by first | exact nomark _ | rfl))
          (pss_one (ps_ret pe_bl))
          pss_nil)
        (pss_one (ps_ret (pe_callB (allK K rfl) (by rfl) T.z_all (by first | exact PySem.boot_all | exact boot_all | decide +kernel) (pa_cons (pe_lc (own := [("_law_one", 2), ("_law_other", 3)]) (g := (gTup K 2 (gCons (gName 2) (gCons (gName 3) gNil)))) (tt := tYes) rfl sc__law_like.nd (pi_zipA (by rfl) T.z_zip (pa_cons (pv 0) (pa_cons (pv 1) pa_nil))) (blkOk_by (N := ["_law_found", "_law_due", "_law_one", "_law_other", "_law_name"]) (sc := defScope s__law_like) (by decide +kernel)) (fun _ _ _ _ _ => (pg_tup rfl (pgs_cons (pg_name (i := 2) sc__law_like.nd rfl (by first | exact .inl rfl | exact .inr rfl)) (pgs_cons (pg_name (i := 3) sc__law_like.nd rfl (by first | exact .inl rfl | exact .inr rfl)) pgs_nil)))) (fun _ _ _ _ _ => pts_nil) (fun _ _ _ _ _ => (pe_call G__law_like (hr.mono (by first | decide | omega)) (by rfl) T.g__law_like T.F__law_like.kp T.b__law_like .nil pass0 (pa_cons (pv 2) (pa_cons (pv 3) pa_nil))))) pa_nil)))))))
        pss_nil)
      (pss_cons (ps_if (pt_val (pe_callB (callIsiK K) (by rfl) T.z_isinstance (by first | exact PySem.boot_isinstance | exact boot_isinstance | decide +kernel) (pa_cons (pv 1) (pa_cons (pe_bltn (v := .ty "dict") (by rfl) T.z_dict (by first | exact boot_dict | decide +kernel) rfl) pa_nil))))
        pss_never
        pss_nil)
      (pss_cons (ps_if (PW.pt (pw_or (pt_cmp (pc_isN (pv 0))) (pw_or1 (pt_cmp (pc_isN (pv 1))))))
        (pss_one (ps_ret (pe_and (pe_cmp (pc_isN (pv 0)) rfl) (pe_one (pe_cmp (pc_isN (pv 1)) rfl)))))
        pss_nil)
      (pss_cons (ps_if (pt_cmpR (opNeK K hr.units) (pe_callB (callIsiK K) (by rfl) T.z_isinstance (by first | exact PySem.boot_isinstance | exact boot_isinstance | decide +kernel) (pa_cons (pv 0) (pa_cons (pe_bltn (v := .ty "bool") (by rfl) T.z_bool (by first | exact boot_bool | decide +kernel) rfl) pa_nil))) (pe_callB (callIsiK K) (by rfl) T.z_isinstance (by first | exact PySem.boot_isinstance | exact boot_isinstance | decide +kernel) (pa_cons (pv 1) (pa_cons (pe_bltn (v := .ty "bool") (by rfl) T.z_bool (by first | exact boot_bool | decide +kernel) rfl) pa_nil))) (by first | exact nomark _ | rfl))
        (pss_one (ps_ret pe_bl))
        pss_nil)
      (pss_cons (ps_if (pt_cmpR (opNeK K hr.units) (pe_callB (callIsiK K) (by rfl) T.z_isinstance (by first | exact PySem.boot_isinstance | exact boot_isinstance | decide +kernel) (pa_cons (pv 0) (pa_cons (pe_bltn (v := .ty "int") (by rfl) T.z_int (by first | exact boot_int | decide +kernel) rfl) pa_nil))) (pe_callB (callIsiK K) (by rfl) T.z_isinstance (by first | exact PySem.boot_isinstance | exact boot_isinstance | decide +kernel) (pa_cons (pv 1) (pa_cons (pe_bltn (v := .ty "int") (by rfl) T.z_int (by first | exact boot_int | decide +kernel) rfl) pa_nil))) (by first | exact nomark _ | rfl))
        (pss_one (ps_ret pe_bl))
        pss_nil)
      (pss_one (ps_ret (pe_and (pe_cmpR (opEqK K hr.units) (pe_callB (callIsiK K) (by rfl) T.z_isinstance (by first | exact PySem.boot_isinstance | exact boot_isinstance | decide +kernel) (pa_cons (pv 0) (pa_cons (pe_bltn (v := .ty "str") (by rfl) T.z_str (by first | exact boot_str | decide +kernel) rfl) pa_nil))) (pe_callB (callIsiK K) (by rfl) T.z_isinstance (by first | exact PySem.boot_isinstance | exact boot_isinstance | decide +kernel) (pa_cons (pv 1) (pa_cons (pe_bltn (v := .ty "str") (by rfl) T.z_str (by first | exact boot_str | decide +kernel) rfl) pa_nil))) (by first | exact nomark _ | rfl)) (pe_one (pe_cmpR (opEqK K hr.units) (pv 0) (pv 1) (by first | exact nomark _ | rfl))))))))))), ?_⟩
    (try dsimp only [cxOf, L2H.cxH, gcxOf, Cx.nox, Cx.wish]); rw [show L2.start _ [(x : V), (y : V)] = [some (x), some (y), none, none, none] from rfl]
    cases d with
    | dict ds => simp [plainD] at hp
    | none =>
      walk_at "rd"
      refine ⟨sz (by decide), fun p np => ?_⟩
      have f : Fr N0 H (upd H p (.tup [.ty "list", .ty "tuple"])) := Fr.new np
      replace hx := Hd.fr f _ _ hx
      replace hy := Hd.fr f _ _ hy
      walk_at "rd"
      refine s_isi_lt hy upd_same ?_
      walk_at "rd"
      cases hx
      cases hy
      walk_at "rd"
      exact k _ f
    | bool b =>
      walk_at "rd"
      refine ⟨sz (by decide), fun p np => ?_⟩
      have f : Fr N0 H (upd H p (.tup [.ty "list", .ty "tuple"])) := Fr.new np
      replace hx := Hd.fr f _ _ hx
      replace hy := Hd.fr f _ _ hy
      walk_at "rd"
      refine s_isi_lt hy upd_same ?_
      walk_at "rd"
      cases hx
      cases hy
      walk_at "rd"
      rw [decide_eq_true rfl]
      exact k _ f
    | int i =>
      walk_at "rd"
      refine ⟨sz (by decide), fun p np => ?_⟩
      have f : Fr N0 H (upd H p (.tup [.ty "list", .ty "tuple"])) := Fr.new np
      replace hx := Hd.fr f _ _ hx
      replace hy := Hd.fr f _ _ hy
      walk_at "rd"
      refine s_isi_lt hy upd_same ?_
      walk_at "rd"
      cases hx
      cases hy
      walk_at "rd"
      rw [decide_eq_true rfl]
      exact k _ f
    | str z =>
      walk_at "rd"
      refine ⟨sz (by decide), fun p np => ?_⟩
      have f : Fr N0 H (upd H p (.tup [.ty "list", .ty "tuple"])) := Fr.new np
      replace hx := Hd.fr f _ _ hx
      replace hy := Hd.fr f _ _ hy
      walk_at "rd"
      refine s_isi_lt hy upd_same ?_
      walk_at "rd"
      cases hx
      cases hy
      walk_at "rd"
      rw [decide_eq_true rfl]
      exact k _ f
    | list ds =>
      walk_at "rd"
      refine ⟨sz (by decide), fun p np => ?_⟩
      have f : Fr N0 H (upd H p (.tup [.ty "list", .ty "tuple"])) := Fr.new np
      replace hx := Hd.fr f _ _ hx
      replace hy := Hd.fr f _ _ hy
      walk_at "rd"
      refine s_isi_lt hy upd_same ?_
      walk_at "rd"
      simp only [plainD, Bool.and_eq_true, decide_eq_true_eq] at hp
      simp only [deepD] at hn
      cases hx with
      | lst ea na ra =>
      cases hy with
      | lst eb nb rb =>
      have ex := ra.len
      have ey := rb.len
      have el := ex.trans ey.symm
      walk_at "rd"
      refine lc_by (walk_zip (n := ds.length) (by omega)) (fun D i acc H2 => acc = List.replicate i (V.bl true) ∧ Fr N0 (upd H p (.tup [.ty "list", .ty "tuple"])) H2) (by walk_at "wipe") (fun D hD => ⟨rfl, Fr.new hD⟩) (fun D i acc H2 ⟨_, f2⟩ _ => ⟨SqL.of (f2.keep _ _ ea id), SqL.of (f2.keep _ _ eb id)⟩) ?_ ?_
      · rintro D i acc z H2 H3 hD hi hl ⟨rfl, f2⟩ hDl ⟨t, u, v, rfl, nt, rfl, gu, gv⟩
        have ht : upd H2 t (.tup [u, v]) t = some (.tup [u, v]) := upd_same
        walk_at "rd"
        refine ⟨rfl, ?_⟩
        walk_at "rd"
        obtain ⟨e1, g1, h1⟩ := ra.get gu
        obtain ⟨e2, g2, h2⟩ := rb.get gv
        obtain rfl : e1 = e2 := Option.some.inj (g1.symm.trans g2)
        have f3 := f2.trans (Fr.new (N := N0) (o := .tup [u, v]) nt)
        have dg := deep_get g1
        refine s_like_n (Hd.fr f3 _ _ h1) (Hd.fr f3 _ _ h2) (plain_get hp.2 g1) (by omega) fun H4 f4 => ?_
        have f5 := (Fr.new (N := N0) (o := .tup [u, v]) nt).trans f4
        exact pvx_add (f5.keep D _ hDl id) hl (Nat.lt_of_lt_of_le hi (Nat.le_trans hp.1 (by decide))) ⟨by rw [← List.replicate_succ'], (f2.trans f5).mut hD⟩
      · rintro D acc H2 hD ⟨rfl, f2⟩ hDl
        walk_at "rd"
        refine s_all (bs := List.replicate ds.length true) (SqL.of (by rw [hDl, List.map_replicate])) ?_
        rw [all_rep]
        exact k _ (f.trans f2)
    | tuple ds =>
      walk_at "rd"
      refine ⟨sz (by decide), fun p np => ?_⟩
      have f : Fr N0 H (upd H p (.tup [.ty "list", .ty "tuple"])) := Fr.new np
      replace hx := Hd.fr f _ _ hx
      replace hy := Hd.fr f _ _ hy
      walk_at "rd"
      refine s_isi_lt hy upd_same ?_
      walk_at "rd"
      simp only [plainD, Bool.and_eq_true, decide_eq_true_eq] at hp
      simp only [deepD] at hn
      cases hx with
      | tup ea ra =>
      cases hy with
      | tup eb rb =>
      have ex := ra.len
      have ey := rb.len
      have el := ex.trans ey.symm
      walk_at "rd"
      refine lc_by (walk_zipT (n := ds.length) (by omega)) (fun D i acc H2 => acc = List.replicate i (V.bl true) ∧ Fr N0 (upd H p (.tup [.ty "list", .ty "tuple"])) H2) (by walk_at "wipe") (fun D hD => ⟨rfl, Fr.new hD⟩) (fun D i acc H2 ⟨_, f2⟩ _ => ⟨(ea.fr f2).sq, (eb.fr f2).sq⟩) ?_ ?_
      · rintro D i acc z H2 H3 hD hi hl ⟨rfl, f2⟩ hDl ⟨t, u, v, rfl, nt, rfl, gu, gv⟩
        have ht : upd H2 t (.tup [u, v]) t = some (.tup [u, v]) := upd_same
        walk_at "rd"
        refine ⟨rfl, ?_⟩
        walk_at "rd"
        obtain ⟨e1, g1, h1⟩ := ra.get gu
        obtain ⟨e2, g2, h2⟩ := rb.get gv
        obtain rfl : e1 = e2 := Option.some.inj (g1.symm.trans g2)
        have f3 := f2.trans (Fr.new (N := N0) (o := .tup [u, v]) nt)
        have dg := deep_get g1
        refine s_like_n (Hd.fr f3 _ _ h1) (Hd.fr f3 _ _ h2) (plain_get hp.2 g1) (by omega) fun H4 f4 => ?_
        have f5 := (Fr.new (N := N0) (o := .tup [u, v]) nt).trans f4
        exact pvx_add (f5.keep D _ hDl id) hl (Nat.lt_of_lt_of_le hi (Nat.le_trans hp.1 (by decide))) ⟨by rw [← List.replicate_succ'], (f2.trans f5).mut hD⟩
      · rintro D acc H2 hD ⟨rfl, f2⟩ hDl
        walk_at "rd"
        refine s_all (bs := List.replicate ds.length true) (SqL.of (by rw [hDl, List.map_replicate])) ?_
        rw [all_rep]
        exact k _ (f.trans f2)
theorem ok__law_like {P : Program} {w : World} {K : PySem.W.Frag} {mg : Str → Option Value} {base : Heap} (T : Txt K mg) : FnOk P w K mg base CX0 lv__law_like T.f__law_like T.fd__law_like ["_law_found", "_law_due"] (sp__law_like K) := by
  have h0 : FnOk P w K mg base CX0 0 T.f__law_like T.fd__law_like ["_law_found", "_law_due"] (sp_like_n K 0) := ⟨fun vs H Q E h => by obtain ⟨x, y, d, rfl, _⟩ := h; rfl, fun A outer s H args us vs Q E _ _ _ _ h => by
    obtain ⟨x, y, d, _, _, _, _, hn, _⟩ := h
    omega⟩
  exact ok_like_step T (ok_like_step T (ok_like_step T (ok_like_step T (ok_like_step T (ok_like_step T h0)))))
end My
namespace My
open PySem PySem.Spec PyProof.Rows L2 RZ
open LamX (ExtN Tabs TabS TabB CodeO)
theorem bits_eq {n : Int} {i : Nat} (h0 : 0 ≤ n) (h1 : n < 2 ^ i) (h2 : i = 0 ∨ (2 : Int) ^ (i - 1) ≤ n) : Builtin.Int.intBits n = i := by
  obtain ⟨m, rfl⟩ := nat0 h0
  have h1' : m < 2 ^ i := by exact_mod_cast h1
  unfold Builtin.Int.intBits
  rcases Nat.eq_zero_or_pos m with e | e
  · subst e
    rcases h2 with e | e
    · rw [e]; rfl
    · have : (0 : Int) < 2 ^ (i - 1) := Int.pow_pos (by decide)
      omega
  · have hm : ¬ ((m : Int) == 0) = true := by simp; omega
    rw [if_neg hm]
    have hi : i ≠ 0 := by
      intro z
      subst z
      simp at h1'
      omega
    have h2' : 2 ^ (i - 1) ≤ m := by
      rcases h2 with e | e
      · exact absurd e hi
      · exact_mod_cast e
    have e1 : (m : Int).natAbs = m := by omega
    rw [e1]
    have a : Nat.log2 m < i := (Nat.log2_lt (by omega)).mpr h1'
    have b : i - 1 ≤ Nat.log2 m := (Nat.le_log2 (by omega)).mpr h2'
    omega
def sp__law_nots (_ : PySem.W.Frag) : Sp := fun vs H Q _ => ∃ n : Int, vs = [.int n] ∧ 0 ≤ n ∧ n < 2 ^ 150 ∧ ∀ H', Fr N0 H H' → Q (.int (Builtin.Int.intBits n : Nat)) H'
theorem s_nots {K : PySem.W.Frag} {n : Int} {H : Hp} {Q : VK} {E : XK} (h0 : 0 ≤ n) (h1 : n < 2 ^ 150) (q : ∀ H', Fr N0 H H' → Q (.int (Builtin.Int.intBits n : Nat)) H') : sp__law_nots K [.int n] H Q E := ⟨n, rfl, h0, h1, q⟩
theorem ok__law_nots {P : Program} {w : World} {K : PySem.W.Frag} {mg : Str → Option Value} {base : Heap} (T : Txt K mg) : FnOk P w K mg base CX0 lv__law_nots T.f__law_nots T.fd__law_nots ["_law_falls"] (sp__law_nots K) := by
  refine T.F__law_nots.ok sc__law_nots (fun vs H Q E h => ?_) (fun cdv A outer s H vs Q E hr h => ?_)
  · obtain ⟨n, rfl, _⟩ := h
    rfl
  · obtain ⟨n, rfl, h0, h1, k⟩ := h
    refine ⟨_, (pss_cons (ps_asg (pe_tup (pa_cons pe_int (pa_cons pe_int pa_nil))) (pg_tup rfl (pgs_cons (pg_name (i := 1) sc__law_nots.nd rfl (by first | exact .inl rfl | exact .inr rfl)) (pgs_cons (pg_name (i := 2) sc__law_nots.nd rfl (by first | exact .inl rfl | exact .inr rfl)) pgs_nil))))
      (pss_cons (ps_for PassesOwn.never rfl (pi_range1 (by rfl) T.z_range (pa_cons pe_int pa_nil)) (pg_name (i := 3) sc__law_nots.nd rfl (by first | exact .inl rfl | exact .inr rfl))
        (pss_cons (ps_if (pt_cmpR op_gt (pv 2) (pv 0) (by first | exact nomark _ | rfl))
          (pss_one (ps_ret (pv 1)))
          pss_nil)
        (pss_one (ps_par (i := 1) (j := 2) rfl sc__law_nots.nd rfl rfl (by decide) rfl rfl (pa_cons (pe_op (opAddK K) (pv 1) pe_int) (pa_cons (pe_op opMul (pv 2) pe_int) pa_nil)) (by first | rfl | kernel_rfl)))))
      (pss_one (ps_ret (pv 1))))), ?_⟩
    (try dsimp only [cxOf, L2H.cxH, gcxOf, Cx.nox, Cx.wish]); rw [show L2.start _ [(.int n : V)] = [some (.int n), none, none, none] from rfl]
    walk_at "rd"
    refine ⟨sz (by decide), fun p np => ?_⟩
    walk_at "rd"
    have f : Fr N0 H (upd H p (.tup [.int 0, .int 1])) := Fr.new np
    refine for_by walk_range0 (fun i σ H' => ∃ v : Option V, σ = [some (.int n), some (.int (i : Int)), some (.int (2 ^ i)), v] ∧ (i = 0 ∨ (2 : Int) ^ (i - 1) ≤ n) ∧ Fr N0 H H') ⟨none, rfl, .inl rfl, f⟩ (fun _ _ _ _ _ => trivial) ?_ ?_
    · rintro i _ σ H' _ hi ⟨v, rfl, hb, f⟩ ⟨rfl, rfl⟩
      walk_at "rd"
      refine if_dec (fun hc => ?_) (fun hc => ?_)
      · walk_at "rd"
        rw [← bits_eq h0 hc hb]
        exact k _ f
      · walk_at "rd"
        exact ⟨_, by rw [Int.pow_succ]; rfl, .inr (by simpa using hc), f⟩
    · rintro σ H' ⟨v, rfl, hb, f⟩
      exfalso
      rcases hb with e | e
      · cases e
      · have : (2 : Int) ^ 150 ≤ 2 ^ (Int.toNat 200 - 1) := by decide
        omega
end My
namespace My
open PySem PySem.Spec PyProof.Rows L2 RZ
open LamX (ExtN Tabs TabS TabB CodeO)
def sp_law (K : PySem.W.Frag) : Sp := fun vs H Q _ => ∃ (a : Addr) (ns : List Int), vs = [.ref a] ∧ SqL K H a (ns.map V.int) ∧ ns.length ≤ 63 ∧ ∀ H', Q (.bl true) H'
theorem pow2_lt {j : Int} {i : Nat} (h : (i : Int) < j) (h2 : j < 100) : (2 : Int) ^ (i + 1) < 2 ^ 140 := by
  have e : (2 : Int) ^ (i + 1) = ((2 ^ (i + 1) : Nat) : Int) := by simp
  rw [e]
  have : 2 ^ (i + 1) < 2 ^ 140 := Nat.pow_lt_pow_right (by decide) (by omega)
  exact_mod_cast this
theorem bits9 : (List.range 9).map (fun i : Nat => V.int (Builtin.Int.intBits (i : Int) : Nat)) = [.int 0, .int 1, .int 2, .int 2, .int 3, .int 3, .int 3, .int 3, .int 4] := by decide +kernel
theorem ok_law {P : Program} {w : World} {K : PySem.W.Frag} {mg : Str → Option Value} {base : Heap} (T : Txt K mg) : FnOk P w K mg base CX0 lv_law T.f_law T.fd_law ["_law_script"] (sp_law K) := by
  refine T.F_law.ok sc_law (fun vs H Q E h => ?_) (fun cdv A outer s H vs Q E hr h => ?_)
  · obtain ⟨a, ns, rfl, _⟩ := h
    rfl
  · obtain ⟨a, ns, rfl, hS, hl, k⟩ := h
    have G__law_bag := ok__law_bag (P := P) (w := w) (base := base) T; have G__law_great := ok__law_great (P := P) (w := w) (base := base) T; have G__law_like := ok__law_like (P := P) (w := w) (base := base) T; have G__law_nots := ok__law_nots (P := P) (w := w) (base := base) T; have G__law_pull := ok__law_pull (P := P) (w := w) (base := base) T; have G_fewest_nots := ok_fewest_nots (P := P) (w := w) (base := base) T
    refine ⟨_, (pss_cons (ps_set (i := 1) sc_law.nd rfl (by first | exact .inl rfl | exact .inr rfl) (pe_call G__law_bag (hr.mono (by first | decide | omega)) (by rfl) T.g__law_bag T.F__law_bag.kp T.b__law_bag .nil pass0 (pa_cons (pv 0) pa_nil)))
      (pss_cons (ps_for PassesOwn.never rfl (pi_range1 (by rfl) T.z_range (pa_cons pe_int pa_nil)) (pg_name (i := 2) sc_law.nd rfl (by first | exact .inl rfl | exact .inr rfl))
        (pss_cons (ps_set (i := 3) sc_law.nd rfl (by first | exact .inl rfl | exact .inr rfl) pe_int)
        (pss_cons (ps_for PassesOwn.never rfl (pi_range1 (by rfl) T.z_range (pa_cons (pe_call G__law_pull (hr.mono (by first | decide | omega)) (by rfl) T.g__law_pull T.F__law_pull.kp T.b__law_pull .nil pass0 (pa_cons (pv 1) (pa_cons pe_int pa_nil))) pa_nil)) (pg_name (i := 4) sc_law.nd rfl (by first | exact .inl rfl | exact .inr rfl))
          (pss_one (ps_set (i := 3) sc_law.nd rfl (by first | exact .inl rfl | exact .inr rfl) (pe_op opMul (pv 3) pe_int))))
        (pss_one (ps_for PassesOwn.never rfl (pi_listK K (pe_lst (pa_cons (pv 3) (pa_cons (pe_op op_sub (pv 3) pe_int) (pa_cons (pe_op (opAddK K) (pv 3) pe_int) (pa_cons (pe_call G__law_great (hr.mono (by first | decide | omega)) (by rfl) T.g__law_great T.F__law_great.kp T.b__law_great .nil pass0 (pa_cons (pv 1) pa_nil)) (pa_cons (pe_call G__law_pull (hr.mono (by first | decide | omega)) (by rfl) T.g__law_pull T.F__law_pull.kp T.b__law_pull .nil pass0 (pa_cons (pv 1) (pa_cons pe_int pa_nil))) pa_nil))))))) (pg_name (i := 5) sc_law.nd rfl (by first | exact .inl rfl | exact .inr rfl))
          (pss_one (ps_if (pt_not (pt_val (pe_call G__law_like (hr.mono (by first | decide | omega)) (by rfl) T.g__law_like T.F__law_like.kp T.b__law_like .nil pass0 (pa_cons (pe_call G_fewest_nots (hr.mono (by first | decide | omega)) (by rfl) T.g_fewest_nots T.F_fewest_nots.kp T.b_fewest_nots .nil pass0 (pa_cons (pv 5) pa_nil)) (pa_cons (pe_call G__law_nots (hr.mono (by first | decide | omega)) (by rfl) T.g__law_nots T.F__law_nots.kp T.b__law_nots .nil pass0 (pa_cons (pv 5) pa_nil)) pa_nil)))))
            (pss_one (ps_ret pe_bl))
            pss_nil)))))))
      (pss_one (ps_ret (pe_cmpR (opEqK K hr.units) (pe_lc (own := [("_law_falls", 5)]) (g := (gName 5)) (tt := tYes) rfl sc_law.nd (pi_range1 (by rfl) T.z_range (pa_cons pe_int pa_nil)) (blkOk_by (N := ["_law_script", "_law_bag_here", "_law_turn", "_law_power", "_law_again", "_law_falls"]) (sc := defScope s_law) (by decide +kernel)) (fun _ _ _ _ _ => (pg_name (i := 5) sc_law.nd rfl (by first | exact .inl rfl | exact .inr rfl))) (fun _ _ _ _ _ => pts_nil) (fun _ _ _ _ _ => (pe_call G_fewest_nots (hr.mono (by first | decide | omega)) (by rfl) T.g_fewest_nots T.F_fewest_nots.kp T.b_fewest_nots .nil pass0 (pa_cons (pv 5) pa_nil)))) (pe_lst (pa_cons pe_int (pa_cons pe_int (pa_cons pe_int (pa_cons pe_int (pa_cons pe_int (pa_cons pe_int (pa_cons pe_int (pa_cons pe_int (pa_cons pe_int pa_nil)))))))))) (by first | exact nomark _ | rfl)))))), ?_⟩
    (try dsimp only [cxOf, L2H.cxH, gcxOf, Cx.nox, Cx.wish]); rw [show L2.start _ [(.ref a : V)] = [some (.ref a), none, none, none, none, none] from rfl]
    walk_at "rd"
    refine ⟨a, ns, rfl, hS, hl, fun b H1 nb B f => ?_⟩
    walk_at "rd"
    refine for_by walk_range0 (fun i σ H' => ∃ v2 v3 v4 v5 : Option V, σ = [some (.ref a), some (.ref b), v2, v3, v4, v5] ∧ Bag b H') ⟨_, _, _, _, rfl, B⟩ (fun _ _ _ _ _ => trivial) ?_ ?_
    · rintro i _ σ H' _ hi ⟨v2, v3, v4, v5, rfl, B⟩ ⟨rfl, rfl⟩
      walk_at "rd"
      refine s_pull B (by decide) fun r H1 r0 r1 B1 f1 => ?_
      walk_at "rd"
      refine for_by walk_range0 (fun j σ H' => ∃ v4 : Option V, σ = [some (.ref a), some (.ref b), some (.int (i : Int)), some (.int (2 ^ j)), v4, v5] ∧ Bag b H' ∧ (2 : Int) ^ j < 2 ^ 140) ⟨_, by rw [Int.pow_zero], B1, by decide⟩ (fun _ _ _ _ _ => trivial) ?_ ?_
      · rintro j _ σ H2 _ hj ⟨v4, rfl, B, hb⟩ ⟨rfl, rfl⟩
        walk_at "rd"
        exact ⟨_, by rw [Int.pow_succ], B, pow2_lt (j := r) (by omega) r1⟩
      · rintro σ H2 ⟨v4, rfl, B, hb⟩
        have hb0 : (0 : Int) < 2 ^ r.toNat := Int.pow_pos (by decide)
        generalize (2 : Int) ^ r.toNat = z at hb hb0 ⊢
        walk_at "rd"
        refine s_great B fun g H3 g0 g1 B3 f3 => ?_
        walk_at "rd"
        refine s_pull B3 (by decide) fun q H4 q0 q1 B4 f4 => ?_
        walk_at "rd"
        refine ⟨szb rfl, fun p np => ?_⟩
        walk_at "rd"
        have hg : (1000 : Int) * 1000000000 ^ 3 < 2 ^ 140 := by decide
        have hall : ∀ n ∈ [z, z - 1, z + 1, g, q], 0 ≤ n ∧ n < 2 ^ 150 := by
          have : (2 : Int) ^ 140 + 1 < 2 ^ 150 := by decide
          intro n hn
          simp only [List.mem_cons, List.not_mem_nil, or_false] at hn
          rcases hn with rfl | rfl | rfl | rfl | rfl <;> omega
        have fp : Fr N0 H4 (upd H4 p (.lst [.int z, .int (z - 1), .int (z + 1), .int g, .int q])) := Fr.new np
        refine for_by (walk_list (xs := [z, z - 1, z + 1, g, q].map V.int)) (fun j σ H' => ∃ v5 : Option V, σ = [some (.ref a), some (.ref b), some (.int (i : Int)), some (.int z), v4, v5] ∧ Fr N0 (upd H4 p (.lst [.int z, .int (z - 1), .int (z + 1), .int g, .int q])) H') ⟨_, rfl, .refl⟩ (fun _ _ H' _ ⟨_, _, f⟩ => f.rdL (SqL.of upd_same) id) ?_ ?_
        · rintro j x σ H' _ hj ⟨v5, rfl, f⟩ ⟨rfl, hx⟩
          rw [List.getElem?_map] at hx
          cases e : [z, z - 1, z + 1, g, q][j]? with
          | none => rw [e] at hx; cases hx
          | some n =>
            rw [e] at hx
            cases hx
            obtain ⟨n0, n1⟩ := hall n (List.mem_of_getElem? e)
            walk_at "rd"
            refine ⟨n, rfl, ?_⟩
            walk_at "rd"
            refine s_nots n0 n1 fun H5 f5 => ?_
            walk_at "rd"
            refine s_like (Hd.int _) (Hd.int _) rfl (Nat.succ_pos _) fun H6 f6 => ?_
            walk_at "rd"
            exact ⟨_, rfl, (f.trans f5).trans f6⟩
        · rintro σ H' ⟨v5, rfl, f⟩
          exact ⟨_, _, _, _, rfl, (B4.fr fp).fr f⟩
    · rintro σ H' ⟨v2, v3, v4, v5, rfl, B⟩
      walk_at "rd"
      refine lc_by walk_range0 (fun D i acc H2 => acc = (List.range i).map (fun i : Nat => V.int (Builtin.Int.intBits (i : Int) : Nat))) (by walk_at "wipe") (fun D hD => rfl) (fun _ _ _ _ _ _ => trivial) ?_ ?_
      · rintro D i acc _ H2 _ hD hi hal rfl hDl ⟨rfl, rfl⟩
        walk_at "rd"
        refine ⟨rfl, ?_⟩
        walk_at "rd"
        refine ⟨_, rfl, ?_⟩
        refine pvx_add hDl hal (Nat.lt_trans hi (by decide)) ?_
        rw [List.range_succ, List.map_append]
        simp
      · rintro D acc H2 hD rfl hDl
        rw [show (List.range (Int.toNat 9)) = List.range 9 from rfl, bits9] at hDl
        walk_at "rd"
        refine ⟨szb rfl, fun p np => ?_⟩
        have fp : Fr N0 H2 (upd H2 p (.lst [.int 0, .int 1, .int 2, .int 2, .int 3, .int 3, .int 3, .int 3, .int 4])) := Fr.new np
        have hd : HdL N0 K (upd H2 p (.lst [.int 0, .int 1, .int 2, .int 2, .int 3, .int 3, .int 3, .int 3, .int 4])) [.int 0, .int 1, .int 2, .int 2, .int 3, .int 3, .int 3, .int 3, .int 4] [.int 0, .int 1, .int 2, .int 2, .int 3, .int 3, .int 3, .int 3, .int 4] := by
          repeat first | exact HdL.nil | refine HdL.cons (Hd.int _) ?_
        refine s_eqD (Hd.lst (fp.keep _ _ hDl id) id hd) (Hd.lst upd_same id hd) (by decide +kernel) (by decide +kernel) ?_
        rw [show PyData.eqv (.list [.int 0, .int 1, .int 2, .int 2, .int 3, .int 3, .int 3, .int 3, .int 4]) (.list [.int 0, .int 1, .int 2, .int 2, .int 3, .int 3, .int 3, .int 3, .int 4]) = true from by decide +kernel]
        exact k _
end My
namespace My
open PySem PySem.Spec PyProof.Rows L2 RZ
open LamX (ExtN Tabs TabS TabB CodeO)
theorem all_mk {l : PySem.W.OpenLaw} {w : World} {K : PySem.W.Frag} {h : Heap} {mg : Str → Option Value} {fa : Addr} (X : K.In h) (G : h.Ns mainGlobals mg) (hfa : mg "law" = some (.ref fa))
    {od0 an0 : Option Addr} {sl0 : Array (Option Value)} {oc0 kV0 dc0 pm0 ct0 : Value} {f0 : Addr} {cd0 : Value} {od1 an1 : Option Addr} {sl1 : Array (Option Value)} {oc1 kV1 dc1 pm1 ct1 : Value} {f1 : Addr} {cd1 : Value} {od2 an2 : Option Addr} {sl2 : Array (Option Value)} {oc2 kV2 dc2 pm2 ct2 : Value} {f2 : Addr} {cd2 : Value} {od3 an3 : Option Addr} {sl3 : Array (Option Value)} {oc3 kV3 dc3 pm3 ct3 : Value} {f3 : Addr} {cd3 : Value} {od4 an4 : Option Addr} {sl4 : Array (Option Value)} {oc4 kV4 dc4 pm4 ct4 : Value} {f4 : Addr} {cd4 : Value} {od5 an5 : Option Addr} {sl5 : Array (Option Value)} {oc5 kV5 dc5 pm5 ct5 : Value} {f5 : Addr} {cd5 : Value} {od6 an6 : Option Addr} {sl6 : Array (Option Value)} {oc6 kV6 dc6 pm6 ct6 : Value} {f6 : Addr} {cd6 : Value}
    (a0 : PySem.W.nsIn K mainGlobals "fewest_nots" = some (some (.ref f0)))
    (l0 : K.lookup f0 = some ⟨oc0, od0, .func (PySem.W.fnOf "fewest_nots" "fewest_nots" (defArgs s_fewest_nots) (defBody s_fewest_nots) (defScope s_fewest_nots) .none kV0 dc0 pm0 an0 cd0 ct0), sl0⟩)
    (c0 : PySem.W.codeIn K cd0 "fewest_nots" = true)
    (k0 : PySem.W.keepIn K (.ref f0) = true)
    (a1 : PySem.W.nsIn K mainGlobals "_law_bag" = some (some (.ref f1)))
    (l1 : K.lookup f1 = some ⟨oc1, od1, .func (PySem.W.fnOf "_law_bag" "_law_bag" (defArgs s__law_bag) (defBody s__law_bag) (defScope s__law_bag) .none kV1 dc1 pm1 an1 cd1 ct1), sl1⟩)
    (c1 : PySem.W.codeIn K cd1 "_law_bag" = true)
    (k1 : PySem.W.keepIn K (.ref f1) = true)
    (a2 : PySem.W.nsIn K mainGlobals "_law_pull" = some (some (.ref f2)))
    (l2 : K.lookup f2 = some ⟨oc2, od2, .func (PySem.W.fnOf "_law_pull" "_law_pull" (defArgs s__law_pull) (defBody s__law_pull) (defScope s__law_pull) .none kV2 dc2 pm2 an2 cd2 ct2), sl2⟩)
    (c2 : PySem.W.codeIn K cd2 "_law_pull" = true)
    (k2 : PySem.W.keepIn K (.ref f2) = true)
    (a3 : PySem.W.nsIn K mainGlobals "_law_great" = some (some (.ref f3)))
    (l3 : K.lookup f3 = some ⟨oc3, od3, .func (PySem.W.fnOf "_law_great" "_law_great" (defArgs s__law_great) (defBody s__law_great) (defScope s__law_great) .none kV3 dc3 pm3 an3 cd3 ct3), sl3⟩)
    (c3 : PySem.W.codeIn K cd3 "_law_great" = true)
    (k3 : PySem.W.keepIn K (.ref f3) = true)
    (a4 : PySem.W.nsIn K mainGlobals "_law_like" = some (some (.ref f4)))
    (l4 : K.lookup f4 = some ⟨oc4, od4, .func (PySem.W.fnOf "_law_like" "_law_like" (defArgs s__law_like) (defBody s__law_like) (defScope s__law_like) .none kV4 dc4 pm4 an4 cd4 ct4), sl4⟩)
    (c4 : PySem.W.codeIn K cd4 "_law_like" = true)
    (k4 : PySem.W.keepIn K (.ref f4) = true)
    (a5 : PySem.W.nsIn K mainGlobals "_law_nots" = some (some (.ref f5)))
    (l5 : K.lookup f5 = some ⟨oc5, od5, .func (PySem.W.fnOf "_law_nots" "_law_nots" (defArgs s__law_nots) (defBody s__law_nots) (defScope s__law_nots) .none kV5 dc5 pm5 an5 cd5 ct5), sl5⟩)
    (c5 : PySem.W.codeIn K cd5 "_law_nots" = true)
    (k5 : PySem.W.keepIn K (.ref f5) = true)
    (a6 : PySem.W.nsIn K mainGlobals "law" = some (some (.ref f6)))
    (l6 : K.lookup f6 = some ⟨oc6, od6, .func (PySem.W.fnOf "law" "law" (defArgs s_law) (defBody s_law) (defScope s_law) .none kV6 dc6 pm6 an6 cd6 ct6), sl6⟩)
    (c6 : PySem.W.codeIn K cd6 "law" = true)
    (k6 : PySem.W.keepIn K (.ref f6) = true)
    (z0 : PySem.W.nsIn K mainGlobals "all" = some none)
    (z1 : PySem.W.nsIn K mainGlobals "bool" = some none)
    (z2 : PySem.W.nsIn K mainGlobals "dict" = some none)
    (z3 : PySem.W.nsIn K mainGlobals "int" = some none)
    (z4 : PySem.W.nsIn K mainGlobals "isinstance" = some none)
    (z5 : PySem.W.nsIn K mainGlobals "len" = some none)
    (z6 : PySem.W.nsIn K mainGlobals "list" = some none)
    (z7 : PySem.W.nsIn K mainGlobals "range" = some none)
    (z8 : PySem.W.nsIn K mainGlobals "str" = some none)
    (z9 : PySem.W.nsIn K mainGlobals "tuple" = some none)
    (z10 : PySem.W.nsIn K mainGlobals "zip" = some none) :
    ∃ fd : FuncData, (∀ (s : Shared) (v : Value), BindsTo s fd ⟨[v], []⟩ [("_law_script", v)]) ∧ ∀ base : Heap, K.In base → base.Ns mainGlobals mg → FnOk l.prog w K mg base CX0 lv_law fa fd ["_law_script"] (sp_law K) := by
  have e := hfa.symm.trans (PySem.W.mg_of X G a6)
  cases e
  have F0 := fun_mk (st := s_fewest_nots) l0 c0 k0
  have b0 := F0.binds (ps := ["falls"]) fun _ _ _ _ _ _ us hl => match us, hl with | [_], _ => rfl
  have F1 := fun_mk (st := s__law_bag) l1 c1 k1
  have b1 := F1.binds (ps := ["_law_script"]) fun _ _ _ _ _ _ us hl => match us, hl with | [_], _ => rfl
  have F2 := fun_mk (st := s__law_pull) l2 c2 k2
  have b2 := F2.binds (ps := ["_law_bag_here", "_law_many"]) fun _ _ _ _ _ _ us hl => match us, hl with | [_, _], _ => rfl
  have F3 := fun_mk (st := s__law_great) l3 c3 k3
  have b3 := F3.binds (ps := ["_law_bag_here"]) fun _ _ _ _ _ _ us hl => match us, hl with | [_], _ => rfl
  have F4 := fun_mk (st := s__law_like) l4 c4 k4
  have b4 := F4.binds (ps := ["_law_found", "_law_due"]) fun _ _ _ _ _ _ us hl => match us, hl with | [_, _], _ => rfl
  have F5 := fun_mk (st := s__law_nots) l5 c5 k5
  have b5 := F5.binds (ps := ["_law_falls"]) fun _ _ _ _ _ _ us hl => match us, hl with | [_], _ => rfl
  have F6 := fun_mk (st := s_law) l6 c6 k6
  have b6 := F6.binds (ps := ["_law_script"]) fun _ _ _ _ _ _ us hl => match us, hl with | [_], _ => rfl
  let T : Txt K mg := { f_fewest_nots := f0, fd_fewest_nots := _, F_fewest_nots := F0, b_fewest_nots := b0, g_fewest_nots := PySem.W.mg_of X G a0, f__law_bag := f1, fd__law_bag := _, F__law_bag := F1, b__law_bag := b1, g__law_bag := PySem.W.mg_of X G a1, f__law_pull := f2, fd__law_pull := _, F__law_pull := F2, b__law_pull := b2, g__law_pull := PySem.W.mg_of X G a2, f__law_great := f3, fd__law_great := _, F__law_great := F3, b__law_great := b3, g__law_great := PySem.W.mg_of X G a3, f__law_like := f4, fd__law_like := _, F__law_like := F4, b__law_like := b4, g__law_like := PySem.W.mg_of X G a4, f__law_nots := f5, fd__law_nots := _, F__law_nots := F5, b__law_nots := b5, g__law_nots := PySem.W.mg_of X G a5, f_law := fa, fd_law := _, F_law := F6, b_law := b6, g_law := PySem.W.mg_of X G a6, z_all := PySem.W.mg_none_of X G z0, z_bool := PySem.W.mg_none_of X G z1, z_dict := PySem.W.mg_none_of X G z2, z_int := PySem.W.mg_none_of X G z3, z_isinstance := PySem.W.mg_none_of X G z4, z_len := PySem.W.mg_none_of X G z5, z_list := PySem.W.mg_none_of X G z6, z_range := PySem.W.mg_none_of X G z7, z_str := PySem.W.mg_none_of X G z8, z_tuple := PySem.W.mg_none_of X G z9, z_zip := PySem.W.mg_none_of X G z10 }
  exact ⟨PySem.W.fnOf "law" "law" (defArgs s_law) (defBody s_law) (defScope s_law) .none kV6 dc6 pm6 an6 cd6 ct6, fun s v => .of_eq rfl, fun base _ _ => ok_law T⟩
end My
open PySem PySem.W PyProof.Rows
set_option maxRecDepth 100000 in
set_option maxHeartbeats 0 in
theorem PySem.Challenge.cw_sparenots_k37_fewest_numbers_holds : PySem.Challenge.rw_sparenots_k37_fewest_numbers.Holds := by
  w_on; o_law; k_head; (case hw => w_witness2)
  k_fill
  refine L2.walk_of (l := PySem.Challenge.rw_sparenots_k37_fewest_numbers) (n := 63) (k := My.lv_law) (x := "_law_script") (CX := fun _ => L2.CX0) (sp := fun w => My.sp_law _) rfl (by decide) rfl ⟨rfl, by decide, by decide⟩ (fun w h Y => PySem.W.kIn_of Y) ?F (fun _ _ a ns hl _ hS => ⟨a, ns, rfl, hS, hl, fun _ => rfl⟩) (fun _ _ _ _ _ h => h)
  case F =>
    intro w mg fa h KX G hmg
    refine' My.all_mk KX G hmg ?a0 ?l0 ?c0 ?k0 ?a1 ?l1 ?c1 ?k1 ?a2 ?l2 ?c2 ?k2 ?a3 ?l3 ?c3 ?k3 ?a4 ?l4 ?c4 ?k4 ?a5 ?l5 ?c5 ?k5 ?a6 ?l6 ?c6 ?k6 ?z0 ?z1 ?z2 ?z3 ?z4 ?z5 ?z6 ?z7 ?z8 ?z9 ?z10
    (case a0 => k_is)
    (case l0 => k_is)
    (case c0 => k_is)
    (case k0 => k_is)
    (case a1 => k_is)
    (case l1 => k_is)
    (case c1 => k_is)
    (case k1 => k_is)
    (case a2 => k_is)
    (case l2 => k_is)
    (case c2 => k_is)
    (case k2 => k_is)
    (case a3 => k_is)
    (case l3 => k_is)
    (case c3 => k_is)
    (case k3 => k_is)
    (case a4 => k_is)
    (case l4 => k_is)
    (case c4 => k_is)
    (case k4 => k_is)
    (case a5 => k_is)
    (case l5 => k_is)
    (case c5 => k_is)
    (case k5 => k_is)
    (case a6 => k_is)
    (case l6 => k_is)
    (case c6 => k_is)
    (case k6 => k_is)
    (case z0 => k_is)
    (case z1 => k_is)
    (case z2 => k_is)
    (case z3 => k_is)
    (case z4 => k_is)
    (case z5 => k_is)
    (case z6 => k_is)
    (case z7 => k_is)
    (case z8 => k_is)
    (case z9 => k_is)
    (case z10 => k_is)
