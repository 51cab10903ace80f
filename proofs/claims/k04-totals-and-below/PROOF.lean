import PyProof.Rows.All
import Wide.All
import OpenK.AllK
import Wide.FinOn
import HandS.ForMost
import HandS.ForExc
import HandS.Evl
import HandS.IsInst
import HandS.Wide
import HandS.WideBits
import HandS.TupAny
import HandS.Flow
import HandS.Walk
import HandS.Zip
import HandS.ExcInit
import HandS.ExcField
import HandS.TryMany
import HandS.HotCalls
import HandS.Lambda
import HandS.Nested
import HandS.EndOwn
import HandS.GenCall
import HandS.GenList
import HandS.FStr
import HandS.SortKw
import HandS.Replace
import HandS.TupMul
import KE.DatumOrd
import KE.GoesMore
import KE.GoesEnum
import KE.GoesZip
import KE.KOpsOwn
import KE.KCallOwn
import HandS.ClsMeth
import KE.KeyNested
import KE.SortData
import KE.KDictPairs
import HandS.Set
import HandS.SetTxt0
import HandS.SetBool
import KE.GoesSet
import HandS.Conv
import HandS.Iter
import HandS.DictComp
import KE.GoesRaise
import HandS.Defaults
import HandS.MakeKw
import HandS.MakeKwOnly
import HandS.Property
import HandS.OwnEq
import HandS.RaiseMore
import HandS.Style
import HandS.Star
import KE.SortKeyHeap
import PySem.Challenge.RW_sparenots_k04_totals_and_below
set_option Elab.async false
set_option linter.all false
set_option maxRecDepth 100000
set_option maxHeartbeats 4000000
namespace My
open PySem PySem.Spec PyProof.Rows L2 RZ
abbrev St := L2.St
def rPar (i j : Nat) (σ : St) (nx : St → Hp → Prop) : List V → Hp → Prop := fun vs H => ∃ v w, vs = [v, w] ∧ nx ((σ.set i (some v)).set j (some w)) H
section steps
variable {σ σ' : St} {H H1 : Hp} {i j : Nat} {v x y z : V} {ta tb te tc : TE} {t u : TS} {c c' : TT} {b : Bool} {K : PySem.W.Frag} {a p : Addr} {Q : VK} {QT : Bool → Hp → Prop} {nx bk ct : St → Hp → Prop} {rt : VK} {tr : TA} {QA : List V → Hp → Prop}
theorem s_var (h : σ[i]? = some (some v)) (q : Q v H) : tVar i σ H Q := ⟨v, h, q⟩
theorem s_c (q : Q v H) : tC v σ H Q := q
theorem s_op {r : R2} (h : ta σ H fun x H1 => tb σ H1 fun y H2 => r x y H2 Q) : tOp r ta tb σ H Q := h
theorem s_un {r : V → Hp → VK → Prop} (h : ta σ H fun x H1 => r x H1 Q) : tUn r ta σ H Q := h
theorem s_rI0 {g : Int → Int → V} {m n : Int} (q : Q (g m n) H) : rI0 g (.int m) (.int n) H Q := ⟨m, n, rfl, rfl, q⟩
theorem s_rI {C : Int → Int → Prop} {g : Int → Int → V} {m n : Int} (hc : C m n) (q : Q (g m n) H) : rI C g (.int m) (.int n) H Q := ⟨m, n, rfl, rfl, hc, q⟩
theorem s_rU {g : Int → V} {m : Int} (q : Q (g m) H) : rU g (.int m) H Q := ⟨m, rfl, q⟩
theorem s_rEqI {m n : Int} (q : Q (.bl (decide (m = n))) H) : rEq (.int m) (.int n) H Q := ⟨rfl, by
  have e : decide (V.int m = V.int n) = decide (m = n) := decide_eq_decide.mpr ⟨fun h => V.int.inj h, fun h => by rw [h]⟩
  rw [e]; exact q⟩
theorem s_rNeI {m n : Int} (q : Q (.bl (!decide (m = n))) H) : rNe (.int m) (.int n) H Q := ⟨rfl, by
  have e : decide (V.int m = V.int n) = decide (m = n) := decide_eq_decide.mpr ⟨fun h => V.int.inj h, fun h => by rw [h]⟩
  rw [e]; exact q⟩
theorem s_rEqS {m n : Str} (q : Q (.bl (decide (m = n))) H) : rEq (.str m) (.str n) H Q := ⟨rfl, by
  have e : decide (V.str m = V.str n) = decide (m = n) := decide_eq_decide.mpr ⟨fun h => V.str.inj h, fun h => by rw [h]⟩
  rw [e]; exact q⟩
theorem s_rNeS {m n : Str} (q : Q (.bl (!decide (m = n))) H) : rNe (.str m) (.str n) H Q := ⟨rfl, by
  have e : decide (V.str m = V.str n) = decide (m = n) := decide_eq_decide.mpr ⟨fun h => V.str.inj h, fun h => by rw [h]⟩
  rw [e]; exact q⟩
theorem s_rEqB {m n : Bool} (q : Q (.bl (decide (m = n))) H) : rEq (.bl m) (.bl n) H Q := ⟨rfl, by
  have e : decide (V.bl m = V.bl n) = decide (m = n) := decide_eq_decide.mpr ⟨fun h => V.bl.inj h, fun h => by rw [h]⟩
  rw [e]; exact q⟩
theorem s_rNeB {m n : Bool} (q : Q (.bl (!decide (m = n))) H) : rNe (.bl m) (.bl n) H Q := ⟨rfl, by
  have e : decide (V.bl m = V.bl n) = decide (m = n) := decide_eq_decide.mpr ⟨fun h => V.bl.inj h, fun h => by rw [h]⟩
  rw [e]; exact q⟩
theorem s_test (h : te σ H fun x H' => ∃ k, x = .bl k ∧ QT k H') : tTest te σ H QT := h
theorem s_B (h : te σ H fun x H' => ∃ k, x = .bl k ∧ QT k H') : tB te σ H QT := h
theorem s_and (h : c σ H fun k H1 => if k = true then c' σ H1 QT else QT false H1) : tAnd c c' σ H QT := h
theorem s_or (h : c σ H fun k H1 => if k = true then QT true H1 else c' σ H1 QT) : tOr c c' σ H QT := h
theorem s_not (h : c σ H fun k H1 => QT (!k) H1) : tNot c σ H QT := h
theorem s_andV (h : ta σ H fun x H1 => ∃ k, x = .bl k ∧ if k = true then tb σ H1 Q else Q (.bl false) H1) : tAndV ta tb σ H Q := h
theorem s_orV (h : ta σ H fun x H1 => ∃ k, x = .bl k ∧ if k = true then Q (.bl true) H1 else tb σ H1 Q) : tOrV ta tb σ H Q := h
theorem s_notV (h : ta σ H fun x H1 => ∃ k, x = .bl k ∧ Q (.bl (!k)) H1) : tNotV ta σ H Q := h
theorem s_exbP {P : Bool → Prop} (q : P b) : ∃ k, V.bl b = .bl k ∧ P k := ⟨b, rfl, q⟩
theorem s_if (h : c σ H fun k H1 => if k = true then ta σ H1 Q else tb σ H1 Q) : tIf c ta tb σ H Q := h
theorem s_nil (q : QA [] H) : tNil σ H QA := q
theorem s_cons (h : ta σ H fun x H1 => tr σ H1 fun xs H2 => QA (x :: xs) H2) : tCons ta tr σ H QA := h
theorem s_tup (h : tr σ H fun xs H1 => xs.length ≤ sizeLine ∧ ∀ p, H1 p = none → Q (.ref p) (upd H1 p (.tup xs))) : tTup tr σ H Q := h
theorem s_lst (h : tr σ H fun xs H1 => xs.length ≤ sizeLine ∧ ∀ p, H1 p = none → Q (.ref p) (upd H1 p (.lst xs))) : tLst tr σ H Q := h
theorem s_CB {r : List V → Hp → VK → Prop} (h : tr σ H fun vs H1 => r vs H1 Q) : tCB r tr σ H Q := h
theorem s_BM {T : String} {r : V → List V → Hp → VK → Prop} (h : te σ H fun x H1 => tyV K T x H1 ∧ tr σ H1 fun xs H2 => r x xs H2 Q) : tBM K T r te tr σ H Q := h
theorem s_BM0 {T : String} {r : V → List V → Hp → VK → Prop} (h : te σ H fun x H1 => tyV K T x H1 ∧ r x [] H1 Q) : tBM0 K T r te σ H Q := h
theorem s_call {sp : Sp} {E : XK} (h : tr σ H fun vs H1 => sp vs H1 Q E) : tCall sp [] E tr σ H Q := by
  unfold tCall
  simpa only [List.append_nil] using h
theorem s_seq (h : t ⟨fun σ' H' => u ⟨nx, rt, bk, ct⟩ σ' H', rt, bk, ct⟩ σ H) : tSeq t u ⟨nx, rt, bk, ct⟩ σ H := h
theorem s_ret (h : te σ H rt) : tRet te ⟨nx, rt, bk, ct⟩ σ H := h
theorem s_retN (h : rt .non H) : tRetN ⟨nx, rt, bk, ct⟩ σ H := h
theorem s_next (h : nx σ H) : tNext ⟨nx, rt, bk, ct⟩ σ H := h
theorem s_break (h : bk σ H) : tBreak ⟨nx, rt, bk, ct⟩ σ H := h
theorem s_cont (h : ct σ H) : tCont ⟨nx, rt, bk, ct⟩ σ H := h
theorem s_asg {g : TG} (h : te σ H fun x H1 => g x σ H1 nx) : tAsg te g ⟨nx, rt, bk, ct⟩ σ H := h
theorem s_name (e : σ.set i (some v) = σ') (h : nx σ' H) : gName i v σ H nx := by unfold gName; rw [e]; exact h
theorem s_drop (h : te σ H fun _ H1 => nx σ H1) : tDrop te ⟨nx, rt, bk, ct⟩ σ H := h
theorem s_ifS (h : c σ H fun k H1 => if k = true then t ⟨nx, rt, bk, ct⟩ σ H1 else u ⟨nx, rt, bk, ct⟩ σ H1) : tIfS c t u ⟨nx, rt, bk, ct⟩ σ H := h
theorem s_par (h : tr σ H fun vs H1 => rPar i j σ nx vs H1) : tPar i j tr ⟨nx, rt, bk, ct⟩ σ H := h
theorem s_par2 (e : (σ.set i (some v)).set j (some x) = σ') (h : nx σ' H) : rPar i j σ nx [v, x] H := ⟨v, x, rfl, by rw [e]; exact h⟩
theorem s_sub {ti to : TE} {s : TSet} {w : V} (h : to σ H fun o H1 => ti σ H1 fun i H2 => s o i w H2 fun H3 => nx σ H3) : gSub to ti s w σ H nx := h
theorem s_setL {xs : List V} {k : Int} {n : Nat} {w : V} {R : Hp → Prop} (h : H p = some (.lst xs)) (e : ixN xs.length k = some n) (q : R (upd H p (.lst (xs.set n w)))) : rSetL (.ref p) (.int k) w H R := ⟨p, xs, k, n, rfl, rfl, h, e, q⟩
theorem s_ixL {xs : List V} {k : Int} (h : SqL K H p xs) (e : atI xs k = some v) (q : Q v H) : rIx K (.ref p) (.int k) H Q := .inl ⟨p, xs, k, v, rfl, rfl, h, e, q⟩
theorem s_ixT {xs : List V} {k : Int} (h : SqT K H p xs) (e : atI xs k = some v) (q : Q v H) : rIx K (.ref p) (.int k) H Q := .inr (.inl ⟨p, xs, k, v, rfl, rfl, h, e, q⟩)
end steps
/-- tests -/
theorem if_dec {p A B : Prop} [Decidable p] (h1 : p → A) (h2 : ¬ p → B) : if decide p = true then A else B := by
  by_cases h : p
  · rw [if_pos (decide_eq_true h)]; exact h1 h
  · rw [if_neg (by rw [decide_eq_false h]; exact Bool.false_ne_true)]; exact h2 h
theorem ite_t {b : Bool} {A B : Prop} (e : b = true) (h : A) : if b = true then A else B := by rw [if_pos e]; exact h
theorem ite_f {b : Bool} {A B : Prop} (e : b = false) (h : B) : if b = true then A else B := by rw [if_neg (by rw [e]; exact Bool.false_ne_true)]; exact h
theorem ndec_t {p : Prop} [Decidable p] (h : ¬ p) : (!decide p) = true := by rw [decide_eq_false h]; rfl
theorem ndec_f {p : Prop} [Decidable p] (h : p) : (!decide p) = false := by rw [decide_eq_true h]; rfl
theorem szb {n : Nat} (h : Nat.ble n 1000 = true) : n ≤ sizeLine := Nat.le_trans (Nat.le_of_ble_eq_true h) (by decide)
theorem sz {n : Nat} (h : n ≤ 1000) : n ≤ sizeLine := Nat.le_trans h (by decide)
def rAddG (K : PySem.W.Frag) : R2 := fun x y H Q => rI0 (fun i j => .int (i + j)) x y H Q ∨ (∃ i j, x = .str i ∧ y = .str j ∧ i.length + j.length ≤ sizeLine ∧ Q (.str (i ++ j)) H) ∨ rCatA K x y H Q ∨ rCat x y H Q
theorem opAdd {X : Cx} : OpR X (binaryOp .Add) (rAddG X.K) := op_add.or (op_add_str.or (op_catA.or op_cat))
def rEqG' (K : PySem.W.Frag) : R2 := fun x y H Q => rEq x y H Q ∨ rEqD K x y H Q
def rNeG' (K : PySem.W.Frag) : R2 := fun x y H Q => rNe x y H Q ∨ rNeD K x y H Q
theorem opEq {X : Cx} (hu : X.A.units + 64 < cLine) : OpR X (compareOp .Eq) (rEqG' X.K) := op_eq.or (op_eqD hu)
theorem opNe {X : Cx} (hu : X.A.units + 64 < cLine) : OpR X (compareOp .NotEq) (rNeG' X.K) := op_ne.or (op_neD hu)
section
variable {K : PySem.W.Frag} {H : Hp} {Q : VK} {x y : V} {m n : Int} {s t : Str}
theorem s_addI (q : Q (.int (m + n)) H) : rAddG K (.int m) (.int n) H Q := .inl (s_rI0 q)
theorem s_eqI (q : Q (.bl (decide (m = n))) H) : rEqG' K (.int m) (.int n) H Q := .inl (s_rEqI q)
theorem s_neI (q : Q (.bl (!decide (m = n))) H) : rNeG' K (.int m) (.int n) H Q := .inl (s_rNeI q)
theorem s_eqS (q : Q (.bl (decide (s = t))) H) : rEqG' K (.str s) (.str t) H Q := .inl (s_rEqS q)
theorem s_neS (q : Q (.bl (!decide (s = t))) H) : rNeG' K (.str s) (.str t) H Q := .inl (s_rNeS q)
theorem s_eqB {b c : Bool} (q : Q (.bl (decide (b = c))) H) : rEqG' K (.bl b) (.bl c) H Q := .inl (s_rEqB q)
theorem s_neB {b c : Bool} (q : Q (.bl (!decide (b = c))) H) : rNeG' K (.bl b) (.bl c) H Q := .inl (s_rNeB q)
/-- int(x), len(x), list(x), by names -/
def rInt1 : List V → Hp → VK → Prop := fun xs H Q => (∃ i, xs = [.int i] ∧ Q (.int i) H) ∨ ∃ k, xs = [.bl k] ∧ Q (.int (if k then 1 else 0)) H
theorem callInt {X : Cx} : CallR X (.type "int") rInt1 := call_int1
theorem s_int1 (q : Q (.int m) H) : rInt1 [.int m] H Q := .inl ⟨m, rfl, q⟩
def rLen (K : PySem.W.Frag) : List V → Hp → VK → Prop := fun xs H Q => (∃ p ys, xs = [.ref p] ∧ (SqL K H p ys ∨ SqT K H p ys) ∧ Q (.int ys.length) H) ∨ (∃ z, xs = [.str z] ∧ z.length ≤ sizeLine ∧ Q (.int z.length) H) ∨ ∃ a kvs, xs = [V.ref a] ∧ H a = some (.dK kvs) ∧ Q (.int kvs.length) H
theorem callLen {X : Cx} : CallR X (.builtin "len") (rLen X.K) := call_len_seq.or (call_len_str.or call_lenD)
theorem s_lenL {p : Addr} {xs : List V} (h : SqL K H p xs) (q : Q (.int xs.length) H) : rLen K [.ref p] H Q := .inl ⟨p, xs, rfl, .inl h, q⟩
theorem s_lenT {p : Addr} {xs : List V} (h : SqT K H p xs) (q : Q (.int xs.length) H) : rLen K [.ref p] H Q := .inl ⟨p, xs, rfl, .inr h, q⟩
def rList (K : PySem.W.Frag) : List V → Hp → VK → Prop := fun xs H Q => ∃ p ys, xs = [.ref p] ∧ (SqL K H p ys ∨ SqT K H p ys) ∧ ∀ l, H l = none → Q (.ref l) (upd H l (.lst ys))
theorem callList {X : Cx} : CallR X (.type "list") (rList X.K) := call_list_of
theorem s_listL {p : Addr} {xs : List V} (h : SqL K H p xs) (q : ∀ l, H l = none → Q (.ref l) (upd H l (.lst xs))) : rList K [.ref p] H Q := ⟨p, xs, rfl, .inl h, q⟩
def rTuple (K : PySem.W.Frag) : List V → Hp → VK → Prop := fun xs H Q => ∃ p ys, xs = [.ref p] ∧ ((SqL K H p ys ∧ ∀ l, H l = none → Q (.ref l) (upd H l (.tup ys))) ∨ (SqT K H p ys ∧ Q (.ref p) H))
theorem callTuple {X : Cx} : CallR X (.type "tuple") (rTuple X.K) := call_tuple_of
theorem s_tupleL {p : Addr} {xs : List V} (h : SqL K H p xs) (q : ∀ l, H l = none → Q (.ref l) (upd H l (.tup xs))) : rTuple K [.ref p] H Q := ⟨p, xs, rfl, .inl ⟨h, q⟩⟩
theorem s_all {p : Addr} {bs : List Bool} (h : SqL K H p (bs.map V.bl)) (q : Q (.bl (bs.all id)) H) : rAll K [.ref p] H Q := ⟨p, bs, rfl, h, q⟩
theorem s_mul (h : (-(2 ^ 64) < m ∧ m < 2 ^ 64) ∨ (-(2 ^ 64) < n ∧ n < 2 ^ 64)) (q : Q (.int (m * n)) H) : rI CMul (fun i j => .int (i * j)) (.int m) (.int n) H Q := s_rI (C := CMul) h q
theorem s_fdiv (h : 0 < n ∧ n < 1073741824) (q : Q (.int (m / n)) H) : rI CDiv (fun i j => .int (i / j)) (.int m) (.int n) H Q := s_rI (C := CDiv) h q
theorem s_mod (h : 0 < n) (q : Q (.int (m % n)) H) : rI (fun _ j => 0 < j) (fun i j => .int (i % j)) (.int m) (.int n) H Q := s_rI (C := fun _ j => 0 < j) h q
theorem s_pow (h : 0 ≤ n ∧ n ≤ 1000000 ∧ m.natAbs < 2 ^ 64) (q : Q (.int (m ^ n.toNat)) H) : rI CPow (fun i j => .int (i ^ j.toNat)) (.int m) (.int n) H Q := s_rI (C := CPow) h q
theorem s_pow9 (q : Q (.int 1000000000) H) : rI CPow (fun i j => .int (i ^ j.toNat)) (.int 10) (.int 9) H Q := s_pow ⟨by decide, by decide, by decide⟩ (by
  rw [show (10 : Int) ^ (9 : Int).toNat = 1000000000 by decide]; exact q)
theorem s_pow18 (q : Q (.int 1000000000000000000) H) : rI CPow (fun i j => .int (i ^ j.toNat)) (.int 10) (.int 18) H Q := s_pow ⟨by decide, by decide, by decide⟩ (by
  rw [show (10 : Int) ^ (18 : Int).toNat = 1000000000000000000 by decide]; exact q)
end
theorem s_isN {σ : St} {H : Hp} {Q : VK} {ta : TE} (h : ta σ H fun x H1 => Q (.bl (decide (x = .non))) H1) : tIsN ta σ H Q := h
theorem s_notN {σ : St} {H : Hp} {Q : VK} {ta : TE} (h : ta σ H fun x H1 => Q (.bl (!decide (x = .non))) H1) : tNotN ta σ H Q := h
abbrev opMul {X : Cx} := @op_mul X
abbrev opDiv {X : Cx} := @op_fdiv X
theorem at0 {α : Type} {x0 : α} {l : List α} : atI (x0 :: l) 0 = some x0 := atI_nat (j := 0) rfl
theorem ix0 {x0 : V} {l : List V} : ixN (x0 :: l).length 0 = some 0 := by
  have h : (0 : Int) < ((x0 :: l).length : Nat) := by simp only [List.length_cons]; omega
  unfold ixN
  rw [if_pos (by decide), if_pos h]
  rfl
theorem at1 {α : Type} {x0 x1 : α} {l : List α} : atI (x0 :: x1 :: l) 1 = some x1 := atI_nat (j := 1) rfl
theorem ix1 {x0 x1 : V} {l : List V} : ixN (x0 :: x1 :: l).length 1 = some 1 := by
  have h : (1 : Int) < ((x0 :: x1 :: l).length : Nat) := by simp only [List.length_cons]; omega
  unfold ixN
  rw [if_pos (by decide), if_pos h]
  rfl
theorem at2 {α : Type} {x0 x1 x2 : α} {l : List α} : atI (x0 :: x1 :: x2 :: l) 2 = some x2 := atI_nat (j := 2) rfl
theorem ix2 {x0 x1 x2 : V} {l : List V} : ixN (x0 :: x1 :: x2 :: l).length 2 = some 2 := by
  have h : (2 : Int) < ((x0 :: x1 :: x2 :: l).length : Nat) := by simp only [List.length_cons]; omega
  unfold ixN
  rw [if_pos (by decide), if_pos h]
  rfl
theorem at3 {α : Type} {x0 x1 x2 x3 : α} {l : List α} : atI (x0 :: x1 :: x2 :: x3 :: l) 3 = some x3 := atI_nat (j := 3) rfl
theorem ix3 {x0 x1 x2 x3 : V} {l : List V} : ixN (x0 :: x1 :: x2 :: x3 :: l).length 3 = some 3 := by
  have h : (3 : Int) < ((x0 :: x1 :: x2 :: x3 :: l).length : Nat) := by simp only [List.length_cons]; omega
  unfold ixN
  rw [if_pos (by decide), if_pos h]
  rfl
theorem at4 {α : Type} {x0 x1 x2 x3 x4 : α} {l : List α} : atI (x0 :: x1 :: x2 :: x3 :: x4 :: l) 4 = some x4 := atI_nat (j := 4) rfl
theorem ix4 {x0 x1 x2 x3 x4 : V} {l : List V} : ixN (x0 :: x1 :: x2 :: x3 :: x4 :: l).length 4 = some 4 := by
  have h : (4 : Int) < ((x0 :: x1 :: x2 :: x3 :: x4 :: l).length : Nat) := by simp only [List.length_cons]; omega
  unfold ixN
  rw [if_pos (by decide), if_pos h]
  rfl
theorem at5 {α : Type} {x0 x1 x2 x3 x4 x5 : α} {l : List α} : atI (x0 :: x1 :: x2 :: x3 :: x4 :: x5 :: l) 5 = some x5 := atI_nat (j := 5) rfl
theorem ix5 {x0 x1 x2 x3 x4 x5 : V} {l : List V} : ixN (x0 :: x1 :: x2 :: x3 :: x4 :: x5 :: l).length 5 = some 5 := by
  have h : (5 : Int) < ((x0 :: x1 :: x2 :: x3 :: x4 :: x5 :: l).length : Nat) := by simp only [List.length_cons]; omega
  unfold ixN
  rw [if_pos (by decide), if_pos h]
  rfl
theorem at6 {α : Type} {x0 x1 x2 x3 x4 x5 x6 : α} {l : List α} : atI (x0 :: x1 :: x2 :: x3 :: x4 :: x5 :: x6 :: l) 6 = some x6 := atI_nat (j := 6) rfl
theorem ix6 {x0 x1 x2 x3 x4 x5 x6 : V} {l : List V} : ixN (x0 :: x1 :: x2 :: x3 :: x4 :: x5 :: x6 :: l).length 6 = some 6 := by
  have h : (6 : Int) < ((x0 :: x1 :: x2 :: x3 :: x4 :: x5 :: x6 :: l).length : Nat) := by simp only [List.length_cons]; omega
  unfold ixN
  rw [if_pos (by decide), if_pos h]
  rfl
theorem at7 {α : Type} {x0 x1 x2 x3 x4 x5 x6 x7 : α} {l : List α} : atI (x0 :: x1 :: x2 :: x3 :: x4 :: x5 :: x6 :: x7 :: l) 7 = some x7 := atI_nat (j := 7) rfl
theorem ix7 {x0 x1 x2 x3 x4 x5 x6 x7 : V} {l : List V} : ixN (x0 :: x1 :: x2 :: x3 :: x4 :: x5 :: x6 :: x7 :: l).length 7 = some 7 := by
  have h : (7 : Int) < ((x0 :: x1 :: x2 :: x3 :: x4 :: x5 :: x6 :: x7 :: l).length : Nat) := by simp only [List.length_cons]; omega
  unfold ixN
  rw [if_pos (by decide), if_pos h]
  rfl
/-- a for over a walk -/
def ForGo (g : TG) (tb : TS) (nx : St → Hp → Prop) (rt : VK) (σ : St) : It → Hp → Prop := fun J H => ∃ W : Nat → Nat → St → Hp → Prop, (∃ m, W 0 m σ H) ∧ ∀ i m σ H, W i m σ H →
      (J.stop i H ∧ nx σ H) ∨ (J.go i H ∧ ∃ N : St → Hp → Prop, (∀ σ' H', N σ' H' → ∃ m', m' < m ∧ W (i + 1) m' σ' H') ∧ ∀ x H', J.yld i H x H' → g x σ H' fun σ2 H2 => tb ⟨N, rt, nx, N⟩ σ2 H2)
theorem for_by {J : It} {n : Nat} {G : Hp → Prop} {Y : Nat → Hp → V → Hp → Prop} (w : Walk J n G Y) {σ : St} {H : Hp} {nx : St → Hp → Prop} {rt : VK} {g : TG} {tb : TS} (Pv : Nat → St → Hp → Prop) (h0 : Pv 0 σ H) (hG : ∀ i σ H, i ≤ n → Pv i σ H → G H)
    (hs : ∀ i x σ H H', i < n → Pv i σ H → Y i H x H' → g x σ H' fun σ2 H2 => tb ⟨Pv (i + 1), rt, nx, Pv (i + 1)⟩ σ2 H2) (hd : ∀ σ H, Pv n σ H → nx σ H) : ForGo g tb nx rt σ J H :=
  for_it (D := ⟨nx, rt, fun _ _ => False, fun _ _ => False⟩) w Pv h0 hG hs hd
theorem walk_range0 {n : Nat} : Walk (Itr 0 n) n (fun _ => True) (YFn fun i => .int (i : Nat)) :=
  ⟨fun _ _ hi _ => hi, fun _ _ => Nat.le_refl _, fun i H x H' _ _ y => ⟨y.1, by rw [y.2, Int.zero_add]⟩⟩
def rRng1 : List V → Hp → (It → Hp → Prop) → Prop := fun vs H R => ∃ j : Int, vs = [.int j] ∧ -(2 ^ 62) ≤ j ∧ j < 2 ^ 62 ∧ R (Itr 0 j.toNat) H
def rRng2 : List V → Hp → (It → Hp → Prop) → Prop := fun vs H R => ∃ i j : Int, vs = [.int i, .int j] ∧ (-(2 ^ 62) ≤ i ∧ i < 2 ^ 62 ∧ -(2 ^ 62) ≤ j ∧ j < 2 ^ 62) ∧ R (Itr i (j - i).toNat) H
def rLst1 (K : PySem.W.Frag) : V → Hp → (It → Hp → Prop) → Prop := fun x H R => ∃ a, x = .ref a ∧ (∃ xs, SqL K H a xs) ∧ R (Itl K a) H
def rTup1 (K : PySem.W.Frag) : V → Hp → (It → Hp → Prop) → Prop := fun x H R => ∃ a, x = .ref a ∧ (∃ xs, SqT K H a xs) ∧ R (Itt K a) H
section
variable {σ : St} {H : Hp} {R : It → Hp → Prop} {ta : TA} {tl : TE} {K : PySem.W.Frag} {a : Addr} {xs : List V} {m n : Int}
theorem s_iRng1 (h : ta σ H fun vs H1 => rRng1 vs H1 R) : iRng1 ta σ H R := h
theorem s_iRng2 (h : ta σ H fun vs H1 => rRng2 vs H1 R) : iRng2 ta σ H R := h
theorem s_iList (h : tl σ H fun x H1 => rLst1 K x H1 R) : iList K tl σ H R := h
theorem s_iTup (h : tl σ H fun x H1 => rTup1 K x H1 R) : iTup K tl σ H R := h
theorem s_rng1 (h : -4611686018427387904 ≤ n ∧ n < 4611686018427387904) (q : R (Itr 0 n.toNat) H) : rRng1 [.int n] H R := ⟨n, rfl, h.1, h.2, q⟩
theorem s_rng2 (h : -4611686018427387904 ≤ m ∧ m < 4611686018427387904 ∧ -4611686018427387904 ≤ n ∧ n < 4611686018427387904) (q : R (Itr m (n - m).toNat) H) : rRng2 [.int m, .int n] H R := ⟨m, n, rfl, h, q⟩
theorem s_lst1 (h : SqL K H a xs) (q : R (Itl K a) H) : rLst1 K (.ref a) H R := ⟨a, rfl, ⟨xs, h⟩, q⟩
theorem s_tup1 (h : SqT K H a xs) (q : R (Itt K a) H) : rTup1 K (.ref a) H R := ⟨a, rfl, ⟨xs, h⟩, q⟩
end
theorem s_for {σ : St} {H : Hp} {nx bk ct : St → Hp → Prop} {rt : VK} {wi : TI} {g : TG} {tb : TS} (h : wi σ H (ForGo g tb nx rt σ)) : tFor wi g tb ⟨nx, rt, bk, ct⟩ σ H := h
def rSlG (K : PySem.W.Frag) : V → Option Int → Option Int → Hp → VK → Prop := fun x lo hi H Q => rSlL K x lo hi H Q ∨ rSlA K x lo hi H Q ∨ rSlS x lo hi H Q
theorem opSl {X : Cx} : SlR X (rSlG X.K) := sl_list.or (sl_tupA.or sl_str)
theorem s_slL {K : PySem.W.Frag} {H : Hp} {Q : VK} {p : Addr} {xs : List V} {lo hi : Option Int} (h : SqL K H p xs) (q : ∀ l, H l = none → Q (.ref l) (upd H l (.lst (cutV xs lo hi)))) : rSlG K (.ref p) lo hi H Q := .inl ⟨p, xs, rfl, h, q⟩
theorem s_sl {σ : St} {H : Hp} {Q : VK} {r : V → Option Int → Option Int → Hp → VK → Prop} {te : TE} {tl th : TO} (h : te σ H fun x H1 => tl σ H1 fun l H2 => th σ H2 fun u H3 => r x l u H3 Q) : tSl r te tl th σ H Q := h
theorem s_noPart {σ : St} {H : Hp} {Q : Option Int → Hp → Prop} (q : Q none H) : tNoPart σ H Q := q
theorem s_part {σ : St} {H : Hp} {Q : Option Int → Hp → Prop} {t : TE} (h : t σ H fun x H1 => ∃ i, x = .int i ∧ Q (some i) H1) : tPart t σ H Q := h
theorem s_exi {m : Int} {P : Int → Prop} (q : P m) : ∃ i, V.int m = .int i ∧ P i := ⟨m, rfl, q⟩
theorem s_bits {σ : St} {H : Hp} {Q : VK} {to : TE} (h : to σ H fun x H1 => ∃ i, x = .int i ∧ Q (.int (Builtin.Int.intBits i : Nat)) H1) : tBits to σ H Q := h
theorem cut_all {xs : List V} {n : Int} (h : (xs.length : Int) ≤ n) : cutV xs none (some n) = xs := by
  unfold cutV
  rw [HT.sIx_none]
  obtain ⟨k, rfl⟩ : ∃ k : Nat, n = (k : Int) := ⟨n.toNat, by omega⟩
  rw [HT.sIx_nat]
  rw [List.drop_zero, Nat.sub_zero]
  exact List.take_of_length_le (by omega)
end My
namespace My
open PySem PySem.Spec PyProof.Rows L2 RZ
/-- all that was tracked outside N is as it was; tuples stay anyway -/
structure Fr (N : Addr → Prop) (H H' : Hp) : Prop where
  tup : ∀ a xs, H a = some (.tup xs) → H' a = some (.tup xs)
  keep : ∀ a o, H a = some o → ¬ N a → H' a = some o
  hd : ∀ a x r, H a = some (.lst (.ref x :: r)) → ∃ r', H' a = some (.lst (.ref x :: r'))
abbrev N0 : Addr → Prop := fun _ => False
abbrev N1 (b : Addr) : Addr → Prop := fun a => a = b
theorem Fr.refl {N : Addr → Prop} {H : Hp} : Fr N H H := ⟨fun _ _ h => h, fun _ _ h _ => h, fun _ _ _ h => ⟨_, h⟩⟩
theorem Fr.trans {N : Addr → Prop} {H H1 H2 : Hp} (a : Fr N H H1) (b : Fr N H1 H2) : Fr N H H2 := ⟨fun c o h => b.tup c o (a.tup c o h), fun c o h n => b.keep c o (a.keep c o h n) n, fun c x r h => let ⟨_, h'⟩ := a.hd c x r h; b.hd c x _ h'⟩
theorem Fr.mono {N N' : Addr → Prop} {H H' : Hp} (a : Fr N H H') (h : ∀ x, N x → N' x) : Fr N' H H' := ⟨a.tup, fun c o e n => a.keep c o e fun z => n (h c z), a.hd⟩
theorem Fr.of0 {N : Addr → Prop} {H H' : Hp} (a : Fr N0 H H') : Fr N H H' := a.mono fun _ z => z.elim
theorem Fr.same {H H' : Hp} (a : Fr N0 H H') : Same H H' := fun b o e => a.keep b o e id
theorem Fr.ofSame {N : Addr → Prop} {H H' : Hp} (a : Same H H') : Fr N H H' := ⟨fun b xs e => a b _ e, fun b o e _ => a b o e, fun b x r e => ⟨_, a b _ e⟩⟩
theorem Fr.new {N : Addr → Prop} {H : Hp} {p : Addr} {o : HO} (h : H p = none) : Fr N H (upd H p o) := .ofSame fun b x e => by
  rw [upd_ne (ne_of_none e h)]
  exact e
theorem Fr.wr {N : Addr → Prop} {H : Hp} {p : Addr} {o : HO} {xs : List V} (h : H p = some (.lst xs)) (n : N p) (hh : ∀ x r, xs = .ref x :: r → ∃ r', o = .lst (.ref x :: r') := by (rintro _ _ ⟨⟩; exact ⟨_, rfl⟩)) : Fr N H (upd H p o) := ⟨fun b ys e => by
  rw [upd_ne (ne_of e h (by intro z; cases z))]
  exact e, fun b x e nb => by
  rw [upd_ne (fun z => nb (by rw [z]; exact n))]
  exact e, fun b x r e => by
  by_cases hb : b = p
  · rw [hb, h] at e
    obtain ⟨r', e'⟩ := hh x r (HO.lst.inj (Option.some.inj e))
    exact ⟨r', by rw [hb, upd_same, e']⟩
  · exact ⟨r, by rw [upd_ne hb]; exact e⟩⟩
/-- an object that H does not know may change -/
theorem Fr.mut {N : Addr → Prop} {H H' : Hp} {p : Addr} {o : HO} (f : Fr N H H') (h : H p = none) : Fr N H (upd H' p o) := ⟨fun a xs e => by
  rw [upd_ne (ne_of_none e h)]
  exact f.tup a xs e, fun a x e n => by
  rw [upd_ne (ne_of_none e h)]
  exact f.keep a x e n, fun a x r e => by
  rw [upd_ne (ne_of_none e h)]
  exact f.hd a x r e⟩
theorem Fr.free {N : Addr → Prop} {H H' : Hp} {p : Addr} (a : Fr N H H') (h : H' p = none) (n : ¬ N p) : H p = none := by
  cases q : H p with
  | none => rfl
  | some o => rw [a.keep p o q n] at h; cases h
theorem Fr.rdL {N : Addr → Prop} {K : PySem.W.Frag} {H H' : Hp} {p : Addr} {xs : List V} (a : Fr N H H') (h : SqL K H p xs) (n : ¬ N p) : SqL K H' p xs := by
  rcases h with (h | ⟨o, h⟩) | h
  · exact .inl (.inl (a.keep _ _ h n))
  · exact .inl (.inr ⟨o, a.keep _ _ h n⟩)
  · exact .inr h
theorem nat0 {p : Int} (h : 0 ≤ p) : ∃ j : Nat, p = (j : Int) := ⟨p.toNat, by omega⟩
/-- the bag of draws at b -/
structure Bag (b : Addr) (H : Hp) : Prop where
  ex : ∃ (c : Addr) (ns : List Int) (p cur seed : Int), H b = some (.lst [.ref c, .int p, .int cur, .int seed]) ∧ H c = some (.lst (ns.map V.int)) ∧ ns.length ≤ 63 ∧ 0 ≤ p ∧ 0 ≤ cur ∧ 0 ≤ seed ∧ seed < 2147483563
theorem bag_ne {H : Hp} {b c : Addr} {x : Addr} {r : List V} {ns : List Int} (h1 : H b = some (.lst (.ref x :: r))) (h2 : H c = some (.lst (ns.map V.int))) : c ≠ b := by
  intro e
  subst e
  rw [h1] at h2
  cases ns with
  | nil => cases h2
  | cons n l => cases h2
theorem Bag.fr {b : Addr} {H H' : Hp} (B : Bag b H) (f : Fr N0 H H') : Bag b H' := by
  obtain ⟨c, ns, p, cur, seed, h1, h2, r⟩ := B.ex
  exact ⟨c, ns, p, cur, seed, f.same _ _ h1, f.same _ _ h2, r⟩
theorem Bag.some {b : Addr} {H : Hp} (B : Bag b H) : ∃ xs, H b = some (.lst xs) := let ⟨_, _, _, _, _, h, _⟩ := B.ex; ⟨_, h⟩
/-- the bag where a list that it does not know is made longer -/
theorem bag_mut {N : Addr → Prop} {b D : Addr} {o : HO} {H H2 : Hp} (B : Bag b H) (hD : H D = none) (f : Fr N H H2) (B2 : Bag b H2) : Bag b (upd H2 D o) := by
  obtain ⟨c, _, p, cur, seed, h1, h2, _⟩ := B.ex
  obtain ⟨c', ns, p', cur', seed', h1', h2', r⟩ := B2.ex
  obtain ⟨r', e⟩ := f.hd _ _ _ h1
  rw [e] at h1'
  cases h1'
  exact ⟨c, ns, p', cur', seed', by rw [upd_ne (ne_of_none h1 hD)]; exact e, by rw [upd_ne (ne_of_none h2 hD)]; exact h2', r⟩
end My
namespace My
open PySem PySem.Spec PyProof.Rows L2 RZ
/-- a tuple at a: tracked, or of the written part -/
def TupAt (K : PySem.W.Frag) (H : Hp) (a : Addr) (xs : List V) : Prop :=
  H a = some (.tup xs) ∨ ∃ (o : Obj) (its : Array Value) (n : Nat), K.lookup a = some o ∧ o.cls = .type "tuple" ∧ o.data = .seq its n ∧ its.size ≤ sizeLine ∧ Vals xs its.toList
theorem TupAt.sq {K : PySem.W.Frag} {H : Hp} {a : Addr} {xs : List V} (h : TupAt K H a xs) : SqT K H a xs := by
  rcases h with h | h
  · exact .inl (.inl h)
  · exact .inr h
theorem TupAt.of {K : PySem.W.Frag} {H : Hp} {a : Addr} {xs : List V} (h : H a = some (.tup xs)) : TupAt K H a xs := .inl h
theorem TupAt.fr {N : Addr → Prop} {K : PySem.W.Frag} {H H' : Hp} {a : Addr} {xs : List V} (f : Fr N H H') (h : TupAt K H a xs) : TupAt K H' a xs := by
  rcases h with h | h
  · exact .inl (f.tup a xs h)
  · exact .inr h
def keyD : Key → PyData
  | .inl i => .int i
  | .inr s => .str s
mutual
inductive Hd (N : Addr → Prop) (K : PySem.W.Frag) (H : Hp) : V → PyData → Prop
  | non : Hd N K H .non .none
  | bl (b : Bool) : Hd N K H (.bl b) (.bool b)
  | int (i : Int) : Hd N K H (.int i) (.int i)
  | str (x : Str) : Hd N K H (.str x) (.str x)
  | lst {a : Addr} {xs : List V} {ds : List PyData} : H a = some (.lst xs) → ¬ N a → HdL N K H xs ds → Hd N K H (.ref a) (.list ds)
  | tup {a : Addr} {xs : List V} {ds : List PyData} : TupAt K H a xs → HdL N K H xs ds → Hd N K H (.ref a) (.tuple ds)
  | dct {a : Addr} {kvs : List (Key × V)} {ds : List (PyData × PyData)} : H a = some (.dK kvs) → ¬ N a → HdK N K H kvs ds → Hd N K H (.ref a) (.dict ds)
inductive HdL (N : Addr → Prop) (K : PySem.W.Frag) (H : Hp) : List V → List PyData → Prop
  | nil : HdL N K H [] []
  | cons {v : V} {vs : List V} {d : PyData} {ds : List PyData} : Hd N K H v d → HdL N K H vs ds → HdL N K H (v :: vs) (d :: ds)
inductive HdK (N : Addr → Prop) (K : PySem.W.Frag) (H : Hp) : List (Key × V) → List (PyData × PyData) → Prop
  | nil : HdK N K H [] []
  | cons {k : Key} {v : V} {vs : List (Key × V)} {d : PyData} {ds : List (PyData × PyData)} : Hd N K H v d → HdK N K H vs ds → HdK N K H ((k, v) :: vs) ((keyD k, d) :: ds)
end
section
variable {N N' : Addr → Prop} {K : PySem.W.Frag} {H H' : Hp}
mutual
theorem Hd.fr (f : Fr N H H') : ∀ (d : PyData) (v : V), Hd N K H v d → Hd N K H' v d
  | .none, _, h => by cases h; exact .non
  | .bool b, _, h => by cases h; exact .bl b
  | .int i, _, h => by cases h; exact .int i
  | .str x, _, h => by cases h; exact .str x
  | .list ds, _, h => by
    cases h with
    | lst e n r => exact .lst (f.keep _ _ e n) n (HdL.fr f ds _ r)
  | .tuple ds, _, h => by
    cases h with
    | tup e r => exact .tup (e.fr f) (HdL.fr f ds _ r)
  | .dict ds, _, h => by
    cases h with
    | dct e n r => exact .dct (f.keep _ _ e n) n (HdK.fr f ds _ r)
theorem HdL.fr (f : Fr N H H') : ∀ (ds : List PyData) (vs : List V), HdL N K H vs ds → HdL N K H' vs ds
  | [], _, h => by cases h; exact .nil
  | d :: ds, _, h => by
    cases h with
    | cons a b => exact .cons (Hd.fr f d _ a) (HdL.fr f ds _ b)
theorem HdK.fr (f : Fr N H H') : ∀ (ds : List (PyData × PyData)) (vs : List (Key × V)), HdK N K H vs ds → HdK N K H' vs ds
  | [], _, h => by cases h; exact .nil
  | (_, d) :: ds, _, h => by
    cases h with
    | cons a b => exact .cons (Hd.fr f d _ a) (HdK.fr f ds _ b)
end
mutual
theorem Hd.sub (f : ∀ a, N' a → N a) : ∀ (d : PyData) (v : V), Hd N K H v d → Hd N' K H v d
  | .none, _, h => by cases h; exact .non
  | .bool b, _, h => by cases h; exact .bl b
  | .int i, _, h => by cases h; exact .int i
  | .str x, _, h => by cases h; exact .str x
  | .list ds, _, h => by
    cases h with
    | lst e n r => exact .lst e (fun z => n (f _ z)) (HdL.sub f ds _ r)
  | .tuple ds, _, h => by
    cases h with
    | tup e r => exact .tup e (HdL.sub f ds _ r)
  | .dict ds, _, h => by
    cases h with
    | dct e n r => exact .dct e (fun z => n (f _ z)) (HdK.sub f ds _ r)
theorem HdL.sub (f : ∀ a, N' a → N a) : ∀ (ds : List PyData) (vs : List V), HdL N K H vs ds → HdL N' K H vs ds
  | [], _, h => by cases h; exact .nil
  | d :: ds, _, h => by
    cases h with
    | cons a b => exact .cons (Hd.sub f d _ a) (HdL.sub f ds _ b)
theorem HdK.sub (f : ∀ a, N' a → N a) : ∀ (ds : List (PyData × PyData)) (vs : List (Key × V)), HdK N K H vs ds → HdK N' K H vs ds
  | [], _, h => by cases h; exact .nil
  | (_, d) :: ds, _, h => by
    cases h with
    | cons a b => exact .cons (Hd.sub f d _ a) (HdK.sub f ds _ b)
end
theorem HdL.len : ∀ {ds : List PyData} {vs : List V}, HdL N K H vs ds → vs.length = ds.length
  | [], _, h => by cases h; rfl
  | d :: ds, _, h => by
    cases h with
    | cons a b => rw [List.length_cons, List.length_cons, HdL.len b]
theorem HdL.get : ∀ {ds : List PyData} {vs : List V} {i : Nat} {v : V}, HdL N K H vs ds → vs[i]? = some v → ∃ d, ds[i]? = some d ∧ Hd N K H v d
  | [], _, _, _, h, e => by cases h; simp at e
  | d :: ds, _, 0, _, h, e => by
    cases h with
    | cons a b => simp at e; subst e; exact ⟨d, rfl, a⟩
  | d :: ds, _, i + 1, _, h, e => by
    cases h with
    | cons a b =>
      obtain ⟨d', e', r⟩ := HdL.get b (by simpa using e)
      exact ⟨d', by simpa using e', r⟩
theorem HdL.app : ∀ {ds es : List PyData} {vs us : List V}, HdL N K H vs ds → HdL N K H us es → HdL N K H (vs ++ us) (ds ++ es)
  | [], _, _, _, h, h' => by cases h; exact h'
  | d :: ds, _, _, _, h, h' => by
    cases h with
    | cons a b => exact .cons a (HdL.app b h')
end
end My
namespace My
open PySem PySem.Spec PyProof.Rows L2 RZ
def tyD : PyData → String
  | .none => "NoneType" | .bool _ => "bool" | .int _ => "int" | .str _ => "str" | .list _ => "list" | .tuple _ => "tuple" | .dict _ => "dict"
section
variable {N : Addr → Prop} {K : PySem.W.Frag} {H : Hp}
theorem TupAt.ty {a : Addr} {xs : List V} (h : TupAt K H a xs) : TyX K H (.ref a) (.type "tuple") := by
  rcases h with h | ⟨o, its, n, hk, hc, _⟩
  · exact .base (.tup h)
  · exact .kTuple hk hc
theorem Hd.ty : ∀ {d : PyData} {v : V}, Hd N K H v d → TyX K H v (.type (tyD d))
  | .none, _, h => by cases h; exact .base .non
  | .bool b, _, h => by cases h; exact .base (.bl b)
  | .int i, _, h => by cases h; exact .base (.int i)
  | .str x, _, h => by cases h; exact .base (.str x)
  | .list ds, _, h => by
    cases h with
    | lst e n r => exact .base (.lst e)
  | .tuple ds, _, h => by
    cases h with
    | tup e r => exact e.ty
  | .dict ds, _, h => by
    cases h with
    | dct e n r => exact .base (.dK e)
def isList : PyData → Bool | .list _ => true | _ => false
def isTup : PyData → Bool | .tuple _ => true | _ => false
def isDict : PyData → Bool | .dict _ => true | _ => false
def isBool : PyData → Bool | .bool _ => true | _ => false
def isInt : PyData → Bool | .bool _ => true | .int _ => true | _ => false
def isStr : PyData → Bool | .str _ => true | _ => false
theorem kit_list (d : PyData) : kitB (tyD d) "list" = some (isList d) := by cases d <;> simp only [tyD, isList, isTup, isDict, isBool, isInt, isStr] <;> decide +kernel
theorem kit_tuple (d : PyData) : kitB (tyD d) "tuple" = some (isTup d) := by cases d <;> simp only [tyD, isList, isTup, isDict, isBool, isInt, isStr] <;> decide +kernel
theorem kit_dict (d : PyData) : kitB (tyD d) "dict" = some (isDict d) := by cases d <;> simp only [tyD, isList, isTup, isDict, isBool, isInt, isStr] <;> decide +kernel
theorem kit_bool (d : PyData) : kitB (tyD d) "bool" = some (isBool d) := by cases d <;> simp only [tyD, isList, isTup, isDict, isBool, isInt, isStr] <;> decide +kernel
theorem kit_int (d : PyData) : kitB (tyD d) "int" = some (isInt d) := by cases d <;> simp only [tyD, isList, isTup, isDict, isBool, isInt, isStr] <;> decide +kernel
theorem kit_str (d : PyData) : kitB (tyD d) "str" = some (isStr d) := by cases d <;> simp only [tyD, isList, isTup, isDict, isBool, isInt, isStr] <;> decide +kernel
def rIsiG (K : PySem.W.Frag) : List V → Hp → VK → Prop := fun xs H Q => rIsi K xs H Q ∨ rIsiT K xs H Q
theorem callIsi {X : Cx} : CallR X (.builtin "isinstance") (rIsiG X.K) := call_isi.or call_isiT
variable {Q : VK} {x : V} {d : PyData}
theorem s_isi {n : String} {b : Bool} (h : Hd N K H x d) (e : kitB (tyD d) n = some b) (q : Q (.bl b) H) : rIsiG K [x, .ty n] H Q := .inl ⟨x, .ty n, _, _, b, rfl, .ty n, h.ty, kit_ty e, q⟩
theorem s_isi_list (h : Hd N K H x d) (q : Q (.bl (isList d)) H) : rIsiG K [x, .ty "list"] H Q := s_isi h (kit_list d) q
theorem s_isi_tuple (h : Hd N K H x d) (q : Q (.bl (isTup d)) H) : rIsiG K [x, .ty "tuple"] H Q := s_isi h (kit_tuple d) q
theorem s_isi_dict (h : Hd N K H x d) (q : Q (.bl (isDict d)) H) : rIsiG K [x, .ty "dict"] H Q := s_isi h (kit_dict d) q
theorem s_isi_bool (h : Hd N K H x d) (q : Q (.bl (isBool d)) H) : rIsiG K [x, .ty "bool"] H Q := s_isi h (kit_bool d) q
theorem s_isi_int (h : Hd N K H x d) (q : Q (.bl (isInt d)) H) : rIsiG K [x, .ty "int"] H Q := s_isi h (kit_int d) q
theorem s_isi_str (h : Hd N K H x d) (q : Q (.bl (isStr d)) H) : rIsiG K [x, .ty "str"] H Q := s_isi h (kit_str d) q
theorem s_isi_lt {p : Addr} (h : Hd N K H x d) (hp : H p = some (.tup [.ty "list", .ty "tuple"])) (q : Q (.bl (isList d || isTup d)) H) : rIsiG K [x, .ref p] H Q := by
  refine .inr ⟨x, p, _, _, [.type "list", .type "tuple"], _, rfl, hp, .cons (.ty _) (.cons (.ty _) .nil), h.ty, ?_, q⟩
  refine kitAny_cons (kit_ty (kit_list d)) (fun e => ?_) (fun e => by rw [e, Bool.true_or])
  rw [e, Bool.false_or]
  exact kitAny_cons (kit_ty (kit_tuple d)) (fun e => by rw [e]; exact kitAny_nil) (fun e => e)
end
/-- what holds between two turns of a comprehension: P by the turn, the list so far and the heap -/
def Pvx (P : Addr → Nat → List V → Hp → Prop) (D : Addr) (i : Nat) (H : Hp) : Prop := ∃ acc, acc.length ≤ i ∧ P D i acc H ∧ H D = some (.lst acc)
theorem pvx_add {P : Addr → Nat → List V → Hp → Prop} {D : Addr} {i : Nat} {acc : List V} {y : V} {H : Hp} (e : H D = some (.lst acc)) (hl : acc.length ≤ i) (hi : i < sizeLine) (p : P D (i + 1) (acc ++ [y]) (upd H D (.lst (acc ++ [y])))) :
    ∃ acc', H D = some (.lst acc') ∧ acc'.length < sizeLine ∧ Pvx P D (i + 1) (upd H D (.lst (acc' ++ [y]))) :=
  ⟨acc, e, by omega, acc ++ [y], by rw [List.length_append]; show acc.length + 1 ≤ i + 1; omega, p, upd_same⟩
def LcGo (g : TG) (tt : TT) (te : TE) (vs : List Nat) (σ : St) (Q : VK) : It → Hp → Prop := fun J H1 => ∀ D, H1 D = none → ∃ W : Nat → Nat → Hp → Prop, (∃ m, W 0 m (upd H1 D (.lst []))) ∧ ∀ i m H, W i m H →
      (J.stop i H ∧ Q (.ref D) H) ∨ (J.go i H ∧ ∃ Nx : Hp → Prop, (∀ H', Nx H' → ∃ m', m' < m ∧ W (i + 1) m' H') ∧ ∀ x H', J.yld i H x H' → g x (wipe σ vs) H' fun σ2 H2 => wipe σ2 vs = wipe σ vs ∧ tt σ2 H2 fun b H3 =>
        if b = true then te σ2 H3 fun y H4 => ∃ acc, H4 D = some (.lst acc) ∧ acc.length < sizeLine ∧ Nx (upd H4 D (.lst (acc ++ [y]))) else Nx H3)
theorem lc_by {J : It} {n : Nat} {G : Hp → Prop} {Y : Nat → Hp → V → Hp → Prop} (w : Walk J n G Y) {g : TG} {tt : TT} {te : TE} {vs : List Nat} {σ σ0 : St} {H1 : Hp} {Q : VK} (P : Addr → Nat → List V → Hp → Prop) (hw : wipe σ vs = σ0)
    (h0 : ∀ D, H1 D = none → P D 0 [] (upd H1 D (.lst []))) (hG : ∀ D i acc H, P D i acc H → H D = some (.lst acc) → G H)
    (hs : ∀ D i acc x H H', H1 D = none → i < n → acc.length ≤ i → P D i acc H → H D = some (.lst acc) → Y i H x H' → g x σ0 H' fun σ2 H2 => wipe σ2 vs = σ0 ∧ tt σ2 H2 fun b H3 =>
      if b = true then te σ2 H3 fun y H4 => ∃ acc', H4 D = some (.lst acc') ∧ acc'.length < sizeLine ∧ Pvx P D (i + 1) (upd H4 D (.lst (acc' ++ [y]))) else Pvx P D (i + 1) H3)
    (hd : ∀ D acc H, H1 D = none → P D n acc H → H D = some (.lst acc) → Q (.ref D) H) : LcGo g tt te vs σ Q J H1 := by
  subst hw
  exact fun D hD => lc_it w (Qd := fun H => Q (.ref D) H) (Pvx P D) ⟨[], Nat.le_refl _, h0 D hD, upd_same⟩ (fun i H _ ⟨acc, _, p, e⟩ => hG D i acc H p e) (fun i x H H' hi ⟨acc, hl, p, e⟩ y => hs D i acc x H H' hD hi hl p e y) (fun H ⟨acc, _, p, e⟩ => hd D acc H hD p e)
theorem s_lc {wi : TI} {g : TG} {tt : TT} {te : TE} {vs : List Nat} {σ : St} {H : Hp} {Q : VK} (h : wi σ H (LcGo g tt te vs σ Q)) : tLc wi g tt te vs σ H Q := h
def rZipA (K : PySem.W.Frag) : List V → Hp → (It → Hp → Prop) → Prop := fun vs H R => ∃ a b xs ys, vs = [.ref a, .ref b] ∧ ((SqL K H a xs ∧ SqL K H b ys ∧ R (Itz K a b) H) ∨ (SqT K H a xs ∧ SqT K H b ys ∧ R (ItzT K a b) H))
theorem s_zipA {σ : St} {H : Hp} {R : It → Hp → Prop} {ta : TA} {K : PySem.W.Frag} (h : ta σ H fun vs H1 => rZipA K vs H1 R) : iZipA K ta σ H R := h
theorem s_zipL {H : Hp} {R : It → Hp → Prop} {K : PySem.W.Frag} {a b : Addr} {xs ys : List V} (h1 : SqL K H a xs) (h2 : SqL K H b ys) (q : R (Itz K a b) H) : rZipA K [.ref a, .ref b] H R := ⟨a, b, xs, ys, rfl, .inl ⟨h1, h2, q⟩⟩
theorem s_zipT {H : Hp} {R : It → Hp → Prop} {K : PySem.W.Frag} {a b : Addr} {xs ys : List V} (h1 : SqT K H a xs) (h2 : SqT K H b ys) (q : R (ItzT K a b) H) : rZipA K [.ref a, .ref b] H R := ⟨a, b, xs, ys, rfl, .inr ⟨h1, h2, q⟩⟩
theorem walk_zipT {K : PySem.W.Frag} {a b : Addr} {xs ys : List V} {n : Nat} (hn : n = min xs.length ys.length) : Walk (ItzT K a b) n (fun H => SqT K H a xs ∧ SqT K H b ys) (YPair (fun i => xs[i]?) (fun i => ys[i]?)) := by
  subst hn
  refine ⟨fun i _ hi q => ?_, fun _ q => ⟨xs, ys, q.1, q.2, by omega⟩, fun i H v H' _ q y => ?_⟩
  · have h1 : i < xs.length := by omega
    have h2 : i < ys.length := by omega
    exact ⟨xs, ys, xs[i], ys[i], q.1, q.2, by simp [h1], by simp [h2]⟩
  · obtain ⟨T, x, z, h1, h2, h3, h4, h5⟩ := y
    exact ⟨T, x, z, h1, h2, h3, h4 xs q.1, h5 ys q.2⟩
/-- a, b = a pair -/
theorem s_gTup {K : PySem.W.Frag} {n : Nat} {t : TGs} {a : Addr} {xs : List V} {σ : St} {H : Hp} {R : St → Hp → Prop} (h : SqT K H a xs) (e : xs.length = n) (q : t xs σ H R) : gTup K n t (.ref a) σ H R := ⟨a, xs, rfl, h, e, q⟩
theorem s_gCons {t : TG} {u : TGs} {x : V} {r : List V} {σ : St} {H : Hp} {R : St → Hp → Prop} (q : t x σ H fun σ' H' => u r σ' H' R) : gCons t u (x :: r) σ H R := ⟨x, r, rfl, q⟩
theorem s_gNil {σ : St} {H : Hp} {R : St → Hp → Prop} (q : R σ H) : gNil [] σ H R := ⟨rfl, q⟩
theorem s_yes {σ : St} {H : Hp} {Q : Bool → Hp → Prop} (q : Q true H) : tYes σ H Q := q
end My
theorem L2H.RoomH.units {k : Nat} {A : PySem.Around} (r : L2H.RoomH k A) : A.units + 64 < PySem.cLine := by
  have := r.un
  omega
namespace My
open PySem PySem.Spec PyProof.Rows L2 RZ
open LamX (ExtN Tabs TabS TabB CodeO)
def tXg (K : PySem.W.Frag) (a : Addr) (cls : Value) (d : Option Addr) (n : Str) (te : TE) : TE := fun σ H Q => te σ H fun x H1 => x = .ref a ∧ ∃ C, cls = .ref C ∧ XfC K C ∧ PySem.W.findIn K (.ref C) n = some none ∧
  ∃ (dd : Addr) (fs : List (Str × V)) (v : V), d = some dd ∧ H1 dd = some (.xd fs) ∧ fs.lookup n = some v ∧ Q v H1
end My
namespace My
open PySem PySem.Spec PyProof.Rows L2 RZ
open LamX (ExtN Tabs TabS TabB CodeO)
def rOst (K : PySem.W.Frag) (f : Str) (y : V) (nx : Hp → Prop) : V → Hp → Prop := fun x H2 => ∃ a C : Addr, x = .ref a ∧ OexC K C ∧ PySem.W.findIn K (.ref C) f = some none ∧
  ((H2 a = some (exo a C none) ∧ ∀ dx, H2 dx = none → dx ≠ a → nx (upd (upd H2 dx (exd dx [(f, y)])) a (exo a C (some dx)))) ∨
    ∃ (dx : Addr) (fs : List (Str × V)), H2 a = some (exo a C (some dx)) ∧ H2 dx = some (exd dx fs) ∧ fs.length ≤ 900 ∧ nx (upd H2 dx (exd dx ((f, y) :: fs))))
theorem s_ost {K : PySem.W.Frag} {f : Str} {to te : TE} {σ : L2.St} {H : Hp} {nx bk ct : L2.St → Hp → Prop} {rt : VK} (h : te σ H fun y H1 => to σ H1 (rOst K f y (nx σ))) : tOst K f to te ⟨nx, rt, bk, ct⟩ σ H := h
def rMkO (C : Addr) (sp : Sp) (Q : XK) : List V → Hp → Prop := fun vs H1 => vs.length ≤ 1000 ∧ ∀ a, H1 a = none → sp (.ref a :: (vs ++ [])) (upd H1 a (exo a C none))
  (fun v H2 => v = .non ∧ ∃ (d : Addr) (fs : List (Str × V)), H2 a = some (exo a C (some d)) ∧ H2 d = some (exd d fs) ∧ H1 d = none ∧ Q (.ref C) (some d) (upd (del H2 a) d (.xd fs))) (fun _ _ _ => False)
theorem s_mkO {C : Addr} {sp : Sp} {σ : L2.St} {H : Hp} {Q : XK} {ta : TA} (h : ta σ H (rMkO C sp Q)) : tMkO C sp [] ta σ H Q := h
/-- the field that the law reads of an exception with that word -/
def fldName (w : Str) : Option Str :=
  if inV (.str w) [.str "invalidsteps", .str "invalidcode", .str "invalidtext", .str "invalidcorner", .str "notquiet", .str "invaliddeed"] = true then some "position"
  else if inV (.str w) [.str "invalidcount", .str "invalidconstant", .str "invalidbudget"] = true then some "value"
  else if inV (.str w) [.str "invalidname", .str "duplicatename", .str "unknownname"] = true then some "name"
  else if inV (.str w) [.str "invalidfile", .str "invalidcommand"] = true then some "line"
  else if decide (w = "gateinuse") = true then none
  else if decide (w = "limitexceeded") = true then some "limit"
  else if decide (w = "invalidsize") = true then some "size"
  else if decide (w = "invalidneeded") = true then some "needed"
  else if decide (w = "budgetexceeded") = true then some "amount"
  else none
def isGate (w : Str) : Bool := decide (w = "gateinuse")
def fldVal (w : Str) (fs : List (Str × V)) : Option V := match fldName w with
  | some n => fs.lookup n
  | none => if isGate w = true then none else some .non
/-- what the law tells of an exception's fields: one of them, None, or the two of a gate in use as a new pair -/
def Told (w : Str) (fs : List (Str × V)) (H : Hp) (Q : VK) : Prop :=
  (∃ v, fldVal w fs = some v ∧ ∀ H', Fr N0 H H' → Q v H') ∨
  (isGate w = true ∧ ∃ n u, fs.lookup ("name" : Str) = some n ∧ fs.lookup ("users" : Str) = some u ∧ ∀ H', Fr N0 H H' → ∀ p, H' p = none → Q (.ref p) (upd H' p (.tup [n, u])))
theorem Told.mono {w : Str} {fs : List (Str × V)} {H : Hp} {Q Q' : VK} (h : ∀ v H2, Q v H2 → Q' v H2) (t : Told w fs H Q) : Told w fs H Q' :=
  t.imp (fun ⟨v, e, k⟩ => ⟨v, e, fun H' f => h _ _ (k H' f)⟩) fun ⟨g, n, u, e1, e2, k⟩ => ⟨g, n, u, e1, e2, fun H' f p hp => h _ _ (k H' f p hp)⟩
def rXg (K : PySem.W.Frag) (a : Addr) (cls : Value) (d : Option Addr) (n : Str) (Q : VK) : V → Hp → Prop := fun x H1 => x = .ref a ∧ ∃ C, cls = .ref C ∧ XfC K C ∧ PySem.W.findIn K (.ref C) n = some none ∧
  ∃ (dd : Addr) (fs : List (Str × V)) (v : V), d = some dd ∧ H1 dd = some (.xd fs) ∧ fs.lookup n = some v ∧ Q v H1
theorem s_xgR {K : PySem.W.Frag} {a : Addr} {cls : Value} {d : Option Addr} {n : Str} {te : TE} {σ : L2.St} {H : Hp} {Q : VK} (h : te σ H (rXg K a cls d n Q)) : tXg K a cls d n te σ H Q := h
theorem s_callS {sp : Sp} {E : L2.St → XK} {t : TA} {σ : L2.St} {H : Hp} {Q : VK} (h : t σ H fun vs H1 => sp vs H1 Q (E σ)) : tCallS sp E t σ H Q := h
end My
namespace My
open PySem PySem.Spec PyProof.Rows L2 RZ
section
variable {K : PySem.W.Frag} {H : Hp} {Q : VK} {a b : Addr} {xs ys : List V}
/-- a list that was laid as data -/
theorem HdL.fr0 {N : Addr → Prop} {H' : Hp} {ds : List PyData} {vs : List V} (h : HdL N K H vs ds) (f : Fr N0 H H') : HdL N K H' vs ds := HdL.fr f.of0 ds vs h
end
end My
namespace My
open PySem PySem.Spec PyProof.Rows L2 RZ
section
variable (K : PySem.W.Frag) {X : Cx}
theorem opAddK (e : X.K = K := by rfl) : OpR X (binaryOp .Add) (rAddG K) := e ▸ opAdd
theorem opEqK (hu : X.A.units + 64 < cLine) (e : X.K = K := by rfl) : OpR X (compareOp .Eq) (rEqG' K) := e ▸ opEq hu
theorem opNeK (hu : X.A.units + 64 < cLine) (e : X.K = K := by rfl) : OpR X (compareOp .NotEq) (rNeG' K) := e ▸ opNe hu
theorem callLenK (e : X.K = K := by rfl) : CallR X (.builtin "len") (rLen K) := e ▸ callLen
theorem callIsiK (e : X.K = K := by rfl) : CallR X (.builtin "isinstance") (rIsiG K) := e ▸ callIsi
theorem callListK (e : X.K = K := by rfl) : CallR X (.type "list") (rList K) := e ▸ callList
theorem callTupleK (e : X.K = K := by rfl) : CallR X (.type "tuple") (rTuple K) := e ▸ callTuple
theorem allK (hc : X.calm = true) (e : X.K = K := by rfl) : CallR X (.builtin "all") (rAll K) := e ▸ cr_all hc
theorem opSlK (e : X.K = K := by rfl) : SlR X (rSlG K) := e ▸ opSl
theorem ixK (e : X.K = K := by rfl) : IxR X (rIx K) := e ▸ ix_seq
section
variable {a o x : Expr} {es : List Expr} {ta to te : TE} {t : TA} {pos apos cpos p tpos : Pos} {name : Str} {f : Str} {T id : String} {r : V → List V → Hp → VK → Prop} {tg : Expr} {elts : List Expr} {kk : Nat}
theorem pi_listK (hl : PE X x te) (e : X.K = K := by rfl) : PI X tg x (iList K te) := e ▸ pi_list hl
theorem pi_tupK (hl : PE X x te) (e : X.K = K := by rfl) : PI X tg x (iTup K te) := e ▸ pi_tup hl
end
end
end My
namespace My
open PySem PySem.Spec PyProof.Rows L2 RZ
open LamX (ExtN Tabs TabS TabB CodeO)
theorem ExtN.fr0 {H H' : Hp} (f : Fr N0 H H') : ExtN H H' := ExtN.of f.same
theorem ExtN.lst {H H' : Hp} {a : Addr} {xs : List V} (x : ExtN H H') (h : H a = some (.lst xs)) : H' a = some (.lst xs) := x _ _ h fun _ z => by cases z
theorem HdL.ints {N : Addr → Prop} {K : PySem.W.Frag} {H : Hp} : ∀ ns : List Int, HdL N K H (ns.map V.int) (ns.map PyData.int)
  | [] => .nil
  | _ :: ns => .cons (.int _) (HdL.ints ns)
end My
namespace My
open PySem PySem.Spec PyProof.Rows L2 RZ GenW
section
variable {M : Model} {A : Around} {R : GenEnd} {Y : Protocol} {n : Nat} {s₀ : Shared} {fs : List Frame} {s : Shared} {env : Env} {prog : Program} {w : World}
/-- what a turn of a for does with the way that its body took -/
def forWay (c : Code) : Flow → Sem PySem.Fin
  | .next => .pure (.again c)
  | .cont => .pure (.again c)
  | .brk => .pure (.done .next)
  | .ret v => .pure (.done (.ret v))
def forOut (env : Env) (e : Value) : Sem PySem.Fin := (do noteFrame e env; theTreesLotGoes e : Sem Unit).wrap (fun _ => .raise e) .raise id id
theorem seg_forTurn {target : Expr} {it : Value} {body : List Stmt}
    (h : wpAny (model prog w) (A.over (.forLoop target it body [] env) fs) (pyNext it) (fun r s1 => match r with
        | none => Seg (model prog w) A R Y n s₀ (.forLoop target it body [] env) (.pure (.again (.block [] env))) fs s1
        | some v => wpAny (model prog w) (A.over (.forLoop target it body [] env) fs) (letOwnedTupleGo target it v) (fun _ s2 => wpAny (model prog w) (A.over (.forLoop target it body [] env) fs) (assign target env v) (fun _ s3 =>
            Seg (model prog w) A R Y n s₀ (.forLoop target it body [] env) ((execs body env).wrap (forWay (.forLoop target it body [] env)) (forOut env) id id) fs s3)
            (fun x s' => Seg (model prog w) A R Y n s₀ (.forLoop target it body [] env) (forOut env x) fs s') s2) (fun x s' => Seg (model prog w) A R Y n s₀ (.forLoop target it body [] env) (forOut env x) fs s') s1)
      (fun x s' => Seg (model prog w) A R Y n s₀ (.forLoop target it body [] env) (forOut env x) fs s') s) :
    Seg (model prog w) A R Y n s₀ (.forLoop target it body [] env) ((model prog w).den (.forLoop target it body [] env)) fs s := by
  show Seg _ A R Y n s₀ _ ((forTurn target it body [] env).onRaise (fun x => do noteFrame x env; theTreesLotGoes x)) fs s
  have eJ : ∀ x, ((do noteFrame x env; theTreesLotGoes x : Sem Unit).bind fun _ => (.raise x : Sem PySem.Fin)) = forOut env x := fun x => Sem.bind_eq_wrap _ _
  rw [Sem.onRaise_eq_wrap]
  unfold forTurn
  refine seg_bind_wrap (wpAny_standAt ?_)
  refine seg_bind_wrap (wpAny_onRaise (wpAny_mono h (fun r s1 h1 => ?_) fun x s' hx => wpAny_standAt ?_))
  · cases r with
    | none => exact h1
    | some v =>
      refine seg_bind_wrap (wpAny_mono h1 (fun _ s2 h2 => ?_) fun x s' hx => ?_)
      · refine seg_bind_wrap (wpAny_mono h2 (fun _ s3 h3 => ?_) fun x s' hx => ?_)
        · rw [Sem.bind_eq_wrap', Sem.wrap_wrap]
          rw [Sem.wrap_congr (execs body env) _ _ (K' := forWay (.forLoop target it body [] env)) (H' := forOut env) (fun f => by cases f <;> rfl) (fun e => by first | exact eJ e | rfl)]
          exact h3
        · first
            | exact hx
            | (rw [← eJ] at hx; exact hx)
      · first
          | exact hx
          | (rw [← eJ] at hx; exact hx)
  · first
      | exact hx
      | (rw [← eJ] at hx; exact hx)
theorem seg_blockNil (h : Seg (model prog w) A R Y n s₀ (.block [] env) (leafOf (.ok .next)) fs s) : Seg (model prog w) A R Y n s₀ (.block [] env) ((model prog w).den (.block [] env)) fs s := h
end
section
variable {X : Cx}
def tGFor (wi : TI) (g : TG) (tb : TGn) : TGn := fun D ys σ H => wi σ H fun J H1 => ∃ W : Nat → Nat → List V → L2.St → Hp → Prop, (∃ m, W 0 m ys σ H1) ∧ ∀ i m ys σ H, W i m ys σ H →
  (J.stop i H ∧ D.nx ys σ H) ∨ (J.go i H ∧ ∃ N : List V → L2.St → Hp → Prop, (∀ ys' σ' H', N ys' σ' H' → ∃ m', m' < m ∧ W (i + 1) m' ys' σ' H') ∧ ∀ x H', J.yld i H x H' → g x σ H' fun σ2 H2 => tb { D with nx := N, ct := N, bk := D.nx } ys σ2 H2)
theorem gc_pins {S : Addr} {ip ip' : List (Addr × Obj)} {A : Around} {c : Code} {fs : List Frame} {gd : Bool → Bool} (g : GC X S ip A c fs gd) (h : ∀ p ∈ ip', p.1 ≠ S) : GC X S ip' A c fs gd := ⟨g.pn, h, g.apart, g.over, g.split, g.guard, g.gd⟩
theorem gs_for {tg iter : Expr} {body : List Stmt} {wi : TI} {g : TG} {tb : TGn} {pos : Pos} (hp : PassesOwn (model X.prog X.w) X.A X.env X.xe) (hcm : X.calm = true) (hi : PI X tg iter wi) (hg : PG X tg g) (hb : GSs X body tb)
    (hs : ∀ x, foldedSetIterable iter X.env x = pure x := by intro _; rfl) : GS X (.For tg iter body [] pos) (tGFor wi g tb) := by
  refine ⟨fun A S ip R n ys s₀ c fs K J gd lv s σ H D gc hn k hI ht => ?_⟩
  obtain ⟨acc, cc, r, I⟩ := hI
  rw [exec_For]
  refine seg_at ?_
  show Seg _ _ _ _ n s₀ c ((eval iter X.env >>= fun a => foldedSetIterable iter X.env a >>= fun x => standAt iter.pos >>= fun _ => holding [x] (pyIter x) >>= fun it => runOwn (.forLoop tg it body [] X.env) X.env).wrap K J gd lv) fs s
  refine seg_bind_wrap ?_
  rw [gc.over]
  refine wpAny_mono (hi.run _ s σ H _ I ht) (fun v s1 h1 => ?_) fun x s' hx => k.exc n s₀ x s' hx
  refine seg_bind_wrap (wpAny_of_eq (hs v) ?_)
  refine seg_bind_wrap (wpAny_standAt ?_)
  refine seg_bind_wrap (wpAny_holding ?_)
  rw [gc.over]
  refine wpAny_mono h1 (fun itv s2 h2 => ?_) fun x s' hx => k.exc n s₀ x s' hx
  obtain ⟨it, fp, tn, Jt, H2, rfl, I2, T, st2, f2, W, ⟨m0, w0⟩, turn⟩ := h2
  refine seg_call fun p => ?_
  have gl := fun (kk : Result → Sem PySem.Fin) => gc_loop (k := kk) (c' := .forLoop tg (.ref it) body [] X.env) (l := lv []) (kp := []) (p := p) gc rfl rfl
  have glb := fun (kk : Result → Sem PySem.Fin) => gc_loop (k := kk) (c' := .block [] X.env) (l := lv []) (kp := []) (p := p) gc rfl rfl
  have fS : ∀ b ∈ fp, b ≠ S := fun b hb z => (f2 b hb).2.2.2.2.2 (S, lstObj acc cc) (List.mem_append_right _ List.mem_cons_self) z.symm
  -- the iterator's objects, whatever stands in the consumer's list
  have stat : ∀ {acc' : Array Value} {c' : Nat} {H' : Hp}, (∀ b ∈ fp, H' b = none) → ∀ b ∈ fp, FpOk X ((S, lstObj acc' c') :: ip) H' b := by
    intro acc' c' H' hn b hb
    obtain ⟨_, z1, z2, z3, z4, z5⟩ := f2 b hb
    refine ⟨hn b hb, z1, z2, z3, z4, fun q hq => ?_⟩
    rcases List.mem_append.mp hq with hq | hq
    · exact z5 q (List.mem_append_left _ hq)
    · rcases List.mem_cons.mp hq with hq | hq
      · rw [hq]
        exact Ne.symm (fS b hb)
      · exact z5 q (List.mem_append_right _ (List.mem_cons_of_mem _ hq))
  have loop : ∀ (m i n : Nat) (ys : List V) (s₀ s : Shared) (σ : L2.St) (H : Hp), n + ys.length = sizeLine → W i m ys σ H → GI X S ip ys σ H s → tn i s.heap → (∀ b ∈ fp, H b = none) →
      Seg (model X.prog X.w) A R (GY X S) n s₀ (.forLoop tg (.ref it) body [] X.env) ((model X.prog X.w).den (.forLoop tg (.ref it) body [] X.env))
        (.ret (fun r => ((match r with | .ok f => (.pure f : Sem Flow) | .error e => .raise e).onRaise (cameBack X.env)).wrap K J gd lv) none (gd false) (lv []) c p [] :: fs) s := by
    intro m
    induction m using Nat.strongRecOn with
    | ind m ih =>
      intro i n ys s₀ s σ H hn w hI st hf
      have ee : ∀ (n : Nat) (s₀ : Shared) (x : Value) (s' : Shared), X.xe x s' → Seg (model X.prog X.w) A R (GY X S) n s₀ (.forLoop tg (.ref it) body [] X.env) (forOut X.env x)
          (.ret (fun r => ((match r with | .ok f => (.pure f : Sem Flow) | .error e => .raise e).onRaise (cameBack X.env)).wrap K J gd lv) none (gd false) (lv []) c p [] :: fs) s' := by
        intro n s₀ x s' hx
        unfold forOut
        refine seg_wrap ?_
        rw [(gl _).over]
        refine wpAny_bind (wpAny_mono (hp x s' hx) (fun _ s'' hcb => wpAny_theTreesLotGoes ?_) fun y s'' hcb => ?_)
        · exact seg_leaf (.error x) (seg_cameBack gc k hcb)
        · exact seg_leaf (.error y) (seg_cameBack gc k hcb)
      refine seg_forTurn ?_
      rw [(gl _).over]
      obtain ⟨acc, cc, r, I⟩ := hI
      rcases turn i m ys σ H w with ⟨stop, qn⟩ | ⟨go, N, hN, step⟩
      · refine thn (T.done X rfl rfl rfl hcm i _ s σ H _ I (stat hf) st stop) fun r' s4 ⟨hr, I4⟩ => ?_
        subst hr
        refine seg_again rfl (seg_blockNil ?_)
        exact seg_leaf (.ok .next) (k.ok n ys s₀ s4 .next hn ⟨σ, H, ⟨acc, cc, r, I4⟩, qn⟩)
      · refine thn (T.item X rfl rfl rfl hcm i _ s σ H _ I (stat hf) st go) fun r' s4 ⟨u, hr, h4⟩ => ?_
        subst hr
        refine thn h4 fun _ s5 ⟨x, H5, I5, r5, y5, st5, fr5⟩ => ?_
        have I5' := I5.pinned (stat fr5) (T.obj _ _ st5)
        refine wpAny_mono (hg.run _ s5 σ H5 x u _ I5' r5 (step x H5 y5)) (fun _ s6 ⟨σ6, H6, I6, q6⟩ => ?_) fun x s' hx => ee n s₀ x s' hx
        have hip : ∀ q ∈ ip ++ pinsAt fp s5.heap, q.1 ≠ S := fun q hq => by
          rcases List.mem_append.mp hq with hq | hq
          · exact gc.ip q hq
          · exact fS _ (of_pinsAt hq).1
        refine hb.run A S (ip ++ pinsAt fp s5.heap) R n ys s₀ _ _ _ _ id id s6 σ6 H6 { D with nx := N, ct := N, bk := D.nx } (gc_pins (gl _) hip) hn ⟨fun n' ys' s₀' s7 f hn' hs => ?_, fun n' s₀' x s7 hx => ee n' s₀' x s7 hx⟩ ⟨acc, cc, r, I6⟩ q6
        have back : ∀ {ys' : List V} {σ7 : L2.St} {H7 : Hp}, GI X S (ip ++ pinsAt fp s5.heap) ys' σ7 H7 s7 → GI X S ip ys' σ7 H7 s7 ∧ tn (i + 1) s7.heap ∧ ∀ b ∈ fp, H7 b = none := by
          rintro ys' σ7 H7 ⟨acc7, c7, r7, I7⟩
          have pin7 : ∀ {b : Addr} {o : Obj}, b ∈ fp → s5.heap.get? b = some o → s7.heap.get? b = some o ∧ H7 b = none := fun hb e =>
            let z := I7.pin (_, _) (List.mem_append_right _ (List.mem_cons_of_mem _ (List.mem_append_right _ (mem_pinsAt hb e)))); ⟨z.1, z.2.1⟩
          refine ⟨⟨acc7, c7, r7, I7.pins_of fun q hq => I7.pin q ?_⟩, T.keep _ _ _ st5 fun b hb o e => (pin7 hb e).1, fun b hb => ?_⟩
          · rcases List.mem_cons.mp hq with hq | hq
            · rw [hq]; exact List.mem_append_right _ List.mem_cons_self
            · exact List.mem_append_right _ (List.mem_cons_of_mem _ (List.mem_append_left _ hq))
          · obtain ⟨o, e, _⟩ := T.obj _ _ st5 b hb
            exact (pin7 hb e).2
        cases f with
        | next =>
          obtain ⟨σ7, H7, I7, n7⟩ := hs
          obtain ⟨m', hm, w7⟩ := hN ys' σ7 H7 n7
          exact seg_again rfl (ih m' hm (i + 1) n' ys' s₀' s7 σ7 H7 hn' w7 (back I7).1 (back I7).2.1 (back I7).2.2)
        | cont =>
          obtain ⟨σ7, H7, I7, n7⟩ := hs
          obtain ⟨m', hm, w7⟩ := hN ys' σ7 H7 n7
          exact seg_again rfl (ih m' hm (i + 1) n' ys' s₀' s7 σ7 H7 hn' w7 (back I7).1 (back I7).2.1 (back I7).2.2)
        | brk =>
          obtain ⟨σ7, H7, I7, q7⟩ := hs
          exact seg_leaf (.ok .next) (k.ok n' ys' s₀' s7 .next hn' ⟨σ7, H7, (back I7).1, q7⟩)
        | ret v =>
          obtain ⟨v7, σ7, H7, I7, r7, q7⟩ := hs
          exact seg_leaf (.ok (.ret v)) (k.ok n' ys' s₀' s7 (.ret v) hn' ⟨v7, σ7, H7, (back I7).1, r7, q7⟩)
  exact loop m0 0 n ys s₀ s2 σ H2 hn w0 ⟨acc, cc, r, I2⟩ st2 fun b hb => (f2 b hb).1
end
def GForGo (g : TG) (tb : TGn) (D : GEnds) (ys : List V) (σ : L2.St) : It → Hp → Prop := fun J H1 => ∃ W : Nat → Nat → List V → L2.St → Hp → Prop, (∃ m, W 0 m ys σ H1) ∧ ∀ i m ys σ H, W i m ys σ H →
  (J.stop i H ∧ D.nx ys σ H) ∨ (J.go i H ∧ ∃ N : List V → L2.St → Hp → Prop, (∀ ys' σ' H', N ys' σ' H' → ∃ m', m' < m ∧ W (i + 1) m' ys' σ' H') ∧ ∀ x H', J.yld i H x H' → g x σ H' fun σ2 H2 => tb { D with nx := N, ct := N, bk := D.nx } ys σ2 H2)
theorem gfor_by {J : It} {n : Nat} {G : Hp → Prop} {Y : Nat → Hp → V → Hp → Prop} (w : Walk J n G Y) {g : TG} {tb : TGn} {D : GEnds} {ys : List V} {σ : L2.St} {H : Hp} (Pv : Nat → List V → L2.St → Hp → Prop) (h0 : Pv 0 ys σ H) (hG : ∀ i ys σ H, i ≤ n → Pv i ys σ H → G H)
    (hs : ∀ i ys x σ H H', i < n → Pv i ys σ H → Y i H x H' → g x σ H' fun σ2 H2 => tb { D with nx := Pv (i + 1), ct := Pv (i + 1), bk := D.nx } ys σ2 H2) (hd : ∀ ys σ H, Pv n ys σ H → D.nx ys σ H) : GForGo g tb D ys σ J H := by
  refine ⟨fun i m ys σ H => m = n - i ∧ i ≤ n ∧ Pv i ys σ H, ⟨n, by simp, Nat.zero_le _, h0⟩, ?_⟩
  rintro i m ys σ H ⟨rfl, hi, p⟩
  have q := hG i ys σ H hi p
  by_cases hlt : i < n
  · exact .inr ⟨w.goes i H hlt q, Pv (i + 1), fun ys' σ' H' p' => ⟨n - (i + 1), by omega, rfl, hlt, p'⟩, fun x H' y => hs i ys x σ H H' hlt p (w.yields i H x H' hlt q y)⟩
  · have e : i = n := by omega
    subst e
    exact .inl ⟨w.stops H q, hd ys σ H p⟩
section
variable {D : GEnds} {ys : List V} {σ : L2.St} {H : Hp}
theorem s_gfor {wi : TI} {g : TG} {tb : TGn} (h : wi σ H (GForGo g tb D ys σ)) : tGFor wi g tb D ys σ H := h
theorem s_gthen {t u : TGn} (h : t { D with nx := fun ys' σ' H' => u D ys' σ' H' } ys σ H) : tGThen t u D ys σ H := h
theorem s_g0 (h : D.nx ys σ H) : tG0 D ys σ H := h
theorem s_gyield {te : TE} (hl : ys.length < sizeLine) (h : te σ H fun x H1 => D.nx (ys ++ [x]) σ H1) : tGYield te D ys σ H := ⟨hl, h⟩
theorem s_gplain {t : TS} (h : t ⟨D.nx ys, D.rt ys, D.bk ys, D.ct ys⟩ σ H) : tPlain t D ys σ H := h
end
def rOut (Q : VK) : List V → Hp → Prop := fun out H2 => ∀ p, H2 p = none → Q (.ref p) (upd H2 p (.lst out))
theorem s_listG {sp : SpG} {E : XK} {t : TA} {σ : L2.St} {H : Hp} {Q : VK} (h : t σ H fun vs H1 => sp vs H1 (rOut Q) E) : tListG (tCallG sp [] E t) σ H Q := by
  show t σ H fun vs H1 => sp (vs ++ []) H1 (rOut Q) E
  simpa only [List.append_nil] using h
theorem fun_okG {P : Program} {w : World} {K : PySem.W.Frag} {mg : Str → Option Value} {base : Heap} {x qual : Str} {st : Stmt} {f : Addr} {fd : FuncData} {N ps : List Str} {k : Nat} {sp : SpG} (F : Fun K x qual st f fd) (S : GScope N ps (defScope st)) (len : ∀ vs H Q E, sp vs H Q E → vs.length = ps.length)
    (hbody : ∀ (cdv : Value) (A : Around) (outer : List Env) (s : Shared) (H : Hp) (vs : List V) (Q : List V → Hp → Prop) (E : XK) (pn : List (Addr × Obj)), Room k (A.deeper (envOfC qual (defScope st) s.heap.objs.size f cdv)) → sp vs H Q E →
      ∃ t, GSs (gcxOf P w K mg base N qual (defScope st) f cdv A outer s H E pn) (defBody st) t ∧ t { nx := fun ys _ H' => Q ys H', rt := fun ys v H' => v = .non ∧ Q ys H' } [] (L2.start N vs) H) : GFn P w K mg base (k + 1) f fd ps sp := by
  obtain ⟨oc, od, kV, doc, pm, an, cdv, ct, osl, rfl, lk, hcd⟩ := F.ex
  exact gfn_of lk hcd S len fun A outer s H vs Q E pn hr hsp => hbody cdv A outer s H vs Q E pn hr hsp
theorem noStop0 {K : PySem.W.Frag} : NoStop K C8.E0 := fun _ _ _ h => h.elim
def rMax2 : List V → Hp → VK → Prop := fun xs H Q => ∃ i j, xs = [.int i, .int j] ∧ Q (.int (if j > i then j else i)) H
def rMin2 : List V → Hp → VK → Prop := fun xs H Q => ∃ i j, xs = [.int i, .int j] ∧ Q (.int (if j < i then j else i)) H
theorem callMax {X : Cx} (hc : X.calm = true) : CallR X (.builtin "max") rMax2 := call_max2 hc
theorem s_max2 {i j : Int} {H : Hp} {Q : VK} (q : Q (.int (if j > i then j else i)) H) : rMax2 [.int i, .int j] H Q := ⟨i, j, rfl, q⟩
theorem s_min2 {i j : Int} {H : Hp} {Q : VK} (q : Q (.int (if j < i then j else i)) H) : rMin2 [.int i, .int j] H Q := ⟨i, j, rfl, q⟩
end My
namespace My
open PySem PySem.Spec PyProof.Rows L2 RZ
theorem s_catL {K : PySem.W.Frag} {H : Hp} {Q : VK} {a b : Addr} {xs ys : List V} (ha : H a = some (.lst xs)) (hb : H b = some (.lst ys)) (hl : xs.length + ys.length ≤ 1000000) (k : ∀ p, H p = none → Q (.ref p) (upd H p (.lst (xs ++ ys)))) : rAddG K (.ref a) (.ref b) H Q :=
  .inr (.inr (.inr ⟨a, b, xs, ys, rfl, rfl, ha, hb, by rw [sizeLine_eq]; omega, k⟩))
end My
namespace My
open PySem PySem.Spec PyProof.Rows L2 RZ
theorem if_and {b1 b2 : Bool} {tb : TE} {σ : L2.St} {H : Hp} {Q : VK} (h2 : ∀ Q : VK, Q (.bl b2) H → tb σ H Q) (q : Q (.bl (b1 && b2)) H) : if b1 = true then tb σ H Q else Q (.bl false) H := by
  cases b1
  · exact iteF q
  · exact iteT (h2 _ q)
end My
namespace My
open PySem PySem.Spec PyProof.Rows L2 RZ
/-- a source: a list, a tuple, a text -/
inductive Kv | l (a : Addr) | t (a : Addr) | s (z : Str)
def Kv.v : Kv → V | .l a => .ref a | .t a => .ref a | .s z => .str z
def signs (z : Str) : List V := z.cps.toList.map fun c => V.str ⟨#[c]⟩
def Kv.seq (K : PySem.W.Frag) (H : Hp) (xs : List V) : Kv → Prop
  | .l a => SqL K H a xs
  | .t a => SqT K H a xs
  | .s z => xs = signs z
def Kv.at (t : Tok) (h : Heap) (it : Addr) (i : Nat) : Kv → Prop
  | .l a => h.IsListIter it a i
  | .t a => h.IsTupleIter it a i
  | .s z => h.IsStrIter it (strIterType z) z t i
def Kv.own : Kv → List Addr | .l a => [a] | .t a => [a] | .s _ => []
def Kv.obj (t : Tok) : Kv → Obj
  | .l a => { cls := .type "list_iterator", data := .fields #[.ref a, .int 0 0] }
  | .t a => { cls := .type "tuple_iterator", data := .fields #[.ref a, .int 0 0] }
  | .s z => { cls := .type (strIterType z), data := .fields #[.str z t, .int 0 0] }
section
variable {X : Cx} {pins : List (Addr × Obj)} {σ : L2.St} {H : Hp} {s : Shared}
theorem Kv.inj {k : Kv} {xs ys : List V} (I : Inv X pins σ H s) (h : k.seq X.K H xs) (h' : k.seq X.K H ys) : xs = ys := by
  cases k with
  | l a => exact I.list_inj h h'
  | t a => exact I.tuple_inj h h'
  | s z => exact Eq.trans h (Eq.symm h')
theorem Kv.start {k : Kv} {t : Tok} {h : Heap} {it : Addr} (e : h.get? it = some (k.obj t)) : k.at t h it 0 := by
  cases k with
  | l a => exact ⟨_, e, rfl, rfl⟩
  | t a => exact ⟨_, e, rfl, rfl⟩
  | s z => exact ⟨_, e, rfl, rfl⟩
end
def ItzG (K : PySem.W.Frag) (k1 k2 : Kv) : It :=
  ⟨fun i H => ∃ (xs ys : List V) (x y : V), k1.seq K H xs ∧ k2.seq K H ys ∧ xs[i]? = some x ∧ ys[i]? = some y,
    fun i H v H' => ∃ T x y, v = .ref T ∧ H T = none ∧ H' = upd H T (.tup [x, y]) ∧ (∀ xs, k1.seq K H xs → xs[i]? = some x) ∧ ∀ ys, k2.seq K H ys → ys[i]? = some y,
    fun i H => ∃ xs ys : List V, k1.seq K H xs ∧ k2.seq K H ys ∧ i = min xs.length ys.length⟩
def iZipG (K : PySem.W.Frag) (ta : TA) : TI := fun σ H R => ta σ H fun vs H1 => ∃ (k1 k2 : Kv) (xs ys : List V), vs = [k1.v, k2.v] ∧ k1.seq K H1 xs ∧ k2.seq K H1 ys ∧ R (ItzG K k1 k2) H1
def IteG (K : PySem.W.Frag) (k : Kv) : It :=
  ⟨fun i H => ∃ (xs : List V) (x : V), k.seq K H xs ∧ xs[i]? = some x,
    fun i H v H' => ∃ T x, v = .ref T ∧ H T = none ∧ H' = upd H T (.tup [.int (i : Nat), x]) ∧ ∀ xs, k.seq K H xs → xs[i]? = some x,
    fun i H => ∃ xs : List V, k.seq K H xs ∧ i = xs.length⟩
def iEnumG (K : PySem.W.Frag) (ta : TA) : TI := fun σ H R => ta σ H fun vs H1 => ∃ (k : Kv) (xs : List V), vs = [k.v] ∧ k.seq K H1 xs ∧ R (IteG K k) H1
section
variable {K : PySem.W.Frag} {σ : L2.St} {H : Hp} {R : It → Hp → Prop} {ta : TA}
def rZipG (K : PySem.W.Frag) : List V → Hp → (It → Hp → Prop) → Prop := fun vs H R => ∃ (k1 k2 : Kv) (xs ys : List V), vs = [k1.v, k2.v] ∧ k1.seq K H xs ∧ k2.seq K H ys ∧ R (ItzG K k1 k2) H
def rEnumG (K : PySem.W.Frag) : List V → Hp → (It → Hp → Prop) → Prop := fun vs H R => ∃ (k : Kv) (xs : List V), vs = [k.v] ∧ k.seq K H xs ∧ R (IteG K k) H
theorem s_izipG (h : ta σ H fun vs H1 => rZipG K vs H1 R) : iZipG K ta σ H R := h
theorem s_ienumG (h : ta σ H fun vs H1 => rEnumG K vs H1 R) : iEnumG K ta σ H R := h
end
end My
namespace My
open PySem PySem.Spec PyProof.Rows L2 RZ
section
variable {K : PySem.W.Frag} {σ : L2.St} {H : Hp} {Q : VK} {C a dx : Addr} {f : Str} {v : V} {fs : List (Str × V)} {te tv : TE} {t : TA} {sp : Sp} {dvs : List V} {E : XK} {nx bk ct : L2.St → Hp → Prop} {rt : VK}
def rFld (K : PySem.W.Frag) (f : Str) (Q : VK) : V → Hp → Prop := fun x H1 => ∃ a C dx fs v, x = .ref a ∧ H1 a = some (.ins C dx fs) ∧ Cls K C ∧ NoAttr K C f ∧ fs.lookup f = some v ∧ Q v H1
theorem s_fldR (h : te σ H (rFld K f Q)) : tFld K te f σ H Q := h
def rSto (K : PySem.W.Frag) (f : Str) (y : V) (nx : Hp → Prop) : V → Hp → Prop := fun x H2 => ∃ a C dx fs, x = .ref a ∧ H2 a = some (.ins C dx fs) ∧ Cls K C ∧ NoAttr K C f ∧ fs.length < 1000 ∧ nx (upd H2 a (.ins C dx (putF f y fs)))
theorem s_stoR (h : tv σ H fun y H1 => te σ H1 (rSto K f y (nx σ))) : sFld K te tv f ⟨nx, rt, bk, ct⟩ σ H := h
def rMake (C : Addr) (sp : Sp) (E : XK) (Q : VK) : List V → Hp → Prop := fun vs H1 => ∀ x dx, H1 x = none → H1 dx = none → dx ≠ x → sp (.ref x :: vs) (upd (upd H1 dx (.own x)) x (.ins C dx [])) (fun v H2 => v = .non ∧ Q (.ref x) H2) E
theorem s_makeR (h : t σ H (rMake C sp E Q)) : tMake C sp [] E t σ H Q := by
  unfold tMake
  simp only [List.append_nil]
  exact h
def rMeth (C : Addr) (m : Str) (sp : Sp) (E : XK) (t : TA) (σ : L2.St) (Q : VK) : V → Hp → Prop := fun x H1 => ∃ a dx fs, x = .ref a ∧ H1 a = some (.ins C dx fs) ∧ fs.lookup m = none ∧ t σ H1 fun vs H2 => sp (x :: vs) H2 Q E
theorem s_methR {m : Str} (h : te σ H (rMeth C m sp E t σ Q)) : tMeth C m sp [] E te t σ H Q := by
  unfold tMeth
  simp only [List.append_nil]
  exact h
end
/-- a new instance, its own dict: what was tracked stays -/
theorem Fr.obj {N : Addr → Prop} {H : Hp} {x dx : Addr} {o : HO} (h1 : H x = none) (h2 : H dx = none) (n : dx ≠ x) : Fr N H (upd (upd H dx (.own x)) x o) := (Fr.new h2).mut h1
end My
namespace My
open PySem PySem.Spec PyProof.Rows L2 RZ
theorem s_ckw {r : List V → List V → Hp → VK → Prop} {t tk : TA} {σ : L2.St} {H : Hp} {Q : VK} (h : t σ H fun vs H1 => tk σ H1 fun zs H2 => r vs zs H2 Q) : tCKw r t tk σ H Q := h
def tJoined (ts : List TE) : TE := fun σ H Q => tJs ts Str.empty σ H fun out H1 => Q (.str out) H1
def rJ (ts : List TE) (acc : Str) (σ : L2.St) (Q : Str → Hp → Prop) : V → Hp → Prop := fun x H1 => ∃ y : Str, x = .str y ∧ (acc ++ y).length ≤ sizeLine ∧ tJs ts (acc ++ y) σ H1 Q
theorem s_joined {ts : List TE} {σ : L2.St} {H : Hp} {Q : VK} (h : tJs ts Str.empty σ H fun out H1 => Q (.str out) H1) : tJoined ts σ H Q := h
theorem s_js {t : TE} {ts : List TE} {acc : Str} {σ : L2.St} {H : Hp} {Q : Str → Hp → Prop} (h : t σ H (rJ ts acc σ Q)) : tJs (t :: ts) acc σ H Q := h
theorem s_js0 {acc : Str} {σ : L2.St} {H : Hp} {Q : Str → Hp → Prop} (h : Q acc H) : tJs [] acc σ H Q := h
def rFmt (Q : VK) : V → Hp → Prop := fun x H1 => (∃ y : Str, x = .str y ∧ y.length ≤ sizeLine ∧ Q (.str y) H1) ∨ ∃ i : Int, x = .int i ∧ i.natAbs.log2 < 1920 ∧ Q (.str (toString i)) H1
theorem s_fmt {te : TE} {σ : L2.St} {H : Hp} {Q : VK} (h : te σ H (rFmt Q)) : tFmt te σ H Q := h
end My
namespace My
open PySem PySem.Spec PyProof.Rows L2 RZ
def rStr1 (R : It → Hp → Prop) : V → Hp → Prop := fun v H1 => ∃ x, v = .str x ∧ R (Its x) H1
theorem s_iStr {te : TE} {σ : L2.St} {H : Hp} {R : It → Hp → Prop} (h : te σ H (rStr1 R)) : iStr te σ H R := h
theorem s_str1 {x : Str} {H : Hp} {R : It → Hp → Prop} (h : R (Its x) H) : rStr1 R (.str x) H := ⟨x, rfl, h⟩
def rInSign : V → V → Hp → VK → Prop := fun x y H Q => ∃ (c : Nat) (z : Str), x = .str ⟨#[c]⟩ ∧ y = .str z ∧ Q (.bl (decide (c ∈ z.cps.toList))) H
theorem s_inSign {c : Nat} {z : Str} {H : Hp} {Q : VK} (q : Q (.bl (decide (c ∈ z.cps.toList))) H) : rInSign (.str ⟨#[c]⟩) (.str z) H Q := ⟨c, z, rfl, rfl, q⟩
theorem s_ifx {tt : TT} {ta tb : TE} {σ : L2.St} {H : Hp} {Q : VK} (h : tt σ H fun b H1 => if b = true then ta σ H1 Q else tb σ H1 Q) : tIf tt ta tb σ H Q := h
end My
namespace My
open PySem PySem.Spec PyProof.Rows L2 RZ
/-- so many numbers, each within -/
def Rng (n : Nat) (lo hi : Int) (vs : List V) : Prop := ∃ ns : List Int, vs = ns.map V.int ∧ ns.length = n ∧ ∀ i ∈ ns, lo ≤ i ∧ i < hi
theorem Rng.nil {lo hi : Int} : Rng 0 lo hi [] := ⟨[], rfl, rfl, fun _ h => by cases h⟩
theorem Rng.snoc {n : Nat} {lo hi i : Int} {vs : List V} (h : Rng n lo hi vs) (h1 : lo ≤ i) (h2 : i < hi) : Rng (n + 1) lo hi (vs ++ [.int i]) := by
  obtain ⟨ns, rfl, rfl, a⟩ := h
  refine ⟨ns ++ [i], by simp, by simp, fun j hj => ?_⟩
  rcases List.mem_append.mp hj with hj | hj
  · exact a j hj
  · rw [List.mem_singleton.mp hj]
    exact ⟨h1, h2⟩
theorem Rng.three {lo hi : Int} {vs : List V} (h : Rng 3 lo hi vs) : ∃ x y z, vs = [.int x, .int y, .int z] ∧ lo ≤ x ∧ x < hi ∧ lo ≤ y ∧ y < hi ∧ lo ≤ z ∧ z < hi := by
  obtain ⟨ns, rfl, e, a⟩ := h
  match ns, e with
  | [x, y, z], _ =>
    have hx := a x (by simp)
    have hy := a y (by simp)
    have hz := a z (by simp)
    exact ⟨x, y, z, rfl, hx.1, hx.2, hy.1, hy.2, hz.1, hz.2⟩
end My
local macro_rules | `(tactic| walk_at "at") => `(tactic| (first | with_reducible exact My.at0 | with_reducible exact My.at1 | with_reducible exact My.at2 | with_reducible exact My.at3 | with_reducible exact My.at4 | with_reducible exact My.at5 | with_reducible exact My.at6 | with_reducible exact My.at7))
local macro_rules | `(tactic| walk_at "ix") => `(tactic| (first | with_reducible exact My.ix0 | with_reducible exact My.ix1 | with_reducible exact My.ix2 | with_reducible exact My.ix3 | with_reducible exact My.ix4 | with_reducible exact My.ix5 | with_reducible exact My.ix6 | with_reducible exact My.ix7))
local macro_rules | `(tactic| walk_at "tt") => `(tactic| first | exact rfl | exact decide_eq_true (by first | rfl | omega) | exact My.ndec_t (by omega))
local macro_rules | `(tactic| walk_at "ff") => `(tactic| first | exact rfl | exact decide_eq_false (by omega) | exact My.ndec_f (by first | rfl | omega))
local macro_rules | `(tactic| walk_at "rd1") => `(tactic| first
  | with_reducible refine My.s_seq ?_
  | with_reducible refine My.s_asg ?_
  | ((with_reducible apply My.s_var); (focus exact rfl))
  | with_reducible refine My.s_c ?_
  | with_reducible refine My.s_op ?_
  | with_reducible refine My.s_un ?_
  | ((with_reducible apply My.s_name); (focus (simp only [List.set_cons_zero, List.set_cons_succ]; try exact rfl)))
  | with_reducible refine My.s_addI ?_
  | with_reducible refine My.s_rI0 ?_
  | with_reducible refine My.s_eqI ?_
  | with_reducible refine My.s_neI ?_
  | with_reducible refine My.s_eqS ?_
  | with_reducible refine My.s_neS ?_
  | with_reducible refine My.s_eqB ?_
  | with_reducible refine My.s_neB ?_
  | with_reducible refine My.s_rU ?_
  | with_reducible refine My.s_test ?_
  | with_reducible refine My.s_B ?_
  | with_reducible refine My.s_exbP ?_
  | with_reducible refine My.s_exi ?_
  | with_reducible refine My.s_and ?_
  | with_reducible refine My.s_or ?_
  | with_reducible refine My.s_not ?_
  | with_reducible refine My.s_andV ?_
  | with_reducible refine My.s_orV ?_
  | with_reducible refine My.s_notV ?_
  | with_reducible refine My.s_if ?_
  | with_reducible refine My.s_ifS ?_
  | ((with_reducible refine My.ite_t ?_ ?_); (focus (walk_at "tt")))
  | ((with_reducible refine My.ite_f ?_ ?_); (focus (walk_at "ff")))
  | with_reducible refine My.s_isN ?_
  | with_reducible refine My.s_notN ?_
  | with_reducible refine My.s_nil ?_
  | with_reducible refine My.s_cons ?_
  | with_reducible refine My.s_tup ?_
  | with_reducible refine My.s_lst ?_
  | with_reducible refine My.s_CB ?_
  | with_reducible refine My.s_BM ?_
  | with_reducible refine My.s_BM0 ?_
  | with_reducible refine My.s_call ?_
  | with_reducible refine My.s_ret ?_
  | with_reducible refine My.s_retN ?_
  | with_reducible refine My.s_next ?_
  | with_reducible refine My.s_break ?_
  | with_reducible refine My.s_cont ?_
  | with_reducible refine My.s_drop ?_
  | with_reducible refine My.s_par ?_
  | with_reducible refine My.s_sub ?_
  | ((with_reducible apply My.s_ixL); (focus (first | assumption | (apply L2.SqL.of; first | assumption | exact L2.upd_same))); (focus (walk_at "at")))
  | ((with_reducible apply My.s_ixT); (focus (first | assumption | (apply L2.SqT.of; first | assumption | exact L2.upd_same) | (apply My.TupAt.sq; assumption))); (focus (walk_at "at")))
  | ((with_reducible apply My.s_setL); (focus assumption); (focus (walk_at "ix")))
  | ((with_reducible apply My.s_lenL); (focus (first | assumption | (apply L2.SqL.of; first | assumption | exact L2.upd_same))))
  | ((with_reducible apply My.s_lenT); (focus (first | assumption | (apply L2.SqT.of; first | assumption | exact L2.upd_same) | (apply My.TupAt.sq; assumption))))
  | ((with_reducible apply My.s_par2); (focus (simp only [List.set_cons_zero, List.set_cons_succ]; try exact rfl)))
  | with_reducible refine My.s_int1 ?_
  | with_reducible refine My.s_for ?_
  | with_reducible refine My.s_iRng1 ?_
  | with_reducible refine My.s_iRng2 ?_
  | with_reducible refine My.s_iList ?_
  | with_reducible refine My.s_iTup ?_
  | ((with_reducible refine My.s_rng1 ?_ ?_); (focus omega))
  | ((with_reducible refine My.s_rng2 ?_ ?_); (focus omega))
  | ((with_reducible apply My.s_lst1); (focus (first | assumption | (apply L2.SqL.of; first | assumption | exact L2.upd_same))))
  | ((with_reducible apply My.s_tup1); (focus (first | assumption | (apply L2.SqT.of; first | assumption | exact L2.upd_same) | (apply My.TupAt.sq; assumption))))
  | with_reducible refine My.s_sl ?_
  | with_reducible refine My.s_noPart ?_
  | with_reducible refine My.s_part ?_
  | with_reducible refine My.s_bits ?_
  | ((with_reducible refine My.s_mul ?_ ?_); (focus omega))
  | ((with_reducible refine My.s_fdiv ?_ ?_); (focus omega))
  | ((with_reducible refine My.s_mod ?_ ?_); (focus omega))
  | with_reducible refine My.s_pow9 ?_
  | with_reducible refine My.s_pow18 ?_
  | ((with_reducible refine My.s_pow ?_ ?_); (focus (refine ⟨by decide, by decide, by decide⟩))))
local macro_rules | `(tactic| walk_at "rd") => `(tactic| repeat walk_at "rd1")
local macro_rules | `(tactic| walk_at "wipe") => `(tactic| (simp only [L2.wipe, List.map_cons, List.map_nil, List.set_cons_zero, List.set_cons_succ]; try exact rfl))
local macro_rules | `(tactic| walk_at "rd1") => `(tactic| first
  | with_reducible refine My.s_lc ?_
  | with_reducible refine My.s_zipA ?_
  | with_reducible refine My.s_gCons ?_
  | with_reducible refine My.s_gNil ?_
  | with_reducible refine My.s_yes ?_
  | ((with_reducible apply My.s_gTup); (focus (first | assumption | (apply L2.SqT.of; first | assumption | exact L2.upd_same) | (apply My.TupAt.sq; assumption))); (focus exact rfl))
  | ((with_reducible apply My.s_zipL); (focus (first | assumption | (apply L2.SqL.of; first | assumption | exact L2.upd_same))); (focus (first | assumption | (apply L2.SqL.of; first | assumption | exact L2.upd_same))))
  | ((with_reducible apply My.s_zipT); (focus (first | assumption | (apply L2.SqT.of; first | assumption | exact L2.upd_same) | (apply My.TupAt.sq; assumption))); (focus (first | assumption | (apply L2.SqT.of; first | assumption | exact L2.upd_same) | (apply My.TupAt.sq; assumption))))
  | ((with_reducible apply My.s_isi_list); (focus (walk_at "hd")))
  | ((with_reducible apply My.s_isi_tuple); (focus (walk_at "hd")))
  | ((with_reducible apply My.s_isi_dict); (focus (walk_at "hd")))
  | ((with_reducible apply My.s_isi_bool); (focus (walk_at "hd")))
  | ((with_reducible apply My.s_isi_int); (focus (walk_at "hd")))
  | ((with_reducible apply My.s_isi_str); (focus (walk_at "hd"))))
local macro_rules | `(tactic| walk_at "hd") => `(tactic| first
  | with_reducible assumption
  | with_reducible exact My.Hd.int (N := My.N0) _
  | with_reducible exact My.Hd.str (N := My.N0) _
  | with_reducible exact My.Hd.bl (N := My.N0) _
  | with_reducible exact My.Hd.non (N := My.N0))
local macro_rules | `(tactic| walk_at "rd1") => `(tactic| first
  | with_reducible refine My.s_xgR ?_
  | with_reducible refine My.s_callS ?_
  | with_reducible refine My.s_mkO ?_
  | with_reducible refine My.s_ost ?_)
local macro_rules | `(tactic| walk_at "rd1") => `(tactic| first
  | with_reducible refine My.s_gfor ?_
  | with_reducible refine My.s_gthen ?_
  | with_reducible refine My.s_g0 ?_
  | with_reducible refine My.s_gplain ?_
  | with_reducible refine My.s_max2 ?_
  | with_reducible refine My.s_min2 ?_
  | with_reducible refine My.s_listG ?_)
local macro_rules | `(tactic| walk_at "rd1") => `(tactic| first
  | with_reducible refine My.s_fldR ?_
  | with_reducible refine My.s_stoR ?_
  | with_reducible refine My.s_makeR ?_
  | with_reducible refine My.s_methR ?_
  | with_reducible refine My.s_izipG ?_
  | with_reducible refine My.s_ienumG ?_)
local macro_rules | `(tactic| walk_at "rd1") => `(tactic| first
  | with_reducible refine My.s_ckw ?_
  | with_reducible refine My.s_joined ?_
  | with_reducible refine My.s_js ?_
  | with_reducible refine My.s_js0 ?_
  | with_reducible refine My.s_fmt ?_)
local macro_rules | `(tactic| walk_at "rd1") => `(tactic| first
  | with_reducible refine My.s_ifx ?_
  | with_reducible refine My.s_iStr ?_
  | with_reducible refine My.s_str1 ?_
  | with_reducible refine My.s_inSign ?_)
namespace My
open PySem PySem.Spec PyProof.Rows L2 RZ
open LamX (ExtN Tabs TabS TabB CodeO)
def top (i : Nat) : Stmt := PySem.Challenge.pw_sparenots_k04_totals_and_below.main.body.getD i (.Pass ⟨0, 0, 0, 0⟩)
abbrev s_with_total : Stmt := top 1
abbrev lv_with_total : Nat := 1
theorem sc_with_total : GScope ["total", "first", "second"] ["total"] (defScope s_with_total) := ⟨rfl, rfl, rfl, by decide +kernel, rfl, by decide +kernel, by decide +kernel⟩
abbrev s_is_below : Stmt := top 2
abbrev lv_is_below : Nat := 1
theorem sc_is_below : FnScope ["first", "second", "low", "high"] ["first", "second"] (defScope s_is_below) := ⟨rfl, rfl, rfl, by decide +kernel, rfl, by decide +kernel, by decide +kernel⟩
abbrev s__law_bag : Stmt := top 4
abbrev lv__law_bag : Nat := 1
theorem sc__law_bag : FnScope ["_law_script", "_law_salt", "_law_cell"] ["_law_script"] (defScope s__law_bag) := ⟨rfl, rfl, rfl, by decide +kernel, rfl, by decide +kernel, by decide +kernel⟩
abbrev s__law_pull : Stmt := top 5
abbrev lv__law_pull : Nat := 1
theorem sc__law_pull : FnScope ["_law_bag_here", "_law_many", "_law_cell", "_law_got", "_law_seed"] ["_law_bag_here", "_law_many"] (defScope s__law_pull) := ⟨rfl, rfl, rfl, by decide +kernel, rfl, by decide +kernel, by decide +kernel⟩
abbrev s__law_like : Stmt := top 8
abbrev lv__law_like : Nat := 6
theorem sc__law_like : FnScope ["_law_found", "_law_due", "_law_one", "_law_other", "_law_name"] ["_law_found", "_law_due"] (defScope s__law_like) := ⟨rfl, rfl, rfl, by decide +kernel, rfl, by decide +kernel, by decide +kernel⟩
abbrev s__law_great : Stmt := top 7
abbrev lv__law_great : Nat := 2
theorem sc__law_great : FnScope ["_law_bag_here", "_law_result", "_law_turn"] ["_law_bag_here"] (defScope s__law_great) := ⟨rfl, rfl, rfl, by decide +kernel, rfl, by decide +kernel, by decide +kernel⟩
abbrev s__law_small : Stmt := top 9
abbrev lv__law_small : Nat := 2
theorem sc__law_small : FnScope ["_law_bag_here", "_law_k"] ["_law_bag_here"] (defScope s__law_small) := ⟨rfl, rfl, rfl, by decide +kernel, rfl, by decide +kernel, by decide +kernel⟩
abbrev s__law_situation : Stmt := top 10
abbrev lv__law_situation : Nat := 3
theorem sc__law_situation : FnScope ["_law_bag_here", "_law_k"] ["_law_bag_here"] (defScope s__law_situation) := ⟨rfl, rfl, rfl, by decide +kernel, rfl, by decide +kernel, by decide +kernel⟩
abbrev s__law_of : Stmt := top 6
abbrev lv__law_of : Nat := 2
theorem sc__law_of : FnScope ["_law_bag_here", "_law_things"] ["_law_bag_here", "_law_things"] (defScope s__law_of) := ⟨rfl, rfl, rfl, by decide +kernel, rfl, by decide +kernel, by decide +kernel⟩
abbrev s__law_above : Stmt := top 11
abbrev lv__law_above : Nat := 3
theorem sc__law_above : FnScope ["_law_bag_here", "_law_s", "_law_value"] ["_law_bag_here", "_law_s"] (defScope s__law_above) := ⟨rfl, rfl, rfl, by decide +kernel, rfl, by decide +kernel, by decide +kernel⟩
abbrev s_law : Stmt := top 12
abbrev lv_law : Nat := 9
theorem sc_law : FnScope ["_law_script", "_law_bag_here", "_law_total", "_law_due", "_law_first", "_law_turn", "_law_one", "_law_two", "_law_below", "_law_above_here", "_law_second"] ["_law_script"] (defScope s_law) := ⟨rfl, rfl, rfl, by decide +kernel, rfl, by decide +kernel, by decide +kernel⟩
structure Txt (K : PySem.W.Frag) (mg : Str → Option Value) : Type where
  f_with_total : Addr
  fd_with_total : FuncData
  F_with_total : Fun K "with_total" "with_total" s_with_total f_with_total fd_with_total
  g_with_total : mg "with_total" = some (.ref f_with_total)
  b_with_total : Binds K fd_with_total ["total"] []
  f_is_below : Addr
  fd_is_below : FuncData
  F_is_below : Fun K "is_below" "is_below" s_is_below f_is_below fd_is_below
  g_is_below : mg "is_below" = some (.ref f_is_below)
  b_is_below : Binds K fd_is_below ["first", "second"] []
  f__law_bag : Addr
  fd__law_bag : FuncData
  F__law_bag : Fun K "_law_bag" "_law_bag" s__law_bag f__law_bag fd__law_bag
  g__law_bag : mg "_law_bag" = some (.ref f__law_bag)
  b__law_bag : Binds K fd__law_bag ["_law_script"] []
  f__law_pull : Addr
  fd__law_pull : FuncData
  F__law_pull : Fun K "_law_pull" "_law_pull" s__law_pull f__law_pull fd__law_pull
  g__law_pull : mg "_law_pull" = some (.ref f__law_pull)
  b__law_pull : Binds K fd__law_pull ["_law_bag_here", "_law_many"] []
  f__law_like : Addr
  fd__law_like : FuncData
  F__law_like : Fun K "_law_like" "_law_like" s__law_like f__law_like fd__law_like
  g__law_like : mg "_law_like" = some (.ref f__law_like)
  b__law_like : Binds K fd__law_like ["_law_found", "_law_due"] []
  f__law_great : Addr
  fd__law_great : FuncData
  F__law_great : Fun K "_law_great" "_law_great" s__law_great f__law_great fd__law_great
  g__law_great : mg "_law_great" = some (.ref f__law_great)
  b__law_great : Binds K fd__law_great ["_law_bag_here"] []
  f__law_small : Addr
  fd__law_small : FuncData
  F__law_small : Fun K "_law_small" "_law_small" s__law_small f__law_small fd__law_small
  g__law_small : mg "_law_small" = some (.ref f__law_small)
  b__law_small : Binds K fd__law_small ["_law_bag_here"] []
  f__law_situation : Addr
  fd__law_situation : FuncData
  F__law_situation : Fun K "_law_situation" "_law_situation" s__law_situation f__law_situation fd__law_situation
  g__law_situation : mg "_law_situation" = some (.ref f__law_situation)
  b__law_situation : Binds K fd__law_situation ["_law_bag_here"] []
  f__law_of : Addr
  fd__law_of : FuncData
  F__law_of : Fun K "_law_of" "_law_of" s__law_of f__law_of fd__law_of
  g__law_of : mg "_law_of" = some (.ref f__law_of)
  b__law_of : Binds K fd__law_of ["_law_bag_here", "_law_things"] []
  f__law_above : Addr
  fd__law_above : FuncData
  F__law_above : Fun K "_law_above" "_law_above" s__law_above f__law_above fd__law_above
  g__law_above : mg "_law_above" = some (.ref f__law_above)
  b__law_above : Binds K fd__law_above ["_law_bag_here", "_law_s"] []
  f_law : Addr
  fd_law : FuncData
  F_law : Fun K "law" "law" s_law f_law fd_law
  g_law : mg "law" = some (.ref f_law)
  b_law : Binds K fd_law ["_law_script"] []
  z_all : mg "all" = none
  z_bool : mg "bool" = none
  z_dict : mg "dict" = none
  z_int : mg "int" = none
  z_isinstance : mg "isinstance" = none
  z_len : mg "len" = none
  z_list : mg "list" = none
  z_max : mg "max" = none
  z_range : mg "range" = none
  z_str : mg "str" = none
  z_tuple : mg "tuple" = none
  z_zip : mg "zip" = none
end My
namespace My
open PySem PySem.Spec PyProof.Rows L2 RZ
open LamX (ExtN Tabs TabS TabB CodeO)
def totRow (n : Int) (i : Nat) : List PyData := (List.range (n - i + 1).toNat).map fun j => PyData.tuple [.int (i : Nat), .int (j : Nat), .int (n - (i : Nat) - (j : Nat))]
def totals (n : Int) : List PyData := (List.range (n + 1).toNat).flatMap (totRow n)
def sp_with_total (K : PySem.W.Frag) : SpG := fun vs H Q _ => ∃ n : Int, vs = [.int n] ∧ n ≤ 1000 ∧ -1000000 ≤ n ∧ ∀ ys H', Fr N0 H H' → HdL N0 K H' ys (totals n) → Q ys H'
theorem s_total {K : PySem.W.Frag} {n : Int} {H : Hp} {Q : List V → Hp → Prop} {E : XK} (h : n ≤ 1000 ∧ -1000000 ≤ n) (k : ∀ ys H', Fr N0 H H' → HdL N0 K H' ys (totals n) → Q ys H') : sp_with_total K [.int n] H Q E := ⟨n, rfl, h.1, h.2, k⟩
theorem ok_with_total {P : Program} {w : World} {K : PySem.W.Frag} {mg : Str → Option Value} {base : Heap} (T : Txt K mg) : GFn P w K mg base lv_with_total T.f_with_total T.fd_with_total ["total"] (sp_with_total K) := by
  refine fun_okG T.F_with_total sc_with_total (fun vs H Q E h => by obtain ⟨n, rfl, _⟩ := h; rfl) (fun cdv A outer s H vs Q E pn hr h => ?_)
  obtain ⟨n, rfl, hn, hn2, k⟩ := h
  refine ⟨_, (gss_cons (gs_for (passes_of rfl) rfl (pi_range1 (by rfl) T.z_range (pa_cons (pe_op (opAddK K) (pv 0) pe_int) pa_nil)) (pg_name (i := 1) sc_with_total.nd rfl (by first | exact .inl rfl | exact .inr rfl))
        (gss_cons (gs_for (passes_of rfl) rfl (pi_range1 (by rfl) T.z_range (pa_cons (pe_op (opAddK K) (pe_op op_sub (pv 0) (pv 1)) pe_int) pa_nil)) (pg_name (i := 2) sc_with_total.nd rfl (by first | exact .inl rfl | exact .inr rfl))
          (gss_cons (gs_yield (pe_tup (pa_cons (pv 1) (pa_cons (pv 2) (pa_cons (pe_op op_sub (pe_op op_sub (pv 0) (pv 1)) (pv 2)) pa_nil)))))
          gss_nil))
        gss_nil))
      gss_nil), ?_⟩
  (try dsimp only [cxOf, L2H.cxH, gcxOf, Cx.nox, Cx.wish]); rw [show L2.start _ [(.int n : V)] = [some (.int n), none, none] from rfl]
  walk_at "rd"
  refine gfor_by walk_range0 (fun i ys σ H' => ∃ v1 v2 : Option V, σ = [some (.int n), v1, v2] ∧ Fr N0 H H' ∧ HdL N0 K H' ys ((List.range i).flatMap (totRow n)) ∧ ys.length ≤ i * 1001) ⟨_, _, rfl, .refl, .nil, Nat.zero_le _⟩ (fun _ _ _ _ _ _ => trivial) ?_ ?_
  · rintro i ys _ σ H' _ hi ⟨v1, v2, rfl, f, hy, hl⟩ ⟨rfl, rfl⟩
    walk_at "rd"
    refine gfor_by walk_range0 (fun j ys σ H' => ∃ v2 : Option V, σ = [some (.int n), some (.int (i : Nat)), v2] ∧ Fr N0 H H' ∧ HdL N0 K H' ys ((List.range i).flatMap (totRow n) ++ (List.range j).map fun j => PyData.tuple [.int (i : Nat), .int (j : Nat), .int (n - (i : Nat) - (j : Nat))]) ∧ ys.length ≤ i * 1001 + j) ⟨_, rfl, f, by simpa using hy, hl⟩ (fun _ _ _ _ _ _ => trivial) ?_ ?_
    · rintro j ys _ σ H' _ hj ⟨v2, rfl, f, hy, hl⟩ ⟨rfl, rfl⟩
      have hi' : i < 1001 := by omega
      have hj' : j < 1001 := by omega
      have hlen : ys.length < sizeLine := by rw [sizeLine_eq]; omega
      walk_at "rd"
      refine s_gyield hlen ?_
      walk_at "rd"
      refine ⟨szb rfl, fun p np => ?_⟩
      have f2 := Fr.new (N := N0) (o := .tup [.int (i : Nat), .int (j : Nat), .int (n - (i : Nat) - (j : Nat))]) np
      refine ⟨_, rfl, f.trans f2, ?_, by rw [List.length_append]; show ys.length + 1 ≤ _; omega⟩
      rw [List.range_succ, List.map_append, ← List.append_assoc]
      exact (hy.fr0 f2).app (.cons (.tup (.of upd_same) (HdL.ints [_, _, _])) .nil)
    · rintro ys σ H' ⟨v2, rfl, f, hy, hl⟩
      refine ⟨_, _, rfl, f, ?_, by have : (n - (i : Nat) + 1).toNat ≤ 1001 := by omega
                                   omega⟩
      rw [List.range_succ, List.flatMap_append]
      simpa [totRow] using hy
  · rintro ys σ H' ⟨v1, v2, rfl, f, hy, hl⟩
    exact k ys H' f hy
end My
namespace My
open PySem PySem.Spec PyProof.Rows L2 RZ
open LamX (ExtN Tabs TabS TabB CodeO)
def leAll (ns ms : List Int) : Bool := (ns.zip ms).all fun p => decide (p.1 ≤ p.2)
def sp_is_below (K : PySem.W.Frag) : Sp := fun vs H Q _ => ∃ (p q : Addr) (ns ms : List Int), vs = [.ref p, .ref q] ∧ TupAt K H p (ns.map V.int) ∧ TupAt K H q (ms.map V.int) ∧ ns.length ≤ 1000 ∧ ∀ H', Fr N0 H H' → Q (.bl (leAll ns ms)) H'
theorem s_below {K : PySem.W.Frag} {p q : Addr} {ns ms : List Int} {H : Hp} {Q : VK} {E : XK} (hp : TupAt K H p (ns.map V.int)) (hq : TupAt K H q (ms.map V.int)) (hl : ns.length ≤ 1000) (k : ∀ H', Fr N0 H H' → Q (.bl (leAll ns ms)) H') : sp_is_below K [.ref p, .ref q] H Q E := ⟨p, q, ns, ms, rfl, hp, hq, hl, k⟩
theorem ok_is_below {P : Program} {w : World} {K : PySem.W.Frag} {mg : Str → Option Value} {base : Heap} (T : Txt K mg) : FnOk P w K mg base CX0 lv_is_below T.f_is_below T.fd_is_below ["first", "second"] (sp_is_below K) := by
  refine T.F_is_below.ok sc_is_below (fun vs H Q E h => by obtain ⟨p, q, ns, ms, rfl, _⟩ := h; rfl) (fun cdv A outer s H vs Q E hr h => ?_)
  obtain ⟨p, q, ns, ms, rfl, hp, hq, hl, k⟩ := h
  refine ⟨_, (pss_one (ps_ret (pe_callB (allK K rfl) (by rfl) T.z_all (by first | exact PySem.boot_all | exact boot_all | decide +kernel) (pa_cons (pe_lc (own := [("low", 2), ("high", 3)]) (g := (gTup K 2 (gCons (gName 2) (gCons (gName 3) gNil)))) (tt := tYes) rfl sc_is_below.nd (pi_zipA (by rfl) T.z_zip (pa_cons (pv 0) (pa_cons (pv 1) pa_nil))) (blkOk_by (N := ["first", "second", "low", "high"]) (sc := defScope s_is_below) (by decide +kernel)) (fun _ _ _ _ _ => (pg_tup rfl (pgs_cons (pg_name (i := 2) sc_is_below.nd rfl (by first | exact .inl rfl | exact .inr rfl)) (pgs_cons (pg_name (i := 3) sc_is_below.nd rfl (by first | exact .inl rfl | exact .inr rfl)) pgs_nil)))) (fun _ _ _ _ _ => pts_nil) (fun _ _ _ _ _ => (pe_cmpR op_le (pv 2) (pv 3) (by first | exact nomark _ | rfl)))) pa_nil)))), ?_⟩
  (try dsimp only [cxOf, L2H.cxH, gcxOf, Cx.nox, Cx.wish]); rw [show L2.start _ [(.ref p : V), (.ref q : V)] = [some (.ref p), some (.ref q), none, none] from rfl]
  walk_at "rd"
  refine lc_by (walk_zipT (n := (ns.zip ms).length) (by simp)) (fun D i acc H2 => acc = ((ns.zip ms).take i).map (fun p => V.bl (decide (p.1 ≤ p.2))) ∧ Fr N0 H H2) (by walk_at "wipe") (fun D hD => ⟨rfl, Fr.new hD⟩) (fun D i acc H2 ⟨_, f2⟩ _ => ⟨(hp.fr f2).sq, (hq.fr f2).sq⟩) ?_ ?_
  · rintro D i acc z H2 H3 hD hi hl2 ⟨rfl, f2⟩ hDl ⟨t, u, v, rfl, nt, rfl, gu, gv⟩
    dsimp only at gu gv
    rw [List.getElem?_map] at gu gv
    have hz : (ns.zip ms).length = min ns.length ms.length := List.length_zip ..
    have h1 : i < ns.length := by omega
    have h2 : i < ms.length := by omega
    rw [List.getElem?_eq_getElem h1] at gu
    rw [List.getElem?_eq_getElem h2] at gv
    cases gu
    cases gv
    have ht : upd H2 t (.tup [.int ns[i], .int ms[i]]) t = some (.tup [.int ns[i], .int ms[i]]) := upd_same
    have f3 := Fr.new (N := N0) (o := .tup [.int ns[i], .int ms[i]]) nt
    walk_at "rd"
    refine ⟨rfl, ?_⟩
    walk_at "rd"
    refine pvx_add (f3.keep D _ hDl id) hl2 (Nat.lt_of_lt_of_le h1 (sz hl)) ⟨?_, (f2.trans f3).mut hD⟩
    rw [List.take_add_one, List.map_append, List.getElem?_eq_getElem hi]
    simp
  · rintro D acc H2 hD ⟨rfl, f2⟩ hDl
    rw [List.take_length] at hDl
    walk_at "rd"
    refine s_all (bs := (ns.zip ms).map fun p => decide (p.1 ≤ p.2)) (SqL.of (by rw [hDl, List.map_map]; rfl)) ?_
    rw [show ((ns.zip ms).map fun p => decide (p.1 ≤ p.2)).all id = leAll ns ms by rw [List.all_map]; rfl]
    exact k _ f2
end My
namespace My
open PySem PySem.Spec PyProof.Rows L2 RZ
def sp__law_bag (K : PySem.W.Frag) : Sp := fun vs H Q _ => ∃ (a : Addr) (ns : List Int), vs = [.ref a] ∧ SqL K H a (ns.map V.int) ∧ ns.length ≤ 63 ∧ ∀ b H', H b = none → Bag b H' → Fr N0 H H' → Q (.ref b) H'
theorem ok__law_bag {P : Program} {w : World} {K : PySem.W.Frag} {mg : Str → Option Value} {base : Heap} (T : Txt K mg) : FnOk P w K mg base CX0 lv__law_bag T.f__law_bag T.fd__law_bag ["_law_script"] (sp__law_bag K) := by
  refine T.F__law_bag.ok sc__law_bag (fun vs H Q E h => ?_) (fun cdv A outer s H vs Q E hr h => ?_)
  · obtain ⟨a, ns, rfl, _⟩ := h
    rfl
  · obtain ⟨a, ns, rfl, hS, hl, k⟩ := h
    have hc : cutV (ns.map V.int) none (some 63) = ns.map V.int := cut_all (by rw [List.length_map]; omega)
    refine ⟨_, (pss_cons (ps_set (i := 1) sc__law_bag.nd rfl (by first | exact .inl rfl | exact .inr rfl) pe_int)
      (pss_cons (ps_for PassesOwn.never rfl (pi_listK K (pe_slice (opSlK K) (pv 0) po_none (po_some pe_int))) (pg_name (i := 2) sc__law_bag.nd rfl (by first | exact .inl rfl | exact .inr rfl))
        (pss_one (ps_set (i := 1) sc__law_bag.nd rfl (by first | exact .inl rfl | exact .inr rfl) (pe_op op_mod (pe_callTy callInt (by rfl) T.z_int (by first | exact PySem.boot_int | exact boot_int | decide +kernel) (pa_cons (pe_op (opAddK K) (pe_op (opAddK K) (pe_op opMul (pv 1) pe_int) (pe_op op_mod (pe_callTy callInt (by rfl) T.z_int (by first | exact PySem.boot_int | exact boot_int | decide +kernel) (pa_cons (pv 2) pa_nil)) pe_int)) pe_int) pa_nil)) pe_int))))
      (pss_one (ps_ret (pe_lst (pa_cons (pe_callTy (callListK K) (by rfl) T.z_list (by first | exact PySem.boot_list | exact boot_list | decide +kernel) (pa_cons (pe_slice (opSlK K) (pv 0) po_none (po_some pe_int)) pa_nil)) (pa_cons pe_int (pa_cons pe_int (pa_cons (pv 1) pa_nil))))))))), ?_⟩
    (try dsimp only [cxOf, L2H.cxH, gcxOf, Cx.nox, Cx.wish]); rw [show L2.start _ [(.ref a : V)] = [some (.ref a), none, none] from rfl]
    walk_at "rd"
    refine s_slL hS fun l nl => ?_
    rw [hc]
    refine s_lst1 (SqL.of upd_same) ?_
    refine for_by (walk_list (xs := ns.map V.int)) (fun i σ H' => ∃ (z : Int) (v : Option V), σ = [some (.ref a), some (.int z), v] ∧ 0 ≤ z ∧ z < 2147483563 ∧ H' = upd H l (.lst (ns.map V.int))) ⟨4935, none, rfl, by decide, by decide, rfl⟩ (fun i σ H' _ ⟨_, _, _, _, _, e⟩ => by rw [e]; exact SqL.of upd_same) ?_ ?_
    · rintro i x σ H' _ hi ⟨z, v, rfl, h0, h1, rfl⟩ ⟨rfl, hx⟩
      obtain ⟨n, rfl⟩ : ∃ n, x = V.int n := by
        rw [List.getElem?_map] at hx
        cases e : ns[i]? with
        | none => rw [e] at hx; cases hx
        | some n => rw [e] at hx; exact ⟨n, (Option.some.inj hx).symm⟩
      walk_at "rd"
      exact ⟨_, _, rfl, Int.emod_nonneg _ (by decide), Int.emod_lt_of_pos _ (by decide), rfl⟩
    · rintro σ H' ⟨z, v, rfl, h0, h1, rfl⟩
      have f1 : Fr N0 H (upd H l (.lst (ns.map V.int))) := Fr.new nl
      walk_at "rd"
      refine s_slL (f1.rdL hS id) fun l2 nl2 => ?_
      rw [hc]
      walk_at "rd"
      have f2 := f1.trans (Fr.new (o := .lst (ns.map V.int)) nl2)
      refine s_listL (SqL.of upd_same) fun l3 nl3 => ?_
      have f3 := f2.trans (Fr.new (o := .lst (ns.map V.int)) nl3)
      walk_at "rd"
      refine ⟨by show 4 ≤ sizeLine; decide, fun b nb => ?_⟩
      have f4 := f3.trans (Fr.new (o := .lst [.ref l3, .int 0, .int 0, .int z]) nb)
      refine k b _ (f3.free nb id) ⟨l3, ns, 0, 0, z, upd_same, ?_, hl, by decide, by decide, h0, h1⟩ f4
      rw [upd_ne (fun e => by rw [e] at nb; rw [upd_same] at nb; cases nb)]
      exact upd_same
end My
namespace My
open PySem PySem.Spec PyProof.Rows L2 RZ
def sp__law_pull (_ : PySem.W.Frag) : Sp := fun vs H Q _ => ∃ (b : Addr) (n : Int), vs = [.ref b, .int n] ∧ Bag b H ∧ 0 < n ∧ n < 1073741824 ∧ ∀ (r : Int) H', 0 ≤ r → r < n → Bag b H' → Fr (N1 b) H H' → Q (.int r) H'
theorem s_pull {K : PySem.W.Frag} {b : Addr} {n : Int} {H : Hp} {Q : VK} {E : XK} (B : Bag b H) (h : 0 < n ∧ n < 1073741824) (k : ∀ (r : Int) H', 0 ≤ r → r < n → Bag b H' → Fr (N1 b) H H' → Q (.int r) H') : sp__law_pull K [.ref b, .int n] H Q E := ⟨b, n, rfl, B, h.1, h.2, k⟩
theorem ok__law_pull {P : Program} {w : World} {K : PySem.W.Frag} {mg : Str → Option Value} {base : Heap} (T : Txt K mg) : FnOk P w K mg base CX0 lv__law_pull T.f__law_pull T.fd__law_pull ["_law_bag_here", "_law_many"] (sp__law_pull K) := by
  refine T.F__law_pull.ok sc__law_pull (fun vs H Q E h => ?_) (fun cdv A outer s H vs Q E hr h => ?_)
  · obtain ⟨b, n, rfl, _⟩ := h
    rfl
  · obtain ⟨b, n, rfl, B, hn, hn2, k⟩ := h
    refine ⟨_, (Evl.pss_cut (ps_if (PW.pt (pw_and (pt_cmpR (opEqK K hr.units) (pe_ix (ixK K) (pv 0) pe_int (fun _ _ => rfl)) pe_int (by first | exact nomark _ | rfl)) (pw_and1 (pt_cmpR op_lt (pe_ix (ixK K) (pv 0) pe_int (fun _ _ => rfl)) (pe_callB (callLenK K) (by rfl) T.z_len (by first | exact PySem.boot_len | exact boot_len | decide +kernel) (pa_cons (pe_ix (ixK K) (pv 0) pe_int (fun _ _ => rfl)) pa_nil)) (by first | exact nomark _ | rfl)))))
        (pss_cons (ps_set (i := 2) sc__law_pull.nd rfl (by first | exact .inl rfl | exact .inr rfl) (pe_ix (ixK K) (pe_ix (ixK K) (pv 0) pe_int (fun _ _ => rfl)) (pe_ix (ixK K) (pv 0) pe_int (fun _ _ => rfl)) (fun _ _ => rfl)))
        (pss_cons (ps_asg (pe_op (opAddK K) (pe_ix (ixK K) (pv 0) pe_int (fun _ _ => rfl)) pe_int) (pg_sub (pv 0) pe_int set_list))
        (pss_one (ps_if (pt_cmpR op_ge (pv 2) (pe_op op_pow pe_int pe_int) (by first | exact nomark _ | rfl))
          (pss_one (ps_asg (pe_op op_sub (pv 2) (pe_op op_pow pe_int pe_int)) (pg_sub (pv 0) pe_int set_list)))
          (pss_one (ps_asg (pe_op op_mod (pe_callTy callInt (by rfl) T.z_int (by first | exact PySem.boot_int | exact boot_int | decide +kernel) (pa_cons (pe_op (opAddK K) (pe_op (opAddK K) (pe_op opMul (pe_ix (ixK K) (pv 0) pe_int (fun _ _ => rfl)) pe_int) (pe_op opMul (pe_op op_mod (pe_callTy callInt (by rfl) T.z_int (by first | exact PySem.boot_int | exact boot_int | decide +kernel) (pa_cons (pv 2) pa_nil)) pe_int) pe_int)) pe_int) pa_nil)) pe_int) (pg_sub (pv 0) pe_int set_list)))))))
        pss_nil)
      (pss_cons (ps_if (pt_cmpR op_gt (pe_ix (ixK K) (pv 0) pe_int (fun _ _ => rfl)) pe_int (by first | exact nomark _ | rfl))
        (pss_cons (ps_set (i := 3) sc__law_pull.nd rfl (by first | exact .inl rfl | exact .inr rfl) (pe_op op_mod (pe_callTy callInt (by rfl) T.z_int (by first | exact PySem.boot_int | exact boot_int | decide +kernel) (pa_cons (pe_ix (ixK K) (pv 0) pe_int (fun _ _ => rfl)) pa_nil)) (pe_callTy callInt (by rfl) T.z_int (by first | exact PySem.boot_int | exact boot_int | decide +kernel) (pa_cons (pv 1) pa_nil))))
        (pss_cons (ps_asg (pe_op opDiv (pe_ix (ixK K) (pv 0) pe_int (fun _ _ => rfl)) (pv 1)) (pg_sub (pv 0) pe_int set_list))
        (pss_one (ps_ret (pv 3)))))
        pss_nil)
      (pss_cons (ps_set (i := 4) sc__law_pull.nd rfl (by first | exact .inl rfl | exact .inr rfl) (pe_ix (ixK K) (pv 0) pe_int (fun _ _ => rfl)))
      (pss_cons (ps_asg (pe_op op_mod (pe_callTy callInt (by rfl) T.z_int (by first | exact PySem.boot_int | exact boot_int | decide +kernel) (pa_cons (pe_op (opAddK K) (pe_op (opAddK K) (pe_op opMul (pe_op opMul (pv 4) (pv 4)) pe_int) (pe_op opMul (pv 4) pe_int)) pe_int) pa_nil)) pe_int) (pg_sub (pv 0) pe_int set_list))
      (pss_one (ps_ret (pe_op op_mod (pe_callTy callInt (by rfl) T.z_int (by first | exact PySem.boot_int | exact boot_int | decide +kernel) (pa_cons (pe_op (opAddK K) (pe_op opDiv (pe_ix (ixK K) (pv 0) pe_int (fun _ _ => rfl)) pe_int) (pe_op opMul (pe_op op_mod (pe_callTy callInt (by rfl) T.z_int (by first | exact PySem.boot_int | exact boot_int | decide +kernel) (pa_cons (pe_ix (ixK K) (pv 0) pe_int (fun _ _ => rfl)) pa_nil)) pe_int) pe_int)) pa_nil)) (pe_callTy callInt (by rfl) T.z_int (by first | exact PySem.boot_int | exact boot_int | decide +kernel) (pa_cons (pv 1) pa_nil))))))))), ?_⟩
    (try dsimp only [cxOf, L2H.cxH, gcxOf, Cx.nox, Cx.wish]); rw [show L2.start _ [(.ref b : V), (.int n : V)] = [some (.ref b), some (.int n), none, none, none] from rfl]
    refine ⟨fun σ' H' => ∃ v, σ' = [some (.ref b), some (.int n), v, none, none] ∧ Bag b H' ∧ Fr (N1 b) H H', ?_, ?_⟩
    · obtain ⟨c, ns, p, cur, seed, h1, h2, hlen, hp, hcur, hs0, hs1⟩ := B.ex
      have nc : c ≠ b := bag_ne h1 h2
      obtain ⟨j, rfl⟩ := nat0 hp
      walk_at "rd"
      refine if_dec (fun ec => ?_) (fun _ => iteF ⟨none, rfl, B, .refl⟩)
      walk_at "rd"
      rw [List.length_map]
      walk_at "rd"
      refine if_dec (fun hj => ?_) (fun _ => ⟨none, rfl, B, .refl⟩)
      have hj2 : j < ns.length := by omega
      walk_at "rd"
      refine s_ixL (SqL.of h2) (atI_nat (j := j) (v := .int ns[j]) (by rw [List.getElem?_map, List.getElem?_eq_getElem hj2]; rfl)) ?_
      walk_at "rd"
      have f1 : Fr (N1 b) H (upd H b (.lst ([V.ref c, .int j, .int cur, .int seed].set 1 (.int (j + 1))))) := Fr.wr h1 rfl
      have g1 := f1.keep c _ h2 nc
      have g2 : upd H b (.lst ([V.ref c, .int j, .int cur, .int seed].set 1 (.int (j + 1)))) b = _ := upd_same
      generalize upd H b (.lst ([V.ref c, .int j, .int cur, .int seed].set 1 (.int (j + 1)))) = H1 at f1 g1 g2 ⊢
      simp only [List.set_cons_zero, List.set_cons_succ] at g2
      refine if_dec (fun hb => ?_) (fun _ => ?_)
      · walk_at "rd"
        refine ⟨_, rfl, ⟨c, ns, _, _, _, upd_same, ?_, hlen, ?_, ?_, hs0, hs1⟩, f1.trans (Fr.wr g2 rfl)⟩
        · rw [upd_ne nc]; exact g1
        · omega
        · omega
      · walk_at "rd"
        refine ⟨_, rfl, ⟨c, ns, _, _, _, upd_same, ?_, hlen, ?_, hcur, Int.emod_nonneg _ (by decide), Int.emod_lt_of_pos _ (by decide)⟩, f1.trans (Fr.wr g2 rfl)⟩
        · rw [upd_ne nc]; exact g1
        · omega
    · rintro σ' H1 ⟨v, rfl, B1, f1⟩
      obtain ⟨c, ns, p, cur, seed, h1, h2, hlen, hp, hcur, hs0, hs1⟩ := B1.ex
      have nc : c ≠ b := bag_ne h1 h2
      walk_at "rd"
      refine if_dec (fun h0 => ?_) (fun _ => ?_)
      · walk_at "rd"
        refine k _ _ (Int.emod_nonneg _ (by omega)) (Int.emod_lt_of_pos _ hn) ⟨c, ns, _, _, _, upd_same, ?_, hlen, hp, Int.ediv_nonneg hcur (by omega), hs0, hs1⟩ (f1.trans (Fr.wr h1 rfl))
        rw [upd_ne nc]; exact h2
      · walk_at "rd"
        have f2 := f1.trans (Fr.wr (o := .lst ([V.ref c, .int p, .int cur, .int seed].set 3 (.int ((seed * seed * 3 + seed * 16807 + 1013904223) % 2147483563)))) h1 rfl)
        have g2 : upd H1 b (.lst ([V.ref c, .int p, .int cur, .int seed].set 3 (.int ((seed * seed * 3 + seed * 16807 + 1013904223) % 2147483563)))) b = _ := upd_same
        have g1 := Eq.trans (upd_ne (H := H1) (o := .lst ([V.ref c, .int p, .int cur, .int seed].set 3 (.int ((seed * seed * 3 + seed * 16807 + 1013904223) % 2147483563)))) nc) h2
        generalize upd H1 b _ = H2 at f2 g1 g2 ⊢
        simp only [List.set_cons_zero, List.set_cons_succ] at g2
        walk_at "rd"
        exact k _ _ (Int.emod_nonneg _ (by omega)) (Int.emod_lt_of_pos _ hn) ⟨c, ns, _, _, _, g2, g1, hlen, hp, hcur, Int.emod_nonneg _ (by decide), Int.emod_lt_of_pos _ (by decide)⟩ f2
end My
namespace My
open PySem PySem.Spec PyProof.Rows L2 RZ
open LamX (ExtN Tabs TabS TabB CodeO)
mutual
/-- no dict within -/
def plainD : PyData → Bool
  | .none | .bool _ | .int _ | .str _ => true
  | .list xs | .tuple xs => decide (xs.length ≤ 100000) && plainL xs
  | .dict _ => false
def plainL : List PyData → Bool
  | [] => true
  | x :: xs => plainD x && plainL xs
end
mutual
def deepD : PyData → Nat
  | .none | .bool _ | .int _ | .str _ => 0
  | .list xs | .tuple xs => deepL xs + 1
  | .dict _ => 0
def deepL : List PyData → Nat
  | [] => 0
  | x :: xs => max (deepD x) (deepL xs)
end
theorem plain_get : ∀ {xs : List PyData} {i : Nat} {d : PyData}, plainL xs = true → xs[i]? = some d → plainD d = true
  | [], _, _, _, e => by simp at e
  | x :: xs, 0, _, h, e => by
    simp at e
    subst e
    simp only [plainL, Bool.and_eq_true] at h
    exact h.1
  | x :: xs, i + 1, _, h, e => by
    simp only [plainL, Bool.and_eq_true] at h
    exact plain_get h.2 (by simpa using e)
theorem deep_get : ∀ {xs : List PyData} {i : Nat} {d : PyData}, xs[i]? = some d → deepD d ≤ deepL xs
  | [], _, _, e => by simp at e
  | x :: xs, 0, _, e => by
    simp at e
    subst e
    simp only [deepL]
    omega
  | x :: xs, i + 1, _, e => by
    have h := deep_get (xs := xs) (i := i) (by simpa using e)
    simp only [deepL]
    omega
theorem all_rep (n : Nat) : (List.replicate n true).all id = true := by
  induction n with
  | zero => rfl
  | succ n ih => rw [List.replicate_succ, List.all_cons, ih]; rfl
/-- _law_like of the same data: True -/
def sp_like_n (K : PySem.W.Frag) (n : Nat) : Sp := fun vs H Q _ => ∃ (x y : V) (d : PyData), vs = [x, y] ∧ Hd N0 K H x d ∧ Hd N0 K H y d ∧ plainD d = true ∧ deepD d < n ∧ ∀ H', Fr N0 H H' → Q (.bl true) H'
def sp__law_like (K : PySem.W.Frag) : Sp := sp_like_n K 6
theorem s_like {K : PySem.W.Frag} {H : Hp} {Q : VK} {E : XK} {x y : V} {d : PyData} (hx : Hd N0 K H x d) (hy : Hd N0 K H y d) (hp : plainD d = true) (hn : deepD d < 6) (k : ∀ H', Fr N0 H H' → Q (.bl true) H') : sp__law_like K [x, y] H Q E := ⟨x, y, d, rfl, hx, hy, hp, hn, k⟩
theorem s_like_n {K : PySem.W.Frag} {n : Nat} {H : Hp} {Q : VK} {E : XK} {x y : V} {d : PyData} (hx : Hd N0 K H x d) (hy : Hd N0 K H y d) (hp : plainD d = true) (hn : deepD d < n) (k : ∀ H', Fr N0 H H' → Q (.bl true) H') : sp_like_n K n [x, y] H Q E := ⟨x, y, d, rfl, hx, hy, hp, hn, k⟩
theorem ok_like_step {P : Program} {w : World} {K : PySem.W.Frag} {mg : Str → Option Value} {base : Heap} (T : Txt K mg) {n : Nat} (G__law_like : FnOk P w K mg base CX0 n T.f__law_like T.fd__law_like ["_law_found", "_law_due"] (sp_like_n K n)) : FnOk P w K mg base CX0 (n + 1) T.f__law_like T.fd__law_like ["_law_found", "_law_due"] (sp_like_n K (n + 1)) := by
  refine T.F__law_like.ok sc__law_like (fun vs H Q E h => ?_) (fun cdv A outer s H vs Q E hr h => ?_)
  · obtain ⟨x, y, d, rfl, _⟩ := h
    rfl
  · obtain ⟨x, y, d, rfl, hx, hy, hp, hn, k⟩ := h
    refine ⟨_, (pss_cons (ps_if (pt_val (pe_callB (callIsiK K) (by rfl) T.z_isinstance (by first | exact PySem.boot_isinstance | exact boot_isinstance | decide +kernel) (pa_cons (pv 1) (pa_cons (pe_tup (pa_cons (pe_bltn (v := .ty "list") (by rfl) T.z_list (by first | exact boot_list | decide +kernel) rfl) (pa_cons (pe_bltn (v := .ty "tuple") (by rfl) T.z_tuple (by first | exact boot_tuple | decide +kernel) rfl) pa_nil))) pa_nil))))
        (pss_cons (ps_if (pt_cmpR (opNeK K hr.units) (pe_callB (callIsiK K) (by rfl) T.z_isinstance (by first | exact PySem.boot_isinstance | exact boot_isinstance | decide +kernel) (pa_cons (pv 0) (pa_cons (pe_bltn (v := .ty "list") (by rfl) T.z_list (by first | exact boot_list | decide +kernel) rfl) pa_nil))) (pe_callB (callIsiK K) (by rfl) T.z_isinstance (by first | exact PySem.boot_isinstance | exact boot_isinstance | decide +kernel) (pa_cons (pv 1) (pa_cons (pe_bltn (v := .ty "list") (by rfl) T.z_list (by first | exact boot_list | decide +kernel) rfl) pa_nil))) (by first | exact nomark _ | rfl))
          (pss_one (ps_ret pe_bl))
          pss_nil)
        (pss_cons (ps_if (pt_cmpR (opNeK K hr.units) (pe_callB (callIsiK K) (by rfl) T.z_isinstance (by first | exact PySem.boot_isinstance | exact boot_isinstance | decide +kernel) (pa_cons (pv 0) (pa_cons (pe_bltn (v := .ty "tuple") (by rfl) T.z_tuple (by first | exact boot_tuple | decide +kernel) rfl) pa_nil))) (pe_callB (callIsiK K) (by rfl) T.z_isinstance (by first | exact PySem.boot_isinstance | exact boot_isinstance | decide +kernel) (pa_cons (pv 1) (pa_cons (pe_bltn (v := .ty "tuple") (by rfl) T.z_tuple (by first | exact boot_tuple | decide +kernel) rfl) pa_nil))) (by first | exact nomark _ | rfl))
          (pss_one (ps_ret pe_bl))
          pss_nil)
        (pss_cons (ps_if (pt_cmpR (opNeK K hr.units) (pe_callB (callLenK K) (by rfl) T.z_len (by first | exact PySem.boot_len | exact boot_len | decide +kernel) (pa_cons (pv 0) pa_nil)) (pe_callB (callLenK K) (by rfl) T.z_len (by first | exact PySem.boot_len | exact boot_len | decide +kernel) (pa_cons (pv 1) pa_nil)) (by first | exact nomark _ | rfl))
          (pss_one (ps_ret pe_bl))
          pss_nil)
        (pss_one (ps_ret (pe_callB (allK K rfl) (by rfl) T.z_all (by first | exact PySem.boot_all | exact boot_all | decide +kernel) (pa_cons (pe_lc (own := [("_law_one", 2), ("_law_other", 3)]) (g := (gTup K 2 (gCons (gName 2) (gCons (gName 3) gNil)))) (tt := tYes) rfl sc__law_like.nd (pi_zipA (by rfl) T.z_zip (pa_cons (pv 0) (pa_cons (pv 1) pa_nil))) (blkOk_by (N := ["_law_found", "_law_due", "_law_one", "_law_other", "_law_name"]) (sc := defScope s__law_like) (by decide +kernel)) (fun _ _ _ _ _ => (pg_tup rfl (pgs_cons (pg_name (i := 2) sc__law_like.nd rfl (by first | exact .inl rfl | exact .inr rfl)) (pgs_cons (pg_name (i := 3) sc__law_like.nd rfl (by first | exact .inl rfl | exact .inr rfl)) pgs_nil)))) (fun _ _ _ _ _ => pts_nil) (fun _ _ _ _ _ => (pe_call G__law_like (hr.mono (by first | decide | omega)) (by rfl) T.g__law_like T.F__law_like.kp T.b__law_like .nil pass0 (pa_cons (pv 2) (pa_cons (pv 3) pa_nil))))) pa_nil)))))))
        pss_nil)
      (pss_cons (ps_if (pt_val (pe_callB (callIsiK K) (by rfl) T.z_isinstance (by first | exact PySem.boot_isinstance | exact boot_isinstance | decide +kernel) (pa_cons (pv 1) (pa_cons (pe_bltn (v := .ty "dict") (by rfl) T.z_dict (by first | exact boot_dict | decide +kernel) rfl) pa_nil))))
        pss_never
        pss_nil)
      (pss_cons (ps_if (PW.pt (pw_or (pt_cmp (pc_isN (pv 0))) (pw_or1 (pt_cmp (pc_isN (pv 1))))))
        (pss_one (ps_ret (pe_and (pe_cmp (pc_isN (pv 0)) rfl) (pe_one (pe_cmp (pc_isN (pv 1)) rfl)))))
        pss_nil)
      (pss_cons (ps_if (pt_cmpR (opNeK K hr.units) (pe_callB (callIsiK K) (by rfl) T.z_isinstance (by first | exact PySem.boot_isinstance | exact boot_isinstance | decide +kernel) (pa_cons (pv 0) (pa_cons (pe_bltn (v := .ty "bool") (by rfl) T.z_bool (by first | exact boot_bool | decide +kernel) rfl) pa_nil))) (pe_callB (callIsiK K) (by rfl) T.z_isinstance (by first | exact PySem.boot_isinstance | exact boot_isinstance | decide +kernel) (pa_cons (pv 1) (pa_cons (pe_bltn (v := .ty "bool") (by rfl) T.z_bool (by first | exact boot_bool | decide +kernel) rfl) pa_nil))) (by first | exact nomark _ | rfl))
        (pss_one (ps_ret pe_bl))
        pss_nil)
      (pss_cons (ps_if (pt_cmpR (opNeK K hr.units) (pe_callB (callIsiK K) (by rfl) T.z_isinstance (by first | exact PySem.boot_isinstance | exact boot_isinstance | decide +kernel) (pa_cons (pv 0) (pa_cons (pe_bltn (v := .ty "int") (by rfl) T.z_int (by first | exact boot_int | decide +kernel) rfl) pa_nil))) (pe_callB (callIsiK K) (by rfl) T.z_isinstance (by first | exact PySem.boot_isinstance | exact boot_isinstance | decide +kernel) (pa_cons (pv 1) (pa_cons (pe_bltn (v := .ty "int") (by rfl) T.z_int (by first | exact boot_int | decide +kernel) rfl) pa_nil))) (by first | exact nomark _ | rfl))
        (pss_one (ps_ret pe_bl))
        pss_nil)
      (pss_one (ps_ret (pe_and (pe_cmpR (opEqK K hr.units) (pe_callB (callIsiK K) (by rfl) T.z_isinstance (by first | exact PySem.boot_isinstance | exact boot_isinstance | decide +kernel) (pa_cons (pv 0) (pa_cons (pe_bltn (v := .ty "str") (by rfl) T.z_str (by first | exact boot_str | decide +kernel) rfl) pa_nil))) (pe_callB (callIsiK K) (by rfl) T.z_isinstance (by first | exact PySem.boot_isinstance | exact boot_isinstance | decide +kernel) (pa_cons (pv 1) (pa_cons (pe_bltn (v := .ty "str") (by rfl) T.z_str (by first | exact boot_str | decide +kernel) rfl) pa_nil))) (by first | exact nomark _ | rfl)) (pe_one (pe_cmpR (opEqK K hr.units) (pv 0) (pv 1) (by first | exact nomark _ | rfl))))))))))), ?_⟩
    (try dsimp only [cxOf, L2H.cxH, gcxOf, Cx.nox, Cx.wish]); rw [show L2.start _ [(x : V), (y : V)] = [some (x), some (y), none, none, none] from rfl]
    cases d with
    | dict ds => simp [plainD] at hp
    | none =>
      walk_at "rd"
      refine ⟨sz (by decide), fun p np => ?_⟩
      have f : Fr N0 H (upd H p (.tup [.ty "list", .ty "tuple"])) := Fr.new np
      replace hx := Hd.fr f _ _ hx
      replace hy := Hd.fr f _ _ hy
      walk_at "rd"
      refine s_isi_lt hy upd_same ?_
      walk_at "rd"
      cases hx
      cases hy
      walk_at "rd"
      exact k _ f
    | bool b =>
      walk_at "rd"
      refine ⟨sz (by decide), fun p np => ?_⟩
      have f : Fr N0 H (upd H p (.tup [.ty "list", .ty "tuple"])) := Fr.new np
      replace hx := Hd.fr f _ _ hx
      replace hy := Hd.fr f _ _ hy
      walk_at "rd"
      refine s_isi_lt hy upd_same ?_
      walk_at "rd"
      cases hx
      cases hy
      walk_at "rd"
      rw [decide_eq_true rfl]
      exact k _ f
    | int i =>
      walk_at "rd"
      refine ⟨sz (by decide), fun p np => ?_⟩
      have f : Fr N0 H (upd H p (.tup [.ty "list", .ty "tuple"])) := Fr.new np
      replace hx := Hd.fr f _ _ hx
      replace hy := Hd.fr f _ _ hy
      walk_at "rd"
      refine s_isi_lt hy upd_same ?_
      walk_at "rd"
      cases hx
      cases hy
      walk_at "rd"
      rw [decide_eq_true rfl]
      exact k _ f
    | str z =>
      walk_at "rd"
      refine ⟨sz (by decide), fun p np => ?_⟩
      have f : Fr N0 H (upd H p (.tup [.ty "list", .ty "tuple"])) := Fr.new np
      replace hx := Hd.fr f _ _ hx
      replace hy := Hd.fr f _ _ hy
      walk_at "rd"
      refine s_isi_lt hy upd_same ?_
      walk_at "rd"
      cases hx
      cases hy
      walk_at "rd"
      rw [decide_eq_true rfl]
      exact k _ f
    | list ds =>
      walk_at "rd"
      refine ⟨sz (by decide), fun p np => ?_⟩
      have f : Fr N0 H (upd H p (.tup [.ty "list", .ty "tuple"])) := Fr.new np
      replace hx := Hd.fr f _ _ hx
      replace hy := Hd.fr f _ _ hy
      walk_at "rd"
      refine s_isi_lt hy upd_same ?_
      walk_at "rd"
      simp only [plainD, Bool.and_eq_true, decide_eq_true_eq] at hp
      simp only [deepD] at hn
      cases hx with
      | lst ea na ra =>
      cases hy with
      | lst eb nb rb =>
      have ex := ra.len
      have ey := rb.len
      have el := ex.trans ey.symm
      walk_at "rd"
      refine lc_by (walk_zip (n := ds.length) (by omega)) (fun D i acc H2 => acc = List.replicate i (V.bl true) ∧ Fr N0 (upd H p (.tup [.ty "list", .ty "tuple"])) H2) (by walk_at "wipe") (fun D hD => ⟨rfl, Fr.new hD⟩) (fun D i acc H2 ⟨_, f2⟩ _ => ⟨SqL.of (f2.keep _ _ ea id), SqL.of (f2.keep _ _ eb id)⟩) ?_ ?_
      · rintro D i acc z H2 H3 hD hi hl ⟨rfl, f2⟩ hDl ⟨t, u, v, rfl, nt, rfl, gu, gv⟩
        have ht : upd H2 t (.tup [u, v]) t = some (.tup [u, v]) := upd_same
        walk_at "rd"
        refine ⟨rfl, ?_⟩
        walk_at "rd"
        obtain ⟨e1, g1, h1⟩ := ra.get gu
        obtain ⟨e2, g2, h2⟩ := rb.get gv
        obtain rfl : e1 = e2 := Option.some.inj (g1.symm.trans g2)
        have f3 := f2.trans (Fr.new (N := N0) (o := .tup [u, v]) nt)
        have dg := deep_get g1
        refine s_like_n (Hd.fr f3 _ _ h1) (Hd.fr f3 _ _ h2) (plain_get hp.2 g1) (by omega) fun H4 f4 => ?_
        have f5 := (Fr.new (N := N0) (o := .tup [u, v]) nt).trans f4
        exact pvx_add (f5.keep D _ hDl id) hl (Nat.lt_of_lt_of_le hi (Nat.le_trans hp.1 (by decide))) ⟨by rw [← List.replicate_succ'], (f2.trans f5).mut hD⟩
      · rintro D acc H2 hD ⟨rfl, f2⟩ hDl
        walk_at "rd"
        refine s_all (bs := List.replicate ds.length true) (SqL.of (by rw [hDl, List.map_replicate])) ?_
        rw [all_rep]
        exact k _ (f.trans f2)
    | tuple ds =>
      walk_at "rd"
      refine ⟨sz (by decide), fun p np => ?_⟩
      have f : Fr N0 H (upd H p (.tup [.ty "list", .ty "tuple"])) := Fr.new np
      replace hx := Hd.fr f _ _ hx
      replace hy := Hd.fr f _ _ hy
      walk_at "rd"
      refine s_isi_lt hy upd_same ?_
      walk_at "rd"
      simp only [plainD, Bool.and_eq_true, decide_eq_true_eq] at hp
      simp only [deepD] at hn
      cases hx with
      | tup ea ra =>
      cases hy with
      | tup eb rb =>
      have ex := ra.len
      have ey := rb.len
      have el := ex.trans ey.symm
      walk_at "rd"
      refine lc_by (walk_zipT (n := ds.length) (by omega)) (fun D i acc H2 => acc = List.replicate i (V.bl true) ∧ Fr N0 (upd H p (.tup [.ty "list", .ty "tuple"])) H2) (by walk_at "wipe") (fun D hD => ⟨rfl, Fr.new hD⟩) (fun D i acc H2 ⟨_, f2⟩ _ => ⟨(ea.fr f2).sq, (eb.fr f2).sq⟩) ?_ ?_
      · rintro D i acc z H2 H3 hD hi hl ⟨rfl, f2⟩ hDl ⟨t, u, v, rfl, nt, rfl, gu, gv⟩
        have ht : upd H2 t (.tup [u, v]) t = some (.tup [u, v]) := upd_same
        walk_at "rd"
        refine ⟨rfl, ?_⟩
        walk_at "rd"
        obtain ⟨e1, g1, h1⟩ := ra.get gu
        obtain ⟨e2, g2, h2⟩ := rb.get gv
        obtain rfl : e1 = e2 := Option.some.inj (g1.symm.trans g2)
        have f3 := f2.trans (Fr.new (N := N0) (o := .tup [u, v]) nt)
        have dg := deep_get g1
        refine s_like_n (Hd.fr f3 _ _ h1) (Hd.fr f3 _ _ h2) (plain_get hp.2 g1) (by omega) fun H4 f4 => ?_
        have f5 := (Fr.new (N := N0) (o := .tup [u, v]) nt).trans f4
        exact pvx_add (f5.keep D _ hDl id) hl (Nat.lt_of_lt_of_le hi (Nat.le_trans hp.1 (by decide))) ⟨by rw [← List.replicate_succ'], (f2.trans f5).mut hD⟩
      · rintro D acc H2 hD ⟨rfl, f2⟩ hDl
        walk_at "rd"
        refine s_all (bs := List.replicate ds.length true) (SqL.of (by rw [hDl, List.map_replicate])) ?_
        rw [all_rep]
        exact k _ (f.trans f2)
theorem ok__law_like {P : Program} {w : World} {K : PySem.W.Frag} {mg : Str → Option Value} {base : Heap} (T : Txt K mg) : FnOk P w K mg base CX0 lv__law_like T.f__law_like T.fd__law_like ["_law_found", "_law_due"] (sp__law_like K) := by
  have h0 : FnOk P w K mg base CX0 0 T.f__law_like T.fd__law_like ["_law_found", "_law_due"] (sp_like_n K 0) := ⟨fun vs H Q E h => by obtain ⟨x, y, d, rfl, _⟩ := h; rfl, fun A outer s H args us vs Q E _ _ _ _ h => by
    obtain ⟨x, y, d, _, _, _, _, hn, _⟩ := h
    omega⟩
  exact ok_like_step T (ok_like_step T (ok_like_step T (ok_like_step T (ok_like_step T (ok_like_step T h0)))))
end My
namespace My
open PySem PySem.Spec PyProof.Rows L2 RZ
def sp__law_great (_ : PySem.W.Frag) : Sp := fun vs H Q _ => ∃ (b : Addr), vs = [.ref b] ∧ Bag b H ∧ ∀ (r : Int) H', 0 ≤ r → r < 1000 * 1000000000 ^ 3 → Bag b H' → Fr (N1 b) H H' → Q (.int r) H'
theorem s_great {K : PySem.W.Frag} {b : Addr} {H : Hp} {Q : VK} {E : XK} (B : Bag b H) (k : ∀ (r : Int) H', 0 ≤ r → r < 1000 * 1000000000 ^ 3 → Bag b H' → Fr (N1 b) H H' → Q (.int r) H') : sp__law_great K [.ref b] H Q E := ⟨b, rfl, B, k⟩
theorem great_lt {z r : Int} {i : Nat} (h : z < 1000 * 1000000000 ^ i) (h2 : r < 1000000000) : z * 1000000000 + r < 1000 * 1000000000 ^ (i + 1) := by
  rw [Int.pow_succ]
  omega
theorem ok__law_great {P : Program} {w : World} {K : PySem.W.Frag} {mg : Str → Option Value} {base : Heap} (T : Txt K mg) : FnOk P w K mg base CX0 lv__law_great T.f__law_great T.fd__law_great ["_law_bag_here"] (sp__law_great K) := by
  refine T.F__law_great.ok sc__law_great (fun vs H Q E h => ?_) (fun cdv A outer s H vs Q E hr h => ?_)
  · obtain ⟨b, rfl, _⟩ := h
    rfl
  · obtain ⟨b, rfl, B, k⟩ := h
    have G__law_pull := ok__law_pull (P := P) (w := w) (base := base) T
    refine ⟨_, (pss_cons (ps_set (i := 1) sc__law_great.nd rfl (by first | exact .inl rfl | exact .inr rfl) (pe_call G__law_pull (hr.mono (by first | decide | omega)) (by rfl) T.g__law_pull T.F__law_pull.kp T.b__law_pull .nil pass0 (pa_cons (pv 0) (pa_cons pe_int pa_nil))))
      (pss_cons (ps_for PassesOwn.never rfl (pi_range1 (by rfl) T.z_range (pa_cons pe_int pa_nil)) (pg_name (i := 2) sc__law_great.nd rfl (by first | exact .inl rfl | exact .inr rfl))
        (pss_one (ps_set (i := 1) sc__law_great.nd rfl (by first | exact .inl rfl | exact .inr rfl) (pe_op (opAddK K) (pe_op opMul (pv 1) (pe_op op_pow pe_int pe_int)) (pe_call G__law_pull (hr.mono (by first | decide | omega)) (by rfl) T.g__law_pull T.F__law_pull.kp T.b__law_pull .nil pass0 (pa_cons (pv 0) (pa_cons (pe_op op_pow pe_int pe_int) pa_nil)))))))
      (pss_one (ps_ret (pv 1))))), ?_⟩
    (try dsimp only [cxOf, L2H.cxH, gcxOf, Cx.nox, Cx.wish]); rw [show L2.start _ [(.ref b : V)] = [some (.ref b), none, none] from rfl]
    walk_at "rd"
    refine s_pull B (by decide) fun r H1 r0 r1 B1 f1 => ?_
    walk_at "rd"
    refine for_by walk_range0 (fun i σ H' => ∃ (z : Int) (v : Option V), σ = [some (.ref b), some (.int z), v] ∧ 0 ≤ z ∧ z < 1000 * 1000000000 ^ i ∧ Bag b H' ∧ Fr (N1 b) H H') ⟨r, none, rfl, r0, by omega, B1, f1⟩ (fun _ _ _ _ _ => trivial) ?_ ?_
    · rintro i _ σ H' _ hi ⟨z, v, rfl, z0, z1, B', f'⟩ ⟨rfl, rfl⟩
      walk_at "rd"
      refine s_pull B' (by decide) fun r H2 r0 r1 B2 f2 => ?_
      walk_at "rd"
      exact ⟨_, _, rfl, by omega, great_lt z1 r1, B2, f'.trans f2⟩
    · rintro σ H' ⟨z, v, rfl, z0, z1, B', f'⟩
      walk_at "rd"
      exact k _ _ z0 z1 B' f'
end My
namespace My
open PySem PySem.Spec PyProof.Rows L2 RZ
open LamX (ExtN Tabs TabS TabB CodeO)
def sp__law_small (K : PySem.W.Frag) : Sp := fun vs H Q _ => ∃ (b : Addr), vs = [.ref b] ∧ Bag b H ∧ ∀ (p : Addr) (x y z : Int) H', 0 ≤ x → x < 9 → 0 ≤ y → y < 9 → 0 ≤ z → z < 9 → TupAt K H' p [.int x, .int y, .int z] → Bag b H' → Fr (N1 b) H H' → Q (.ref p) H'
theorem s_small {K : PySem.W.Frag} {b : Addr} {H : Hp} {Q : VK} {E : XK} (B : Bag b H) (k : ∀ (p : Addr) (x y z : Int) H', 0 ≤ x → x < 9 → 0 ≤ y → y < 9 → 0 ≤ z → z < 9 → TupAt K H' p [.int x, .int y, .int z] → Bag b H' → Fr (N1 b) H H' → Q (.ref p) H') : sp__law_small K [.ref b] H Q E := ⟨b, rfl, B, k⟩
theorem ok__law_small {P : Program} {w : World} {K : PySem.W.Frag} {mg : Str → Option Value} {base : Heap} (T : Txt K mg) : FnOk P w K mg base CX0 lv__law_small T.f__law_small T.fd__law_small ["_law_bag_here"] (sp__law_small K) := by
  refine T.F__law_small.ok sc__law_small (fun vs H Q E h => by obtain ⟨b, rfl, _⟩ := h; rfl) (fun cdv A outer s H vs Q E hr h => ?_)
  obtain ⟨b, rfl, B, k⟩ := h
  have G__law_pull := ok__law_pull (P := P) (w := w) (base := base) T
  refine ⟨_, (pss_one (ps_ret (pe_callTy (callTupleK K) (by rfl) T.z_tuple (by first | exact PySem.boot_tuple | exact boot_tuple | decide +kernel) (pa_cons (pe_lc (own := [("_law_k", 1)]) (g := (gName 1)) (tt := tYes) rfl sc__law_small.nd (pi_range1 (by rfl) T.z_range (pa_cons pe_int pa_nil)) (blkOk_by (N := ["_law_bag_here", "_law_k"]) (sc := defScope s__law_small) (by decide +kernel)) (fun _ _ _ _ _ => (pg_name (i := 1) sc__law_small.nd rfl (by first | exact .inl rfl | exact .inr rfl))) (fun _ _ _ _ _ => pts_nil) (fun _ _ _ _ _ => (pe_call G__law_pull (hr.mono (by first | decide | omega)) (by rfl) T.g__law_pull T.F__law_pull.kp T.b__law_pull .nil pass0 (pa_cons (pv 0) (pa_cons pe_int pa_nil))))) pa_nil)))), ?_⟩
  (try dsimp only [cxOf, L2H.cxH, gcxOf, Cx.nox, Cx.wish]); rw [show L2.start _ [(.ref b : V)] = [some (.ref b), none] from rfl]
  walk_at "rd"
  refine lc_by walk_range0 (fun D i acc H2 => Rng i 0 9 acc ∧ Bag b H2 ∧ Fr (N1 b) H H2) (by walk_at "wipe") (fun D hD => ⟨.nil, B.fr (Fr.new hD), Fr.new hD⟩) (fun _ _ _ _ _ _ => trivial) ?_ ?_
  · rintro D i acc _ H2 _ hD hi hal ⟨r, B2, f2⟩ hDl ⟨rfl, rfl⟩
    walk_at "rd"
    refine ⟨rfl, ?_⟩
    walk_at "rd"
    refine s_pull B2 (by decide) fun q H3 q0 q1 B3 f3 => ?_
    have nD : D ≠ b := fun e => by rw [e] at hD; obtain ⟨_, e⟩ := B.some; rw [e] at hD; cases hD
    have e3 := f3.keep _ _ hDl nD
    exact pvx_add e3 hal (Nat.lt_of_lt_of_le hi (sz (by decide))) ⟨r.snoc q0 q1, bag_mut B hD (f2.trans f3) B3, (f2.trans f3).mut hD⟩
  · rintro D acc H2 hD ⟨r, B2, f2⟩ hDl
    walk_at "rd"
    refine s_tupleL (SqL.of hDl) fun l hl => ?_
    obtain ⟨x, y, z, rfl, a⟩ := r.three
    exact k l x y z _ a.1 a.2.1 a.2.2.1 a.2.2.2.1 a.2.2.2.2.1 a.2.2.2.2.2 (.inl upd_same) (B2.fr (Fr.new hl)) (f2.trans (Fr.new hl))
end My
namespace My
open PySem PySem.Spec PyProof.Rows L2 RZ
open LamX (ExtN Tabs TabS TabB CodeO)
def big : Int := 1000 * 1000000000 ^ 3
def sp__law_situation (K : PySem.W.Frag) : Sp := fun vs H Q _ => ∃ (b : Addr), vs = [.ref b] ∧ Bag b H ∧ ∀ (p : Addr) (x y z : Int) H', 0 ≤ x → x < big → 0 ≤ y → y < big → 0 ≤ z → z < big → TupAt K H' p [.int x, .int y, .int z] → Bag b H' → Fr (N1 b) H H' → Q (.ref p) H'
theorem s_situation {K : PySem.W.Frag} {b : Addr} {H : Hp} {Q : VK} {E : XK} (B : Bag b H) (k : ∀ (p : Addr) (x y z : Int) H', 0 ≤ x → x < big → 0 ≤ y → y < big → 0 ≤ z → z < big → TupAt K H' p [.int x, .int y, .int z] → Bag b H' → Fr (N1 b) H H' → Q (.ref p) H') : sp__law_situation K [.ref b] H Q E := ⟨b, rfl, B, k⟩
theorem big_lt {x : Int} (h : x < 13) : x < big := Int.lt_trans h (by decide)
theorem ok__law_situation {P : Program} {w : World} {K : PySem.W.Frag} {mg : Str → Option Value} {base : Heap} (T : Txt K mg) : FnOk P w K mg base CX0 lv__law_situation T.f__law_situation T.fd__law_situation ["_law_bag_here"] (sp__law_situation K) := by
  refine T.F__law_situation.ok sc__law_situation (fun vs H Q E h => by obtain ⟨b, rfl, _⟩ := h; rfl) (fun cdv A outer s H vs Q E hr h => ?_)
  obtain ⟨b, rfl, B, k⟩ := h
  have G__law_great := ok__law_great (P := P) (w := w) (base := base) T; have G__law_pull := ok__law_pull (P := P) (w := w) (base := base) T; have G__law_small := ok__law_small (P := P) (w := w) (base := base) T
  refine ⟨_, (pss_cons (ps_if (pt_cmpR op_gt (pe_call G__law_pull (hr.mono (by first | decide | omega)) (by rfl) T.g__law_pull T.F__law_pull.kp T.b__law_pull .nil pass0 (pa_cons (pv 0) (pa_cons pe_int pa_nil))) pe_int (by first | exact nomark _ | rfl))
        (pss_one (ps_ret (pe_call G__law_small (hr.mono (by first | decide | omega)) (by rfl) T.g__law_small T.F__law_small.kp T.b__law_small .nil pass0 (pa_cons (pv 0) pa_nil))))
        pss_nil)
      (pss_one (ps_ret (pe_callTy (callTupleK K) (by rfl) T.z_tuple (by first | exact PySem.boot_tuple | exact boot_tuple | decide +kernel) (pa_cons (pe_lc (own := [("_law_k", 1)]) (g := (gName 1)) (tt := tYes) rfl sc__law_situation.nd (pi_range1 (by rfl) T.z_range (pa_cons pe_int pa_nil)) (blkOk_by (N := ["_law_bag_here", "_law_k"]) (sc := defScope s__law_situation) (by decide +kernel)) (fun _ _ _ _ _ => (pg_name (i := 1) sc__law_situation.nd rfl (by first | exact .inl rfl | exact .inr rfl))) (fun _ _ _ _ _ => pts_nil) (fun _ _ _ _ _ => (pe_ifExp (pt_cmpR (opEqK K hr.units) (pe_call G__law_pull (hr.mono (by first | decide | omega)) (by rfl) T.g__law_pull T.F__law_pull.kp T.b__law_pull .nil pass0 (pa_cons (pv 0) (pa_cons pe_int pa_nil))) pe_int (by first | exact nomark _ | rfl)) (pe_call G__law_great (hr.mono (by first | decide | omega)) (by rfl) T.g__law_great T.F__law_great.kp T.b__law_great .nil pass0 (pa_cons (pv 0) pa_nil)) (pe_call G__law_pull (hr.mono (by first | decide | omega)) (by rfl) T.g__law_pull T.F__law_pull.kp T.b__law_pull .nil pass0 (pa_cons (pv 0) (pa_cons pe_int pa_nil)))))) pa_nil))))), ?_⟩
  (try dsimp only [cxOf, L2H.cxH, gcxOf, Cx.nox, Cx.wish]); rw [show L2.start _ [(.ref b : V)] = [some (.ref b), none] from rfl]
  walk_at "rd"
  refine s_pull B (by decide) fun q H1 q0 q1 B1 f1 => ?_
  walk_at "rd"
  refine if_dec (fun _ => ?_) (fun _ => ?_)
  · walk_at "rd"
    exact s_small B1 fun p x y z H2 x0 x1 y0 y1 z0 z1 t B2 f2 => k p x y z H2 x0 (big_lt (by omega)) y0 (big_lt (by omega)) z0 (big_lt (by omega)) t B2 (f1.trans f2)
  walk_at "rd"
  refine lc_by walk_range0 (fun D i acc H2 => Rng i 0 big acc ∧ Bag b H2 ∧ Fr (N1 b) H H2) (by walk_at "wipe") (fun D hD => ⟨.nil, B1.fr (Fr.new hD), f1.trans (Fr.new hD)⟩) (fun _ _ _ _ _ _ => trivial) ?_ ?_
  · rintro D i acc _ H2 _ hD hi hal ⟨r, B2, f2⟩ hDl ⟨rfl, rfl⟩
    walk_at "rd"
    refine ⟨rfl, ?_⟩
    walk_at "rd"
    have nD : D ≠ b := fun e => by rw [e] at hD; obtain ⟨_, e⟩ := B1.some; rw [e] at hD; cases hD
    have hD0 : H D = none := f1.free hD nD
    have hsz : i < sizeLine := Nat.lt_of_lt_of_le hi (sz (by decide))
    refine s_pull B2 (by decide) fun q H3 q0 q1 B3 f3 => ?_
    walk_at "rd"
    refine if_dec (fun _ => ?_) (fun _ => ?_)
    · walk_at "rd"
      refine s_great B3 fun g H4 g0 g1 B4 f4 => ?_
      have f34 := f3.trans f4
      have e4 := f34.keep _ _ hDl nD
      exact pvx_add e4 hal hsz ⟨r.snoc g0 g1, bag_mut B hD0 (f2.trans f34) B4, (f2.trans f34).mut hD0⟩
    · walk_at "rd"
      refine s_pull B3 (by decide) fun g H4 g0 g1 B4 f4 => ?_
      have f34 := f3.trans f4
      have e4 := f34.keep _ _ hDl nD
      exact pvx_add e4 hal hsz ⟨r.snoc g0 (big_lt g1), bag_mut B hD0 (f2.trans f34) B4, (f2.trans f34).mut hD0⟩
  · rintro D acc H2 hD ⟨r, B2, f2⟩ hDl
    walk_at "rd"
    refine s_tupleL (SqL.of hDl) fun l hl => ?_
    obtain ⟨x, y, z, rfl, a⟩ := r.three
    exact k l x y z _ a.1 a.2.1 a.2.2.1 a.2.2.2.1 a.2.2.2.2.1 a.2.2.2.2.2 (.inl upd_same) (B2.fr (Fr.new hl)) (f2.trans (Fr.new hl))
end My
namespace My
open PySem PySem.Spec PyProof.Rows L2 RZ
open LamX (ExtN Tabs TabS TabB CodeO)
def sp__law_of (K : PySem.W.Frag) : Sp := fun vs H Q _ => ∃ (b p : Addr) (xs : List V), vs = [.ref b, .ref p] ∧ Bag b H ∧ (H p = some (.lst xs) ∨ TupAt K H p xs) ∧ p ≠ b ∧ 0 < xs.length ∧ xs.length < 1000000 ∧ ∀ v H', v ∈ xs → Bag b H' → Fr (N1 b) H H' → Q v H'
theorem s_ofL {K : PySem.W.Frag} {b p : Addr} {xs : List V} {H : Hp} {Q : VK} {E : XK} (B : Bag b H) (h : H p = some (.lst xs)) (n : p ≠ b) (hl : 0 < xs.length ∧ xs.length < 1000000) (k : ∀ v H', v ∈ xs → Bag b H' → Fr (N1 b) H H' → Q v H') : sp__law_of K [.ref b, .ref p] H Q E := ⟨b, p, xs, rfl, B, .inl h, n, hl.1, hl.2, k⟩
theorem ok__law_of {P : Program} {w : World} {K : PySem.W.Frag} {mg : Str → Option Value} {base : Heap} (T : Txt K mg) : FnOk P w K mg base CX0 lv__law_of T.f__law_of T.fd__law_of ["_law_bag_here", "_law_things"] (sp__law_of K) := by
  refine T.F__law_of.ok sc__law_of (fun vs H Q E h => by obtain ⟨b, p, xs, rfl, _⟩ := h; rfl) (fun cdv A outer s H vs Q E hr h => ?_)
  obtain ⟨b, p, xs, rfl, B, hp, nb, h0, h1, k⟩ := h
  have G__law_pull := ok__law_pull (P := P) (w := w) (base := base) T
  refine ⟨_, (pss_one (ps_ret (pe_ix (ixK K) (pv 1) (pe_call G__law_pull (hr.mono (by first | decide | omega)) (by rfl) T.g__law_pull T.F__law_pull.kp T.b__law_pull .nil pass0 (pa_cons (pv 0) (pa_cons (pe_callB (callLenK K) (by rfl) T.z_len (by first | exact PySem.boot_len | exact boot_len | decide +kernel) (pa_cons (pv 1) pa_nil)) pa_nil))) (fun _ _ => rfl)))), ?_⟩
  (try dsimp only [cxOf, L2H.cxH, gcxOf, Cx.nox, Cx.wish]); rw [show L2.start _ [(.ref b : V), (.ref p : V)] = [some (.ref b), some (.ref p)] from rfl]
  walk_at "rd"
  have go : ∀ H', Fr (N1 b) H H' → H' p = some (.lst xs) ∨ TupAt K H' p xs := fun H' f => hp.imp (fun e => f.keep _ _ e nb) fun e => e.fr f
  have fin : ∀ (r : Int) H', 0 ≤ r → r < xs.length → Bag b H' → Fr (N1 b) H H' → rIx K (.ref p) (.int r) H' Q := by
    intro r H' r0 r1 B1 f1
    obtain ⟨j, rfl⟩ := nat0 r0
    have hj : j < xs.length := by omega
    have e : atI xs (j : Int) = some xs[j] := atI_nat (by rw [List.getElem?_eq_getElem hj])
    rcases go H' f1 with e1 | e1
    · exact s_ixL (SqL.of e1) e (k _ _ (List.getElem_mem hj) B1 f1)
    · exact s_ixT e1.sq e (k _ _ (List.getElem_mem hj) B1 f1)
  rcases hp with e | e
  · refine s_lenL (SqL.of e) ?_
    walk_at "rd"
    refine s_pull B (by omega) fun r H1 r0 r1 B1 f1 => ?_
    exact fin r H1 r0 r1 B1 f1
  · refine s_lenT e.sq ?_
    walk_at "rd"
    refine s_pull B (by omega) fun r H1 r0 r1 B1 f1 => ?_
    exact fin r H1 r0 r1 B1 f1
end My
namespace My
open PySem PySem.Spec PyProof.Rows L2 RZ
open LamX (ExtN Tabs TabS TabB CodeO)
def sp__law_above (K : PySem.W.Frag) : Sp := fun vs H Q _ => ∃ (b p : Addr) (x y z : Int), vs = [.ref b, .ref p] ∧ Bag b H ∧ TupAt K H p [.int x, .int y, .int z] ∧ ∀ (q : Addr) (x' y' z' : Int) H', x ≤ x' → y ≤ y' → z ≤ z' → TupAt K H' q [.int x', .int y', .int z'] → Bag b H' → Fr (N1 b) H H' → Q (.ref q) H'
theorem s_above {K : PySem.W.Frag} {b p : Addr} {x y z : Int} {H : Hp} {Q : VK} {E : XK} (B : Bag b H) (t : TupAt K H p [.int x, .int y, .int z]) (k : ∀ (q : Addr) (x' y' z' : Int) H', x ≤ x' → y ≤ y' → z ≤ z' → TupAt K H' q [.int x', .int y', .int z'] → Bag b H' → Fr (N1 b) H H' → Q (.ref q) H') : sp__law_above K [.ref b, .ref p] H Q E := ⟨b, p, x, y, z, rfl, B, t, k⟩
/-- the i-th of vs at least the i-th of ns -/
def Abv (ns : List Int) (i : Nat) (vs : List V) : Prop := ∃ ms : List Int, vs = ms.map V.int ∧ ms.length = i ∧ ∀ (j : Nat) (m n : Int), ms[j]? = some m → ns[j]? = some n → n ≤ m
theorem Abv.snoc {ns : List Int} {i : Nat} {vs : List V} {n m : Int} (h : Abv ns i vs) (e : ns[i]? = some n) (hm : n ≤ m) : Abv ns (i + 1) (vs ++ [.int m]) := by
  obtain ⟨ms, rfl, rfl, a⟩ := h
  refine ⟨ms ++ [m], by simp, by simp, fun j m' n' h1 h2 => ?_⟩
  by_cases hj : j < ms.length
  · rw [List.getElem?_append_left hj] at h1
    exact a j m' n' h1 h2
  · rw [List.getElem?_append_right (by omega)] at h1
    have : j - ms.length = 0 := by
      cases q : j - ms.length with
      | zero => rfl
      | succ k => rw [q] at h1; simp at h1
    have ej : j = ms.length := by omega
    subst ej
    rw [this] at h1
    rw [e] at h2
    cases h1
    cases h2
    exact hm
theorem Abv.three {x y z : Int} {vs : List V} (h : Abv [x, y, z] 3 vs) : ∃ x' y' z', vs = [.int x', .int y', .int z'] ∧ x ≤ x' ∧ y ≤ y' ∧ z ≤ z' := by
  obtain ⟨ms, rfl, e, a⟩ := h
  match ms, e with
  | [x', y', z'], _ => exact ⟨x', y', z', rfl, a 0 _ _ rfl rfl, a 1 _ _ rfl rfl, a 2 _ _ rfl rfl⟩
theorem ok__law_above {P : Program} {w : World} {K : PySem.W.Frag} {mg : Str → Option Value} {base : Heap} (T : Txt K mg) : FnOk P w K mg base CX0 lv__law_above T.f__law_above T.fd__law_above ["_law_bag_here", "_law_s"] (sp__law_above K) := by
  refine T.F__law_above.ok sc__law_above (fun vs H Q E h => by obtain ⟨b, p, x, y, z, rfl, _⟩ := h; rfl) (fun cdv A outer s H vs Q E hr h => ?_)
  obtain ⟨b, p, x, y, z, rfl, B, t, k⟩ := h
  have G__law_great := ok__law_great (P := P) (w := w) (base := base) T; have G__law_of := ok__law_of (P := P) (w := w) (base := base) T; have G__law_pull := ok__law_pull (P := P) (w := w) (base := base) T
  refine ⟨_, (pss_one (ps_ret (pe_callTy (callTupleK K) (by rfl) T.z_tuple (by first | exact PySem.boot_tuple | exact boot_tuple | decide +kernel) (pa_cons (pe_lc (own := [("_law_value", 2)]) (g := (gName 2)) (tt := tYes) rfl sc__law_above.nd (pi_tupK K (pv 1)) (blkOk_by (N := ["_law_bag_here", "_law_s", "_law_value"]) (sc := defScope s__law_above) (by decide +kernel)) (fun _ _ _ _ _ => (pg_name (i := 2) sc__law_above.nd rfl (by first | exact .inl rfl | exact .inr rfl))) (fun _ _ _ _ _ => pts_nil) (fun _ _ _ _ _ => (pe_op (opAddK K) (pv 2) (pe_call G__law_of (hr.mono (by first | decide | omega)) (by rfl) T.g__law_of T.F__law_of.kp T.b__law_of .nil pass0 (pa_cons (pv 0) (pa_cons (pe_lst (pa_cons pe_int (pa_cons pe_int (pa_cons pe_int (pa_cons (pe_op (opAddK K) pe_int (pe_call G__law_pull (hr.mono (by first | decide | omega)) (by rfl) T.g__law_pull T.F__law_pull.kp T.b__law_pull .nil pass0 (pa_cons (pv 0) (pa_cons pe_int pa_nil)))) (pa_cons (pe_call G__law_great (hr.mono (by first | decide | omega)) (by rfl) T.g__law_great T.F__law_great.kp T.b__law_great .nil pass0 (pa_cons (pv 0) pa_nil)) pa_nil)))))) pa_nil)))))) pa_nil)))), ?_⟩
  (try dsimp only [cxOf, L2H.cxH, gcxOf, Cx.nox, Cx.wish]); rw [show L2.start _ [(.ref b : V), (.ref p : V)] = [some (.ref b), some (.ref p), none] from rfl]
  walk_at "rd"
  refine lc_by (walk_tup (xs := [.int x, .int y, .int z])) (fun D i acc H2 => Abv [x, y, z] i acc ∧ Bag b H2 ∧ Fr (N1 b) H H2) (by walk_at "wipe") (fun D hD => ⟨⟨[], rfl, rfl, fun j m n h => by simp at h⟩, B.fr (Fr.new hD), Fr.new hD⟩) (fun D i acc H2 ⟨_, _, f2⟩ _ => (t.fr f2).sq) ?_ ?_
  · rintro D i acc v H2 H3 hD hi hal ⟨r, B2, f2⟩ hDl ⟨rfl, gv⟩
    obtain ⟨n, gn, rfl⟩ : ∃ n, [x, y, z][i]? = some n ∧ v = .int n := by
      have e : [V.int x, V.int y, V.int z] = [x, y, z].map V.int := rfl
      rw [e, List.getElem?_map] at gv
      cases q : [x, y, z][i]? with
      | none => rw [q] at gv; cases gv
      | some n => rw [q] at gv; cases gv; exact ⟨n, rfl, rfl⟩
    walk_at "rd"
    refine ⟨rfl, ?_⟩
    walk_at "rd"
    refine s_pull B2 (by decide) fun q H4 q0 q1 B4 f4 => ?_
    walk_at "rd"
    refine s_great B4 fun g H5 g0 g1 B5 f5 => ?_
    walk_at "rd"
    refine ⟨szb rfl, fun l nl => ?_⟩
    have f6 := Fr.new (N := N0) (o := .lst [.int 0, .int 0, .int 1, .int (1 + q), .int g]) nl
    have nD : D ≠ b := fun e => by rw [e] at hD; obtain ⟨_, e⟩ := B.some; rw [e] at hD; cases hD
    refine s_ofL (E := C8.E0) (B5.fr f6) upd_same (fun e => by rw [e] at nl; obtain ⟨_, z⟩ := B5.some; rw [nl] at z; cases z) (by simp) fun v H7 hv B7 f7 => ?_
    have F := (f4.trans f5).trans (f6.of0.trans f7)
    obtain ⟨m, rfl, hm⟩ : ∃ m : Int, v = .int m ∧ 0 ≤ m := by
      simp only [List.mem_cons, List.not_mem_nil, or_false] at hv
      rcases hv with rfl | rfl | rfl | rfl | rfl
      · exact ⟨_, rfl, by decide⟩
      · exact ⟨_, rfl, by decide⟩
      · exact ⟨_, rfl, by decide⟩
      · exact ⟨_, rfl, by omega⟩
      · exact ⟨_, rfl, g0⟩
    walk_at "rd"
    have e7 := F.keep _ _ hDl nD
    exact pvx_add e7 hal (Nat.lt_of_lt_of_le hi (szb rfl)) ⟨r.snoc gn (by omega), bag_mut B hD (f2.trans F) B7, (f2.trans F).mut hD⟩
  · rintro D acc H2 hD ⟨r, B2, f2⟩ hDl
    walk_at "rd"
    refine s_tupleL (SqL.of hDl) fun l hl => ?_
    obtain ⟨x', y', z', rfl, a⟩ := r.three
    exact k l x' y' z' _ a.1 a.2.1 a.2.2 (.inl upd_same) (B2.fr (Fr.new hl)) (f2.trans (Fr.new hl))
end My
namespace My
open PySem PySem.Spec PyProof.Rows L2 RZ
open LamX (ExtN Tabs TabS TabB CodeO)
def sp_law (K : PySem.W.Frag) : Sp := fun vs H Q _ => ∃ (a : Addr) (ns : List Int), vs = [.ref a] ∧ SqL K H a (ns.map V.int) ∧ ns.length ≤ 63 ∧ ∀ H', Q (.bl true) H'
theorem tot_plain : ∀ r : Fin 18, plainD (.list (totals ((r.val : Int) - 3))) = true ∧ deepD (.list (totals ((r.val : Int) - 3))) < 6 ∧ (totals ((r.val : Int) - 3)).length ≤ 1000 := by decide +kernel
theorem ok_law {P : Program} {w : World} {K : PySem.W.Frag} {mg : Str → Option Value} {base : Heap} (T : Txt K mg) : FnOk P w K mg base CX0 lv_law T.f_law T.fd_law ["_law_script"] (sp_law K) := by
  refine T.F_law.ok sc_law (fun vs H Q E h => by obtain ⟨a, ns, rfl, _⟩ := h; rfl) (fun cdv A outer s H vs Q E hr h => ?_)
  obtain ⟨a, ns, rfl, hS, hl, k⟩ := h
  have G__law_above := ok__law_above (P := P) (w := w) (base := base) T; have G__law_bag := ok__law_bag (P := P) (w := w) (base := base) T; have G__law_like := ok__law_like (P := P) (w := w) (base := base) T; have G__law_pull := ok__law_pull (P := P) (w := w) (base := base) T; have G__law_situation := ok__law_situation (P := P) (w := w) (base := base) T; have G_is_below := ok_is_below (P := P) (w := w) (base := base) T; have G_with_total := ok_with_total (P := P) (w := w) (base := base) T
  refine ⟨_, (pss_cons (ps_set (i := 1) sc_law.nd rfl (by first | exact .inl rfl | exact .inr rfl) (pe_call G__law_bag (hr.mono (by first | decide | omega)) (by rfl) T.g__law_bag T.F__law_bag.kp T.b__law_bag .nil pass0 (pa_cons (pv 0) pa_nil)))
      (pss_cons (ps_set (i := 2) sc_law.nd rfl (by first | exact .inl rfl | exact .inr rfl) (pe_op op_sub (pe_call G__law_pull (hr.mono (by first | decide | omega)) (by rfl) T.g__law_pull T.F__law_pull.kp T.b__law_pull .nil pass0 (pa_cons (pv 1) (pa_cons pe_int pa_nil))) pe_int))
      (pss_cons (ps_set (i := 3) sc_law.nd rfl (by first | exact .inl rfl | exact .inr rfl) (pe_lst pa_nil))
      (pss_cons (ps_for PassesOwn.never rfl (pi_range1 (by rfl) T.z_range (pa_cons (pe_callB (callMax rfl) (by rfl) T.z_max (by first | exact PySem.boot_max | exact boot_max | decide +kernel) (pa_cons pe_int (pa_cons (pe_op (opAddK K) (pv 2) pe_int) pa_nil))) pa_nil)) (pg_name (i := 4) sc_law.nd rfl (by first | exact .inl rfl | exact .inr rfl))
        (pss_one (ps_set (i := 3) sc_law.nd rfl (by first | exact .inl rfl | exact .inr rfl) (pe_op (opAddK K) (pv 3) (pe_lc (own := [("_law_second", 10)]) (g := (gName 10)) (tt := tYes) rfl sc_law.nd (pi_range1 (by rfl) T.z_range (pa_cons (pe_op (opAddK K) (pe_op op_sub (pv 2) (pv 4)) pe_int) pa_nil)) (blkOk_by (N := ["_law_script", "_law_bag_here", "_law_total", "_law_due", "_law_first", "_law_turn", "_law_one", "_law_two", "_law_below", "_law_above_here", "_law_second"]) (sc := defScope s_law) (by decide +kernel)) (fun _ _ _ _ _ => (pg_name (i := 10) sc_law.nd rfl (by first | exact .inl rfl | exact .inr rfl))) (fun _ _ _ _ _ => pts_nil) (fun _ _ _ _ _ => (pe_tup (pa_cons (pv 4) (pa_cons (pv 10) (pa_cons (pe_op op_sub (pe_op op_sub (pv 2) (pv 4)) (pv 10)) pa_nil))))))))))
      (pss_cons (ps_if (pt_not (pt_val (pe_call G__law_like (hr.mono (by first | decide | omega)) (by rfl) T.g__law_like T.F__law_like.kp T.b__law_like .nil pass0 (pa_cons (pe_listG (k := lv_with_total) (pgen_call G_with_total (hr.mono (by first | decide | omega)) (by rfl) T.g_with_total T.F_with_total.kp T.b_with_total .nil (pa_cons (pv 2) pa_nil)) passL noStop0 (hr.mono (by first | decide | omega)) (by rfl) T.z_list boot_list) (pa_cons (pv 3) pa_nil)))))
        (pss_one (ps_ret pe_bl))
        pss_nil)
      (pss_cons (ps_for PassesOwn.never rfl (pi_range1 (by rfl) T.z_range (pa_cons pe_int pa_nil)) (pg_name (i := 5) sc_law.nd rfl (by first | exact .inl rfl | exact .inr rfl))
        (pss_cons (ps_set (i := 6) sc_law.nd rfl (by first | exact .inl rfl | exact .inr rfl) (pe_call G__law_situation (hr.mono (by first | decide | omega)) (by rfl) T.g__law_situation T.F__law_situation.kp T.b__law_situation .nil pass0 (pa_cons (pv 1) pa_nil)))
        (pss_cons (ps_set (i := 7) sc_law.nd rfl (by first | exact .inl rfl | exact .inr rfl) (pe_ifExp (pt_cmpR (opEqK K hr.units) (pe_call G__law_pull (hr.mono (by first | decide | omega)) (by rfl) T.g__law_pull T.F__law_pull.kp T.b__law_pull .nil pass0 (pa_cons (pv 1) (pa_cons pe_int pa_nil))) pe_int (by first | exact nomark _ | rfl)) (pe_call G__law_above (hr.mono (by first | decide | omega)) (by rfl) T.g__law_above T.F__law_above.kp T.b__law_above .nil pass0 (pa_cons (pv 1) (pa_cons (pv 6) pa_nil))) (pe_call G__law_situation (hr.mono (by first | decide | omega)) (by rfl) T.g__law_situation T.F__law_situation.kp T.b__law_situation .nil pass0 (pa_cons (pv 1) pa_nil))))
        (pss_cons (ps_set (i := 8) sc_law.nd rfl (by first | exact .inl rfl | exact .inr rfl) (pe_and (pe_cmpR op_le (pe_ix (ixK K) (pv 6) pe_int (fun _ _ => rfl)) (pe_ix (ixK K) (pv 7) pe_int (fun _ _ => rfl)) (by first | exact nomark _ | rfl)) (pe_and (pe_cmpR op_le (pe_ix (ixK K) (pv 6) pe_int (fun _ _ => rfl)) (pe_ix (ixK K) (pv 7) pe_int (fun _ _ => rfl)) (by first | exact nomark _ | rfl)) (pe_one (pe_cmpR op_le (pe_ix (ixK K) (pv 6) pe_int (fun _ _ => rfl)) (pe_ix (ixK K) (pv 7) pe_int (fun _ _ => rfl)) (by first | exact nomark _ | rfl))))))
        (pss_cons (ps_set (i := 9) sc_law.nd rfl (by first | exact .inl rfl | exact .inr rfl) (pe_and (pe_cmpR op_le (pe_ix (ixK K) (pv 7) pe_int (fun _ _ => rfl)) (pe_ix (ixK K) (pv 6) pe_int (fun _ _ => rfl)) (by first | exact nomark _ | rfl)) (pe_and (pe_cmpR op_le (pe_ix (ixK K) (pv 7) pe_int (fun _ _ => rfl)) (pe_ix (ixK K) (pv 6) pe_int (fun _ _ => rfl)) (by first | exact nomark _ | rfl)) (pe_one (pe_cmpR op_le (pe_ix (ixK K) (pv 7) pe_int (fun _ _ => rfl)) (pe_ix (ixK K) (pv 6) pe_int (fun _ _ => rfl)) (by first | exact nomark _ | rfl))))))
        (pss_one (ps_if (pt_not (pt_val (pe_call G__law_like (hr.mono (by first | decide | omega)) (by rfl) T.g__law_like T.F__law_like.kp T.b__law_like .nil pass0 (pa_cons (pe_lst (pa_cons (pe_call G_is_below (hr.mono (by first | decide | omega)) (by rfl) T.g_is_below T.F_is_below.kp T.b_is_below .nil pass0 (pa_cons (pv 6) (pa_cons (pv 7) pa_nil))) (pa_cons (pe_call G_is_below (hr.mono (by first | decide | omega)) (by rfl) T.g_is_below T.F_is_below.kp T.b_is_below .nil pass0 (pa_cons (pv 7) (pa_cons (pv 6) pa_nil))) (pa_cons (pe_call G_is_below (hr.mono (by first | decide | omega)) (by rfl) T.g_is_below T.F_is_below.kp T.b_is_below .nil pass0 (pa_cons (pv 6) (pa_cons (pv 6) pa_nil))) pa_nil)))) (pa_cons (pe_lst (pa_cons (pv 8) (pa_cons (pv 9) (pa_cons pe_bl pa_nil)))) pa_nil)))))
          (pss_one (ps_ret pe_bl))
          pss_nil)))))))
      (pss_one (ps_ret pe_bl)))))))), ?_⟩
  (try dsimp only [cxOf, L2H.cxH, gcxOf, Cx.nox, Cx.wish]); rw [show L2.start _ [(.ref a : V)] = [some (.ref a), none, none, none, none, none, none, none, none, none, none] from rfl]
  walk_at "rd"
  refine ⟨a, ns, rfl, hS, hl, fun b H1 nb B f => ?_⟩
  walk_at "rd"
  refine s_pull B (by decide) fun r H2 r0 r1 B2 f2 => ?_
  walk_at "rd"
  have hr18 : ∃ q : Fin 18, r = (q.val : Int) := ⟨⟨r.toNat, by omega⟩, by show r = ((r.toNat : Nat) : Int); omega⟩
  obtain ⟨q, rfl⟩ := hr18
  obtain ⟨pl, dp, tl⟩ := tot_plain q
  have ht0 : -3 ≤ (q.val : Int) - 3 := by omega
  have ht1 : (q.val : Int) - 3 ≤ 14 := by omega
  generalize (q.val : Int) - 3 = t at pl dp tl ht0 ht1 ⊢
  refine ⟨szb rfl, fun l nl => ?_⟩
  walk_at "rd"
  have en : (if t + 1 > 0 then t + 1 else 0).toNat = (t + 1).toNat := by split <;> omega
  rw [en]
  have f3 := Fr.new (N := N0) (o := .lst []) nl
  refine for_by walk_range0 (fun i σ H' => ∃ (v4 : Option V) (L : Addr) (vs : List V), σ = [some (.ref a), some (.ref b), some (.int t), some (.ref L), v4, none, none, none, none, none, none] ∧ Bag b H' ∧ H' L = some (.lst vs) ∧ HdL N0 K H' vs ((List.range i).flatMap (totRow t)) ∧ vs.length ≤ i * 20) ⟨_, l, [], rfl, B2.fr f3, upd_same, .nil, Nat.zero_le _⟩ (fun _ _ _ _ _ => trivial) ?_ ?_
  · rintro i _ σ Ha H' hi ⟨v4, L, vs, rfl, B, eL, hv, hlen⟩ ⟨rfl, rfl⟩
    walk_at "rd"
    refine lc_by walk_range0 (fun D j acc H2 => Fr N0 H' H2 ∧ HdL (N1 D) K H2 acc ((List.range j).map fun j => PyData.tuple [.int (i : Nat), .int (j : Nat), .int (t - (i : Nat) - (j : Nat))])) (by walk_at "wipe") (fun D hD => ⟨Fr.new hD, .nil⟩) (fun _ _ _ _ _ _ => trivial) ?_ ?_
    · rintro D j acc _ H2 _ hD hj hal ⟨f, ha⟩ hDl ⟨rfl, rfl⟩
      walk_at "rd"
      refine ⟨rfl, ?_⟩
      walk_at "rd"
      refine ⟨szb rfl, fun p np => ?_⟩
      have f2 := Fr.new (N := N0) (o := .tup [.int (i : Nat), .int (j : Nat), .int (t - (i : Nat) - (j : Nat))]) np
      have e2 := f2.keep _ _ hDl id
      have hj' : j < sizeLine := by rw [sizeLine_eq]; omega
      have ha2 := (HdL.fr (f2.of0 (N := N1 D)) _ _ ha).app (.cons (.tup (.of upd_same) (HdL.ints [(i : Int), (j : Int), t - (i : Nat) - (j : Nat)])) .nil)
      refine pvx_add e2 hal hj' ⟨(f.trans f2).mut hD, ?_⟩
      rw [List.range_succ, List.map_append]
      exact HdL.fr (N := N1 D) (Fr.wr (o := .lst (acc ++ [.ref p])) e2 rfl (fun x r e => ⟨r ++ [.ref p], by rw [e]; rfl⟩)) _ _ ha2
    · rintro D acc H2 hD ⟨f, ha⟩ hDl
      walk_at "rd"
      have hla : acc.length ≤ 20 := by
        rw [ha.len, List.length_map, List.length_range]
        omega
      refine s_catL (f.keep _ _ eL id) hDl (by omega) fun p np => ?_
      have f2 := Fr.new (N := N0) (o := .lst (vs ++ acc)) np
      walk_at "rd"
      refine ⟨_, p, _, rfl, (B.fr f).fr f2, upd_same, ?_, by rw [List.length_append]; omega⟩
      rw [List.range_succ, List.flatMap_append]
      have := ((hv.fr0 f).app (HdL.sub (fun a h => h.elim) _ _ ha)).fr0 f2
      simpa [totRow] using this
  · rintro σ H' ⟨v4, L, vs, rfl, B, eL, hv, hlen⟩
    walk_at "rd"
    refine s_total ⟨by omega, by omega⟩ fun ys H4 f4 hy => ?_
    intro p np
    have f5 := Fr.new (N := N0) (o := .lst ys) np
    walk_at "rd"
    refine s_like (Hd.lst upd_same id (hy.fr0 f5)) (Hd.lst ((f4.trans f5).keep _ _ eL id) id (hv.fr0 (f4.trans f5))) pl dp fun H6 f6 => ?_
    have B6 := (B.fr (f4.trans f5)).fr f6
    walk_at "rd"
    refine for_by walk_range0 (fun i σ H' => ∃ v5 v6 v7 v8 v9 : Option V, σ = [some (.ref a), some (.ref b), some (.int t), some (.ref L), v4, v5, v6, v7, v8, v9, none] ∧ Bag b H') ⟨_, _, _, _, _, rfl, B6⟩ (fun _ _ _ _ _ => trivial) ?_ ?_
    · rintro i _ σ Ha Hb hi ⟨v5, v6, v7, v8, v9, rfl, B7⟩ ⟨rfl, rfl⟩
      walk_at "rd"
      refine s_situation B7 fun p1 x y z H8 x0 x1 y0 y1 z0 z1 t8 B8 f8 => ?_
      walk_at "rd"
      clear x0 x1 y0 y1 z0 z1
      refine s_pull B8 (by decide) fun q2 H9 q0 q1 B9 f9 => ?_
      have t9 := t8.fr f9
      walk_at "rd"
      refine if_dec (fun _ => ?ga) (fun _ => ?gb)
      case' ga => (walk_at "rd"; refine s_above B9 t9 fun p2 x' y' z' H10 g1 g2 g3 u10 B10 f10 => ?_; have t10 := t9.fr f10; clear B9 t9 f10 g1 g2 g3)
      case' gb => (walk_at "rd"; refine s_situation B9 fun p2 x' y' z' H10 g1 g2 g3 g4 g5 g6 u10 B10 f10 => ?_; have t10 := t9.fr f10; clear B9 t9 f10 g1 g2 g3 g4 g5 g6)
      all_goals
        walk_at "rd"
        refine if_and (b2 := decide (y ≤ y') && decide (z ≤ z')) (fun Q q => by walk_at "rd"; exact if_and (fun Q q => by walk_at "rd"; exact q) q) ?_
        walk_at "rd"
        refine if_and (b2 := decide (y' ≤ y) && decide (z' ≤ z)) (fun Q q => by walk_at "rd"; exact if_and (fun Q q => by walk_at "rd"; exact q) q) ?_
        have e1 : (decide (x ≤ x') && (decide (y ≤ y') && decide (z ≤ z'))) = leAll [x, y, z] [x', y', z'] := by simp [leAll]
        have e2 : (decide (x' ≤ x) && (decide (y' ≤ y) && decide (z' ≤ z))) = leAll [x', y', z'] [x, y, z] := by simp [leAll]
        have e3 : leAll [x, y, z] [x, y, z] = true := by simp [leAll]
        rw [e1, e2]
        walk_at "rd"
        refine s_below (ns := [x, y, z]) (ms := [x', y', z']) t10 u10 (Nat.le_of_ble_eq_true rfl) fun H11 f11 => ?_
        have t11 := t10.fr f11
        have u11 := u10.fr f11
        walk_at "rd"
        refine s_below (ns := [x', y', z']) (ms := [x, y, z]) u11 t11 (Nat.le_of_ble_eq_true rfl) fun H12 f12 => ?_
        have t12 := t11.fr f12
        walk_at "rd"
        refine s_below (ns := [x, y, z]) (ms := [x, y, z]) t12 t12 (Nat.le_of_ble_eq_true rfl) fun H13 f13 => ?_
        rw [e3]
        walk_at "rd"
        refine ⟨szb rfl, fun l1 nl1 => ?_⟩
        walk_at "rd"
        refine ⟨szb rfl, fun l2 nl2 => ?_⟩
        have g1 := Fr.new (N := N0) (o := .lst [.bl (leAll [x, y, z] [x', y', z']), .bl (leAll [x', y', z'] [x, y, z]), .bl true]) nl1
        have g2 := Fr.new (N := N0) (o := .lst [.bl (leAll [x, y, z] [x', y', z']), .bl (leAll [x', y', z'] [x, y, z]), .bl true]) nl2
        refine s_like (Hd.lst (g2.keep _ _ upd_same id) id (.cons (.bl _) (.cons (.bl _) (.cons (.bl _) .nil)))) (Hd.lst upd_same id (.cons (.bl _) (.cons (.bl _) (.cons (.bl _) .nil)))) rfl (Nat.succ_lt_succ (Nat.succ_pos _)) fun H14 f14 => ?_
        have B14 := (B10.fr (((f11.trans f12).trans f13).trans (g1.trans g2))).fr f14
        walk_at "rd"
        exact ⟨_, _, _, _, _, rfl, B14⟩
    · rintro σ H15 ⟨v5, v6, v7, v8, v9, rfl, B15⟩
      walk_at "rd"
      exact k _
end My
namespace My
open PySem PySem.Spec PyProof.Rows L2 RZ
open LamX (ExtN Tabs TabS TabB CodeO)
theorem all_mk {l : PySem.W.OpenLaw} {w : World} {K : PySem.W.Frag} {h : Heap} {mg : Str → Option Value} {fa : Addr} (X : K.In h) (G : h.Ns mainGlobals mg) (hfa : mg "law" = some (.ref fa))
    {od0 an0 : Option Addr} {sl0 : Array (Option Value)} {oc0 kV0 dc0 pm0 ct0 : Value} {f0 : Addr} {cd0 : Value} {od1 an1 : Option Addr} {sl1 : Array (Option Value)} {oc1 kV1 dc1 pm1 ct1 : Value} {f1 : Addr} {cd1 : Value} {od2 an2 : Option Addr} {sl2 : Array (Option Value)} {oc2 kV2 dc2 pm2 ct2 : Value} {f2 : Addr} {cd2 : Value} {od3 an3 : Option Addr} {sl3 : Array (Option Value)} {oc3 kV3 dc3 pm3 ct3 : Value} {f3 : Addr} {cd3 : Value} {od4 an4 : Option Addr} {sl4 : Array (Option Value)} {oc4 kV4 dc4 pm4 ct4 : Value} {f4 : Addr} {cd4 : Value} {od5 an5 : Option Addr} {sl5 : Array (Option Value)} {oc5 kV5 dc5 pm5 ct5 : Value} {f5 : Addr} {cd5 : Value} {od6 an6 : Option Addr} {sl6 : Array (Option Value)} {oc6 kV6 dc6 pm6 ct6 : Value} {f6 : Addr} {cd6 : Value} {od7 an7 : Option Addr} {sl7 : Array (Option Value)} {oc7 kV7 dc7 pm7 ct7 : Value} {f7 : Addr} {cd7 : Value} {od8 an8 : Option Addr} {sl8 : Array (Option Value)} {oc8 kV8 dc8 pm8 ct8 : Value} {f8 : Addr} {cd8 : Value} {od9 an9 : Option Addr} {sl9 : Array (Option Value)} {oc9 kV9 dc9 pm9 ct9 : Value} {f9 : Addr} {cd9 : Value} {od10 an10 : Option Addr} {sl10 : Array (Option Value)} {oc10 kV10 dc10 pm10 ct10 : Value} {f10 : Addr} {cd10 : Value}
    (a0 : PySem.W.nsIn K mainGlobals "with_total" = some (some (.ref f0)))
    (l0 : K.lookup f0 = some ⟨oc0, od0, .func (PySem.W.fnOf "with_total" "with_total" (defArgs s_with_total) (defBody s_with_total) (defScope s_with_total) .none kV0 dc0 pm0 an0 cd0 ct0), sl0⟩)
    (c0 : PySem.W.codeIn K cd0 "with_total" = true)
    (k0 : PySem.W.keepIn K (.ref f0) = true)
    (a1 : PySem.W.nsIn K mainGlobals "is_below" = some (some (.ref f1)))
    (l1 : K.lookup f1 = some ⟨oc1, od1, .func (PySem.W.fnOf "is_below" "is_below" (defArgs s_is_below) (defBody s_is_below) (defScope s_is_below) .none kV1 dc1 pm1 an1 cd1 ct1), sl1⟩)
    (c1 : PySem.W.codeIn K cd1 "is_below" = true)
    (k1 : PySem.W.keepIn K (.ref f1) = true)
    (a2 : PySem.W.nsIn K mainGlobals "_law_bag" = some (some (.ref f2)))
    (l2 : K.lookup f2 = some ⟨oc2, od2, .func (PySem.W.fnOf "_law_bag" "_law_bag" (defArgs s__law_bag) (defBody s__law_bag) (defScope s__law_bag) .none kV2 dc2 pm2 an2 cd2 ct2), sl2⟩)
    (c2 : PySem.W.codeIn K cd2 "_law_bag" = true)
    (k2 : PySem.W.keepIn K (.ref f2) = true)
    (a3 : PySem.W.nsIn K mainGlobals "_law_pull" = some (some (.ref f3)))
    (l3 : K.lookup f3 = some ⟨oc3, od3, .func (PySem.W.fnOf "_law_pull" "_law_pull" (defArgs s__law_pull) (defBody s__law_pull) (defScope s__law_pull) .none kV3 dc3 pm3 an3 cd3 ct3), sl3⟩)
    (c3 : PySem.W.codeIn K cd3 "_law_pull" = true)
    (k3 : PySem.W.keepIn K (.ref f3) = true)
    (a4 : PySem.W.nsIn K mainGlobals "_law_like" = some (some (.ref f4)))
    (l4 : K.lookup f4 = some ⟨oc4, od4, .func (PySem.W.fnOf "_law_like" "_law_like" (defArgs s__law_like) (defBody s__law_like) (defScope s__law_like) .none kV4 dc4 pm4 an4 cd4 ct4), sl4⟩)
    (c4 : PySem.W.codeIn K cd4 "_law_like" = true)
    (k4 : PySem.W.keepIn K (.ref f4) = true)
    (a5 : PySem.W.nsIn K mainGlobals "_law_great" = some (some (.ref f5)))
    (l5 : K.lookup f5 = some ⟨oc5, od5, .func (PySem.W.fnOf "_law_great" "_law_great" (defArgs s__law_great) (defBody s__law_great) (defScope s__law_great) .none kV5 dc5 pm5 an5 cd5 ct5), sl5⟩)
    (c5 : PySem.W.codeIn K cd5 "_law_great" = true)
    (k5 : PySem.W.keepIn K (.ref f5) = true)
    (a6 : PySem.W.nsIn K mainGlobals "_law_small" = some (some (.ref f6)))
    (l6 : K.lookup f6 = some ⟨oc6, od6, .func (PySem.W.fnOf "_law_small" "_law_small" (defArgs s__law_small) (defBody s__law_small) (defScope s__law_small) .none kV6 dc6 pm6 an6 cd6 ct6), sl6⟩)
    (c6 : PySem.W.codeIn K cd6 "_law_small" = true)
    (k6 : PySem.W.keepIn K (.ref f6) = true)
    (a7 : PySem.W.nsIn K mainGlobals "_law_situation" = some (some (.ref f7)))
    (l7 : K.lookup f7 = some ⟨oc7, od7, .func (PySem.W.fnOf "_law_situation" "_law_situation" (defArgs s__law_situation) (defBody s__law_situation) (defScope s__law_situation) .none kV7 dc7 pm7 an7 cd7 ct7), sl7⟩)
    (c7 : PySem.W.codeIn K cd7 "_law_situation" = true)
    (k7 : PySem.W.keepIn K (.ref f7) = true)
    (a8 : PySem.W.nsIn K mainGlobals "_law_of" = some (some (.ref f8)))
    (l8 : K.lookup f8 = some ⟨oc8, od8, .func (PySem.W.fnOf "_law_of" "_law_of" (defArgs s__law_of) (defBody s__law_of) (defScope s__law_of) .none kV8 dc8 pm8 an8 cd8 ct8), sl8⟩)
    (c8 : PySem.W.codeIn K cd8 "_law_of" = true)
    (k8 : PySem.W.keepIn K (.ref f8) = true)
    (a9 : PySem.W.nsIn K mainGlobals "_law_above" = some (some (.ref f9)))
    (l9 : K.lookup f9 = some ⟨oc9, od9, .func (PySem.W.fnOf "_law_above" "_law_above" (defArgs s__law_above) (defBody s__law_above) (defScope s__law_above) .none kV9 dc9 pm9 an9 cd9 ct9), sl9⟩)
    (c9 : PySem.W.codeIn K cd9 "_law_above" = true)
    (k9 : PySem.W.keepIn K (.ref f9) = true)
    (a10 : PySem.W.nsIn K mainGlobals "law" = some (some (.ref f10)))
    (l10 : K.lookup f10 = some ⟨oc10, od10, .func (PySem.W.fnOf "law" "law" (defArgs s_law) (defBody s_law) (defScope s_law) .none kV10 dc10 pm10 an10 cd10 ct10), sl10⟩)
    (c10 : PySem.W.codeIn K cd10 "law" = true)
    (k10 : PySem.W.keepIn K (.ref f10) = true)
    (z0 : PySem.W.nsIn K mainGlobals "all" = some none)
    (z1 : PySem.W.nsIn K mainGlobals "bool" = some none)
    (z2 : PySem.W.nsIn K mainGlobals "dict" = some none)
    (z3 : PySem.W.nsIn K mainGlobals "int" = some none)
    (z4 : PySem.W.nsIn K mainGlobals "isinstance" = some none)
    (z5 : PySem.W.nsIn K mainGlobals "len" = some none)
    (z6 : PySem.W.nsIn K mainGlobals "list" = some none)
    (z7 : PySem.W.nsIn K mainGlobals "max" = some none)
    (z8 : PySem.W.nsIn K mainGlobals "range" = some none)
    (z9 : PySem.W.nsIn K mainGlobals "str" = some none)
    (z10 : PySem.W.nsIn K mainGlobals "tuple" = some none)
    (z11 : PySem.W.nsIn K mainGlobals "zip" = some none) :
    ∃ fd : FuncData, (∀ (s : Shared) (v : Value), BindsTo s fd ⟨[v], []⟩ [("_law_script", v)]) ∧ ∀ base : Heap, K.In base → base.Ns mainGlobals mg → FnOk l.prog w K mg base CX0 lv_law fa fd ["_law_script"] (sp_law K) := by
  have e := hfa.symm.trans (PySem.W.mg_of X G a10)
  cases e
  have F0 := fun_mk (st := s_with_total) l0 c0 k0
  have b0 := F0.binds (ps := ["total"]) fun _ _ _ _ _ _ us hl => match us, hl with | [_], _ => rfl
  have F1 := fun_mk (st := s_is_below) l1 c1 k1
  have b1 := F1.binds (ps := ["first", "second"]) fun _ _ _ _ _ _ us hl => match us, hl with | [_, _], _ => rfl
  have F2 := fun_mk (st := s__law_bag) l2 c2 k2
  have b2 := F2.binds (ps := ["_law_script"]) fun _ _ _ _ _ _ us hl => match us, hl with | [_], _ => rfl
  have F3 := fun_mk (st := s__law_pull) l3 c3 k3
  have b3 := F3.binds (ps := ["_law_bag_here", "_law_many"]) fun _ _ _ _ _ _ us hl => match us, hl with | [_, _], _ => rfl
  have F4 := fun_mk (st := s__law_like) l4 c4 k4
  have b4 := F4.binds (ps := ["_law_found", "_law_due"]) fun _ _ _ _ _ _ us hl => match us, hl with | [_, _], _ => rfl
  have F5 := fun_mk (st := s__law_great) l5 c5 k5
  have b5 := F5.binds (ps := ["_law_bag_here"]) fun _ _ _ _ _ _ us hl => match us, hl with | [_], _ => rfl
  have F6 := fun_mk (st := s__law_small) l6 c6 k6
  have b6 := F6.binds (ps := ["_law_bag_here"]) fun _ _ _ _ _ _ us hl => match us, hl with | [_], _ => rfl
  have F7 := fun_mk (st := s__law_situation) l7 c7 k7
  have b7 := F7.binds (ps := ["_law_bag_here"]) fun _ _ _ _ _ _ us hl => match us, hl with | [_], _ => rfl
  have F8 := fun_mk (st := s__law_of) l8 c8 k8
  have b8 := F8.binds (ps := ["_law_bag_here", "_law_things"]) fun _ _ _ _ _ _ us hl => match us, hl with | [_, _], _ => rfl
  have F9 := fun_mk (st := s__law_above) l9 c9 k9
  have b9 := F9.binds (ps := ["_law_bag_here", "_law_s"]) fun _ _ _ _ _ _ us hl => match us, hl with | [_, _], _ => rfl
  have F10 := fun_mk (st := s_law) l10 c10 k10
  have b10 := F10.binds (ps := ["_law_script"]) fun _ _ _ _ _ _ us hl => match us, hl with | [_], _ => rfl
  let T : Txt K mg := { f_with_total := f0, fd_with_total := _, F_with_total := F0, b_with_total := b0, g_with_total := PySem.W.mg_of X G a0, f_is_below := f1, fd_is_below := _, F_is_below := F1, b_is_below := b1, g_is_below := PySem.W.mg_of X G a1, f__law_bag := f2, fd__law_bag := _, F__law_bag := F2, b__law_bag := b2, g__law_bag := PySem.W.mg_of X G a2, f__law_pull := f3, fd__law_pull := _, F__law_pull := F3, b__law_pull := b3, g__law_pull := PySem.W.mg_of X G a3, f__law_like := f4, fd__law_like := _, F__law_like := F4, b__law_like := b4, g__law_like := PySem.W.mg_of X G a4, f__law_great := f5, fd__law_great := _, F__law_great := F5, b__law_great := b5, g__law_great := PySem.W.mg_of X G a5, f__law_small := f6, fd__law_small := _, F__law_small := F6, b__law_small := b6, g__law_small := PySem.W.mg_of X G a6, f__law_situation := f7, fd__law_situation := _, F__law_situation := F7, b__law_situation := b7, g__law_situation := PySem.W.mg_of X G a7, f__law_of := f8, fd__law_of := _, F__law_of := F8, b__law_of := b8, g__law_of := PySem.W.mg_of X G a8, f__law_above := f9, fd__law_above := _, F__law_above := F9, b__law_above := b9, g__law_above := PySem.W.mg_of X G a9, f_law := fa, fd_law := _, F_law := F10, b_law := b10, g_law := PySem.W.mg_of X G a10, z_all := PySem.W.mg_none_of X G z0, z_bool := PySem.W.mg_none_of X G z1, z_dict := PySem.W.mg_none_of X G z2, z_int := PySem.W.mg_none_of X G z3, z_isinstance := PySem.W.mg_none_of X G z4, z_len := PySem.W.mg_none_of X G z5, z_list := PySem.W.mg_none_of X G z6, z_max := PySem.W.mg_none_of X G z7, z_range := PySem.W.mg_none_of X G z8, z_str := PySem.W.mg_none_of X G z9, z_tuple := PySem.W.mg_none_of X G z10, z_zip := PySem.W.mg_none_of X G z11 }
  exact ⟨PySem.W.fnOf "law" "law" (defArgs s_law) (defBody s_law) (defScope s_law) .none kV10 dc10 pm10 an10 cd10 ct10, fun s v => .of_eq rfl, fun base _ _ => ok_law T⟩
end My
open PySem PySem.W PyProof.Rows
set_option maxRecDepth 100000 in
set_option maxHeartbeats 0 in
theorem PySem.Challenge.cw_sparenots_k04_totals_and_below_holds : PySem.Challenge.rw_sparenots_k04_totals_and_below.Holds := by
  w_on; o_law; k_head; (case hw => w_witness2)
  k_fill
  refine L2.walk_of (l := PySem.Challenge.rw_sparenots_k04_totals_and_below) (n := 63) (k := My.lv_law) (x := "_law_script") (CX := fun _ => L2.CX0) (sp := fun w => My.sp_law _) rfl (by decide) rfl ⟨rfl, by decide, by decide⟩ (fun w h Y => PySem.W.kIn_of Y) ?F (fun _ _ a ns hl _ hS => ⟨a, ns, rfl, hS, hl, fun _ => rfl⟩) (fun _ _ _ _ _ h => h)
  case F =>
    intro w mg fa h KX G hmg
    refine' My.all_mk KX G hmg ?a0 ?l0 ?c0 ?k0 ?a1 ?l1 ?c1 ?k1 ?a2 ?l2 ?c2 ?k2 ?a3 ?l3 ?c3 ?k3 ?a4 ?l4 ?c4 ?k4 ?a5 ?l5 ?c5 ?k5 ?a6 ?l6 ?c6 ?k6 ?a7 ?l7 ?c7 ?k7 ?a8 ?l8 ?c8 ?k8 ?a9 ?l9 ?c9 ?k9 ?a10 ?l10 ?c10 ?k10 ?z0 ?z1 ?z2 ?z3 ?z4 ?z5 ?z6 ?z7 ?z8 ?z9 ?z10 ?z11
    (case a0 => k_is)
    (case l0 => k_is)
    (case c0 => k_is)
    (case k0 => k_is)
    (case a1 => k_is)
    (case l1 => k_is)
    (case c1 => k_is)
    (case k1 => k_is)
    (case a2 => k_is)
    (case l2 => k_is)
    (case c2 => k_is)
    (case k2 => k_is)
    (case a3 => k_is)
    (case l3 => k_is)
    (case c3 => k_is)
    (case k3 => k_is)
    (case a4 => k_is)
    (case l4 => k_is)
    (case c4 => k_is)
    (case k4 => k_is)
    (case a5 => k_is)
    (case l5 => k_is)
    (case c5 => k_is)
    (case k5 => k_is)
    (case a6 => k_is)
    (case l6 => k_is)
    (case c6 => k_is)
    (case k6 => k_is)
    (case a7 => k_is)
    (case l7 => k_is)
    (case c7 => k_is)
    (case k7 => k_is)
    (case a8 => k_is)
    (case l8 => k_is)
    (case c8 => k_is)
    (case k8 => k_is)
    (case a9 => k_is)
    (case l9 => k_is)
    (case c9 => k_is)
    (case k9 => k_is)
    (case a10 => k_is)
    (case l10 => k_is)
    (case c10 => k_is)
    (case k10 => k_is)
    (case z0 => k_is)
    (case z1 => k_is)
    (case z2 => k_is)
    (case z3 => k_is)
    (case z4 => k_is)
    (case z5 => k_is)
    (case z6 => k_is)
    (case z7 => k_is)
    (case z8 => k_is)
    (case z9 => k_is)
    (case z10 => k_is)
    (case z11 => k_is)
