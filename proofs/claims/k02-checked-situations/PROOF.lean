import PyProof.Rows.All
import Wide.All
import OpenK.AllK
import Wide.FinOn
import HandS.ForMost
import HandS.ForExc
import HandS.Evl
import HandS.IsInst
import HandS.Wide
import HandS.WideBits
import HandS.TupAny
import HandS.Flow
import HandS.Walk
import HandS.Zip
import HandS.ExcInit
import HandS.ExcField
import HandS.TryMany
import HandS.HotCalls
import HandS.Lambda
import HandS.Nested
import HandS.EndOwn
import HandS.GenCall
import HandS.GenList
import HandS.FStr
import HandS.SortKw
import HandS.Replace
import HandS.TupMul
import KE.DatumOrd
import KE.GoesMore
import KE.GoesEnum
import KE.GoesZip
import KE.KOpsOwn
import KE.KCallOwn
import HandS.ClsMeth
import KE.KeyNested
import KE.SortData
import KE.KDictPairs
import HandS.Set
import HandS.SetTxt0
import HandS.SetBool
import KE.GoesSet
import HandS.Conv
import HandS.Iter
import HandS.DictComp
import KE.GoesRaise
import HandS.Defaults
import HandS.MakeKw
import HandS.MakeKwOnly
import HandS.Property
import HandS.OwnEq
import HandS.RaiseMore
import HandS.Style
import HandS.Star
import KE.SortKeyHeap
import PySem.Challenge.RW_sparenots_k02_checked_situations
set_option Elab.async false
set_option linter.all false
set_option maxRecDepth 100000
set_option maxHeartbeats 4000000
namespace My
open PySem PySem.Spec PyProof.Rows L2 RZ
abbrev St := L2.St
def rPar (i j : Nat) (σ : St) (nx : St → Hp → Prop) : List V → Hp → Prop := fun vs H => ∃ v w, vs = [v, w] ∧ nx ((σ.set i (some v)).set j (some w)) H
section steps
variable {σ σ' : St} {H H1 : Hp} {i j : Nat} {v x y z : V} {ta tb te tc : TE} {t u : TS} {c c' : TT} {b : Bool} {K : PySem.W.Frag} {a p : Addr} {Q : VK} {QT : Bool → Hp → Prop} {nx bk ct : St → Hp → Prop} {rt : VK} {tr : TA} {QA : List V → Hp → Prop}
theorem s_var (h : σ[i]? = some (some v)) (q : Q v H) : tVar i σ H Q := ⟨v, h, q⟩
theorem s_c (q : Q v H) : tC v σ H Q := q
theorem s_op {r : R2} (h : ta σ H fun x H1 => tb σ H1 fun y H2 => r x y H2 Q) : tOp r ta tb σ H Q := h
theorem s_un {r : V → Hp → VK → Prop} (h : ta σ H fun x H1 => r x H1 Q) : tUn r ta σ H Q := h
theorem s_rI0 {g : Int → Int → V} {m n : Int} (q : Q (g m n) H) : rI0 g (.int m) (.int n) H Q := ⟨m, n, rfl, rfl, q⟩
theorem s_rI {C : Int → Int → Prop} {g : Int → Int → V} {m n : Int} (hc : C m n) (q : Q (g m n) H) : rI C g (.int m) (.int n) H Q := ⟨m, n, rfl, rfl, hc, q⟩
theorem s_rU {g : Int → V} {m : Int} (q : Q (g m) H) : rU g (.int m) H Q := ⟨m, rfl, q⟩
theorem s_rEqI {m n : Int} (q : Q (.bl (decide (m = n))) H) : rEq (.int m) (.int n) H Q := ⟨rfl, by
  have e : decide (V.int m = V.int n) = decide (m = n) := decide_eq_decide.mpr ⟨fun h => V.int.inj h, fun h => by rw [h]⟩
  rw [e]; exact q⟩
theorem s_rNeI {m n : Int} (q : Q (.bl (!decide (m = n))) H) : rNe (.int m) (.int n) H Q := ⟨rfl, by
  have e : decide (V.int m = V.int n) = decide (m = n) := decide_eq_decide.mpr ⟨fun h => V.int.inj h, fun h => by rw [h]⟩
  rw [e]; exact q⟩
theorem s_rEqS {m n : Str} (q : Q (.bl (decide (m = n))) H) : rEq (.str m) (.str n) H Q := ⟨rfl, by
  have e : decide (V.str m = V.str n) = decide (m = n) := decide_eq_decide.mpr ⟨fun h => V.str.inj h, fun h => by rw [h]⟩
  rw [e]; exact q⟩
theorem s_rNeS {m n : Str} (q : Q (.bl (!decide (m = n))) H) : rNe (.str m) (.str n) H Q := ⟨rfl, by
  have e : decide (V.str m = V.str n) = decide (m = n) := decide_eq_decide.mpr ⟨fun h => V.str.inj h, fun h => by rw [h]⟩
  rw [e]; exact q⟩
theorem s_rEqB {m n : Bool} (q : Q (.bl (decide (m = n))) H) : rEq (.bl m) (.bl n) H Q := ⟨rfl, by
  have e : decide (V.bl m = V.bl n) = decide (m = n) := decide_eq_decide.mpr ⟨fun h => V.bl.inj h, fun h => by rw [h]⟩
  rw [e]; exact q⟩
theorem s_rNeB {m n : Bool} (q : Q (.bl (!decide (m = n))) H) : rNe (.bl m) (.bl n) H Q := ⟨rfl, by
  have e : decide (V.bl m = V.bl n) = decide (m = n) := decide_eq_decide.mpr ⟨fun h => V.bl.inj h, fun h => by rw [h]⟩
  rw [e]; exact q⟩
theorem s_test (h : te σ H fun x H' => ∃ k, x = .bl k ∧ QT k H') : tTest te σ H QT := h
theorem s_B (h : te σ H fun x H' => ∃ k, x = .bl k ∧ QT k H') : tB te σ H QT := h
theorem s_and (h : c σ H fun k H1 => if k = true then c' σ H1 QT else QT false H1) : tAnd c c' σ H QT := h
theorem s_or (h : c σ H fun k H1 => if k = true then QT true H1 else c' σ H1 QT) : tOr c c' σ H QT := h
theorem s_not (h : c σ H fun k H1 => QT (!k) H1) : tNot c σ H QT := h
theorem s_andV (h : ta σ H fun x H1 => ∃ k, x = .bl k ∧ if k = true then tb σ H1 Q else Q (.bl false) H1) : tAndV ta tb σ H Q := h
theorem s_orV (h : ta σ H fun x H1 => ∃ k, x = .bl k ∧ if k = true then Q (.bl true) H1 else tb σ H1 Q) : tOrV ta tb σ H Q := h
theorem s_notV (h : ta σ H fun x H1 => ∃ k, x = .bl k ∧ Q (.bl (!k)) H1) : tNotV ta σ H Q := h
theorem s_exbP {P : Bool → Prop} (q : P b) : ∃ k, V.bl b = .bl k ∧ P k := ⟨b, rfl, q⟩
theorem s_if (h : c σ H fun k H1 => if k = true then ta σ H1 Q else tb σ H1 Q) : tIf c ta tb σ H Q := h
theorem s_nil (q : QA [] H) : tNil σ H QA := q
theorem s_cons (h : ta σ H fun x H1 => tr σ H1 fun xs H2 => QA (x :: xs) H2) : tCons ta tr σ H QA := h
theorem s_tup (h : tr σ H fun xs H1 => xs.length ≤ sizeLine ∧ ∀ p, H1 p = none → Q (.ref p) (upd H1 p (.tup xs))) : tTup tr σ H Q := h
theorem s_lst (h : tr σ H fun xs H1 => xs.length ≤ sizeLine ∧ ∀ p, H1 p = none → Q (.ref p) (upd H1 p (.lst xs))) : tLst tr σ H Q := h
theorem s_CB {r : List V → Hp → VK → Prop} (h : tr σ H fun vs H1 => r vs H1 Q) : tCB r tr σ H Q := h
theorem s_BM {T : String} {r : V → List V → Hp → VK → Prop} (h : te σ H fun x H1 => tyV K T x H1 ∧ tr σ H1 fun xs H2 => r x xs H2 Q) : tBM K T r te tr σ H Q := h
theorem s_BM0 {T : String} {r : V → List V → Hp → VK → Prop} (h : te σ H fun x H1 => tyV K T x H1 ∧ r x [] H1 Q) : tBM0 K T r te σ H Q := h
theorem s_call {sp : Sp} {E : XK} (h : tr σ H fun vs H1 => sp vs H1 Q E) : tCall sp [] E tr σ H Q := by
  unfold tCall
  simpa only [List.append_nil] using h
theorem s_seq (h : t ⟨fun σ' H' => u ⟨nx, rt, bk, ct⟩ σ' H', rt, bk, ct⟩ σ H) : tSeq t u ⟨nx, rt, bk, ct⟩ σ H := h
theorem s_ret (h : te σ H rt) : tRet te ⟨nx, rt, bk, ct⟩ σ H := h
theorem s_retN (h : rt .non H) : tRetN ⟨nx, rt, bk, ct⟩ σ H := h
theorem s_next (h : nx σ H) : tNext ⟨nx, rt, bk, ct⟩ σ H := h
theorem s_break (h : bk σ H) : tBreak ⟨nx, rt, bk, ct⟩ σ H := h
theorem s_cont (h : ct σ H) : tCont ⟨nx, rt, bk, ct⟩ σ H := h
theorem s_asg {g : TG} (h : te σ H fun x H1 => g x σ H1 nx) : tAsg te g ⟨nx, rt, bk, ct⟩ σ H := h
theorem s_name (e : σ.set i (some v) = σ') (h : nx σ' H) : gName i v σ H nx := by unfold gName; rw [e]; exact h
theorem s_drop (h : te σ H fun _ H1 => nx σ H1) : tDrop te ⟨nx, rt, bk, ct⟩ σ H := h
theorem s_ifS (h : c σ H fun k H1 => if k = true then t ⟨nx, rt, bk, ct⟩ σ H1 else u ⟨nx, rt, bk, ct⟩ σ H1) : tIfS c t u ⟨nx, rt, bk, ct⟩ σ H := h
theorem s_par (h : tr σ H fun vs H1 => rPar i j σ nx vs H1) : tPar i j tr ⟨nx, rt, bk, ct⟩ σ H := h
theorem s_par2 (e : (σ.set i (some v)).set j (some x) = σ') (h : nx σ' H) : rPar i j σ nx [v, x] H := ⟨v, x, rfl, by rw [e]; exact h⟩
theorem s_sub {ti to : TE} {s : TSet} {w : V} (h : to σ H fun o H1 => ti σ H1 fun i H2 => s o i w H2 fun H3 => nx σ H3) : gSub to ti s w σ H nx := h
theorem s_setL {xs : List V} {k : Int} {n : Nat} {w : V} {R : Hp → Prop} (h : H p = some (.lst xs)) (e : ixN xs.length k = some n) (q : R (upd H p (.lst (xs.set n w)))) : rSetL (.ref p) (.int k) w H R := ⟨p, xs, k, n, rfl, rfl, h, e, q⟩
theorem s_ixL {xs : List V} {k : Int} (h : SqL K H p xs) (e : atI xs k = some v) (q : Q v H) : rIx K (.ref p) (.int k) H Q := .inl ⟨p, xs, k, v, rfl, rfl, h, e, q⟩
theorem s_ixT {xs : List V} {k : Int} (h : SqT K H p xs) (e : atI xs k = some v) (q : Q v H) : rIx K (.ref p) (.int k) H Q := .inr (.inl ⟨p, xs, k, v, rfl, rfl, h, e, q⟩)
end steps
/-- tests -/
theorem if_dec {p A B : Prop} [Decidable p] (h1 : p → A) (h2 : ¬ p → B) : if decide p = true then A else B := by
  by_cases h : p
  · rw [if_pos (decide_eq_true h)]; exact h1 h
  · rw [if_neg (by rw [decide_eq_false h]; exact Bool.false_ne_true)]; exact h2 h
theorem if_ndec {p A B : Prop} [Decidable p] (h1 : ¬ p → A) (h2 : p → B) : if (!decide p) = true then A else B := by
  by_cases h : p
  · rw [decide_eq_true h]; exact iteF (h2 h)
  · rw [decide_eq_false h]; exact iteT (h1 h)
theorem if_bl {b : Bool} {A B : Prop} (h1 : b = true → A) (h2 : b = false → B) : if b = true then A else B := by
  cases b
  · exact iteF (h2 rfl)
  · exact iteT (h1 rfl)
theorem if_nbl {b : Bool} {A B : Prop} (h1 : b = false → A) (h2 : b = true → B) : if (!b) = true then A else B := by
  cases b
  · exact iteT (h1 rfl)
  · exact iteF (h2 rfl)
theorem ite_t {b : Bool} {A B : Prop} (e : b = true) (h : A) : if b = true then A else B := by rw [if_pos e]; exact h
theorem ite_f {b : Bool} {A B : Prop} (e : b = false) (h : B) : if b = true then A else B := by rw [if_neg (by rw [e]; exact Bool.false_ne_true)]; exact h
theorem ndec_t {p : Prop} [Decidable p] (h : ¬ p) : (!decide p) = true := by rw [decide_eq_false h]; rfl
theorem ndec_f {p : Prop} [Decidable p] (h : p) : (!decide p) = false := by rw [decide_eq_true h]; rfl
theorem szb {n : Nat} (h : Nat.ble n 1000 = true) : n ≤ sizeLine := Nat.le_trans (Nat.le_of_ble_eq_true h) (by decide)
theorem sz {n : Nat} (h : n ≤ 1000) : n ≤ sizeLine := Nat.le_trans h (by decide)
def rAddG (K : PySem.W.Frag) : R2 := fun x y H Q => rI0 (fun i j => .int (i + j)) x y H Q ∨ (∃ i j, x = .str i ∧ y = .str j ∧ i.length + j.length ≤ sizeLine ∧ Q (.str (i ++ j)) H) ∨ rCatA K x y H Q ∨ rCat x y H Q
theorem opAdd {X : Cx} : OpR X (binaryOp .Add) (rAddG X.K) := op_add.or (op_add_str.or (op_catA.or op_cat))
def rEqG' (K : PySem.W.Frag) : R2 := fun x y H Q => rEq x y H Q ∨ rEqD K x y H Q
def rNeG' (K : PySem.W.Frag) : R2 := fun x y H Q => rNe x y H Q ∨ rNeD K x y H Q
theorem opEq {X : Cx} (hu : X.A.units + 64 < cLine) : OpR X (compareOp .Eq) (rEqG' X.K) := op_eq.or (op_eqD hu)
theorem opNe {X : Cx} (hu : X.A.units + 64 < cLine) : OpR X (compareOp .NotEq) (rNeG' X.K) := op_ne.or (op_neD hu)
section
variable {K : PySem.W.Frag} {H : Hp} {Q : VK} {x y : V} {m n : Int} {s t : Str}
theorem s_addI (q : Q (.int (m + n)) H) : rAddG K (.int m) (.int n) H Q := .inl (s_rI0 q)
theorem s_eqI (q : Q (.bl (decide (m = n))) H) : rEqG' K (.int m) (.int n) H Q := .inl (s_rEqI q)
theorem s_neI (q : Q (.bl (!decide (m = n))) H) : rNeG' K (.int m) (.int n) H Q := .inl (s_rNeI q)
theorem s_eqS (q : Q (.bl (decide (s = t))) H) : rEqG' K (.str s) (.str t) H Q := .inl (s_rEqS q)
theorem s_neS (q : Q (.bl (!decide (s = t))) H) : rNeG' K (.str s) (.str t) H Q := .inl (s_rNeS q)
theorem s_eqB {b c : Bool} (q : Q (.bl (decide (b = c))) H) : rEqG' K (.bl b) (.bl c) H Q := .inl (s_rEqB q)
theorem s_neB {b c : Bool} (q : Q (.bl (!decide (b = c))) H) : rNeG' K (.bl b) (.bl c) H Q := .inl (s_rNeB q)
/-- int(x), len(x), list(x), by names -/
def rInt1 : List V → Hp → VK → Prop := fun xs H Q => (∃ i, xs = [.int i] ∧ Q (.int i) H) ∨ ∃ k, xs = [.bl k] ∧ Q (.int (if k then 1 else 0)) H
theorem callInt {X : Cx} : CallR X (.type "int") rInt1 := call_int1
theorem s_int1 (q : Q (.int m) H) : rInt1 [.int m] H Q := .inl ⟨m, rfl, q⟩
def rLen (K : PySem.W.Frag) : List V → Hp → VK → Prop := fun xs H Q => (∃ p ys, xs = [.ref p] ∧ (SqL K H p ys ∨ SqT K H p ys) ∧ Q (.int ys.length) H) ∨ (∃ z, xs = [.str z] ∧ z.length ≤ sizeLine ∧ Q (.int z.length) H) ∨ ∃ a kvs, xs = [V.ref a] ∧ H a = some (.dK kvs) ∧ Q (.int kvs.length) H
theorem callLen {X : Cx} : CallR X (.builtin "len") (rLen X.K) := call_len_seq.or (call_len_str.or call_lenD)
theorem s_lenL {p : Addr} {xs : List V} (h : SqL K H p xs) (q : Q (.int xs.length) H) : rLen K [.ref p] H Q := .inl ⟨p, xs, rfl, .inl h, q⟩
theorem s_lenT {p : Addr} {xs : List V} (h : SqT K H p xs) (q : Q (.int xs.length) H) : rLen K [.ref p] H Q := .inl ⟨p, xs, rfl, .inr h, q⟩
theorem s_lenS {z : Str} (h : z.length ≤ sizeLine) (q : Q (.int z.length) H) : rLen K [.str z] H Q := .inr (.inl ⟨z, rfl, h, q⟩)
def rList (K : PySem.W.Frag) : List V → Hp → VK → Prop := fun xs H Q => ∃ p ys, xs = [.ref p] ∧ (SqL K H p ys ∨ SqT K H p ys) ∧ ∀ l, H l = none → Q (.ref l) (upd H l (.lst ys))
theorem callList {X : Cx} : CallR X (.type "list") (rList X.K) := call_list_of
theorem s_listL {p : Addr} {xs : List V} (h : SqL K H p xs) (q : ∀ l, H l = none → Q (.ref l) (upd H l (.lst xs))) : rList K [.ref p] H Q := ⟨p, xs, rfl, .inl h, q⟩
theorem s_listT {p : Addr} {xs : List V} (h : SqT K H p xs) (q : ∀ l, H l = none → Q (.ref l) (upd H l (.lst xs))) : rList K [.ref p] H Q := ⟨p, xs, rfl, .inr h, q⟩
def rTuple (K : PySem.W.Frag) : List V → Hp → VK → Prop := fun xs H Q => ∃ p ys, xs = [.ref p] ∧ ((SqL K H p ys ∧ ∀ l, H l = none → Q (.ref l) (upd H l (.tup ys))) ∨ (SqT K H p ys ∧ Q (.ref p) H))
theorem callTuple {X : Cx} : CallR X (.type "tuple") (rTuple X.K) := call_tuple_of
theorem s_tupleL {p : Addr} {xs : List V} (h : SqL K H p xs) (q : ∀ l, H l = none → Q (.ref l) (upd H l (.tup xs))) : rTuple K [.ref p] H Q := ⟨p, xs, rfl, .inl ⟨h, q⟩⟩
theorem s_all {p : Addr} {bs : List Bool} (h : SqL K H p (bs.map V.bl)) (q : Q (.bl (bs.all id)) H) : rAll K [.ref p] H Q := ⟨p, bs, rfl, h, q⟩
theorem s_mul (h : (-(2 ^ 64) < m ∧ m < 2 ^ 64) ∨ (-(2 ^ 64) < n ∧ n < 2 ^ 64)) (q : Q (.int (m * n)) H) : rI CMul (fun i j => .int (i * j)) (.int m) (.int n) H Q := s_rI (C := CMul) h q
theorem s_fdiv (h : 0 < n ∧ n < 1073741824) (q : Q (.int (m / n)) H) : rI CDiv (fun i j => .int (i / j)) (.int m) (.int n) H Q := s_rI (C := CDiv) h q
theorem s_mod (h : 0 < n) (q : Q (.int (m % n)) H) : rI (fun _ j => 0 < j) (fun i j => .int (i % j)) (.int m) (.int n) H Q := s_rI (C := fun _ j => 0 < j) h q
theorem s_pow (h : 0 ≤ n ∧ n ≤ 1000000 ∧ m.natAbs < 2 ^ 64) (q : Q (.int (m ^ n.toNat)) H) : rI CPow (fun i j => .int (i ^ j.toNat)) (.int m) (.int n) H Q := s_rI (C := CPow) h q
theorem s_pow9 (q : Q (.int 1000000000) H) : rI CPow (fun i j => .int (i ^ j.toNat)) (.int 10) (.int 9) H Q := s_pow ⟨by decide, by decide, by decide⟩ (by
  rw [show (10 : Int) ^ (9 : Int).toNat = 1000000000 by decide]; exact q)
theorem s_pow18 (q : Q (.int 1000000000000000000) H) : rI CPow (fun i j => .int (i ^ j.toNat)) (.int 10) (.int 18) H Q := s_pow ⟨by decide, by decide, by decide⟩ (by
  rw [show (10 : Int) ^ (18 : Int).toNat = 1000000000000000000 by decide]; exact q)
end
theorem s_isN {σ : St} {H : Hp} {Q : VK} {ta : TE} (h : ta σ H fun x H1 => Q (.bl (decide (x = .non))) H1) : tIsN ta σ H Q := h
theorem s_notN {σ : St} {H : Hp} {Q : VK} {ta : TE} (h : ta σ H fun x H1 => Q (.bl (!decide (x = .non))) H1) : tNotN ta σ H Q := h
abbrev opMul {X : Cx} := @op_mul X
abbrev opDiv {X : Cx} := @op_fdiv X
theorem at0 {α : Type} {x0 : α} {l : List α} : atI (x0 :: l) 0 = some x0 := atI_nat (j := 0) rfl
theorem ix0 {x0 : V} {l : List V} : ixN (x0 :: l).length 0 = some 0 := by
  have h : (0 : Int) < ((x0 :: l).length : Nat) := by simp only [List.length_cons]; omega
  unfold ixN
  rw [if_pos (by decide), if_pos h]
  rfl
theorem at1 {α : Type} {x0 x1 : α} {l : List α} : atI (x0 :: x1 :: l) 1 = some x1 := atI_nat (j := 1) rfl
theorem ix1 {x0 x1 : V} {l : List V} : ixN (x0 :: x1 :: l).length 1 = some 1 := by
  have h : (1 : Int) < ((x0 :: x1 :: l).length : Nat) := by simp only [List.length_cons]; omega
  unfold ixN
  rw [if_pos (by decide), if_pos h]
  rfl
theorem at2 {α : Type} {x0 x1 x2 : α} {l : List α} : atI (x0 :: x1 :: x2 :: l) 2 = some x2 := atI_nat (j := 2) rfl
theorem ix2 {x0 x1 x2 : V} {l : List V} : ixN (x0 :: x1 :: x2 :: l).length 2 = some 2 := by
  have h : (2 : Int) < ((x0 :: x1 :: x2 :: l).length : Nat) := by simp only [List.length_cons]; omega
  unfold ixN
  rw [if_pos (by decide), if_pos h]
  rfl
theorem at3 {α : Type} {x0 x1 x2 x3 : α} {l : List α} : atI (x0 :: x1 :: x2 :: x3 :: l) 3 = some x3 := atI_nat (j := 3) rfl
theorem ix3 {x0 x1 x2 x3 : V} {l : List V} : ixN (x0 :: x1 :: x2 :: x3 :: l).length 3 = some 3 := by
  have h : (3 : Int) < ((x0 :: x1 :: x2 :: x3 :: l).length : Nat) := by simp only [List.length_cons]; omega
  unfold ixN
  rw [if_pos (by decide), if_pos h]
  rfl
theorem at4 {α : Type} {x0 x1 x2 x3 x4 : α} {l : List α} : atI (x0 :: x1 :: x2 :: x3 :: x4 :: l) 4 = some x4 := atI_nat (j := 4) rfl
theorem ix4 {x0 x1 x2 x3 x4 : V} {l : List V} : ixN (x0 :: x1 :: x2 :: x3 :: x4 :: l).length 4 = some 4 := by
  have h : (4 : Int) < ((x0 :: x1 :: x2 :: x3 :: x4 :: l).length : Nat) := by simp only [List.length_cons]; omega
  unfold ixN
  rw [if_pos (by decide), if_pos h]
  rfl
theorem at5 {α : Type} {x0 x1 x2 x3 x4 x5 : α} {l : List α} : atI (x0 :: x1 :: x2 :: x3 :: x4 :: x5 :: l) 5 = some x5 := atI_nat (j := 5) rfl
theorem ix5 {x0 x1 x2 x3 x4 x5 : V} {l : List V} : ixN (x0 :: x1 :: x2 :: x3 :: x4 :: x5 :: l).length 5 = some 5 := by
  have h : (5 : Int) < ((x0 :: x1 :: x2 :: x3 :: x4 :: x5 :: l).length : Nat) := by simp only [List.length_cons]; omega
  unfold ixN
  rw [if_pos (by decide), if_pos h]
  rfl
theorem at6 {α : Type} {x0 x1 x2 x3 x4 x5 x6 : α} {l : List α} : atI (x0 :: x1 :: x2 :: x3 :: x4 :: x5 :: x6 :: l) 6 = some x6 := atI_nat (j := 6) rfl
theorem ix6 {x0 x1 x2 x3 x4 x5 x6 : V} {l : List V} : ixN (x0 :: x1 :: x2 :: x3 :: x4 :: x5 :: x6 :: l).length 6 = some 6 := by
  have h : (6 : Int) < ((x0 :: x1 :: x2 :: x3 :: x4 :: x5 :: x6 :: l).length : Nat) := by simp only [List.length_cons]; omega
  unfold ixN
  rw [if_pos (by decide), if_pos h]
  rfl
theorem at7 {α : Type} {x0 x1 x2 x3 x4 x5 x6 x7 : α} {l : List α} : atI (x0 :: x1 :: x2 :: x3 :: x4 :: x5 :: x6 :: x7 :: l) 7 = some x7 := atI_nat (j := 7) rfl
theorem ix7 {x0 x1 x2 x3 x4 x5 x6 x7 : V} {l : List V} : ixN (x0 :: x1 :: x2 :: x3 :: x4 :: x5 :: x6 :: x7 :: l).length 7 = some 7 := by
  have h : (7 : Int) < ((x0 :: x1 :: x2 :: x3 :: x4 :: x5 :: x6 :: x7 :: l).length : Nat) := by simp only [List.length_cons]; omega
  unfold ixN
  rw [if_pos (by decide), if_pos h]
  rfl
/-- a for over a walk -/
def ForGo (g : TG) (tb : TS) (nx : St → Hp → Prop) (rt : VK) (σ : St) : It → Hp → Prop := fun J H => ∃ W : Nat → Nat → St → Hp → Prop, (∃ m, W 0 m σ H) ∧ ∀ i m σ H, W i m σ H →
      (J.stop i H ∧ nx σ H) ∨ (J.go i H ∧ ∃ N : St → Hp → Prop, (∀ σ' H', N σ' H' → ∃ m', m' < m ∧ W (i + 1) m' σ' H') ∧ ∀ x H', J.yld i H x H' → g x σ H' fun σ2 H2 => tb ⟨N, rt, nx, N⟩ σ2 H2)
theorem for_by {J : It} {n : Nat} {G : Hp → Prop} {Y : Nat → Hp → V → Hp → Prop} (w : Walk J n G Y) {σ : St} {H : Hp} {nx : St → Hp → Prop} {rt : VK} {g : TG} {tb : TS} (Pv : Nat → St → Hp → Prop) (h0 : Pv 0 σ H) (hG : ∀ i σ H, i ≤ n → Pv i σ H → G H)
    (hs : ∀ i x σ H H', i < n → Pv i σ H → Y i H x H' → g x σ H' fun σ2 H2 => tb ⟨Pv (i + 1), rt, nx, Pv (i + 1)⟩ σ2 H2) (hd : ∀ σ H, Pv n σ H → nx σ H) : ForGo g tb nx rt σ J H :=
  for_it (D := ⟨nx, rt, fun _ _ => False, fun _ _ => False⟩) w Pv h0 hG hs hd
theorem walk_range0 {n : Nat} : Walk (Itr 0 n) n (fun _ => True) (YFn fun i => .int (i : Nat)) :=
  ⟨fun _ _ hi _ => hi, fun _ _ => Nat.le_refl _, fun i H x H' _ _ y => ⟨y.1, by rw [y.2, Int.zero_add]⟩⟩
def rRng1 : List V → Hp → (It → Hp → Prop) → Prop := fun vs H R => ∃ j : Int, vs = [.int j] ∧ -(2 ^ 62) ≤ j ∧ j < 2 ^ 62 ∧ R (Itr 0 j.toNat) H
def rRng2 : List V → Hp → (It → Hp → Prop) → Prop := fun vs H R => ∃ i j : Int, vs = [.int i, .int j] ∧ (-(2 ^ 62) ≤ i ∧ i < 2 ^ 62 ∧ -(2 ^ 62) ≤ j ∧ j < 2 ^ 62) ∧ R (Itr i (j - i).toNat) H
def rLst1 (K : PySem.W.Frag) : V → Hp → (It → Hp → Prop) → Prop := fun x H R => ∃ a, x = .ref a ∧ (∃ xs, SqL K H a xs) ∧ R (Itl K a) H
def rTup1 (K : PySem.W.Frag) : V → Hp → (It → Hp → Prop) → Prop := fun x H R => ∃ a, x = .ref a ∧ (∃ xs, SqT K H a xs) ∧ R (Itt K a) H
section
variable {σ : St} {H : Hp} {R : It → Hp → Prop} {ta : TA} {tl : TE} {K : PySem.W.Frag} {a : Addr} {xs : List V} {m n : Int}
theorem s_iRng1 (h : ta σ H fun vs H1 => rRng1 vs H1 R) : iRng1 ta σ H R := h
theorem s_iRng2 (h : ta σ H fun vs H1 => rRng2 vs H1 R) : iRng2 ta σ H R := h
theorem s_iList (h : tl σ H fun x H1 => rLst1 K x H1 R) : iList K tl σ H R := h
theorem s_iTup (h : tl σ H fun x H1 => rTup1 K x H1 R) : iTup K tl σ H R := h
theorem s_rng1 (h : -4611686018427387904 ≤ n ∧ n < 4611686018427387904) (q : R (Itr 0 n.toNat) H) : rRng1 [.int n] H R := ⟨n, rfl, h.1, h.2, q⟩
theorem s_rng2 (h : -4611686018427387904 ≤ m ∧ m < 4611686018427387904 ∧ -4611686018427387904 ≤ n ∧ n < 4611686018427387904) (q : R (Itr m (n - m).toNat) H) : rRng2 [.int m, .int n] H R := ⟨m, n, rfl, h, q⟩
theorem s_lst1 (h : SqL K H a xs) (q : R (Itl K a) H) : rLst1 K (.ref a) H R := ⟨a, rfl, ⟨xs, h⟩, q⟩
theorem s_tup1 (h : SqT K H a xs) (q : R (Itt K a) H) : rTup1 K (.ref a) H R := ⟨a, rfl, ⟨xs, h⟩, q⟩
end
theorem s_for {σ : St} {H : Hp} {nx bk ct : St → Hp → Prop} {rt : VK} {wi : TI} {g : TG} {tb : TS} (h : wi σ H (ForGo g tb nx rt σ)) : tFor wi g tb ⟨nx, rt, bk, ct⟩ σ H := h
def rSlG (K : PySem.W.Frag) : V → Option Int → Option Int → Hp → VK → Prop := fun x lo hi H Q => rSlL K x lo hi H Q ∨ rSlA K x lo hi H Q ∨ rSlS x lo hi H Q
theorem opSl {X : Cx} : SlR X (rSlG X.K) := sl_list.or (sl_tupA.or sl_str)
theorem s_slL {K : PySem.W.Frag} {H : Hp} {Q : VK} {p : Addr} {xs : List V} {lo hi : Option Int} (h : SqL K H p xs) (q : ∀ l, H l = none → Q (.ref l) (upd H l (.lst (cutV xs lo hi)))) : rSlG K (.ref p) lo hi H Q := .inl ⟨p, xs, rfl, h, q⟩
theorem s_sl {σ : St} {H : Hp} {Q : VK} {r : V → Option Int → Option Int → Hp → VK → Prop} {te : TE} {tl th : TO} (h : te σ H fun x H1 => tl σ H1 fun l H2 => th σ H2 fun u H3 => r x l u H3 Q) : tSl r te tl th σ H Q := h
theorem s_noPart {σ : St} {H : Hp} {Q : Option Int → Hp → Prop} (q : Q none H) : tNoPart σ H Q := q
theorem s_part {σ : St} {H : Hp} {Q : Option Int → Hp → Prop} {t : TE} (h : t σ H fun x H1 => ∃ i, x = .int i ∧ Q (some i) H1) : tPart t σ H Q := h
theorem s_exi {m : Int} {P : Int → Prop} (q : P m) : ∃ i, V.int m = .int i ∧ P i := ⟨m, rfl, q⟩
theorem s_bits {σ : St} {H : Hp} {Q : VK} {to : TE} (h : to σ H fun x H1 => ∃ i, x = .int i ∧ Q (.int (Builtin.Int.intBits i : Nat)) H1) : tBits to σ H Q := h
theorem cut_all {xs : List V} {n : Int} (h : (xs.length : Int) ≤ n) : cutV xs none (some n) = xs := by
  unfold cutV
  rw [HT.sIx_none]
  obtain ⟨k, rfl⟩ : ∃ k : Nat, n = (k : Int) := ⟨n.toNat, by omega⟩
  rw [HT.sIx_nat]
  rw [List.drop_zero, Nat.sub_zero]
  exact List.take_of_length_le (by omega)
end My
namespace My
open PySem PySem.Spec PyProof.Rows L2 RZ
/-- all that was tracked outside N is as it was; tuples stay anyway -/
structure Fr (N : Addr → Prop) (H H' : Hp) : Prop where
  tup : ∀ a xs, H a = some (.tup xs) → H' a = some (.tup xs)
  keep : ∀ a o, H a = some o → ¬ N a → H' a = some o
  hd : ∀ a x r, H a = some (.lst (.ref x :: r)) → ∃ r', H' a = some (.lst (.ref x :: r'))
abbrev N0 : Addr → Prop := fun _ => False
abbrev N1 (b : Addr) : Addr → Prop := fun a => a = b
theorem Fr.refl {N : Addr → Prop} {H : Hp} : Fr N H H := ⟨fun _ _ h => h, fun _ _ h _ => h, fun _ _ _ h => ⟨_, h⟩⟩
theorem Fr.trans {N : Addr → Prop} {H H1 H2 : Hp} (a : Fr N H H1) (b : Fr N H1 H2) : Fr N H H2 := ⟨fun c o h => b.tup c o (a.tup c o h), fun c o h n => b.keep c o (a.keep c o h n) n, fun c x r h => let ⟨_, h'⟩ := a.hd c x r h; b.hd c x _ h'⟩
theorem Fr.mono {N N' : Addr → Prop} {H H' : Hp} (a : Fr N H H') (h : ∀ x, N x → N' x) : Fr N' H H' := ⟨a.tup, fun c o e n => a.keep c o e fun z => n (h c z), a.hd⟩
theorem Fr.same {H H' : Hp} (a : Fr N0 H H') : Same H H' := fun b o e => a.keep b o e id
theorem Fr.ofSame {N : Addr → Prop} {H H' : Hp} (a : Same H H') : Fr N H H' := ⟨fun b xs e => a b _ e, fun b o e _ => a b o e, fun b x r e => ⟨_, a b _ e⟩⟩
theorem Fr.new {N : Addr → Prop} {H : Hp} {p : Addr} {o : HO} (h : H p = none) : Fr N H (upd H p o) := .ofSame fun b x e => by
  rw [upd_ne (ne_of_none e h)]
  exact e
theorem Fr.wr {N : Addr → Prop} {H : Hp} {p : Addr} {o : HO} {xs : List V} (h : H p = some (.lst xs)) (n : N p) (hh : ∀ x r, xs = .ref x :: r → ∃ r', o = .lst (.ref x :: r') := by (rintro _ _ ⟨⟩; exact ⟨_, rfl⟩)) : Fr N H (upd H p o) := ⟨fun b ys e => by
  rw [upd_ne (ne_of e h (by intro z; cases z))]
  exact e, fun b x e nb => by
  rw [upd_ne (fun z => nb (by rw [z]; exact n))]
  exact e, fun b x r e => by
  by_cases hb : b = p
  · rw [hb, h] at e
    obtain ⟨r', e'⟩ := hh x r (HO.lst.inj (Option.some.inj e))
    exact ⟨r', by rw [hb, upd_same, e']⟩
  · exact ⟨r, by rw [upd_ne hb]; exact e⟩⟩
/-- an object that H does not know may change -/
theorem Fr.mut {N : Addr → Prop} {H H' : Hp} {p : Addr} {o : HO} (f : Fr N H H') (h : H p = none) : Fr N H (upd H' p o) := ⟨fun a xs e => by
  rw [upd_ne (ne_of_none e h)]
  exact f.tup a xs e, fun a x e n => by
  rw [upd_ne (ne_of_none e h)]
  exact f.keep a x e n, fun a x r e => by
  rw [upd_ne (ne_of_none e h)]
  exact f.hd a x r e⟩
theorem Fr.free {N : Addr → Prop} {H H' : Hp} {p : Addr} (a : Fr N H H') (h : H' p = none) (n : ¬ N p) : H p = none := by
  cases q : H p with
  | none => rfl
  | some o => rw [a.keep p o q n] at h; cases h
theorem Fr.rdL {N : Addr → Prop} {K : PySem.W.Frag} {H H' : Hp} {p : Addr} {xs : List V} (a : Fr N H H') (h : SqL K H p xs) (n : ¬ N p) : SqL K H' p xs := by
  rcases h with (h | ⟨o, h⟩) | h
  · exact .inl (.inl (a.keep _ _ h n))
  · exact .inl (.inr ⟨o, a.keep _ _ h n⟩)
  · exact .inr h
theorem nat0 {p : Int} (h : 0 ≤ p) : ∃ j : Nat, p = (j : Int) := ⟨p.toNat, by omega⟩
/-- the bag of draws at b -/
structure Bag (b : Addr) (H : Hp) : Prop where
  ex : ∃ (c : Addr) (ns : List Int) (p cur seed : Int), H b = some (.lst [.ref c, .int p, .int cur, .int seed]) ∧ H c = some (.lst (ns.map V.int)) ∧ ns.length ≤ 63 ∧ 0 ≤ p ∧ 0 ≤ cur ∧ 0 ≤ seed ∧ seed < 2147483563
theorem bag_ne {H : Hp} {b c : Addr} {x : Addr} {r : List V} {ns : List Int} (h1 : H b = some (.lst (.ref x :: r))) (h2 : H c = some (.lst (ns.map V.int))) : c ≠ b := by
  intro e
  subst e
  rw [h1] at h2
  cases ns with
  | nil => cases h2
  | cons n l => cases h2
theorem Bag.fr {b : Addr} {H H' : Hp} (B : Bag b H) (f : Fr N0 H H') : Bag b H' := by
  obtain ⟨c, ns, p, cur, seed, h1, h2, r⟩ := B.ex
  exact ⟨c, ns, p, cur, seed, f.same _ _ h1, f.same _ _ h2, r⟩
theorem Bag.some {b : Addr} {H : Hp} (B : Bag b H) : ∃ xs, H b = some (.lst xs) := let ⟨_, _, _, _, _, h, _⟩ := B.ex; ⟨_, h⟩
/-- the bag where a list that it does not know is made longer -/
theorem bag_mut {N : Addr → Prop} {b D : Addr} {o : HO} {H H2 : Hp} (B : Bag b H) (hD : H D = none) (f : Fr N H H2) (B2 : Bag b H2) : Bag b (upd H2 D o) := by
  obtain ⟨c, _, p, cur, seed, h1, h2, _⟩ := B.ex
  obtain ⟨c', ns, p', cur', seed', h1', h2', r⟩ := B2.ex
  obtain ⟨r', e⟩ := f.hd _ _ _ h1
  rw [e] at h1'
  cases h1'
  exact ⟨c, ns, p', cur', seed', by rw [upd_ne (ne_of_none h1 hD)]; exact e, by rw [upd_ne (ne_of_none h2 hD)]; exact h2', r⟩
end My
namespace My
open PySem PySem.Spec PyProof.Rows L2 RZ
/-- a tuple at a: tracked, or of the written part -/
def TupAt (K : PySem.W.Frag) (H : Hp) (a : Addr) (xs : List V) : Prop :=
  H a = some (.tup xs) ∨ ∃ (o : Obj) (its : Array Value) (n : Nat), K.lookup a = some o ∧ o.cls = .type "tuple" ∧ o.data = .seq its n ∧ its.size ≤ sizeLine ∧ Vals xs its.toList
theorem TupAt.sq {K : PySem.W.Frag} {H : Hp} {a : Addr} {xs : List V} (h : TupAt K H a xs) : SqT K H a xs := by
  rcases h with h | h
  · exact .inl (.inl h)
  · exact .inr h
theorem TupAt.of {K : PySem.W.Frag} {H : Hp} {a : Addr} {xs : List V} (h : H a = some (.tup xs)) : TupAt K H a xs := .inl h
theorem TupAt.fr {N : Addr → Prop} {K : PySem.W.Frag} {H H' : Hp} {a : Addr} {xs : List V} (f : Fr N H H') (h : TupAt K H a xs) : TupAt K H' a xs := by
  rcases h with h | h
  · exact .inl (f.tup a xs h)
  · exact .inr h
def keyD : Key → PyData
  | .inl i => .int i
  | .inr s => .str s
mutual
inductive Hd (N : Addr → Prop) (K : PySem.W.Frag) (H : Hp) : V → PyData → Prop
  | non : Hd N K H .non .none
  | bl (b : Bool) : Hd N K H (.bl b) (.bool b)
  | int (i : Int) : Hd N K H (.int i) (.int i)
  | str (x : Str) : Hd N K H (.str x) (.str x)
  | lst {a : Addr} {xs : List V} {ds : List PyData} : H a = some (.lst xs) → ¬ N a → HdL N K H xs ds → Hd N K H (.ref a) (.list ds)
  | tup {a : Addr} {xs : List V} {ds : List PyData} : TupAt K H a xs → HdL N K H xs ds → Hd N K H (.ref a) (.tuple ds)
  | dct {a : Addr} {kvs : List (Key × V)} {ds : List (PyData × PyData)} : H a = some (.dK kvs) → ¬ N a → HdK N K H kvs ds → Hd N K H (.ref a) (.dict ds)
inductive HdL (N : Addr → Prop) (K : PySem.W.Frag) (H : Hp) : List V → List PyData → Prop
  | nil : HdL N K H [] []
  | cons {v : V} {vs : List V} {d : PyData} {ds : List PyData} : Hd N K H v d → HdL N K H vs ds → HdL N K H (v :: vs) (d :: ds)
inductive HdK (N : Addr → Prop) (K : PySem.W.Frag) (H : Hp) : List (Key × V) → List (PyData × PyData) → Prop
  | nil : HdK N K H [] []
  | cons {k : Key} {v : V} {vs : List (Key × V)} {d : PyData} {ds : List (PyData × PyData)} : Hd N K H v d → HdK N K H vs ds → HdK N K H ((k, v) :: vs) ((keyD k, d) :: ds)
end
section
variable {N N' : Addr → Prop} {K : PySem.W.Frag} {H H' : Hp}
mutual
theorem Hd.fr (f : Fr N H H') : ∀ (d : PyData) (v : V), Hd N K H v d → Hd N K H' v d
  | .none, _, h => by cases h; exact .non
  | .bool b, _, h => by cases h; exact .bl b
  | .int i, _, h => by cases h; exact .int i
  | .str x, _, h => by cases h; exact .str x
  | .list ds, _, h => by
    cases h with
    | lst e n r => exact .lst (f.keep _ _ e n) n (HdL.fr f ds _ r)
  | .tuple ds, _, h => by
    cases h with
    | tup e r => exact .tup (e.fr f) (HdL.fr f ds _ r)
  | .dict ds, _, h => by
    cases h with
    | dct e n r => exact .dct (f.keep _ _ e n) n (HdK.fr f ds _ r)
theorem HdL.fr (f : Fr N H H') : ∀ (ds : List PyData) (vs : List V), HdL N K H vs ds → HdL N K H' vs ds
  | [], _, h => by cases h; exact .nil
  | d :: ds, _, h => by
    cases h with
    | cons a b => exact .cons (Hd.fr f d _ a) (HdL.fr f ds _ b)
theorem HdK.fr (f : Fr N H H') : ∀ (ds : List (PyData × PyData)) (vs : List (Key × V)), HdK N K H vs ds → HdK N K H' vs ds
  | [], _, h => by cases h; exact .nil
  | (_, d) :: ds, _, h => by
    cases h with
    | cons a b => exact .cons (Hd.fr f d _ a) (HdK.fr f ds _ b)
end
mutual
theorem Hd.dp : ∀ (d : PyData) (v : V), Hd N K H v d → d.canLay0 = true → Dp K H v d
  | .none, _, h, _ => by cases h; exact .non
  | .bool b, _, h, _ => by cases h; exact .bl b
  | .int i, _, h, _ => by cases h; exact .int i
  | .str x, _, h, _ => by cases h; exact .str x
  | .list ds, _, h, c => by
    cases h with
    | lst e n r => exact .lst (SqL.of e) (HdL.dp ds _ r (by simpa [PyData.canLay0] using c))
  | .tuple ds, _, h, c => by
    cases h with
    | tup e r => exact .tup e.sq (HdL.dp ds _ r (by simpa [PyData.canLay0] using c))
  | .dict ds, _, h, c => by simp [PyData.canLay0] at c
theorem HdL.dp : ∀ (ds : List PyData) (vs : List V), HdL N K H vs ds → PyData.canLayAll0 ds = true → DpAll K H vs ds
  | [], _, h, _ => by cases h; exact .nil
  | d :: ds, _, h, c => by
    cases h with
    | cons a b =>
      have c' : d.canLay0 = true ∧ PyData.canLayAll0 ds = true := by simpa [PyData.canLayAll0] using c
      exact .cons (Hd.dp d _ a c'.1) (HdL.dp ds _ b c'.2)
end
theorem HdL.len : ∀ {ds : List PyData} {vs : List V}, HdL N K H vs ds → vs.length = ds.length
  | [], _, h => by cases h; rfl
  | d :: ds, _, h => by
    cases h with
    | cons a b => rw [List.length_cons, List.length_cons, HdL.len b]
theorem HdL.get : ∀ {ds : List PyData} {vs : List V} {i : Nat} {v : V}, HdL N K H vs ds → vs[i]? = some v → ∃ d, ds[i]? = some d ∧ Hd N K H v d
  | [], _, _, _, h, e => by cases h; simp at e
  | d :: ds, _, 0, _, h, e => by
    cases h with
    | cons a b => simp at e; subst e; exact ⟨d, rfl, a⟩
  | d :: ds, _, i + 1, _, h, e => by
    cases h with
    | cons a b =>
      obtain ⟨d', e', r⟩ := HdL.get b (by simpa using e)
      exact ⟨d', by simpa using e', r⟩
theorem HdL.app : ∀ {ds es : List PyData} {vs us : List V}, HdL N K H vs ds → HdL N K H us es → HdL N K H (vs ++ us) (ds ++ es)
  | [], _, _, _, h, h' => by cases h; exact h'
  | d :: ds, _, _, _, h, h' => by
    cases h with
    | cons a b => exact .cons a (HdL.app b h')
end
end My
namespace My
open PySem PySem.Spec PyProof.Rows L2 RZ
def tyD : PyData → String
  | .none => "NoneType" | .bool _ => "bool" | .int _ => "int" | .str _ => "str" | .list _ => "list" | .tuple _ => "tuple" | .dict _ => "dict"
section
variable {N : Addr → Prop} {K : PySem.W.Frag} {H : Hp}
theorem TupAt.ty {a : Addr} {xs : List V} (h : TupAt K H a xs) : TyX K H (.ref a) (.type "tuple") := by
  rcases h with h | ⟨o, its, n, hk, hc, _⟩
  · exact .base (.tup h)
  · exact .kTuple hk hc
theorem Hd.ty : ∀ {d : PyData} {v : V}, Hd N K H v d → TyX K H v (.type (tyD d))
  | .none, _, h => by cases h; exact .base .non
  | .bool b, _, h => by cases h; exact .base (.bl b)
  | .int i, _, h => by cases h; exact .base (.int i)
  | .str x, _, h => by cases h; exact .base (.str x)
  | .list ds, _, h => by
    cases h with
    | lst e n r => exact .base (.lst e)
  | .tuple ds, _, h => by
    cases h with
    | tup e r => exact e.ty
  | .dict ds, _, h => by
    cases h with
    | dct e n r => exact .base (.dK e)
def isList : PyData → Bool | .list _ => true | _ => false
def isTup : PyData → Bool | .tuple _ => true | _ => false
def isDict : PyData → Bool | .dict _ => true | _ => false
def isBool : PyData → Bool | .bool _ => true | _ => false
def isInt : PyData → Bool | .bool _ => true | .int _ => true | _ => false
def isStr : PyData → Bool | .str _ => true | _ => false
theorem kit_list (d : PyData) : kitB (tyD d) "list" = some (isList d) := by cases d <;> simp only [tyD, isList, isTup, isDict, isBool, isInt, isStr] <;> decide +kernel
theorem kit_tuple (d : PyData) : kitB (tyD d) "tuple" = some (isTup d) := by cases d <;> simp only [tyD, isList, isTup, isDict, isBool, isInt, isStr] <;> decide +kernel
theorem kit_dict (d : PyData) : kitB (tyD d) "dict" = some (isDict d) := by cases d <;> simp only [tyD, isList, isTup, isDict, isBool, isInt, isStr] <;> decide +kernel
theorem kit_bool (d : PyData) : kitB (tyD d) "bool" = some (isBool d) := by cases d <;> simp only [tyD, isList, isTup, isDict, isBool, isInt, isStr] <;> decide +kernel
theorem kit_int (d : PyData) : kitB (tyD d) "int" = some (isInt d) := by cases d <;> simp only [tyD, isList, isTup, isDict, isBool, isInt, isStr] <;> decide +kernel
theorem kit_str (d : PyData) : kitB (tyD d) "str" = some (isStr d) := by cases d <;> simp only [tyD, isList, isTup, isDict, isBool, isInt, isStr] <;> decide +kernel
def rIsiG (K : PySem.W.Frag) : List V → Hp → VK → Prop := fun xs H Q => rIsi K xs H Q ∨ rIsiT K xs H Q
theorem callIsi {X : Cx} : CallR X (.builtin "isinstance") (rIsiG X.K) := call_isi.or call_isiT
variable {Q : VK} {x : V} {d : PyData}
theorem s_isi {n : String} {b : Bool} (h : Hd N K H x d) (e : kitB (tyD d) n = some b) (q : Q (.bl b) H) : rIsiG K [x, .ty n] H Q := .inl ⟨x, .ty n, _, _, b, rfl, .ty n, h.ty, kit_ty e, q⟩
theorem s_isi_list (h : Hd N K H x d) (q : Q (.bl (isList d)) H) : rIsiG K [x, .ty "list"] H Q := s_isi h (kit_list d) q
theorem s_isi_tuple (h : Hd N K H x d) (q : Q (.bl (isTup d)) H) : rIsiG K [x, .ty "tuple"] H Q := s_isi h (kit_tuple d) q
theorem s_isi_dict (h : Hd N K H x d) (q : Q (.bl (isDict d)) H) : rIsiG K [x, .ty "dict"] H Q := s_isi h (kit_dict d) q
theorem s_isi_bool (h : Hd N K H x d) (q : Q (.bl (isBool d)) H) : rIsiG K [x, .ty "bool"] H Q := s_isi h (kit_bool d) q
theorem s_isi_int (h : Hd N K H x d) (q : Q (.bl (isInt d)) H) : rIsiG K [x, .ty "int"] H Q := s_isi h (kit_int d) q
theorem s_isi_str (h : Hd N K H x d) (q : Q (.bl (isStr d)) H) : rIsiG K [x, .ty "str"] H Q := s_isi h (kit_str d) q
end
/-- what holds between two turns of a comprehension: P by the turn, the list so far and the heap -/
def Pvx (P : Addr → Nat → List V → Hp → Prop) (D : Addr) (i : Nat) (H : Hp) : Prop := ∃ acc, acc.length ≤ i ∧ P D i acc H ∧ H D = some (.lst acc)
theorem pvx_add {P : Addr → Nat → List V → Hp → Prop} {D : Addr} {i : Nat} {acc : List V} {y : V} {H : Hp} (e : H D = some (.lst acc)) (hl : acc.length ≤ i) (hi : i < sizeLine) (p : P D (i + 1) (acc ++ [y]) (upd H D (.lst (acc ++ [y])))) :
    ∃ acc', H D = some (.lst acc') ∧ acc'.length < sizeLine ∧ Pvx P D (i + 1) (upd H D (.lst (acc' ++ [y]))) :=
  ⟨acc, e, by omega, acc ++ [y], by rw [List.length_append]; show acc.length + 1 ≤ i + 1; omega, p, upd_same⟩
def LcGo (g : TG) (tt : TT) (te : TE) (vs : List Nat) (σ : St) (Q : VK) : It → Hp → Prop := fun J H1 => ∀ D, H1 D = none → ∃ W : Nat → Nat → Hp → Prop, (∃ m, W 0 m (upd H1 D (.lst []))) ∧ ∀ i m H, W i m H →
      (J.stop i H ∧ Q (.ref D) H) ∨ (J.go i H ∧ ∃ Nx : Hp → Prop, (∀ H', Nx H' → ∃ m', m' < m ∧ W (i + 1) m' H') ∧ ∀ x H', J.yld i H x H' → g x (wipe σ vs) H' fun σ2 H2 => wipe σ2 vs = wipe σ vs ∧ tt σ2 H2 fun b H3 =>
        if b = true then te σ2 H3 fun y H4 => ∃ acc, H4 D = some (.lst acc) ∧ acc.length < sizeLine ∧ Nx (upd H4 D (.lst (acc ++ [y]))) else Nx H3)
theorem lc_by {J : It} {n : Nat} {G : Hp → Prop} {Y : Nat → Hp → V → Hp → Prop} (w : Walk J n G Y) {g : TG} {tt : TT} {te : TE} {vs : List Nat} {σ σ0 : St} {H1 : Hp} {Q : VK} (P : Addr → Nat → List V → Hp → Prop) (hw : wipe σ vs = σ0)
    (h0 : ∀ D, H1 D = none → P D 0 [] (upd H1 D (.lst []))) (hG : ∀ D i acc H, P D i acc H → H D = some (.lst acc) → G H)
    (hs : ∀ D i acc x H H', H1 D = none → i < n → acc.length ≤ i → P D i acc H → H D = some (.lst acc) → Y i H x H' → g x σ0 H' fun σ2 H2 => wipe σ2 vs = σ0 ∧ tt σ2 H2 fun b H3 =>
      if b = true then te σ2 H3 fun y H4 => ∃ acc', H4 D = some (.lst acc') ∧ acc'.length < sizeLine ∧ Pvx P D (i + 1) (upd H4 D (.lst (acc' ++ [y]))) else Pvx P D (i + 1) H3)
    (hd : ∀ D acc H, H1 D = none → P D n acc H → H D = some (.lst acc) → Q (.ref D) H) : LcGo g tt te vs σ Q J H1 := by
  subst hw
  exact fun D hD => lc_it w (Qd := fun H => Q (.ref D) H) (Pvx P D) ⟨[], Nat.le_refl _, h0 D hD, upd_same⟩ (fun i H _ ⟨acc, _, p, e⟩ => hG D i acc H p e) (fun i x H H' hi ⟨acc, hl, p, e⟩ y => hs D i acc x H H' hD hi hl p e y) (fun H ⟨acc, _, p, e⟩ => hd D acc H hD p e)
theorem s_lc {wi : TI} {g : TG} {tt : TT} {te : TE} {vs : List Nat} {σ : St} {H : Hp} {Q : VK} (h : wi σ H (LcGo g tt te vs σ Q)) : tLc wi g tt te vs σ H Q := h
def rZipA (K : PySem.W.Frag) : List V → Hp → (It → Hp → Prop) → Prop := fun vs H R => ∃ a b xs ys, vs = [.ref a, .ref b] ∧ ((SqL K H a xs ∧ SqL K H b ys ∧ R (Itz K a b) H) ∨ (SqT K H a xs ∧ SqT K H b ys ∧ R (ItzT K a b) H))
theorem s_zipA {σ : St} {H : Hp} {R : It → Hp → Prop} {ta : TA} {K : PySem.W.Frag} (h : ta σ H fun vs H1 => rZipA K vs H1 R) : iZipA K ta σ H R := h
theorem s_zipL {H : Hp} {R : It → Hp → Prop} {K : PySem.W.Frag} {a b : Addr} {xs ys : List V} (h1 : SqL K H a xs) (h2 : SqL K H b ys) (q : R (Itz K a b) H) : rZipA K [.ref a, .ref b] H R := ⟨a, b, xs, ys, rfl, .inl ⟨h1, h2, q⟩⟩
theorem s_zipT {H : Hp} {R : It → Hp → Prop} {K : PySem.W.Frag} {a b : Addr} {xs ys : List V} (h1 : SqT K H a xs) (h2 : SqT K H b ys) (q : R (ItzT K a b) H) : rZipA K [.ref a, .ref b] H R := ⟨a, b, xs, ys, rfl, .inr ⟨h1, h2, q⟩⟩
/-- a, b = a pair -/
theorem s_gTup {K : PySem.W.Frag} {n : Nat} {t : TGs} {a : Addr} {xs : List V} {σ : St} {H : Hp} {R : St → Hp → Prop} (h : SqT K H a xs) (e : xs.length = n) (q : t xs σ H R) : gTup K n t (.ref a) σ H R := ⟨a, xs, rfl, h, e, q⟩
theorem s_gCons {t : TG} {u : TGs} {x : V} {r : List V} {σ : St} {H : Hp} {R : St → Hp → Prop} (q : t x σ H fun σ' H' => u r σ' H' R) : gCons t u (x :: r) σ H R := ⟨x, r, rfl, q⟩
theorem s_gNil {σ : St} {H : Hp} {R : St → Hp → Prop} (q : R σ H) : gNil [] σ H R := ⟨rfl, q⟩
theorem s_yes {σ : St} {H : Hp} {Q : Bool → Hp → Prop} (q : Q true H) : tYes σ H Q := q
/-- == of data -/
theorem s_eqD {N : Addr → Prop} {K : PySem.W.Frag} {H : Hp} {Q : VK} {x y : V} {d e : PyData} (hx : Hd N K H x d) (hy : Hd N K H y e) (sd : SeqAt.shaped d = true) (se : SeqAt.shaped e = true) (q : Q (.bl (PyData.eqv d e)) H) : rEqG' K x y H Q :=
  .inr ⟨d, e, Hd.dp d x hx (SeqAt.canLay_of_shaped sd), Hd.dp e y hy (SeqAt.canLay_of_shaped se), sd, se, q⟩
theorem s_neD {N : Addr → Prop} {K : PySem.W.Frag} {H : Hp} {Q : VK} {x y : V} {d e : PyData} (hx : Hd N K H x d) (hy : Hd N K H y e) (sd : SeqAt.shaped d = true) (se : SeqAt.shaped e = true) (q : Q (.bl (!PyData.eqv d e)) H) : rNeG' K x y H Q :=
  .inr ⟨d, e, Hd.dp d x hx (SeqAt.canLay_of_shaped sd), Hd.dp e y hy (SeqAt.canLay_of_shaped se), sd, se, q⟩
end My
theorem L2H.RoomH.units {k : Nat} {A : PySem.Around} (r : L2H.RoomH k A) : A.units + 64 < PySem.cLine := by
  have := r.un
  omega
namespace My
open PySem PySem.Spec PyProof.Rows L2 RZ
open LamX (ExtN Tabs TabS TabB CodeO)
def tXg (K : PySem.W.Frag) (a : Addr) (cls : Value) (d : Option Addr) (n : Str) (te : TE) : TE := fun σ H Q => te σ H fun x H1 => x = .ref a ∧ ∃ C, cls = .ref C ∧ XfC K C ∧ PySem.W.findIn K (.ref C) n = some none ∧
  ∃ (dd : Addr) (fs : List (Str × V)) (v : V), d = some dd ∧ H1 dd = some (.xd fs) ∧ fs.lookup n = some v ∧ Q v H1
section
variable {X : Cx} {a : Addr} {oe : Obj} {cls : Value} {d : Option Addr}
theorem pe_xg {e : Expr} {te : TE} {pos : Pos} {n : Str} (hm : (a, oe) ∈ X.pn) (hz : Zc cls d oe) (hf : ∃ vs, oe.data = .fields vs) (he : PE X e te) (hb : attributeBase e n X.env (eval e X.env) = eval e X.env := by rfl) :
    PE X (.Attribute e n pos) (tXg X.K a cls d n te) := by
  constructor
  intro pins s σ H Q I h
  refine attr_of hb (thn (he.run pins s σ H _ I h) ?_)
  rintro u s1 ⟨x, H1, I1, rx, rfl, C, rfl, T, hno, dd, fs, v, rfl, ea, l, q⟩
  obtain rfl : u = Value.ref a := rx
  have ha := (I1.pin (a, oe) (List.mem_append_left _ hm)).1
  obtain ⟨vs, hd⟩ := hf
  have ok1 := I1.hok dd _ ea
  obtain ⟨⟨mA, hns, hr⟩, _⟩ := (⟨ok1, trivial⟩ : (∃ mA, s1.heap.Ns1 dd mA ∧ ∀ f, RelO (fs.lookup f) (mA f)) ∧ True)
  obtain ⟨od, ho, hl⟩ := lookIn_ns hns
  have rn := hr n
  rw [l] at rn
  obtain ⟨u, hu, ru⟩ := RelO.some_of rn
  have hn : PySem.W.notCls oe = true := by
    unfold PySem.W.notCls
    rw [hd] <;> rfl
  have J : PySem.W.InstAt s1.heap a oe C (some od) := ⟨ha, hz.1, hn, by rw [hz.2]; exact ho⟩
  have hfd := PySem.W.findObj_own T.hdC hno rfl (by rw [hl, hu])
  exact HandSPX.exc_get I1.kIn J T.ga T.gg T.exC hfd (handed_of ru) ⟨v, H1, I1.tok _, ru, q⟩
end
structure FnP (P : Program) (w : World) (K : PySem.W.Frag) (mg : Str → Option Value) (base : Heap) (CX : CXT) (k : Nat) (f : Addr) (fd : FuncData) (ps : List Str) (sp : Addr → Value → Option Addr → Sp) : Prop where
  len : ∀ a c d vs H Q E, sp a c d vs H Q E → vs.length = ps.length
  run : ∀ (A : Around) (outer : List Env) (s : Shared) (H : Hp) (args : Args) (us : List Value) (vs : List V) (Q : VK) (E : XK) (p : Addr × Obj) (cls : Value) (d : Option Addr), L2H.RoomH k A → L2H.PinOk outer H s p → Zc cls d p.2 → (∃ vs, p.2.data = .fields vs) →
    Env0 P w K mg base A outer s H → BindsTo s fd args (ps.zip us) → Vals vs us → sp p.1 cls d vs H Q E → codeAny (model P w) A (.call (.ref f) args) (CR CX outer P w H s Q E) s
theorem fun_okP {P : Program} {w : World} {K : PySem.W.Frag} {mg : Str → Option Value} {base : Heap} {CX : CXT} {x qual : Str} {st : Stmt} {f : Addr} {fd : FuncData} {N ps : List Str} {k : Nat} {sp : Addr → Value → Option Addr → Sp} (F : Fun K x qual st f fd) (S : FnScope N ps (defScope st))
    (len : ∀ a c d vs H Q E, sp a c d vs H Q E → vs.length = ps.length)
    (hbody : ∀ (cdv : Value) (A : Around) (outer : List Env) (s : Shared) (H : Hp) (vs : List V) (Q : VK) (E : XK) (a : Addr) (oe : Obj) (cls : Value) (d : Option Addr), L2H.RoomH k (A.deeper (envOfC qual (defScope st) s.heap.objs.size f cdv)) → Zc cls d oe → (∃ vs, oe.data = .fields vs) → sp a cls d vs H Q E →
      ∃ t, PSs (L2H.cxH CX P w K mg base N qual (defScope st) f cdv A outer s H E (a, oe)) (defBody st) t ∧ t { nx := fun _ H' => Q .non H', rt := Q } (L2.start N vs) H) : FnP P w K mg base CX (k + 1) f fd ps sp := by
  obtain ⟨oc, od, kV, doc, pm, an, cdv, ct, osl, rfl, lk, hcd⟩ := F.ex
  constructor
  · exact len
  intro A outer s H args us vs Q E p cls d hr hpin hz hf e0 hb r hsp
  have hl := len _ _ _ _ _ _ _ hsp
  have KX := e0.mod.kin.keeps fun b o e => (e0.bs b o e).1
  have lim := e0.mod.nolimit.keeps fun b o e => (e0.bs b o e).1
  have kinds : ∀ y ∈ ps.zip us, (defScope st).names.lookup y.1 = some .local ∨ ((defScope st).names.lookup y.1 = some .cell ∧ ((cellsFrom (s.heap.objs.size + 1) (defScope st).names []).lookup y.1).isSome = true) := by
    rintro ⟨n, v⟩ hy
    exact (S.par n (List.of_mem_zip hy).1).imp id fun q => ⟨q, PySem.W.cellsFrom_some _ _ _ (.inl q)⟩
  refine codeAny_call_function hr.depth (KX _ _ lk) rfl S.co S.gen rfl (PySem.W.codeRec_of KX hcd) (hb _ _ _ _ (wpAny_newFunctionEnv_cells S.kind kinds ?_))
  rintro env rfl s1 x
  refine ⟨lim.keeps x.toInCall.keep, codeAny_func ?_⟩
  obtain ⟨a, oe⟩ := p
  obtain ⟨t, ht, hq⟩ := hbody cdv A outer s H vs Q E a oe cls d (hr.deeper _) hz hf hsp
  refine wpAny_mono (ht.run [] s1 (L2.start N vs) H _ (L2H.inv_startH S hpin e0 hl r x) hq) ?_ ?_
  · intro fl s' hs
    cases fl with
    | ret u =>
      obtain ⟨v, σ', H', J, rv, q⟩ := hs
      exact ⟨v, H', J.os, J.bare, J.base, J.hok, rv, q⟩
    | next =>
      obtain ⟨σ', H', J, q⟩ := hs
      exact ⟨V.non, H', J.os, J.bare, J.base, J.hok, rfl, q⟩
    | brk => exact hs.elim fun _ z => z.elim fun _ z => z.2.elim
    | cont => exact hs.elim fun _ z => z.elim fun _ z => z.2.elim
  · exact fun _ _ hs => hs
section
variable {X : Cx} {CX : CXT} {k : Nat} {f a : Addr} {oe : Obj} {cls : Value} {d : Option Addr} {fd : FuncData} {ps : List Str} {sp : Addr → Value → Option Addr → Sp} {E : XK} {x : Str} {q pos : Pos} {e : Expr} {es : List Expr} {t : TA}
/-- f(e, ..) where the exception at a is at hand -/
theorem pe_callP (F : FnP X.prog X.w X.K X.mg X.base CX k f fd ps sp) (hr : L2H.RoomH k X.A) (hpn : (a, oe) ∈ X.pn) (hz : Zc cls d oe) (hf : ∃ vs, oe.data = .fields vs) (hg : Gl X x) (hm : X.mg x = some (.ref f)) (hk : PySem.W.keepIn X.K (.ref f) = true) (hb : Binds X.K fd ps []) (hx : Passes CX X E) (ha : PA X (e :: es) t)
    (hdb : (x == ("__debug__" : Str)) = false := by decide) (he : starEach (e :: es) X.env = (false, eval e X.env) :: starEach es X.env := by rfl) (hpl : (backTo pos (starEach es X.env)).any (·.1) = false := by rfl) :
    PE X (.Call (.Name x q) (e :: es) [] pos) (tCall (sp a cls d) [] E t) := by
  constructor
  intro pins s σ H Q I h
  refine wpAny_Call_Name_kw (ld_glob I hg hm ?_ hdb)
  refine PySem.W.callWith_K (h₀ := X.base) I.ok.mod.kin hk (thn (ha.run pos pins s σ H _ I h) ?_) he hpl
  rintro us s1 ⟨vs, H1, I1, r, q1⟩
  refine ⟨I1.kIn, ?_⟩
  rw [List.append_nil] at q1
  have hl : us.length = ps.length := by rw [← r.length]; exact F.len _ _ _ _ _ _ _ q1
  have b := hb s1 us I1.kIn (by rw [List.append_nil]; exact hl)
  rw [List.append_nil] at b
  have P1 := I1.pin (a, oe) (List.mem_append_left _ hpn)
  have hpin : L2H.PinOk X.stack H1 s1 (a, oe) := by
    refine ⟨P1.1, P1.2.1, fun hm => ?_, P1.2.2.2.2⟩
    rcases List.mem_cons.mp (I1.stkSub a hm) with z | z
    · exact P1.2.2.1 z
    · exact P1.2.2.2.1 z
  refine wpAny_call (codeAny_mono (F.run X.A X.stack s1 H1 ⟨us, []⟩ us vs Q E (a, oe) cls d hr hpin hz hf I1.env0 b r q1) ?_)
  intro r s' hq
  rcases r with er | (_ | _ | _ | u)
  · exact hx pins σ H1 s1 er s' I1 hq
  · exact hq.elim
  · exact hq.elim
  · exact hq.elim
  · exact I1.after hq
end
section
/-- at s: sI where it was made, B what stood there -/
structure Fell (X : Cx) (B : Heap) (a : Addr) (cls : Value) (d : Option Addr) (pins : List (Addr × Obj)) (σ : St) (H : Hp) (sI s : Shared) : Prop where
  inv : Inv X pins σ H sI
  nb : ∀ b o, sI.heap.get? b = some o → b ∉ frs X.stack → B.get? b = some o
  up : sI.heap.UpToSlots s.heap
  fly : HandSPX.FlyingZ B (X.env :: X.outer) a (Zc cls d) s.heap
  na : H a = none
  os : s.os = sI.os
  bare : AllBare s.gens
section
variable {X : Cx} {B : Heap} {a : Addr} {cls c : Value} {d : Option Addr} {pins : List (Addr × Obj)} {σ : St} {H : Hp} {sI s : Shared} {Wout : WX}
theorem Fell.now (x : Fell X B a cls d pins σ H sI s) : Inv X pins σ H s := x.inv.landed x.nb x.fly.1 x.up x.os x.bare
theorem Fell.moved (x : Fell X B a cls d pins σ H sI s) {h : Heap} (fl : HandSPX.FlyingZ B (X.env :: X.outer) a (Zc cls d) h) (up : s.heap.UpToSlots h) : Fell X B a cls d pins σ H sI { s with heap := h } := ⟨x.inv, x.nb, x.up.trans up, fl, x.na, x.os, x.bare⟩
/-- the object, and the context of a suite that is run for it -/
theorem Fell.suite (x : Fell X B a cls d pins σ H sI s) (hf : X.env.frame = some X.env.locals) : ∃ oe vs, s.heap.get? a = some oe ∧ Zc cls d oe ∧ oe.data = .fields vs ∧ Inv (X.suite a ((a, oe) :: (X.pn ++ pins))) [] σ H s := by
  obtain ⟨oe, vs, q1, q2, q3⟩ := x.fly.there
  have apart : ∀ {e : Env} {L : Addr}, e ∈ X.env :: X.outer → e.frame = some L → a ≠ L := fun {e L} m f z => by
    obtain ⟨_, o, r1, r2⟩ := x.fly.2.2.1.mem (List.mem_filterMap.mpr ⟨e, m, f⟩)
    rw [← z, q1] at r1
    cases r1
    exact r2 _ q3
  refine ⟨oe, vs, q1, q2, q3, x.now.suite q1 q3 x.na (apart List.mem_cons_self hf) fun m => ?_⟩
  obtain ⟨e, me, f⟩ := List.mem_filterMap.mp m
  exact apart (List.mem_cons_of_mem _ me) f rfl
/-- a clause asks for a class by its name -/
theorem Fell.name (x : Fell X B a cls d pins σ H sI s) (hf : X.env.frame = some X.env.locals) {n : Str} {p : Pos} (hc : Names X n c) {Q : Value → Shared → Prop} {E : Value → Shared → Prop} (q : Q c s) : wpAny (model X.prog X.w) (X.A.mark (some (.ref a))) (eval (.Name n p) X.env) Q E s := by
  obtain ⟨oe, vs, _, _, _, S⟩ := x.suite hf
  obtain ⟨g, dbg, m⟩ := hc
  rcases m with m | ⟨m1, m2, m3⟩
  · exact ld_glob S g m q dbg
  · exact ld_blt S g m1 m2 q m3 dbg
theorem Fell.looks (x : Fell X B a cls d pins σ H sI s) : PySem.W.Looks (model X.prog X.w) s.heap (typeOf (.ref a)) cls := by
  obtain ⟨oe, vs, q1, q2, _⟩ := x.fly.there
  exact fun A Q E s1 k q => wpAny_typeOf_ref (k _ _ q1) (by rw [q2.1]; exact q)
/-- no clause takes it -/
theorem Fell.on (x : Fell X B a cls d pins σ H sI s) (hs : X.stack = X.env :: X.outer) (hf : X.env.frame = some X.env.locals) (tk : Takes X Wout) (w : Wout cls d σ H) {Q : Flow → Shared → Prop} : wpAny (model X.prog X.w) X.A (handleBy (.ref a) X.env []) Q X.xe s := by
  obtain ⟨_, _, _, oe, vs, t, _, _, q1, _, q2, q3, _⟩ := id x.fly
  have some1 : (Value.ref t == Value.none) = false := rfl
  have go : ∀ {Q' : Unit → Shared → Prop}, wpAny (model X.prog X.w) X.A (setFlight (.ref a) X.env.frame >>= fun _ => (throw (.ref a) : Sem Unit)) Q' X.xe s := fun {Q'} => by
    rw [hf]
    refine wpAny_bind (HandSPX.setFlight_upZ x.fly fun h hh up => wpAny_throw (tk _ _ ⟨a, B, sI, pins, σ, H, cls, d, rfl, x.inv, x.nb, x.up.trans up, .inr (.inr ?_), x.na, x.os, x.bare, w⟩))
    rw [hs]
    exact hh
  refine wpAny_handleBy_nil ?_
  unfold PySem.passOn
  refine wpAny_bind (wpAny_field q1 q2 q3 ?_)
  rw [some1, if_neg Bool.false_ne_true]
  have go2 : ∀ {Q' : Flow → Shared → Prop}, wpAny (model X.prog X.w) X.A (setFlight (.ref a) X.env.frame >>= fun _ => (throw (.ref a) : Sem Flow)) Q' X.xe s := fun {Q'} => by
    rw [hf]
    refine wpAny_bind (HandSPX.setFlight_upZ x.fly fun h hh up => wpAny_throw (tk _ _ ⟨a, B, sI, pins, σ, H, cls, d, rfl, x.inv, x.nb, x.up.trans up, .inr (.inr ?_), x.na, x.os, x.bare, w⟩))
    rw [hs]
    exact hh
  first
    | exact go2
    | exact wpAny_bind (wpAny_pure go2)
end
section
variable {X : Cx} {body : List Stmt} {h₀ : ExceptHandler} {hds : List ExceptHandler} {pos : Pos} {tb : WX → TS} {Wc : Ends → WX}
/-- any clauses: they are asked for what the body lets fall -/
theorem ps_falls (hs : X.stack = X.env :: X.outer) (hf : X.env.frame = some X.env.locals) (hb : ∀ (W : WX) (pn : List (Addr × Obj)) (xe : Value → Shared → Prop), Takes (X.tr pn xe) W → PassesOwn (model X.prog X.w) X.A X.env xe → PSs (X.tr pn xe) body (tb W))
    (hc : ∀ D B a cls d pins σ H sI s, Fell X B a cls d pins σ H sI s → Wc D cls d σ H → wpAny (model X.prog X.w) X.A (handleBy (.ref a) X.env (h₀ :: hds)) (SP X pins D) X.xe s) : PS X (.Try body (h₀ :: hds) [] [] pos) fun D σ H => tb (Wc D) D σ H := by
  constructor
  intro pins s σ H D I h
  have ok := I.ok
  let caught : Value → Shared → Prop := fun e s1 => wpAny (model X.prog X.w) X.A (noteFrame e X.env) (fun _ s2 => wpAny (model X.prog X.w) X.A (setFlight e none) (fun _ s3 => wpAny (model X.prog X.w) X.A (handleBy e X.env (h₀ :: hds)) (SP X pins D) X.xe s3) X.xe s2) X.xe s1
  have tk : Takes (X.tr (X.pn ++ pins) caught) (Wc D) := by
    rintro u s1 ⟨a, B, sI, pins', σ', H', cls, d, rfl, J, nb, up, sky, na, os, bare, w⟩
    have sky : Sky B (X.env :: X.outer) a (Zc cls d) X.env.locals s1.heap := hs ▸ sky
    exact Sky.land Zc.steady (by rw [ok.frames, hs]) hf sky fun h3 fl3 up3 => hc D B a cls d pins σ' H' sI _ ⟨J.ofTry ok, nb, up.trans up3, fl3, na, os, bare⟩ w
  refine wpAny_Try_except (wpAny_mono ((hb (Wc D) (X.pn ++ pins) caught tk PassesOwn.looking).run [] s σ H D (I.toTry _) h) (fun f s1 q => ?_) fun _ _ z => z)
  cases f with
  | next => obtain ⟨σ1, H1, J, q⟩ := q; exact wpAny_execs_nil ⟨σ1, H1, J.ofTry ok, q⟩
  | brk => obtain ⟨σ1, H1, J, q⟩ := q; exact ⟨σ1, H1, J.ofTry ok, q⟩
  | cont => obtain ⟨σ1, H1, J, q⟩ := q; exact ⟨σ1, H1, J.ofTry ok, q⟩
  | ret u => obtain ⟨v, σ1, H1, J, r, q⟩ := q; exact ⟨v, σ1, H1, J.ofTry ok, r, q⟩
end
end
def endI (i : Nat) (D : Ends) : Ends := ⟨fun σ H => D.nx (σ.set i none) H, D.rt, fun σ H => D.bk (σ.set i none) H, fun σ H => D.ct (σ.set i none) H⟩
def wMA (K : PySem.W.Frag) (Wout : WX) (i : Nat) (D : Ends) : List (Value × (Addr → Value → Option Addr → TS)) → WX
  | [] => Wout
  | p :: r => fun cls d σ H => ∃ b, PySem.W.exmOne K cls p.1 = some b ∧ (b = true → ∀ a, H a = none → p.2 a cls d (endI i D) (σ.set i (some (.ref a))) H) ∧ (b = false → wMA K Wout i D r cls d σ H)
inductive HdsA (X : Cx) (n : Str) : List ExceptHandler → List (Value × (Addr → Value → Option Addr → TS)) → Prop
  | nil : HdsA X n [] []
  | cons {x : Str} {c : Value} {ts : Addr → Value → Option Addr → TS} {b₀ : Stmt} {suite : List Stmt} {np pos : Pos} {hds : List ExceptHandler} {l : List (Value × (Addr → Value → Option Addr → TS))} (hc : Names X x c)
      (hsu : ∀ (a : Addr) (oe : Obj) (cls : Value) (d : Option Addr) (pn : List (Addr × Obj)), Zc cls d oe → (∃ vs, oe.data = .fields vs) → PSs (X.suite a ((a, oe) :: pn)) (b₀ :: suite) (ts a cls d)) (r : HdsA X n hds l) :
      HdsA X n (.ExceptHandler (some (.Name x np)) (some n) (b₀ :: suite) pos :: hds) ((c, ts) :: l)
section
variable {X : Cx} {n : Str} {i : Nat} {body : List Stmt} {h₀ : ExceptHandler} {hds : List ExceptHandler} {l : List (Value × (Addr → Value → Option Addr → TS))} {pos : Pos} {tb : WX → TS} {Wout : WX}
/-- a suite's end where the exception bears a name: the name goes -/
theorem ends_unnamed (ok : X.Ok) (hN : X.N.Nodup) (hi : X.N[i]? = some n) (hl : X.env.kindOf n = some .local) {a : Addr} {oe : Obj} {pins : List (Addr × Obj)} {D : Ends} {f : Flow} {s : Shared} {p : Pos} (q : SP (X.suite a ((a, oe) :: (X.pn ++ pins))) [] (endI i D) f s) :
    wpAny (model X.prog X.w) X.A (do bindName X.env n .none; unbindBehindTheSuite X.env n p) (fun _ s' => SP X pins D f s') X.xe s := by
  cases f with
  | next => obtain ⟨σ1, H1, S, q⟩ := q; exact gone_ok (S.unsuite ok) hN hi hl fun s' J => ⟨_, _, J, q⟩
  | brk => obtain ⟨σ1, H1, S, q⟩ := q; exact gone_ok (S.unsuite ok) hN hi hl fun s' J => ⟨_, _, J, q⟩
  | cont => obtain ⟨σ1, H1, S, q⟩ := q; exact gone_ok (S.unsuite ok) hN hi hl fun s' J => ⟨_, _, J, q⟩
  | ret u => obtain ⟨v, σ1, H1, S, r, q⟩ := q; exact gone_ok (S.unsuite ok) hN hi hl fun s' J => ⟨v, _, _, J, r, q⟩
theorem clauses_as (hs : X.stack = X.env :: X.outer) (hf : X.env.frame = some X.env.locals) (hN : X.N.Nodup) (hi : X.N[i]? = some n) (hln : X.env.kindOf n = some .local) (tk : Takes X Wout) {D : Ends} {B : Heap} {a : Addr} {cls : Value} {d : Option Addr} {pins : List (Addr × Obj)} {σ : St} {H : Hp} {sI s : Shared} (x : Fell X B a cls d pins σ H sI s)
    {hds : List ExceptHandler} (hh : HdsA X n hds l) (w : wMA X.K Wout i D l cls d σ H) : wpAny (model X.prog X.w) X.A (handleBy (.ref a) X.env hds) (SP X pins D) X.xe s := by
  induction hh with
  | nil => exact x.on hs hf tk w
  | cons hc hsu r ih =>
    obtain ⟨b, e, yes, no⟩ := w
    refine wpAny_handleBy_cons (codeAny_handlers_test (x.name hf hc ((PySem.W.exm_one (M := model X.prog X.w) x.now.kIn x.looks e).here ?_))) fun z => nomatch z
    cases b with
    | false => exact ih (no rfl)
    | true =>
      refine codeAny_handlers_suite_as (HandSPX.lands_againZ x.fly fun h fl up => ?_)
      have y := x.moved fl up
      obtain ⟨oe, vs, _, z, dd, S⟩ := y.suite hf
      exact store_ok (X := X.suite a ((a, oe) :: (X.pn ++ pins))) (v := .ref a) S hN hi (.inl hln) rfl (fun s1 S1 => wpAny_mono ((hsu a oe cls d (X.pn ++ pins) z ⟨vs, dd⟩).run [] s1 _ H _ S1 (yes rfl a x.na)) (fun f s2 q => ends_unnamed x.inv.ok hN hi hln q) fun _ _ z => z.elim) (.inr hln)
theorem ps_try_manyA (hs : X.stack = X.env :: X.outer) (hf : X.env.frame = some X.env.locals) (hN : X.N.Nodup) (hi : X.N[i]? = some n) (hln : X.env.kindOf n = some .local) (tk : Takes X Wout) (hb : ∀ W pn xe, Takes (X.tr pn xe) W → PassesOwn (model X.prog X.w) X.A X.env xe → PSs (X.tr pn xe) body (tb W))
    (hh : HdsA X n (h₀ :: hds) l) : PS X (.Try body (h₀ :: hds) [] [] pos) (fun D σ H => tb (wMA X.K Wout i D l) D σ H) := ps_falls hs hf hb fun D B a cls d pins σ H sI s x w => clauses_as hs hf hN hi hln tk x hh w
end
end My
namespace My
open PySem PySem.Spec PyProof.Rows L2 RZ
open LamX (ExtN Tabs TabS TabB CodeO)
section
variable {X : Cx} {p pos : Pos}
/-- C(), C an exception class whose __init__ keeps sp -/
theorem pmk_oex0 {CX : CXT} {x : Str} {C fI : Addr} {k : Nat} {fd : FuncData} {ps : List Str} {sp : Sp} (T : OexC X.K C) (iC : PySem.W.findIn X.K (.ref C) "__init__" = some (some (.ref fI))) (tI : PySem.W.typeIn X.K (.ref fI) = some (.type "function"))
    (F1 : FnOk X.prog X.w X.K X.mg X.base CX k fI fd ps sp) (hr : Room (k + 1) X.A) (hb : Binds X.K fd ps []) (hx : Passes CX X (fun _ _ _ => False)) (hg : Gl X x) (hm : X.mg x = some (.ref C)) (hdb : (x == ("__debug__" : Str)) = false := by decide) :
    PMk X (.Call (.Name x p) [] [] pos) (tMkO C sp [] tNil) := by
  intro pins s σ H Q I h
  obtain ⟨nm, q, N, bs, bm, sn, sub, ab, col, dd, k0, k1, k2, k3, k5, hC, hbm⟩ := T.cls
  refine wpAny_Call_Name_kw (ld_glob I hg hm ?_ hdb)
  refine PySem.W.callWith_K0 I.kIn T.kC ?_
  obtain ⟨hz, q1⟩ : ([] : List V).length ≤ 1000 ∧ _ := h
  obtain ⟨hp, g, dr, tk, os⟩ := s
  have hsz : hp.objs.size ≤ hp.objs.size + 1 := Nat.le_add_right _ _
  have hn : H (hp.objs.size + 1) = none := I.hok.fresh hsz
  have hq := q1 _ hn
  have kk : ∀ b o, hp.get? b = some o → ((hp.push (PySem.W.kdv_tup [])).push (PySem.HandSPX.excO C hp.objs.size)).get? b = some o := by
    intro b o e
    exact Heap.get?_push_of_some _ (Heap.get?_push_of_some _ e)
  have hget : ((hp.push (PySem.W.kdv_tup [])).push (PySem.HandSPX.excO C hp.objs.size)).get? (hp.objs.size + 1) = some (PySem.HandSPX.excO C hp.objs.size) := by
    heap_get
  have I2 := I.laid (t' := tk) (a := hp.objs.size + 1) (o := exo (hp.objs.size + 1) C none) (h' := (hp.push (PySem.W.kdv_tup [])).push (PySem.HandSPX.excO C hp.objs.size)) kk hsz (exo_ok hget)
  have r2 : Vals [V.ref (hp.objs.size + 1)] [Value.ref (hp.objs.size + 1)] := .cons rfl .nil
  have hl : ([Value.ref (hp.objs.size + 1)] ++ []).length = ps.length := F1.len _ _ _ _ hq
  have b2 := hb _ [Value.ref (hp.objs.size + 1)] I2.kIn hl
  refine wpAny_call (PySem.HandSPX.call_own F.excBase_ValueError (fun Y => PySem.HandSPX.refsVE_contains Y bm hbm) (I.kIn _ _ hC) (PySem.W.looks_findIn I.kIn iC) (fun self => PySem.W.bind_fn I.kIn self tI) (Nat.zero_le _)
    (codeAny_mono (F1.run _ X.stack _ _ ⟨[Value.ref (hp.objs.size + 1)], []⟩ _ _ _ (fun _ _ _ => False) (hr.make C [] []) (I2.env0.make C [] []) b2 r2 hq) ?_))
  intro r s' hq'
  rcases r with er | (_ | _ | _ | u)
  · exact hx pins σ _ _ er s' I2 hq'
  · exact hq'.elim
  · exact hq'.elim
  · exact hq'.elim
  · obtain ⟨v, H2, os2, bare2, un2, hok2, rv, rfl, d, fs, ea, ed, hd1, q2⟩ := hq'
    obtain ⟨h2, g2, d2, t2, os'⟩ := s'
    exact ⟨rv, mk_end (raises_own T.exC T.tyC) I hsz kk un2 hok2 os2 bare2 ea ed hd1 q2⟩
end
/-- the heap behind an exception's making -/
theorem exc_upd {H H2 : Hp} {a d : Addr} {o : HO} (ha : H a = none) (hda : d ≠ a) (h : ∀ b, b ≠ a → b ≠ d → H2 b = H b) : upd (del H2 a) d o = upd H d o := by
  funext b
  by_cases hd : b = d
  · rw [hd, upd_same, upd_same]
  · rw [upd_ne hd, upd_ne hd]
    by_cases hb : b = a
    · rw [hb, del_same, ha]
    · rw [del_ne hb, h b hb hd]
/-- an exception class as the laws use it: its __init__ stores the fields, then the word -/
def spExc0 (C : Addr) (w : Str) : Sp := fun vs H Q _ => ∃ a : Addr, vs = [.ref a] ∧ H a = some (exo a C none) ∧ ∀ d, H d = none → d ≠ a → Q .non (upd (upd H d (exd d [("word", .str w)])) a (exo a C (some d)))
def rOst (K : PySem.W.Frag) (f : Str) (y : V) (nx : Hp → Prop) : V → Hp → Prop := fun x H2 => ∃ a C : Addr, x = .ref a ∧ OexC K C ∧ PySem.W.findIn K (.ref C) f = some none ∧
  ((H2 a = some (exo a C none) ∧ ∀ dx, H2 dx = none → dx ≠ a → nx (upd (upd H2 dx (exd dx [(f, y)])) a (exo a C (some dx)))) ∨
    ∃ (dx : Addr) (fs : List (Str × V)), H2 a = some (exo a C (some dx)) ∧ H2 dx = some (exd dx fs) ∧ fs.length ≤ 900 ∧ nx (upd H2 dx (exd dx ((f, y) :: fs))))
theorem s_ost {K : PySem.W.Frag} {f : Str} {to te : TE} {σ : L2.St} {H : Hp} {nx bk ct : L2.St → Hp → Prop} {rt : VK} (h : te σ H fun y H1 => to σ H1 (rOst K f y (nx σ))) : tOst K f to te ⟨nx, rt, bk, ct⟩ σ H := h
theorem s_ost1 {K : PySem.W.Frag} {C a : Addr} {f : Str} {y : V} {H : Hp} {nx : Hp → Prop} (T : OexC K C) (hno : PySem.W.findIn K (.ref C) f = some none) (ha : H a = some (exo a C none)) (k : ∀ dx, H dx = none → dx ≠ a → nx (upd (upd H dx (exd dx [(f, y)])) a (exo a C (some dx)))) : rOst K f y nx (.ref a) H := ⟨a, C, rfl, T, hno, .inl ⟨ha, k⟩⟩
def rMkO (C : Addr) (sp : Sp) (Q : XK) : List V → Hp → Prop := fun vs H1 => vs.length ≤ 1000 ∧ ∀ a, H1 a = none → sp (.ref a :: (vs ++ [])) (upd H1 a (exo a C none))
  (fun v H2 => v = .non ∧ ∃ (d : Addr) (fs : List (Str × V)), H2 a = some (exo a C (some d)) ∧ H2 d = some (exd d fs) ∧ H1 d = none ∧ Q (.ref C) (some d) (upd (del H2 a) d (.xd fs))) (fun _ _ _ => False)
theorem s_mkO {C : Addr} {sp : Sp} {σ : L2.St} {H : Hp} {Q : XK} {ta : TA} (h : ta σ H (rMkO C sp Q)) : tMkO C sp [] ta σ H Q := h
theorem s_mk0 {C : Addr} {w : Str} {H : Hp} {Q : XK} (k : ∀ d, H d = none → Q (.ref C) (some d) (upd H d (.xd [("word", .str w)]))) : rMkO C (spExc0 C w) Q [] H := by
  refine ⟨Nat.zero_le _, fun a ha => ⟨a, rfl, upd_same, fun d hd hda => ⟨rfl, d, [("word", .str w)], upd_same, ?_, ?_, ?_⟩⟩⟩
  · rw [upd_ne hda, upd_same]
  · rw [upd_ne hda] at hd
    exact hd
  · rw [upd_ne hda] at hd
    rw [exc_upd ha hda fun b h1 h2 => by rw [upd_ne h1, upd_ne h2, upd_ne h1]]
    exact k d hd
theorem ExtN.bag {b : Addr} {H H' : Hp} (x : ExtN H H') (B : Bag b H) : Bag b H' := by
  obtain ⟨c, ns, p, cur, seed, h1, h2, r⟩ := B.ex
  exact ⟨c, ns, p, cur, seed, x _ _ h1 (fun _ z => by cases z), x _ _ h2 (fun _ z => by cases z), r⟩
theorem ExtN.tupAt {K : PySem.W.Frag} {H H' : Hp} {a : Addr} {xs : List V} (x : ExtN H H') (h : TupAt K H a xs) : TupAt K H' a xs := by
  rcases h with h | h
  · exact .inl (x _ _ h fun _ z => by cases z)
  · exact .inr h
/-- what Tabs becomes where only b's list changes -/
theorem tabs_fr {T : List (Addr × Str)} {b : Addr} {xs : List V} {H H' : Hp} (t : Tabs T H) (h : H b = some (.lst xs)) (f : Fr (N1 b) H H') : Tabs T H' := by
  intro p hp
  obtain ⟨ps, h1, h2, h3⟩ := t p hp
  refine ⟨ps, f.keep _ _ h1 (fun z => ?_), h2, fun pos cv hc => ?_⟩
  · rw [show p.1 = b from z, h] at h1
    cases h1
  · obtain ⟨c, e1, e2⟩ := h3 pos cv hc
    refine ⟨c, e1, f.keep _ _ e2 fun z => ?_⟩
    rw [show c = b from z, h] at e2
    cases e2
theorem tabs_bag {T : List (Addr × Str)} {b : Addr} {H H' : Hp} (t : Tabs T H) (B : Bag b H) (f : Fr (N1 b) H H') : Tabs T H' := let ⟨_, h⟩ := B.some; tabs_fr t h f
theorem tabs_fr0 {T : List (Addr × Str)} {H H' : Hp} (t : Tabs T H) (f : Fr N0 H H') : Tabs T H' := t.ext f.same
section
variable {N : Addr → Prop} {K : PySem.W.Frag} {H H' : Hp}
mutual
theorem Hd.ext (x : ExtN H H') : ∀ (d : PyData) (v : V), Hd N K H v d → Hd N K H' v d
  | .none, _, h => by cases h; exact .non
  | .bool b, _, h => by cases h; exact .bl b
  | .int i, _, h => by cases h; exact .int i
  | .str z, _, h => by cases h; exact .str z
  | .list ds, _, h => by
    cases h with
    | lst e n r => exact .lst (x _ _ e fun _ z => by cases z) n (HdL.ext x ds _ r)
  | .tuple ds, _, h => by
    cases h with
    | tup e r => exact .tup (ExtN.tupAt x e) (HdL.ext x ds _ r)
  | .dict ds, _, h => by
    cases h with
    | dct e n r => exact .dct (x _ _ e fun _ z => by cases z) n (HdK.ext x ds _ r)
theorem HdL.ext (x : ExtN H H') : ∀ (ds : List PyData) (vs : List V), HdL N K H vs ds → HdL N K H' vs ds
  | [], _, h => by cases h; exact .nil
  | d :: ds, _, h => by
    cases h with
    | cons a b => exact .cons (Hd.ext x d _ a) (HdL.ext x ds _ b)
theorem HdK.ext (x : ExtN H H') : ∀ (ds : List (PyData × PyData)) (vs : List (Key × V)), HdK N K H vs ds → HdK N K H' vs ds
  | [], _, h => by cases h; exact .nil
  | (_, d) :: ds, _, h => by
    cases h with
    | cons a b => exact .cons (Hd.ext x d _ a) (HdK.ext x ds _ b)
end
end
/-- the field that the law reads of an exception with that word -/
def fldName (w : Str) : Option Str :=
  if inV (.str w) [.str "invalidsteps", .str "invalidcode", .str "invalidtext", .str "invalidcorner", .str "notquiet", .str "invaliddeed"] = true then some "position"
  else if inV (.str w) [.str "invalidcount", .str "invalidconstant", .str "invalidbudget"] = true then some "value"
  else if inV (.str w) [.str "invalidname", .str "duplicatename", .str "unknownname"] = true then some "name"
  else if inV (.str w) [.str "invalidfile", .str "invalidcommand"] = true then some "line"
  else if decide (w = "gateinuse") = true then none
  else if decide (w = "limitexceeded") = true then some "limit"
  else if decide (w = "invalidsize") = true then some "size"
  else if decide (w = "invalidneeded") = true then some "needed"
  else if decide (w = "budgetexceeded") = true then some "amount"
  else none
def isGate (w : Str) : Bool := decide (w = "gateinuse")
def fldVal (w : Str) (fs : List (Str × V)) : Option V := match fldName w with
  | some n => fs.lookup n
  | none => if isGate w = true then none else some .non
/-- what is told of the class of an exception with the word w -/
structure XOk (K : PySem.W.Frag) (C : Addr) (w : Str) : Prop where
  xf : XfC K C
  wd : PySem.W.findIn K (.ref C) "word" = some none
  fl : ∀ n, fldName w = some n → PySem.W.findIn K (.ref C) n = some none
  gt : isGate w = true → PySem.W.findIn K (.ref C) "name" = some none ∧ PySem.W.findIn K (.ref C) "users" = some none
/-- what the law tells of an exception's fields: one of them, None, or the two of a gate in use as a new pair -/
def Told (w : Str) (fs : List (Str × V)) (H : Hp) (Q : VK) : Prop :=
  (∃ v, fldVal w fs = some v ∧ ∀ H', Fr N0 H H' → Q v H') ∨
  (isGate w = true ∧ ∃ n u, fs.lookup ("name" : Str) = some n ∧ fs.lookup ("users" : Str) = some u ∧ ∀ H', Fr N0 H H' → ∀ p, H' p = none → Q (.ref p) (upd H' p (.tup [n, u])))
theorem Told.mono {w : Str} {fs : List (Str × V)} {H : Hp} {Q Q' : VK} (h : ∀ v H2, Q v H2 → Q' v H2) (t : Told w fs H Q) : Told w fs H Q' :=
  t.imp (fun ⟨v, e, k⟩ => ⟨v, e, fun H' f => h _ _ (k H' f)⟩) fun ⟨g, n, u, e1, e2, k⟩ => ⟨g, n, u, e1, e2, fun H' f p hp => h _ _ (k H' f p hp)⟩
def sp_field (K : PySem.W.Frag) (a : Addr) (cls : Value) (d : Option Addr) : Sp := fun vs H Q _ => vs = [.ref a] ∧ ∃ (C dd : Addr) (fs : List (Str × V)) (w : Str), cls = .ref C ∧ d = some dd ∧ XOk K C w ∧ H dd = some (.xd fs) ∧ fs.lookup ("word" : Str) = some (.str w) ∧ Told w fs H Q
/-- an exception let out of what was asked -/
def xCase (K : PySem.W.Frag) (CN CA : Addr) (cls : Value) (d : Option Addr) (H : Hp) (Q : VK) : Prop := ∃ (C dd : Addr) (fs : List (Str × V)) (w : Str), cls = .ref C ∧ d = some dd ∧ XOk K C w ∧ H dd = some (.xd fs) ∧ fs.lookup ("word" : Str) = some (.str w) ∧
  (PySem.W.exmOne K (.ref C) (.ref CN) = some true ∨ (PySem.W.exmOne K (.ref C) (.ref CN) = some false ∧ PySem.W.exmOne K (.ref C) (.ref CA) = some true)) ∧
  Told w fs H fun v H' => ∀ p, H' p = none → Q (.ref p) (upd H' p (.tup [.str w, v]))
/-- _law_tried(lambda: e) by e's reading -/
def TTt (K : PySem.W.Frag) (CN CA : Addr) : (XK → Hp → VK → Prop) → Hp → VK → Prop := fun tl H Q =>
  tl (fun cls d H' => xCase K CN CA cls d H' Q) H (fun v H1 => [V.str "", v].length ≤ sizeLine ∧ ∀ p, H1 p = none → Q (.ref p) (upd H1 p (.tup [.str "", v])))
theorem exm_self {K : PySem.W.Frag} {S C : Addr} {b : Bool} (h1 : PySem.W.subIn K (.ref S) (.type "BaseException") = some true) (h2 : PySem.W.isClsIn K S = true) (h3 : PySem.W.typeIn K (.ref S) = some (.type "type")) (h4 : PySem.W.subIn K (.ref C) (.ref S) = some b) :
    PySem.W.exmOne K (.ref C) (.ref S) = some b := by
  unfold PySem.W.exmOne PySem.W.kitCls
  have h2' : (PySem.W.clsIn K S).isSome = true := h2
  simp only [h1, h2', h3, h4, beq_self_eq_true, if_true, Bool.and_self]
theorem pss_len {X : Cx} {b : List Stmt} {t : TS} (n : Nat) (hn : X.N.length = n) (h : PSs X b t) : PSs X b (fun D σ H => σ.length = n → t D σ H) := ⟨fun pins s σ H D I q => h.run pins s σ H D I (q (I.len.trans hn))⟩
theorem HdsA.consL {X : Cx} {n : Str} {x : Str} {c : Value} {ts : Addr → Value → Option Addr → TS} {b₀ : Stmt} {suite : List Stmt} {np pos : Pos} {hds : List ExceptHandler} {l : List (Value × (Addr → Value → Option Addr → TS))} (m : Nat) (hm : X.N.length = m) (hc : Names X x c)
    (hsu : ∀ (a : Addr) (oe : Obj) (cls : Value) (d : Option Addr) (pn : List (Addr × Obj)), Zc cls d oe → (∃ vs, oe.data = .fields vs) → PSs (X.suite a ((a, oe) :: pn)) (b₀ :: suite) (ts a cls d)) (r : HdsA X n hds l) :
    HdsA X n (.ExceptHandler (some (.Name x np)) (some n) (b₀ :: suite) pos :: hds) ((c, fun a cls d D σ H => σ.length = m → ts a cls d D σ H) :: l) :=
  .cons hc (fun a oe cls d pn hz hf => pss_len m hm (hsu a oe cls d pn hz hf)) r
/-- the context of a def that got a lambda -/
abbrev cxG (X : Cx) (N : List Str) (x : Str) (sg : Scope) (g : Addr) (cdg : Value) (s : Shared) (H : Hp) : Cx := (cxOf C8.CX0 X.prog X.w X.K X.mg X.base N x sg g cdg X.A X.stack s H C8.E0).nox
theorem roomH_mk {k : Nat} {A : Around} (r : Room k A) (h : Option Value) : L2H.RoomH k (A.mark h) := ⟨r.dp, r.un⟩
theorem fun_okC {P : Program} {w : World} {K : PySem.W.Frag} {mg : Str → Option Value} {base : Heap} {CX : CXT} {x qual : Str} {st : Stmt} {f : Addr} {oc kV doc pm cdv ct : Value} {od an : Option Addr} {osl : Array (Option Value)} {N ps : List Str} {k : Nat} {sp : Sp}
    (lk : K.lookup f = some ⟨oc, od, .func (PySem.W.fnOf x qual (defArgs st) (defBody st) (defScope st) .none kV doc pm an cdv ct), osl⟩) (hcd : PySem.W.codeIn K cdv qual = true) (S : FnScope N ps (defScope st)) (len : ∀ vs H Q E, sp vs H Q E → vs.length = ps.length)
    (hbody : ∀ (A : Around) (outer : List Env) (s : Shared) (H : Hp) (vs : List V) (Q : VK) (E : XK), Room k (A.deeper (envOfC qual (defScope st) s.heap.objs.size f cdv)) → sp vs H Q E →
      ∃ t, PSs (cxOf CX P w K mg base N qual (defScope st) f cdv A outer s H E).nox (defBody st) t ∧ t { nx := fun _ H' => Q .non H', rt := Q } (L2.start N vs) H) : FnOk P w K mg base CX (k + 1) f (PySem.W.fnOf x qual (defArgs st) (defBody st) (defScope st) .none kV doc pm an cdv ct) ps sp :=
  fn_of lk hcd S len fun A outer s H vs Q E hr hsp => let ⟨t, ht, hq⟩ := hbody A outer s H vs Q E hr hsp; ⟨t, ht.nox, hq⟩
section
variable {X : Cx}
theorem pe_lamF {T : List (Addr × Str)} {TT : (XK → Hp → VK → Prop) → Hp → VK → Prop} {x a : Str} {st : Stmt} {g c P : Addr} {fd : FuncData} {k : Nat} {Ng : List Str} {params : Arguments} {body : Expr} {scope : Scope} {t : XK → TE} {p lpos pos : Pos}
    (F : Fun X.K x x st g fd) (hb : Binds X.K fd [a] []) (Sg : FnScope Ng [a] (defScope st)) (hm : X.mg x = some (.ref g)) (hg : Gl X x) (hNg : Ng[0]? = some a) (hva : Vis (defScope st) a)
    (hG : ∀ cdv, LamX.GivesTo X Ng x (defScope st) g cdv (defBody st) a (X.env.qual ++ "<lambda>") TT) (hr : Room (k + 2) X.A) (TB : TabB X.base X.mg c P) (hT : T = [(P, X.env.qual ++ "<lambda>")]) (hcode : X.env.code = .ref c) (L : LamX.LamS X.env.scope scope) (hdef : defaultsOf params X.env = ([], []))
    (hbind : ∀ (q : Str) (cl : List (Str × Addr)) (pm cv ctv : Value), bindArgs (PySem.W.kla_fn "<lambda>" q params body scope cl pm cv ctv) ⟨[], []⟩ = pure [])
    (hbody : ∀ (A : Around) (outer : List Env) (s : Shared) (H : Hp) (E : XK) (f c' : Addr), Room k (A.deeper (LamX.lamEnv X scope s.heap.objs.size f c')) → PE (LamX.lamCx X A outer s H E scope f c') body (t E))
    (hdb : (x == ("__debug__" : Str)) = false := by decide) (hd : (a == ("__debug__" : Str)) = false := by decide) (hcd : (a == ("__classdict__" : Str)) = false := by decide) :
    PE X (.Call (.Name x p) [.Lambda params body scope lpos] [] pos) (LamX.tLam T TT t) := by
  obtain ⟨oc, od, kV, doc, pm, an, cdv, ct, osl, rfl, lk, hcg⟩ := F.ex
  subst hT
  exact LamX.pe_lamcall hg hm F.kp lk hcg hb Sg hNg hva (hG cdv) TB hcode (List.mem_singleton.mpr rfl) (fun q hq _ => by rw [List.mem_singleton.mp hq]) hr L hdef hbind hbody hdb hd hcd
end
def rXg (K : PySem.W.Frag) (a : Addr) (cls : Value) (d : Option Addr) (n : Str) (Q : VK) : V → Hp → Prop := fun x H1 => x = .ref a ∧ ∃ C, cls = .ref C ∧ XfC K C ∧ PySem.W.findIn K (.ref C) n = some none ∧
  ∃ (dd : Addr) (fs : List (Str × V)) (v : V), d = some dd ∧ H1 dd = some (.xd fs) ∧ fs.lookup n = some v ∧ Q v H1
theorem s_xgR {K : PySem.W.Frag} {a : Addr} {cls : Value} {d : Option Addr} {n : Str} {te : TE} {σ : L2.St} {H : Hp} {Q : VK} (h : te σ H (rXg K a cls d n Q)) : tXg K a cls d n te σ H Q := h
theorem s_xgV {K : PySem.W.Frag} {a C dd : Addr} {n : Str} {H : Hp} {Q : VK} {fs : List (Str × V)} {v : V} (T : XfC K C) (hno : PySem.W.findIn K (.ref C) n = some none) (hd : H dd = some (.xd fs)) (hv : fs.lookup n = some v) (q : Q v H) : rXg K a (.ref C) (some dd) n Q (.ref a) H := ⟨rfl, C, rfl, T, hno, dd, fs, v, rfl, hd, hv, q⟩
theorem s_inL {K : PySem.W.Frag} {p : Addr} {x : V} {xs : List V} {H : Hp} {Q : VK} (h : SqL K H p xs) (f1 : flatV x = true) (f2 : xs.all flatV = true) (q : Q (.bl (inV x xs)) H) : rIn K false x (.ref p) H Q := ⟨p, xs, rfl, .inl h, f1, f2, q⟩
theorem s_callS {sp : Sp} {E : L2.St → XK} {t : TA} {σ : L2.St} {H : Hp} {Q : VK} (h : t σ H fun vs H1 => sp vs H1 Q (E σ)) : tCallS sp E t σ H Q := h
end My
namespace My
open PySem PySem.Spec PyProof.Rows L2 RZ
section
variable {K : PySem.W.Frag} {H : Hp} {Q : VK} {a b : Addr} {xs ys : List V}
theorem s_catT (ha : TupAt K H a xs) (hb : TupAt K H b ys) (hl : xs.length + ys.length ≤ 1000) (k : ∀ p H', Fr N0 H H' → TupAt K H' p (xs ++ ys) → Q (.ref p) H') : rAddG K (.ref a) (.ref b) H Q := by
  refine .inr (.inr (.inl ⟨a, b, xs, ys, rfl, rfl, ha.sq, hb.sq, sz hl, fun e => ?_, fun _ e => ?_, fun _ _ p hp => k p _ (Fr.new hp) (.inl upd_same)⟩))
  · subst e
    exact k b H .refl hb
  · subst e
    refine k a H .refl ?_
    rw [List.append_nil]
    exact ha
theorem cut_whole {lo hi : Option Int} (h : HT.sIx xs.length 0 lo = 0 ∧ HT.sIx xs.length xs.length hi = xs.length) : cutV xs lo hi = xs := by
  unfold cutV
  rw [h.1, h.2, List.drop_zero, Nat.sub_zero, List.take_length]
theorem s_slT {lo hi : Option Int} (ha : TupAt K H a xs) (k : ∀ p H', Fr N0 H H' → TupAt K H' p (cutV xs lo hi) → Q (.ref p) H') : rSlG K (.ref a) lo hi H Q := by
  refine .inr (.inl ⟨a, xs, rfl, ha.sq, fun e => ?_, fun _ p hp => k p _ (Fr.new hp) (.inl upd_same)⟩)
  refine k a H .refl ?_
  rw [cut_whole e]
  exact ha
theorem cut_lo {n : Nat} (h : n ≤ xs.length) : cutV xs none (some (n : Int)) = xs.take n := by
  unfold cutV
  rw [HT.sIx_none, HT.sIx_nat, List.drop_zero, Nat.sub_zero, Nat.min_eq_left h]
theorem cut_hi {n : Nat} (h : n ≤ xs.length) : cutV xs (some (n : Int)) none = xs.drop n := by
  unfold cutV
  rw [HT.sIx_none, HT.sIx_nat, Nat.min_eq_left h]
  exact List.take_of_length_le (by rw [List.length_drop]; omega)
/-- a written tuple -/
theorem tupK {its : Array Value} {n : Nat} {d : Option Addr} {sl : Array (Option Value)} (e : K.lookup a = some ⟨.type "tuple", d, .seq its n, sl⟩) (hz : its.size ≤ 1000) (hv : Vals xs its.toList) (H : Hp) : TupAt K H a xs := .inr ⟨_, its, n, e, rfl, rfl, sz hz, hv⟩
end
end My
namespace My
open PySem PySem.Spec PyProof.Rows L2 RZ
section
variable (K : PySem.W.Frag) {X : Cx}
theorem opAddK (e : X.K = K := by rfl) : OpR X (binaryOp .Add) (rAddG K) := e ▸ opAdd
theorem opEqK (hu : X.A.units + 64 < cLine) (e : X.K = K := by rfl) : OpR X (compareOp .Eq) (rEqG' K) := e ▸ opEq hu
theorem opNeK (hu : X.A.units + 64 < cLine) (e : X.K = K := by rfl) : OpR X (compareOp .NotEq) (rNeG' K) := e ▸ opNe hu
theorem opInK (e : X.K = K := by rfl) : OpR X (compareOp .In) (rIn K false) := e ▸ op_in_seq
theorem callLenK (e : X.K = K := by rfl) : CallR X (.builtin "len") (rLen K) := e ▸ callLen
theorem callIsiK (e : X.K = K := by rfl) : CallR X (.builtin "isinstance") (rIsiG K) := e ▸ callIsi
theorem callListK (e : X.K = K := by rfl) : CallR X (.type "list") (rList K) := e ▸ callList
theorem callTupleK (e : X.K = K := by rfl) : CallR X (.type "tuple") (rTuple K) := e ▸ callTuple
theorem allK (hc : X.calm = true) (e : X.K = K := by rfl) : CallR X (.builtin "all") (rAll K) := e ▸ cr_all hc
theorem opSlK (e : X.K = K := by rfl) : SlR X (rSlG K) := e ▸ opSl
theorem ixK (e : X.K = K := by rfl) : IxR X (rIx K) := e ▸ ix_seq
section
variable {a o x : Expr} {es : List Expr} {ta to te : TE} {t : TA} {pos apos cpos p tpos : Pos} {name : Str} {f : Str} {T id : String} {r : V → List V → Hp → VK → Prop} {tg : Expr} {elts : List Expr} {kk : Nat}
theorem pi_listK (hl : PE X x te) (e : X.K = K := by rfl) : PI X tg x (iList K te) := e ▸ pi_list hl
theorem pi_tupK (hl : PE X x te) (e : X.K = K := by rfl) : PI X tg x (iTup K te) := e ▸ pi_tup hl
end
end
end My
namespace My
open PySem PySem.Spec PyProof.Rows L2 RZ
open LamX (ExtN Tabs TabS TabB CodeO)
def okTup (Q : VK) : VK := fun v H2 => [V.str "", v].length ≤ sizeLine ∧ ∀ p, H2 p = none → Q (.ref p) (upd H2 p (.tup [.str "", v]))
def xTup (K : PySem.W.Frag) (CN CA : Addr) (Q : VK) : XK := fun cls d H' => xCase K CN CA cls d H' Q
section
variable {K : PySem.W.Frag} {CN CA : Addr} {T : List (Addr × Str)} {t : XK → TE} {σ : L2.St} {H : Hp} {Q : VK}
theorem s_tried (hT : Tabs T H) (h : ∀ H1, ExtN H H1 → Tabs T H1 → t (xTup K CN CA Q) σ H1 (okTup Q)) : LamX.tLam T (TTt K CN CA) t σ H Q := ⟨hT, h⟩
theorem s_ok {v : V} (k : ∀ p, H p = none → Q (.ref p) (upd H p (.tup [.str "", v]))) : okTup Q v H := ⟨szb rfl, k⟩
theorem s_xN {C dd : Addr} {w : Str} {v : V} {fs : List (Str × V)} (x : XOk K C w) (e1 : PySem.W.exmOne K (.ref C) (.ref CN) = some true) (hw : fs.lookup ("word" : Str) = some (.str w)) (hv : fldVal w fs = some v) (hd : H dd = none)
    (k : ∀ H', Fr N0 H H' → ∀ p, H' p = none → Q (.ref p) (upd H' p (.tup [.str w, v]))) : xTup K CN CA Q (.ref C) (some dd) (upd H dd (.xd fs)) :=
  ⟨C, dd, fs, w, rfl, rfl, x, upd_same, hw, .inl e1, .inl ⟨v, hv, fun H' f p hp => k H' ((Fr.new hd).trans f) p hp⟩⟩
end
theorem ExtN.fr0 {H H' : Hp} (f : Fr N0 H H') : ExtN H H' := ExtN.of f.same
theorem ExtN.lst {H H' : Hp} {a : Addr} {xs : List V} (x : ExtN H H') (h : H a = some (.lst xs)) : H' a = some (.lst xs) := x _ _ h fun _ z => by cases z
theorem HdL.ints {N : Addr → Prop} {K : PySem.W.Frag} {H : Hp} : ∀ ns : List Int, HdL N K H (ns.map V.int) (ns.map PyData.int)
  | [] => .nil
  | _ :: ns => .cons (.int _) (HdL.ints ns)
end My
namespace My
open PySem PySem.Spec PyProof.Rows L2 RZ GenW
section
variable {X : Cx}
def tGFor (wi : TI) (g : TG) (tb : TGn) : TGn := fun D ys σ H => wi σ H fun J H1 => ∃ W : Nat → Nat → List V → L2.St → Hp → Prop, (∃ m, W 0 m ys σ H1) ∧ ∀ i m ys σ H, W i m ys σ H →
  (J.stop i H ∧ D.nx ys σ H) ∨ (J.go i H ∧ ∃ N : List V → L2.St → Hp → Prop, (∀ ys' σ' H', N ys' σ' H' → ∃ m', m' < m ∧ W (i + 1) m' ys' σ' H') ∧ ∀ x H', J.yld i H x H' → g x σ H' fun σ2 H2 => tb { D with nx := N, ct := N, bk := D.nx } ys σ2 H2)
end
def GForGo (g : TG) (tb : TGn) (D : GEnds) (ys : List V) (σ : L2.St) : It → Hp → Prop := fun J H1 => ∃ W : Nat → Nat → List V → L2.St → Hp → Prop, (∃ m, W 0 m ys σ H1) ∧ ∀ i m ys σ H, W i m ys σ H →
  (J.stop i H ∧ D.nx ys σ H) ∨ (J.go i H ∧ ∃ N : List V → L2.St → Hp → Prop, (∀ ys' σ' H', N ys' σ' H' → ∃ m', m' < m ∧ W (i + 1) m' ys' σ' H') ∧ ∀ x H', J.yld i H x H' → g x σ H' fun σ2 H2 => tb { D with nx := N, ct := N, bk := D.nx } ys σ2 H2)
section
variable {D : GEnds} {ys : List V} {σ : L2.St} {H : Hp}
theorem s_gfor {wi : TI} {g : TG} {tb : TGn} (h : wi σ H (GForGo g tb D ys σ)) : tGFor wi g tb D ys σ H := h
theorem s_gthen {t u : TGn} (h : t { D with nx := fun ys' σ' H' => u D ys' σ' H' } ys σ H) : tGThen t u D ys σ H := h
theorem s_g0 (h : D.nx ys σ H) : tG0 D ys σ H := h
theorem s_gplain {t : TS} (h : t ⟨D.nx ys, D.rt ys, D.bk ys, D.ct ys⟩ σ H) : tPlain t D ys σ H := h
end
def rOut (Q : VK) : List V → Hp → Prop := fun out H2 => ∀ p, H2 p = none → Q (.ref p) (upd H2 p (.lst out))
theorem s_listG {sp : SpG} {E : XK} {t : TA} {σ : L2.St} {H : Hp} {Q : VK} (h : t σ H fun vs H1 => sp vs H1 (rOut Q) E) : tListG (tCallG sp [] E t) σ H Q := by
  show t σ H fun vs H1 => sp (vs ++ []) H1 (rOut Q) E
  simpa only [List.append_nil] using h
def rMax2 : List V → Hp → VK → Prop := fun xs H Q => ∃ i j, xs = [.int i, .int j] ∧ Q (.int (if j > i then j else i)) H
def rMin2 : List V → Hp → VK → Prop := fun xs H Q => ∃ i j, xs = [.int i, .int j] ∧ Q (.int (if j < i then j else i)) H
theorem s_max2 {i j : Int} {H : Hp} {Q : VK} (q : Q (.int (if j > i then j else i)) H) : rMax2 [.int i, .int j] H Q := ⟨i, j, rfl, q⟩
theorem s_min2 {i j : Int} {H : Hp} {Q : VK} (q : Q (.int (if j < i then j else i)) H) : rMin2 [.int i, .int j] H Q := ⟨i, j, rfl, q⟩
end My
namespace My
open PySem PySem.Spec PyProof.Rows L2 RZ
/-- a source: a list, a tuple, a text -/
inductive Kv | l (a : Addr) | t (a : Addr) | s (z : Str)
def Kv.v : Kv → V | .l a => .ref a | .t a => .ref a | .s z => .str z
def signs (z : Str) : List V := z.cps.toList.map fun c => V.str ⟨#[c]⟩
def Kv.seq (K : PySem.W.Frag) (H : Hp) (xs : List V) : Kv → Prop
  | .l a => SqL K H a xs
  | .t a => SqT K H a xs
  | .s z => xs = signs z
def Kv.at (t : Tok) (h : Heap) (it : Addr) (i : Nat) : Kv → Prop
  | .l a => h.IsListIter it a i
  | .t a => h.IsTupleIter it a i
  | .s z => h.IsStrIter it (strIterType z) z t i
def Kv.own : Kv → List Addr | .l a => [a] | .t a => [a] | .s _ => []
def Kv.obj (t : Tok) : Kv → Obj
  | .l a => { cls := .type "list_iterator", data := .fields #[.ref a, .int 0 0] }
  | .t a => { cls := .type "tuple_iterator", data := .fields #[.ref a, .int 0 0] }
  | .s z => { cls := .type (strIterType z), data := .fields #[.str z t, .int 0 0] }
section
variable {X : Cx} {pins : List (Addr × Obj)} {σ : L2.St} {H : Hp} {s : Shared}
theorem Kv.inj {k : Kv} {xs ys : List V} (I : Inv X pins σ H s) (h : k.seq X.K H xs) (h' : k.seq X.K H ys) : xs = ys := by
  cases k with
  | l a => exact I.list_inj h h'
  | t a => exact I.tuple_inj h h'
  | s z => exact Eq.trans h (Eq.symm h')
theorem Kv.start {k : Kv} {t : Tok} {h : Heap} {it : Addr} (e : h.get? it = some (k.obj t)) : k.at t h it 0 := by
  cases k with
  | l a => exact ⟨_, e, rfl, rfl⟩
  | t a => exact ⟨_, e, rfl, rfl⟩
  | s z => exact ⟨_, e, rfl, rfl⟩
end
def ItzG (K : PySem.W.Frag) (k1 k2 : Kv) : It :=
  ⟨fun i H => ∃ (xs ys : List V) (x y : V), k1.seq K H xs ∧ k2.seq K H ys ∧ xs[i]? = some x ∧ ys[i]? = some y,
    fun i H v H' => ∃ T x y, v = .ref T ∧ H T = none ∧ H' = upd H T (.tup [x, y]) ∧ (∀ xs, k1.seq K H xs → xs[i]? = some x) ∧ ∀ ys, k2.seq K H ys → ys[i]? = some y,
    fun i H => ∃ xs ys : List V, k1.seq K H xs ∧ k2.seq K H ys ∧ i = min xs.length ys.length⟩
def iZipG (K : PySem.W.Frag) (ta : TA) : TI := fun σ H R => ta σ H fun vs H1 => ∃ (k1 k2 : Kv) (xs ys : List V), vs = [k1.v, k2.v] ∧ k1.seq K H1 xs ∧ k2.seq K H1 ys ∧ R (ItzG K k1 k2) H1
def IteG (K : PySem.W.Frag) (k : Kv) : It :=
  ⟨fun i H => ∃ (xs : List V) (x : V), k.seq K H xs ∧ xs[i]? = some x,
    fun i H v H' => ∃ T x, v = .ref T ∧ H T = none ∧ H' = upd H T (.tup [.int (i : Nat), x]) ∧ ∀ xs, k.seq K H xs → xs[i]? = some x,
    fun i H => ∃ xs : List V, k.seq K H xs ∧ i = xs.length⟩
def iEnumG (K : PySem.W.Frag) (ta : TA) : TI := fun σ H R => ta σ H fun vs H1 => ∃ (k : Kv) (xs : List V), vs = [k.v] ∧ k.seq K H1 xs ∧ R (IteG K k) H1
section
variable {K : PySem.W.Frag} {σ : L2.St} {H : Hp} {R : It → Hp → Prop} {ta : TA}
def rZipG (K : PySem.W.Frag) : List V → Hp → (It → Hp → Prop) → Prop := fun vs H R => ∃ (k1 k2 : Kv) (xs ys : List V), vs = [k1.v, k2.v] ∧ k1.seq K H xs ∧ k2.seq K H ys ∧ R (ItzG K k1 k2) H
def rEnumG (K : PySem.W.Frag) : List V → Hp → (It → Hp → Prop) → Prop := fun vs H R => ∃ (k : Kv) (xs : List V), vs = [k.v] ∧ k.seq K H xs ∧ R (IteG K k) H
theorem s_izipG (h : ta σ H fun vs H1 => rZipG K vs H1 R) : iZipG K ta σ H R := h
theorem s_ienumG (h : ta σ H fun vs H1 => rEnumG K vs H1 R) : iEnumG K ta σ H R := h
end
end My
namespace My
open PySem PySem.Spec PyProof.Rows L2 RZ
section
variable {K : PySem.W.Frag} {σ : L2.St} {H : Hp} {Q : VK} {C a dx : Addr} {f : Str} {v : V} {fs : List (Str × V)} {te tv : TE} {t : TA} {sp : Sp} {dvs : List V} {E : XK} {nx bk ct : L2.St → Hp → Prop} {rt : VK}
def rFld (K : PySem.W.Frag) (f : Str) (Q : VK) : V → Hp → Prop := fun x H1 => ∃ a C dx fs v, x = .ref a ∧ H1 a = some (.ins C dx fs) ∧ Cls K C ∧ NoAttr K C f ∧ fs.lookup f = some v ∧ Q v H1
theorem s_fldR (h : te σ H (rFld K f Q)) : tFld K te f σ H Q := h
def rSto (K : PySem.W.Frag) (f : Str) (y : V) (nx : Hp → Prop) : V → Hp → Prop := fun x H2 => ∃ a C dx fs, x = .ref a ∧ H2 a = some (.ins C dx fs) ∧ Cls K C ∧ NoAttr K C f ∧ fs.length < 1000 ∧ nx (upd H2 a (.ins C dx (putF f y fs)))
theorem s_stoR (h : tv σ H fun y H1 => te σ H1 (rSto K f y (nx σ))) : sFld K te tv f ⟨nx, rt, bk, ct⟩ σ H := h
def rMake (C : Addr) (sp : Sp) (E : XK) (Q : VK) : List V → Hp → Prop := fun vs H1 => ∀ x dx, H1 x = none → H1 dx = none → dx ≠ x → sp (.ref x :: vs) (upd (upd H1 dx (.own x)) x (.ins C dx [])) (fun v H2 => v = .non ∧ Q (.ref x) H2) E
theorem s_makeR (h : t σ H (rMake C sp E Q)) : tMake C sp [] E t σ H Q := by
  unfold tMake
  simp only [List.append_nil]
  exact h
def rMeth (C : Addr) (m : Str) (sp : Sp) (E : XK) (t : TA) (σ : L2.St) (Q : VK) : V → Hp → Prop := fun x H1 => ∃ a dx fs, x = .ref a ∧ H1 a = some (.ins C dx fs) ∧ fs.lookup m = none ∧ t σ H1 fun vs H2 => sp (x :: vs) H2 Q E
theorem s_methR {m : Str} (h : te σ H (rMeth C m sp E t σ Q)) : tMeth C m sp [] E te t σ H Q := by
  unfold tMeth
  simp only [List.append_nil]
  exact h
end
/-- a new instance, its own dict: what was tracked stays -/
theorem Fr.obj {N : Addr → Prop} {H : Hp} {x dx : Addr} {o : HO} (h1 : H x = none) (h2 : H dx = none) (n : dx ≠ x) : Fr N H (upd (upd H dx (.own x)) x o) := (Fr.new h2).mut h1
end My
namespace My
open PySem PySem.Spec PyProof.Rows L2 RZ
theorem s_ckw {r : List V → List V → Hp → VK → Prop} {t tk : TA} {σ : L2.St} {H : Hp} {Q : VK} (h : t σ H fun vs H1 => tk σ H1 fun zs H2 => r vs zs H2 Q) : tCKw r t tk σ H Q := h
def tJoined (ts : List TE) : TE := fun σ H Q => tJs ts Str.empty σ H fun out H1 => Q (.str out) H1
def rJ (ts : List TE) (acc : Str) (σ : L2.St) (Q : Str → Hp → Prop) : V → Hp → Prop := fun x H1 => ∃ y : Str, x = .str y ∧ (acc ++ y).length ≤ sizeLine ∧ tJs ts (acc ++ y) σ H1 Q
theorem s_joined {ts : List TE} {σ : L2.St} {H : Hp} {Q : VK} (h : tJs ts Str.empty σ H fun out H1 => Q (.str out) H1) : tJoined ts σ H Q := h
theorem s_js {t : TE} {ts : List TE} {acc : Str} {σ : L2.St} {H : Hp} {Q : Str → Hp → Prop} (h : t σ H (rJ ts acc σ Q)) : tJs (t :: ts) acc σ H Q := h
theorem s_js0 {acc : Str} {σ : L2.St} {H : Hp} {Q : Str → Hp → Prop} (h : Q acc H) : tJs [] acc σ H Q := h
def rFmt (Q : VK) : V → Hp → Prop := fun x H1 => (∃ y : Str, x = .str y ∧ y.length ≤ sizeLine ∧ Q (.str y) H1) ∨ ∃ i : Int, x = .int i ∧ i.natAbs.log2 < 1920 ∧ Q (.str (toString i)) H1
theorem s_fmt {te : TE} {σ : L2.St} {H : Hp} {Q : VK} (h : te σ H (rFmt Q)) : tFmt te σ H Q := h
end My
namespace My
open PySem PySem.Spec PyProof.Rows L2 RZ
def rStr1 (R : It → Hp → Prop) : V → Hp → Prop := fun v H1 => ∃ x, v = .str x ∧ R (Its x) H1
theorem s_iStr {te : TE} {σ : L2.St} {H : Hp} {R : It → Hp → Prop} (h : te σ H (rStr1 R)) : iStr te σ H R := h
theorem s_str1 {x : Str} {H : Hp} {R : It → Hp → Prop} (h : R (Its x) H) : rStr1 R (.str x) H := ⟨x, rfl, h⟩
def rInSign : V → V → Hp → VK → Prop := fun x y H Q => ∃ (c : Nat) (z : Str), x = .str ⟨#[c]⟩ ∧ y = .str z ∧ Q (.bl (decide (c ∈ z.cps.toList))) H
theorem s_inSign {c : Nat} {z : Str} {H : Hp} {Q : VK} (q : Q (.bl (decide (c ∈ z.cps.toList))) H) : rInSign (.str ⟨#[c]⟩) (.str z) H Q := ⟨c, z, rfl, rfl, q⟩
theorem s_ifx {tt : TT} {ta tb : TE} {σ : L2.St} {H : Hp} {Q : VK} (h : tt σ H fun b H1 => if b = true then ta σ H1 Q else tb σ H1 Q) : tIf tt ta tb σ H Q := h
end My
namespace My
open PySem PySem.Spec PyProof.Rows L2 RZ
/-- so many numbers, each within -/
def Rng (n : Nat) (lo hi : Int) (vs : List V) : Prop := ∃ ns : List Int, vs = ns.map V.int ∧ ns.length = n ∧ ∀ i ∈ ns, lo ≤ i ∧ i < hi
theorem Rng.nil {lo hi : Int} : Rng 0 lo hi [] := ⟨[], rfl, rfl, fun _ h => by cases h⟩
theorem Rng.snoc {n : Nat} {lo hi i : Int} {vs : List V} (h : Rng n lo hi vs) (h1 : lo ≤ i) (h2 : i < hi) : Rng (n + 1) lo hi (vs ++ [.int i]) := by
  obtain ⟨ns, rfl, rfl, a⟩ := h
  refine ⟨ns ++ [i], by simp, by simp, fun j hj => ?_⟩
  rcases List.mem_append.mp hj with hj | hj
  · exact a j hj
  · rw [List.mem_singleton.mp hj]
    exact ⟨h1, h2⟩
theorem Rng.three {lo hi : Int} {vs : List V} (h : Rng 3 lo hi vs) : ∃ x y z, vs = [.int x, .int y, .int z] ∧ lo ≤ x ∧ x < hi ∧ lo ≤ y ∧ y < hi ∧ lo ≤ z ∧ z < hi := by
  obtain ⟨ns, rfl, e, a⟩ := h
  match ns, e with
  | [x, y, z], _ =>
    have hx := a x (by simp)
    have hy := a y (by simp)
    have hz := a z (by simp)
    exact ⟨x, y, z, rfl, hx.1, hx.2, hy.1, hy.2, hz.1, hz.2⟩
end My
local macro_rules | `(tactic| walk_at "at") => `(tactic| (first | with_reducible exact My.at0 | with_reducible exact My.at1 | with_reducible exact My.at2 | with_reducible exact My.at3 | with_reducible exact My.at4 | with_reducible exact My.at5 | with_reducible exact My.at6 | with_reducible exact My.at7))
local macro_rules | `(tactic| walk_at "ix") => `(tactic| (first | with_reducible exact My.ix0 | with_reducible exact My.ix1 | with_reducible exact My.ix2 | with_reducible exact My.ix3 | with_reducible exact My.ix4 | with_reducible exact My.ix5 | with_reducible exact My.ix6 | with_reducible exact My.ix7))
local macro_rules | `(tactic| walk_at "tt") => `(tactic| first | exact rfl | exact decide_eq_true (by first | rfl | omega) | exact My.ndec_t (by omega))
local macro_rules | `(tactic| walk_at "ff") => `(tactic| first | exact rfl | exact decide_eq_false (by omega) | exact My.ndec_f (by first | rfl | omega))
local macro_rules | `(tactic| walk_at "rd1") => `(tactic| first
  | with_reducible refine My.s_seq ?_
  | with_reducible refine My.s_asg ?_
  | ((with_reducible apply My.s_var); (focus exact rfl))
  | with_reducible refine My.s_c ?_
  | with_reducible refine My.s_op ?_
  | with_reducible refine My.s_un ?_
  | ((with_reducible apply My.s_name); (focus (simp only [List.set_cons_zero, List.set_cons_succ]; try exact rfl)))
  | with_reducible refine My.s_addI ?_
  | with_reducible refine My.s_rI0 ?_
  | with_reducible refine My.s_eqI ?_
  | with_reducible refine My.s_neI ?_
  | with_reducible refine My.s_eqS ?_
  | with_reducible refine My.s_neS ?_
  | with_reducible refine My.s_eqB ?_
  | with_reducible refine My.s_neB ?_
  | with_reducible refine My.s_rU ?_
  | with_reducible refine My.s_test ?_
  | with_reducible refine My.s_B ?_
  | with_reducible refine My.s_exbP ?_
  | with_reducible refine My.s_exi ?_
  | with_reducible refine My.s_and ?_
  | with_reducible refine My.s_or ?_
  | with_reducible refine My.s_not ?_
  | with_reducible refine My.s_andV ?_
  | with_reducible refine My.s_orV ?_
  | with_reducible refine My.s_notV ?_
  | with_reducible refine My.s_if ?_
  | with_reducible refine My.s_ifS ?_
  | ((with_reducible refine My.ite_t ?_ ?_); (focus (walk_at "tt")))
  | ((with_reducible refine My.ite_f ?_ ?_); (focus (walk_at "ff")))
  | with_reducible refine My.s_isN ?_
  | with_reducible refine My.s_notN ?_
  | with_reducible refine My.s_nil ?_
  | with_reducible refine My.s_cons ?_
  | with_reducible refine My.s_tup ?_
  | with_reducible refine My.s_lst ?_
  | with_reducible refine My.s_CB ?_
  | with_reducible refine My.s_BM ?_
  | with_reducible refine My.s_BM0 ?_
  | with_reducible refine My.s_call ?_
  | with_reducible refine My.s_ret ?_
  | with_reducible refine My.s_retN ?_
  | with_reducible refine My.s_next ?_
  | with_reducible refine My.s_break ?_
  | with_reducible refine My.s_cont ?_
  | with_reducible refine My.s_drop ?_
  | with_reducible refine My.s_par ?_
  | with_reducible refine My.s_sub ?_
  | ((with_reducible apply My.s_ixL); (focus (first | assumption | (apply L2.SqL.of; first | assumption | exact L2.upd_same))); (focus (walk_at "at")))
  | ((with_reducible apply My.s_ixT); (focus (first | assumption | (apply L2.SqT.of; first | assumption | exact L2.upd_same) | (apply My.TupAt.sq; assumption))); (focus (walk_at "at")))
  | ((with_reducible apply My.s_setL); (focus assumption); (focus (walk_at "ix")))
  | ((with_reducible apply My.s_lenL); (focus (first | assumption | (apply L2.SqL.of; first | assumption | exact L2.upd_same))))
  | ((with_reducible apply My.s_lenT); (focus (first | assumption | (apply L2.SqT.of; first | assumption | exact L2.upd_same) | (apply My.TupAt.sq; assumption))))
  | ((with_reducible apply My.s_par2); (focus (simp only [List.set_cons_zero, List.set_cons_succ]; try exact rfl)))
  | with_reducible refine My.s_int1 ?_
  | with_reducible refine My.s_for ?_
  | with_reducible refine My.s_iRng1 ?_
  | with_reducible refine My.s_iRng2 ?_
  | with_reducible refine My.s_iList ?_
  | with_reducible refine My.s_iTup ?_
  | ((with_reducible refine My.s_rng1 ?_ ?_); (focus omega))
  | ((with_reducible refine My.s_rng2 ?_ ?_); (focus omega))
  | ((with_reducible apply My.s_lst1); (focus (first | assumption | (apply L2.SqL.of; first | assumption | exact L2.upd_same))))
  | ((with_reducible apply My.s_tup1); (focus (first | assumption | (apply L2.SqT.of; first | assumption | exact L2.upd_same) | (apply My.TupAt.sq; assumption))))
  | with_reducible refine My.s_sl ?_
  | with_reducible refine My.s_noPart ?_
  | with_reducible refine My.s_part ?_
  | with_reducible refine My.s_bits ?_
  | ((with_reducible refine My.s_mul ?_ ?_); (focus omega))
  | ((with_reducible refine My.s_fdiv ?_ ?_); (focus omega))
  | ((with_reducible refine My.s_mod ?_ ?_); (focus omega))
  | with_reducible refine My.s_pow9 ?_
  | with_reducible refine My.s_pow18 ?_
  | ((with_reducible refine My.s_pow ?_ ?_); (focus (refine ⟨by decide, by decide, by decide⟩))))
local macro_rules | `(tactic| walk_at "rd") => `(tactic| repeat walk_at "rd1")
local macro_rules | `(tactic| walk_at "wipe") => `(tactic| (simp only [L2.wipe, List.map_cons, List.map_nil, List.set_cons_zero, List.set_cons_succ]; try exact rfl))
local macro_rules | `(tactic| walk_at "rd1") => `(tactic| first
  | with_reducible refine My.s_lc ?_
  | with_reducible refine My.s_zipA ?_
  | with_reducible refine My.s_gCons ?_
  | with_reducible refine My.s_gNil ?_
  | with_reducible refine My.s_yes ?_
  | ((with_reducible apply My.s_gTup); (focus (first | assumption | (apply L2.SqT.of; first | assumption | exact L2.upd_same) | (apply My.TupAt.sq; assumption))); (focus exact rfl))
  | ((with_reducible apply My.s_zipL); (focus (first | assumption | (apply L2.SqL.of; first | assumption | exact L2.upd_same))); (focus (first | assumption | (apply L2.SqL.of; first | assumption | exact L2.upd_same))))
  | ((with_reducible apply My.s_zipT); (focus (first | assumption | (apply L2.SqT.of; first | assumption | exact L2.upd_same) | (apply My.TupAt.sq; assumption))); (focus (first | assumption | (apply L2.SqT.of; first | assumption | exact L2.upd_same) | (apply My.TupAt.sq; assumption))))
  | ((with_reducible apply My.s_isi_list); (focus (walk_at "hd")))
  | ((with_reducible apply My.s_isi_tuple); (focus (walk_at "hd")))
  | ((with_reducible apply My.s_isi_dict); (focus (walk_at "hd")))
  | ((with_reducible apply My.s_isi_bool); (focus (walk_at "hd")))
  | ((with_reducible apply My.s_isi_int); (focus (walk_at "hd")))
  | ((with_reducible apply My.s_isi_str); (focus (walk_at "hd"))))
local macro_rules | `(tactic| walk_at "hd") => `(tactic| first
  | with_reducible assumption
  | with_reducible exact My.Hd.int (N := My.N0) _
  | with_reducible exact My.Hd.str (N := My.N0) _
  | with_reducible exact My.Hd.bl (N := My.N0) _
  | with_reducible exact My.Hd.non (N := My.N0))
local macro_rules | `(tactic| walk_at "rd1") => `(tactic| first
  | with_reducible refine My.s_xgR ?_
  | with_reducible refine My.s_callS ?_
  | with_reducible refine My.s_mkO ?_
  | with_reducible refine My.s_ost ?_)
local macro_rules | `(tactic| walk_at "rd1") => `(tactic| first
  | with_reducible refine My.s_gfor ?_
  | with_reducible refine My.s_gthen ?_
  | with_reducible refine My.s_g0 ?_
  | with_reducible refine My.s_gplain ?_
  | with_reducible refine My.s_max2 ?_
  | with_reducible refine My.s_min2 ?_
  | with_reducible refine My.s_listG ?_)
local macro_rules | `(tactic| walk_at "rd1") => `(tactic| first
  | with_reducible refine My.s_fldR ?_
  | with_reducible refine My.s_stoR ?_
  | with_reducible refine My.s_makeR ?_
  | with_reducible refine My.s_methR ?_
  | with_reducible refine My.s_izipG ?_
  | with_reducible refine My.s_ienumG ?_)
local macro_rules | `(tactic| walk_at "rd1") => `(tactic| first
  | with_reducible refine My.s_ckw ?_
  | with_reducible refine My.s_joined ?_
  | with_reducible refine My.s_js ?_
  | with_reducible refine My.s_js0 ?_
  | with_reducible refine My.s_fmt ?_)
local macro_rules | `(tactic| walk_at "rd1") => `(tactic| first
  | with_reducible refine My.s_ifx ?_
  | with_reducible refine My.s_iStr ?_
  | with_reducible refine My.s_str1 ?_
  | with_reducible refine My.s_inSign ?_)
namespace My
open PySem PySem.Spec PyProof.Rows L2 RZ
open LamX (ExtN Tabs TabS TabB CodeO)
def top (i : Nat) : Stmt := PySem.Challenge.pw_sparenots_k02_checked_situations.main.body.getD i (.Pass ⟨0, 0, 0, 0⟩)
abbrev s_InvalidSituation____init__ : Stmt := inClass (top 3) 0
abbrev lv_InvalidSituation____init__ : Nat := 1
theorem sc_InvalidSituation____init__ : FnScope ["self"] ["self"] (defScope s_InvalidSituation____init__) := ⟨rfl, rfl, rfl, by decide +kernel, rfl, by decide +kernel, by decide +kernel⟩
abbrev s_is_integer : Stmt := top 7
abbrev lv_is_integer : Nat := 1
theorem sc_is_integer : FnScope ["value"] ["value"] (defScope s_is_integer) := ⟨rfl, rfl, rfl, by decide +kernel, rfl, by decide +kernel, by decide +kernel⟩
abbrev s_check_situation : Stmt := top 8
abbrev lv_check_situation : Nat := 3
theorem sc_check_situation : FnScope ["situation", "value"] ["situation"] (defScope s_check_situation) := ⟨rfl, rfl, rfl, by decide +kernel, rfl, by decide +kernel, by decide +kernel⟩
abbrev s__law_bag : Stmt := top 10
abbrev lv__law_bag : Nat := 1
theorem sc__law_bag : FnScope ["_law_script", "_law_salt", "_law_cell"] ["_law_script"] (defScope s__law_bag) := ⟨rfl, rfl, rfl, by decide +kernel, rfl, by decide +kernel, by decide +kernel⟩
abbrev s__law_pull : Stmt := top 11
abbrev lv__law_pull : Nat := 1
theorem sc__law_pull : FnScope ["_law_bag_here", "_law_many", "_law_cell", "_law_got", "_law_seed"] ["_law_bag_here", "_law_many"] (defScope s__law_pull) := ⟨rfl, rfl, rfl, by decide +kernel, rfl, by decide +kernel, by decide +kernel⟩
abbrev s__law_of : Stmt := top 12
abbrev lv__law_of : Nat := 2
theorem sc__law_of : FnScope ["_law_bag_here", "_law_things"] ["_law_bag_here", "_law_things"] (defScope s__law_of) := ⟨rfl, rfl, rfl, by decide +kernel, rfl, by decide +kernel, by decide +kernel⟩
abbrev s__law_great : Stmt := top 13
abbrev lv__law_great : Nat := 2
theorem sc__law_great : FnScope ["_law_bag_here", "_law_result", "_law_turn"] ["_law_bag_here"] (defScope s__law_great) := ⟨rfl, rfl, rfl, by decide +kernel, rfl, by decide +kernel, by decide +kernel⟩
abbrev s__law_field : Stmt := top 14
abbrev lv__law_field : Nat := 1
theorem sc__law_field : FnScope ["_law_e"] ["_law_e"] (defScope s__law_field) := ⟨rfl, rfl, rfl, by decide +kernel, rfl, by decide +kernel, by decide +kernel⟩
abbrev s__law_tried : Stmt := top 15
abbrev lv__law_tried : Nat := 3
theorem sc__law_tried : FnScope ["_law_ask", "_law_e"] ["_law_ask"] (defScope s__law_tried) := ⟨rfl, rfl, rfl, by decide +kernel, rfl, by decide +kernel, by decide +kernel⟩
abbrev s__law_small : Stmt := top 16
abbrev lv__law_small : Nat := 2
theorem sc__law_small : FnScope ["_law_bag_here", "_law_k"] ["_law_bag_here"] (defScope s__law_small) := ⟨rfl, rfl, rfl, by decide +kernel, rfl, by decide +kernel, by decide +kernel⟩
abbrev s__law_situation : Stmt := top 17
abbrev lv__law_situation : Nat := 3
theorem sc__law_situation : FnScope ["_law_bag_here", "_law_k"] ["_law_bag_here"] (defScope s__law_situation) := ⟨rfl, rfl, rfl, by decide +kernel, rfl, by decide +kernel, by decide +kernel⟩
abbrev s_law : Stmt := top 18
abbrev lv_law : Nat := 6
theorem sc_law : FnScope ["_law_script", "_law_bag_here", "_law_turn", "_law_s", "_law_at", "_law_wrong", "_law_bad", "_law_one"] ["_law_script"] (defScope s_law) := ⟨rfl, rfl, rfl, by decide +kernel, rfl, by decide +kernel, by decide +kernel⟩
structure Txt (K : PySem.W.Frag) (mg : Str → Option Value) : Type where
  f_InvalidSituation____init__ : Addr
  fd_InvalidSituation____init__ : FuncData
  F_InvalidSituation____init__ : Fun K "__init__" "InvalidSituation.__init__" s_InvalidSituation____init__ f_InvalidSituation____init__ fd_InvalidSituation____init__
  b_InvalidSituation____init__ : Binds K fd_InvalidSituation____init__ ["self"] []
  f_is_integer : Addr
  fd_is_integer : FuncData
  F_is_integer : Fun K "is_integer" "is_integer" s_is_integer f_is_integer fd_is_integer
  g_is_integer : mg "is_integer" = some (.ref f_is_integer)
  b_is_integer : Binds K fd_is_integer ["value"] []
  f_check_situation : Addr
  fd_check_situation : FuncData
  F_check_situation : Fun K "check_situation" "check_situation" s_check_situation f_check_situation fd_check_situation
  g_check_situation : mg "check_situation" = some (.ref f_check_situation)
  b_check_situation : Binds K fd_check_situation ["situation"] []
  f__law_bag : Addr
  fd__law_bag : FuncData
  F__law_bag : Fun K "_law_bag" "_law_bag" s__law_bag f__law_bag fd__law_bag
  g__law_bag : mg "_law_bag" = some (.ref f__law_bag)
  b__law_bag : Binds K fd__law_bag ["_law_script"] []
  f__law_pull : Addr
  fd__law_pull : FuncData
  F__law_pull : Fun K "_law_pull" "_law_pull" s__law_pull f__law_pull fd__law_pull
  g__law_pull : mg "_law_pull" = some (.ref f__law_pull)
  b__law_pull : Binds K fd__law_pull ["_law_bag_here", "_law_many"] []
  f__law_of : Addr
  fd__law_of : FuncData
  F__law_of : Fun K "_law_of" "_law_of" s__law_of f__law_of fd__law_of
  g__law_of : mg "_law_of" = some (.ref f__law_of)
  b__law_of : Binds K fd__law_of ["_law_bag_here", "_law_things"] []
  f__law_great : Addr
  fd__law_great : FuncData
  F__law_great : Fun K "_law_great" "_law_great" s__law_great f__law_great fd__law_great
  g__law_great : mg "_law_great" = some (.ref f__law_great)
  b__law_great : Binds K fd__law_great ["_law_bag_here"] []
  f__law_field : Addr
  fd__law_field : FuncData
  F__law_field : Fun K "_law_field" "_law_field" s__law_field f__law_field fd__law_field
  g__law_field : mg "_law_field" = some (.ref f__law_field)
  b__law_field : Binds K fd__law_field ["_law_e"] []
  f__law_tried : Addr
  fd__law_tried : FuncData
  F__law_tried : Fun K "_law_tried" "_law_tried" s__law_tried f__law_tried fd__law_tried
  g__law_tried : mg "_law_tried" = some (.ref f__law_tried)
  b__law_tried : Binds K fd__law_tried ["_law_ask"] []
  f__law_small : Addr
  fd__law_small : FuncData
  F__law_small : Fun K "_law_small" "_law_small" s__law_small f__law_small fd__law_small
  g__law_small : mg "_law_small" = some (.ref f__law_small)
  b__law_small : Binds K fd__law_small ["_law_bag_here"] []
  f__law_situation : Addr
  fd__law_situation : FuncData
  F__law_situation : Fun K "_law_situation" "_law_situation" s__law_situation f__law_situation fd__law_situation
  g__law_situation : mg "_law_situation" = some (.ref f__law_situation)
  b__law_situation : Binds K fd__law_situation ["_law_bag_here"] []
  f_law : Addr
  fd_law : FuncData
  F_law : Fun K "law" "law" s_law f_law fd_law
  g_law : mg "law" = some (.ref f_law)
  b_law : Binds K fd_law ["_law_script"] []
  c_law : Addr
  P_law : Addr
  lk_law : ∃ (oc : Value) (od : Option Addr) (kV doc pm : Value) (an : Option Addr) (ct : Value) (osl : Array (Option Value)), fd_law = PySem.W.fnOf "law" "law" (defArgs s_law) (defBody s_law) (defScope s_law) .none kV doc pm an (.ref c_law) ct ∧ K.lookup f_law = some ⟨oc, od, .func fd_law, osl⟩ ∧ PySem.W.codeIn K (.ref c_law) "law" = true
  tk_COUNTS : Tok
  g_COUNTS : mg "COUNTS" = some (.str "abc" tk_COUNTS)
  c_ORIGIN : Addr
  g_ORIGIN : mg "ORIGIN" = some (.ref c_ORIGIN)
  w_ORIGIN : ∀ H, TupAt K H c_ORIGIN [.int 0, .int 0, .int 0]
  z_all : mg "all" = none
  z_bool : mg "bool" = none
  z_int : mg "int" = none
  z_isinstance : mg "isinstance" = none
  z_len : mg "len" = none
  z_list : mg "list" = none
  z_range : mg "range" = none
  z_tuple : mg "tuple" = none
  c_NotsError : Addr
  g_NotsError : mg "NotsError" = some (.ref c_NotsError)
  c_Absent : Addr
  g_Absent : mg "Absent" = some (.ref c_Absent)
  c_InvalidSituation : Addr
  g_InvalidSituation : mg "InvalidSituation" = some (.ref c_InvalidSituation)
  T_InvalidSituation : OexC K c_InvalidSituation
  iC_InvalidSituation : PySem.W.findIn K (.ref c_InvalidSituation) "__init__" = some (some (.ref f_InvalidSituation____init__))
  tI_InvalidSituation : PySem.W.typeIn K (.ref f_InvalidSituation____init__) = some (.type "function")
  x_InvalidSituation : XfC K c_InvalidSituation
  n_InvalidSituation_word : PySem.W.findIn K (.ref c_InvalidSituation) "word" = some none
  e_InvalidSituation_NotsError : PySem.W.exmOne K (.ref c_InvalidSituation) (.ref c_NotsError) = some true
  e_InvalidSituation_Absent : PySem.W.exmOne K (.ref c_InvalidSituation) (.ref c_Absent) = some false
end My
namespace My
open PySem PySem.Spec PyProof.Rows L2 RZ
open LamX (ExtN Tabs TabS TabB CodeO)
theorem ok_InvalidSituation____init__ {P : Program} {w : World} {K : PySem.W.Frag} {mg : Str → Option Value} {base : Heap} (T : Txt K mg) : FnOk P w K mg base CX0 lv_InvalidSituation____init__ T.f_InvalidSituation____init__ T.fd_InvalidSituation____init__ ["self"] (spExc0 T.c_InvalidSituation "invalidsituation") := by
  refine T.F_InvalidSituation____init__.ok sc_InvalidSituation____init__ (fun vs H Q E h => by obtain ⟨a, rfl, _⟩ := h; rfl) (fun cdv A outer s H vs Q E hr h => ?_)
  obtain ⟨a, rfl, ha, k⟩ := h
  refine ⟨_, (pss_one (ps_ost (pv 0) pe_str)), ?_⟩
  (try dsimp only [cxOf, L2H.cxH, gcxOf, Cx.nox, Cx.wish]); rw [show L2.start _ [(.ref a : V)] = [some (.ref a)] from rfl]
  refine s_ost ?_
  walk_at "rd"
  exact s_ost1 T.T_InvalidSituation T.n_InvalidSituation_word ha k
end My
namespace My
open PySem PySem.Spec PyProof.Rows L2 RZ
open LamX (ExtN Tabs TabS TabB CodeO)
def sp_is_integer (K : PySem.W.Frag) : Sp := fun vs H Q _ => ∃ (x : V) (d : PyData), vs = [x] ∧ Hd N0 K H x d ∧ Q (.bl (isInt d && !isBool d)) H
theorem s_isint {K : PySem.W.Frag} {H : Hp} {x : V} {d : PyData} {Q : VK} {E : XK} (h : Hd N0 K H x d) (k : Q (.bl (isInt d && !isBool d)) H) : sp_is_integer K [x] H Q E := ⟨x, d, rfl, h, k⟩
theorem ok_is_integer {P : Program} {w : World} {K : PySem.W.Frag} {mg : Str → Option Value} {base : Heap} (T : Txt K mg) : FnOk P w K mg base CX0 lv_is_integer T.f_is_integer T.fd_is_integer ["value"] (sp_is_integer K) := by
  refine T.F_is_integer.ok sc_is_integer (fun vs H Q E h => by obtain ⟨x, d, rfl, _⟩ := h; rfl) (fun cdv A outer s H vs Q E hr h => ?_)
  obtain ⟨x, d, rfl, hx, k⟩ := h
  refine ⟨_, (pss_one (ps_ret (pe_and (pe_callB (callIsiK K) (by rfl) T.z_isinstance (by first | exact PySem.boot_isinstance | exact boot_isinstance | decide +kernel) (pa_cons (pv 0) (pa_cons (pe_bltn (v := .ty "int") (by rfl) T.z_int (by first | exact boot_int | decide +kernel) rfl) pa_nil))) (pe_one (pe_not (pe_callB (callIsiK K) (by rfl) T.z_isinstance (by first | exact PySem.boot_isinstance | exact boot_isinstance | decide +kernel) (pa_cons (pv 0) (pa_cons (pe_bltn (v := .ty "bool") (by rfl) T.z_bool (by first | exact boot_bool | decide +kernel) rfl) pa_nil)))))))), ?_⟩
  (try dsimp only [cxOf, L2H.cxH, gcxOf, Cx.nox, Cx.wish]); rw [show L2.start _ [(x : V)] = [some (x)] from rfl]
  walk_at "rd"
  cases e : isInt d
  · rw [e] at k
    exact iteF k
  · rw [e] at k
    refine iteT ?_
    walk_at "rd"
    exact k
end My
namespace My
open PySem PySem.Spec PyProof.Rows L2 RZ
open LamX (ExtN Tabs TabS TabB CodeO)
def okInt : PyData → Bool
  | .int i => decide (0 ≤ i)
  | _ => false
def goodSit : PyData → Bool
  | .tuple ds => decide (ds.length = 3) && ds.all okInt
  | _ => false
def sp_check_situation (K : PySem.W.Frag) (C : Addr) : Sp := fun vs H Q E => ∃ (x : V) (d : PyData), vs = [x] ∧ Hd N0 K H x d ∧ (goodSit d = true → ∀ H', Fr N0 H H' → Q .non H') ∧
  (goodSit d = false → ∀ H' dd, Fr N0 H H' → H' dd = none → E (.ref C) (some dd) (upd H' dd (.xd [("word", .str "invalidsituation")])))
theorem s_checkGood {K : PySem.W.Frag} {C : Addr} {x : V} {d : PyData} {H : Hp} {Q : VK} {E : XK} (h : Hd N0 K H x d) (g : goodSit d = true) (k : ∀ H', Fr N0 H H' → Q .non H') : sp_check_situation K C [x] H Q E := ⟨x, d, rfl, h, fun _ => k, fun z => (by rw [g] at z; cases z)⟩
theorem s_checkBad {K : PySem.W.Frag} {C : Addr} {x : V} {d : PyData} {H : Hp} {Q : VK} {E : XK} (h : Hd N0 K H x d) (g : goodSit d = false) (k : ∀ H' dd, Fr N0 H H' → H' dd = none → E (.ref C) (some dd) (upd H' dd (.xd [("word", .str "invalidsituation")]))) : sp_check_situation K C [x] H Q E := ⟨x, d, rfl, h, fun z => (by rw [g] at z; cases z), fun _ => k⟩
theorem ok_check_situation {P : Program} {w : World} {K : PySem.W.Frag} {mg : Str → Option Value} {base : Heap} (T : Txt K mg) : FnOk P w K mg base (L2.CX P w) lv_check_situation T.f_check_situation T.fd_check_situation ["situation"] (sp_check_situation K T.c_InvalidSituation) := by
  refine T.F_check_situation.okX sc_check_situation (fun vs H Q E h => by obtain ⟨x, d, rfl, _⟩ := h; rfl) (fun cdv A outer s H vs Q E hr h => ?_)
  obtain ⟨x, d, rfl, hx, kg, kb⟩ := h
  have G_InvalidSituation____init__ := ok_InvalidSituation____init__ (P := P) (w := w) (base := base) T; have G_is_integer := ok_is_integer (P := P) (w := w) (base := base) T
  refine ⟨_, (pss_cons (ps_if (PW.pt (pw_or (pt_not (pt_val (pe_callB (callIsiK K) (by rfl) T.z_isinstance (by first | exact PySem.boot_isinstance | exact boot_isinstance | decide +kernel) (pa_cons (pv 0) (pa_cons (pe_bltn (v := .ty "tuple") (by rfl) T.z_tuple (by first | exact boot_tuple | decide +kernel) rfl) pa_nil))))) (pw_or1 (pt_cmpR (opNeK K hr.units) (pe_callB (callLenK K) (by rfl) T.z_len (by first | exact PySem.boot_len | exact boot_len | decide +kernel) (pa_cons (pv 0) pa_nil)) (pe_callB (callLenK K) (by rfl) T.z_len (by first | exact PySem.boot_len | exact boot_len | decide +kernel) (pa_cons (pe_glob (v := .str "abc") (by rfl) T.g_COUNTS ⟨_, rfl⟩) pa_nil)) (by first | exact nomark _ | rfl)))))
        (pss_one (ps_raise rfl (takes_of rfl rfl rfl rfl) (pmk_oex0 T.T_InvalidSituation T.iC_InvalidSituation T.tI_InvalidSituation G_InvalidSituation____init__ (hr.mono (by first | decide | omega)) T.b_InvalidSituation____init__ pass0 (by rfl) T.g_InvalidSituation)))
        pss_nil)
      (pss_one (ps_if (pt_not (pt_val (pe_callB (allK K rfl) (by rfl) T.z_all (by first | exact PySem.boot_all | exact boot_all | decide +kernel) (pa_cons (pe_lc (own := [("value", 1)]) (g := (gName 1)) (tt := tYes) rfl sc_check_situation.nd (pi_tupK K (pv 0)) (blkOk_by (N := ["situation", "value"]) (sc := defScope s_check_situation) (by decide +kernel)) (fun _ _ _ _ _ => (pg_name (i := 1) sc_check_situation.nd rfl (by first | exact .inl rfl | exact .inr rfl))) (fun _ _ _ _ _ => pts_nil) (fun _ _ _ _ _ => (pe_and (pe_call G_is_integer (hr.mono (by first | decide | omega)) (by rfl) T.g_is_integer T.F_is_integer.kp T.b_is_integer .nil pass0 (pa_cons (pv 1) pa_nil)) (pe_one (pe_cmpR op_ge (pv 1) pe_int (by first | exact nomark _ | rfl)))))) pa_nil))))
        (pss_one (ps_raise rfl (takes_of rfl rfl rfl rfl) (pmk_oex0 T.T_InvalidSituation T.iC_InvalidSituation T.tI_InvalidSituation G_InvalidSituation____init__ (hr.mono (by first | decide | omega)) T.b_InvalidSituation____init__ pass0 (by rfl) T.g_InvalidSituation)))
        pss_nil))), ?_⟩
  (try dsimp only [cxOf, L2H.cxH, gcxOf, Cx.nox, Cx.wish]); rw [show L2.start _ [(x : V)] = [some (x), none] from rfl]
  walk_at "rd"
  cases hx with
  | tup ha ra =>
    rename_i a xs ds
    have el := ra.len
    have hlen : ("abc" : Str).length = 3 := by decide +kernel
    refine iteF ?_
    walk_at "rd"
    refine s_lenS (by rw [hlen]; exact szb rfl) ?_
    rw [hlen]
    walk_at "rd"
    refine if_ndec (fun e => ?_) (fun e => ?_)
    · walk_at "rd"
      refine s_mk0 fun dd hd => ?_
      refine kb ?_ H dd .refl hd
      show (decide (ds.length = 3) && ds.all okInt) = false
      rw [decide_eq_false (by omega)]
      rfl
    · walk_at "rd"
      refine lc_by (walk_tup (xs := xs)) (fun D i acc H2 => acc = (ds.take i).map (fun d => V.bl (okInt d)) ∧ Fr N0 H H2) (by walk_at "wipe") (fun D hD => ⟨rfl, Fr.new hD⟩) (fun D i acc H2 ⟨_, f2⟩ _ => (ha.fr f2).sq) ?_ ?_
      · rintro D i acc z H2 H3 hD hi hl ⟨rfl, f2⟩ hDl ⟨rfl, gz⟩
        obtain ⟨dz, gd, hz⟩ := ra.get gz
        have hz2 := Hd.fr f2 _ _ hz
        have st : (ds.take i).map (fun d => V.bl (okInt d)) ++ [V.bl (okInt dz)] = (ds.take (i + 1)).map (fun d => V.bl (okInt d)) := by
          rw [List.take_add_one, gd]
          simp
        walk_at "rd"
        refine ⟨rfl, ?_⟩
        walk_at "rd"
        refine s_isint hz2 ?_
        walk_at "rd"
        have hsz : i < sizeLine := Nat.lt_of_lt_of_le hi (sz (by omega))
        cases dz <;> try (refine iteF ?_; exact pvx_add hDl hl hsz ⟨st, (f2).mut hD⟩)
        cases hz2
        refine iteT ?_
        walk_at "rd"
        exact pvx_add hDl hl hsz ⟨st, (f2).mut hD⟩
      · rintro D acc H2 hD ⟨rfl, f2⟩ hDl
        rw [List.take_of_length_le (by omega)] at hDl
        walk_at "rd"
        refine s_all (bs := ds.map okInt) (SqL.of (by rw [hDl, List.map_map]; rfl)) ?_
        walk_at "rd"
        have eg : goodSit (.tuple ds) = (ds.map okInt).all id := by
          show (decide (ds.length = 3) && ds.all okInt) = _
          rw [decide_eq_true (by omega), Bool.true_and, List.all_map]
          rfl
        rw [← eg]
        refine if_nbl (fun e => ?_) (fun e => ?_)
        · walk_at "rd"
          exact s_mk0 fun dd hd => kb e H2 dd f2 hd
        · exact kg e H2 f2
  | non =>
    refine iteT ?_
    walk_at "rd"
    exact s_mk0 fun dd hd => kb rfl H dd .refl hd
  | bl b =>
    refine iteT ?_
    walk_at "rd"
    exact s_mk0 fun dd hd => kb rfl H dd .refl hd
  | int b =>
    refine iteT ?_
    walk_at "rd"
    exact s_mk0 fun dd hd => kb rfl H dd .refl hd
  | str b =>
    refine iteT ?_
    walk_at "rd"
    exact s_mk0 fun dd hd => kb rfl H dd .refl hd
  | lst e n r =>
    refine iteT ?_
    walk_at "rd"
    exact s_mk0 fun dd hd => kb rfl H dd .refl hd
  | dct e n r =>
    refine iteT ?_
    walk_at "rd"
    exact s_mk0 fun dd hd => kb rfl H dd .refl hd
end My
namespace My
open PySem PySem.Spec PyProof.Rows L2 RZ
def sp__law_bag (K : PySem.W.Frag) : Sp := fun vs H Q _ => ∃ (a : Addr) (ns : List Int), vs = [.ref a] ∧ SqL K H a (ns.map V.int) ∧ ns.length ≤ 63 ∧ ∀ b H', H b = none → Bag b H' → Fr N0 H H' → Q (.ref b) H'
theorem ok__law_bag {P : Program} {w : World} {K : PySem.W.Frag} {mg : Str → Option Value} {base : Heap} (T : Txt K mg) : FnOk P w K mg base CX0 lv__law_bag T.f__law_bag T.fd__law_bag ["_law_script"] (sp__law_bag K) := by
  refine T.F__law_bag.ok sc__law_bag (fun vs H Q E h => ?_) (fun cdv A outer s H vs Q E hr h => ?_)
  · obtain ⟨a, ns, rfl, _⟩ := h
    rfl
  · obtain ⟨a, ns, rfl, hS, hl, k⟩ := h
    have hc : cutV (ns.map V.int) none (some 63) = ns.map V.int := cut_all (by rw [List.length_map]; omega)
    refine ⟨_, (pss_cons (ps_set (i := 1) sc__law_bag.nd rfl (by first | exact .inl rfl | exact .inr rfl) pe_int)
      (pss_cons (ps_for PassesOwn.never rfl (pi_listK K (pe_slice (opSlK K) (pv 0) po_none (po_some pe_int))) (pg_name (i := 2) sc__law_bag.nd rfl (by first | exact .inl rfl | exact .inr rfl))
        (pss_one (ps_set (i := 1) sc__law_bag.nd rfl (by first | exact .inl rfl | exact .inr rfl) (pe_op op_mod (pe_callTy callInt (by rfl) T.z_int (by first | exact PySem.boot_int | exact boot_int | decide +kernel) (pa_cons (pe_op (opAddK K) (pe_op (opAddK K) (pe_op opMul (pv 1) pe_int) (pe_op op_mod (pe_callTy callInt (by rfl) T.z_int (by first | exact PySem.boot_int | exact boot_int | decide +kernel) (pa_cons (pv 2) pa_nil)) pe_int)) pe_int) pa_nil)) pe_int))))
      (pss_one (ps_ret (pe_lst (pa_cons (pe_callTy (callListK K) (by rfl) T.z_list (by first | exact PySem.boot_list | exact boot_list | decide +kernel) (pa_cons (pe_slice (opSlK K) (pv 0) po_none (po_some pe_int)) pa_nil)) (pa_cons pe_int (pa_cons pe_int (pa_cons (pv 1) pa_nil))))))))), ?_⟩
    (try dsimp only [cxOf, L2H.cxH, gcxOf, Cx.nox, Cx.wish]); rw [show L2.start _ [(.ref a : V)] = [some (.ref a), none, none] from rfl]
    walk_at "rd"
    refine s_slL hS fun l nl => ?_
    rw [hc]
    refine s_lst1 (SqL.of upd_same) ?_
    refine for_by (walk_list (xs := ns.map V.int)) (fun i σ H' => ∃ (z : Int) (v : Option V), σ = [some (.ref a), some (.int z), v] ∧ 0 ≤ z ∧ z < 2147483563 ∧ H' = upd H l (.lst (ns.map V.int))) ⟨4935, none, rfl, by decide, by decide, rfl⟩ (fun i σ H' _ ⟨_, _, _, _, _, e⟩ => by rw [e]; exact SqL.of upd_same) ?_ ?_
    · rintro i x σ H' _ hi ⟨z, v, rfl, h0, h1, rfl⟩ ⟨rfl, hx⟩
      obtain ⟨n, rfl⟩ : ∃ n, x = V.int n := by
        rw [List.getElem?_map] at hx
        cases e : ns[i]? with
        | none => rw [e] at hx; cases hx
        | some n => rw [e] at hx; exact ⟨n, (Option.some.inj hx).symm⟩
      walk_at "rd"
      exact ⟨_, _, rfl, Int.emod_nonneg _ (by decide), Int.emod_lt_of_pos _ (by decide), rfl⟩
    · rintro σ H' ⟨z, v, rfl, h0, h1, rfl⟩
      have f1 : Fr N0 H (upd H l (.lst (ns.map V.int))) := Fr.new nl
      walk_at "rd"
      refine s_slL (f1.rdL hS id) fun l2 nl2 => ?_
      rw [hc]
      walk_at "rd"
      have f2 := f1.trans (Fr.new (o := .lst (ns.map V.int)) nl2)
      refine s_listL (SqL.of upd_same) fun l3 nl3 => ?_
      have f3 := f2.trans (Fr.new (o := .lst (ns.map V.int)) nl3)
      walk_at "rd"
      refine ⟨by show 4 ≤ sizeLine; decide, fun b nb => ?_⟩
      have f4 := f3.trans (Fr.new (o := .lst [.ref l3, .int 0, .int 0, .int z]) nb)
      refine k b _ (f3.free nb id) ⟨l3, ns, 0, 0, z, upd_same, ?_, hl, by decide, by decide, h0, h1⟩ f4
      rw [upd_ne (fun e => by rw [e] at nb; rw [upd_same] at nb; cases nb)]
      exact upd_same
end My
namespace My
open PySem PySem.Spec PyProof.Rows L2 RZ
def sp__law_pull (_ : PySem.W.Frag) : Sp := fun vs H Q _ => ∃ (b : Addr) (n : Int), vs = [.ref b, .int n] ∧ Bag b H ∧ 0 < n ∧ n < 1073741824 ∧ ∀ (r : Int) H', 0 ≤ r → r < n → Bag b H' → Fr (N1 b) H H' → Q (.int r) H'
theorem s_pull {K : PySem.W.Frag} {b : Addr} {n : Int} {H : Hp} {Q : VK} {E : XK} (B : Bag b H) (h : 0 < n ∧ n < 1073741824) (k : ∀ (r : Int) H', 0 ≤ r → r < n → Bag b H' → Fr (N1 b) H H' → Q (.int r) H') : sp__law_pull K [.ref b, .int n] H Q E := ⟨b, n, rfl, B, h.1, h.2, k⟩
theorem ok__law_pull {P : Program} {w : World} {K : PySem.W.Frag} {mg : Str → Option Value} {base : Heap} (T : Txt K mg) : FnOk P w K mg base CX0 lv__law_pull T.f__law_pull T.fd__law_pull ["_law_bag_here", "_law_many"] (sp__law_pull K) := by
  refine T.F__law_pull.ok sc__law_pull (fun vs H Q E h => ?_) (fun cdv A outer s H vs Q E hr h => ?_)
  · obtain ⟨b, n, rfl, _⟩ := h
    rfl
  · obtain ⟨b, n, rfl, B, hn, hn2, k⟩ := h
    refine ⟨_, (Evl.pss_cut (ps_if (PW.pt (pw_and (pt_cmpR (opEqK K hr.units) (pe_ix (ixK K) (pv 0) pe_int (fun _ _ => rfl)) pe_int (by first | exact nomark _ | rfl)) (pw_and1 (pt_cmpR op_lt (pe_ix (ixK K) (pv 0) pe_int (fun _ _ => rfl)) (pe_callB (callLenK K) (by rfl) T.z_len (by first | exact PySem.boot_len | exact boot_len | decide +kernel) (pa_cons (pe_ix (ixK K) (pv 0) pe_int (fun _ _ => rfl)) pa_nil)) (by first | exact nomark _ | rfl)))))
        (pss_cons (ps_set (i := 2) sc__law_pull.nd rfl (by first | exact .inl rfl | exact .inr rfl) (pe_ix (ixK K) (pe_ix (ixK K) (pv 0) pe_int (fun _ _ => rfl)) (pe_ix (ixK K) (pv 0) pe_int (fun _ _ => rfl)) (fun _ _ => rfl)))
        (pss_cons (ps_asg (pe_op (opAddK K) (pe_ix (ixK K) (pv 0) pe_int (fun _ _ => rfl)) pe_int) (pg_sub (pv 0) pe_int set_list))
        (pss_one (ps_if (pt_cmpR op_ge (pv 2) (pe_op op_pow pe_int pe_int) (by first | exact nomark _ | rfl))
          (pss_one (ps_asg (pe_op op_sub (pv 2) (pe_op op_pow pe_int pe_int)) (pg_sub (pv 0) pe_int set_list)))
          (pss_one (ps_asg (pe_op op_mod (pe_callTy callInt (by rfl) T.z_int (by first | exact PySem.boot_int | exact boot_int | decide +kernel) (pa_cons (pe_op (opAddK K) (pe_op (opAddK K) (pe_op opMul (pe_ix (ixK K) (pv 0) pe_int (fun _ _ => rfl)) pe_int) (pe_op opMul (pe_op op_mod (pe_callTy callInt (by rfl) T.z_int (by first | exact PySem.boot_int | exact boot_int | decide +kernel) (pa_cons (pv 2) pa_nil)) pe_int) pe_int)) pe_int) pa_nil)) pe_int) (pg_sub (pv 0) pe_int set_list)))))))
        pss_nil)
      (pss_cons (ps_if (pt_cmpR op_gt (pe_ix (ixK K) (pv 0) pe_int (fun _ _ => rfl)) pe_int (by first | exact nomark _ | rfl))
        (pss_cons (ps_set (i := 3) sc__law_pull.nd rfl (by first | exact .inl rfl | exact .inr rfl) (pe_op op_mod (pe_callTy callInt (by rfl) T.z_int (by first | exact PySem.boot_int | exact boot_int | decide +kernel) (pa_cons (pe_ix (ixK K) (pv 0) pe_int (fun _ _ => rfl)) pa_nil)) (pe_callTy callInt (by rfl) T.z_int (by first | exact PySem.boot_int | exact boot_int | decide +kernel) (pa_cons (pv 1) pa_nil))))
        (pss_cons (ps_asg (pe_op opDiv (pe_ix (ixK K) (pv 0) pe_int (fun _ _ => rfl)) (pv 1)) (pg_sub (pv 0) pe_int set_list))
        (pss_one (ps_ret (pv 3)))))
        pss_nil)
      (pss_cons (ps_set (i := 4) sc__law_pull.nd rfl (by first | exact .inl rfl | exact .inr rfl) (pe_ix (ixK K) (pv 0) pe_int (fun _ _ => rfl)))
      (pss_cons (ps_asg (pe_op op_mod (pe_callTy callInt (by rfl) T.z_int (by first | exact PySem.boot_int | exact boot_int | decide +kernel) (pa_cons (pe_op (opAddK K) (pe_op (opAddK K) (pe_op opMul (pe_op opMul (pv 4) (pv 4)) pe_int) (pe_op opMul (pv 4) pe_int)) pe_int) pa_nil)) pe_int) (pg_sub (pv 0) pe_int set_list))
      (pss_one (ps_ret (pe_op op_mod (pe_callTy callInt (by rfl) T.z_int (by first | exact PySem.boot_int | exact boot_int | decide +kernel) (pa_cons (pe_op (opAddK K) (pe_op opDiv (pe_ix (ixK K) (pv 0) pe_int (fun _ _ => rfl)) pe_int) (pe_op opMul (pe_op op_mod (pe_callTy callInt (by rfl) T.z_int (by first | exact PySem.boot_int | exact boot_int | decide +kernel) (pa_cons (pe_ix (ixK K) (pv 0) pe_int (fun _ _ => rfl)) pa_nil)) pe_int) pe_int)) pa_nil)) (pe_callTy callInt (by rfl) T.z_int (by first | exact PySem.boot_int | exact boot_int | decide +kernel) (pa_cons (pv 1) pa_nil))))))))), ?_⟩
    (try dsimp only [cxOf, L2H.cxH, gcxOf, Cx.nox, Cx.wish]); rw [show L2.start _ [(.ref b : V), (.int n : V)] = [some (.ref b), some (.int n), none, none, none] from rfl]
    refine ⟨fun σ' H' => ∃ v, σ' = [some (.ref b), some (.int n), v, none, none] ∧ Bag b H' ∧ Fr (N1 b) H H', ?_, ?_⟩
    · obtain ⟨c, ns, p, cur, seed, h1, h2, hlen, hp, hcur, hs0, hs1⟩ := B.ex
      have nc : c ≠ b := bag_ne h1 h2
      obtain ⟨j, rfl⟩ := nat0 hp
      walk_at "rd"
      refine if_dec (fun ec => ?_) (fun _ => iteF ⟨none, rfl, B, .refl⟩)
      walk_at "rd"
      rw [List.length_map]
      walk_at "rd"
      refine if_dec (fun hj => ?_) (fun _ => ⟨none, rfl, B, .refl⟩)
      have hj2 : j < ns.length := by omega
      walk_at "rd"
      refine s_ixL (SqL.of h2) (atI_nat (j := j) (v := .int ns[j]) (by rw [List.getElem?_map, List.getElem?_eq_getElem hj2]; rfl)) ?_
      walk_at "rd"
      have f1 : Fr (N1 b) H (upd H b (.lst ([V.ref c, .int j, .int cur, .int seed].set 1 (.int (j + 1))))) := Fr.wr h1 rfl
      have g1 := f1.keep c _ h2 nc
      have g2 : upd H b (.lst ([V.ref c, .int j, .int cur, .int seed].set 1 (.int (j + 1)))) b = _ := upd_same
      generalize upd H b (.lst ([V.ref c, .int j, .int cur, .int seed].set 1 (.int (j + 1)))) = H1 at f1 g1 g2 ⊢
      simp only [List.set_cons_zero, List.set_cons_succ] at g2
      refine if_dec (fun hb => ?_) (fun _ => ?_)
      · walk_at "rd"
        refine ⟨_, rfl, ⟨c, ns, _, _, _, upd_same, ?_, hlen, ?_, ?_, hs0, hs1⟩, f1.trans (Fr.wr g2 rfl)⟩
        · rw [upd_ne nc]; exact g1
        · omega
        · omega
      · walk_at "rd"
        refine ⟨_, rfl, ⟨c, ns, _, _, _, upd_same, ?_, hlen, ?_, hcur, Int.emod_nonneg _ (by decide), Int.emod_lt_of_pos _ (by decide)⟩, f1.trans (Fr.wr g2 rfl)⟩
        · rw [upd_ne nc]; exact g1
        · omega
    · rintro σ' H1 ⟨v, rfl, B1, f1⟩
      obtain ⟨c, ns, p, cur, seed, h1, h2, hlen, hp, hcur, hs0, hs1⟩ := B1.ex
      have nc : c ≠ b := bag_ne h1 h2
      walk_at "rd"
      refine if_dec (fun h0 => ?_) (fun _ => ?_)
      · walk_at "rd"
        refine k _ _ (Int.emod_nonneg _ (by omega)) (Int.emod_lt_of_pos _ hn) ⟨c, ns, _, _, _, upd_same, ?_, hlen, hp, Int.ediv_nonneg hcur (by omega), hs0, hs1⟩ (f1.trans (Fr.wr h1 rfl))
        rw [upd_ne nc]; exact h2
      · walk_at "rd"
        have f2 := f1.trans (Fr.wr (o := .lst ([V.ref c, .int p, .int cur, .int seed].set 3 (.int ((seed * seed * 3 + seed * 16807 + 1013904223) % 2147483563)))) h1 rfl)
        have g2 : upd H1 b (.lst ([V.ref c, .int p, .int cur, .int seed].set 3 (.int ((seed * seed * 3 + seed * 16807 + 1013904223) % 2147483563)))) b = _ := upd_same
        have g1 := Eq.trans (upd_ne (H := H1) (o := .lst ([V.ref c, .int p, .int cur, .int seed].set 3 (.int ((seed * seed * 3 + seed * 16807 + 1013904223) % 2147483563)))) nc) h2
        generalize upd H1 b _ = H2 at f2 g1 g2 ⊢
        simp only [List.set_cons_zero, List.set_cons_succ] at g2
        walk_at "rd"
        exact k _ _ (Int.emod_nonneg _ (by omega)) (Int.emod_lt_of_pos _ hn) ⟨c, ns, _, _, _, g2, g1, hlen, hp, hcur, Int.emod_nonneg _ (by decide), Int.emod_lt_of_pos _ (by decide)⟩ f2
end My
namespace My
open PySem PySem.Spec PyProof.Rows L2 RZ
open LamX (ExtN Tabs TabS TabB CodeO)
def sp__law_of (K : PySem.W.Frag) : Sp := fun vs H Q _ => ∃ (b p : Addr) (xs : List V), vs = [.ref b, .ref p] ∧ Bag b H ∧ (H p = some (.lst xs) ∨ TupAt K H p xs) ∧ p ≠ b ∧ 0 < xs.length ∧ xs.length < 1000000 ∧ ∀ v H', v ∈ xs → Bag b H' → Fr (N1 b) H H' → Q v H'
theorem s_ofL {K : PySem.W.Frag} {b p : Addr} {xs : List V} {H : Hp} {Q : VK} {E : XK} (B : Bag b H) (h : H p = some (.lst xs)) (n : p ≠ b) (hl : 0 < xs.length ∧ xs.length < 1000000) (k : ∀ v H', v ∈ xs → Bag b H' → Fr (N1 b) H H' → Q v H') : sp__law_of K [.ref b, .ref p] H Q E := ⟨b, p, xs, rfl, B, .inl h, n, hl.1, hl.2, k⟩
theorem ok__law_of {P : Program} {w : World} {K : PySem.W.Frag} {mg : Str → Option Value} {base : Heap} (T : Txt K mg) : FnOk P w K mg base CX0 lv__law_of T.f__law_of T.fd__law_of ["_law_bag_here", "_law_things"] (sp__law_of K) := by
  refine T.F__law_of.ok sc__law_of (fun vs H Q E h => by obtain ⟨b, p, xs, rfl, _⟩ := h; rfl) (fun cdv A outer s H vs Q E hr h => ?_)
  obtain ⟨b, p, xs, rfl, B, hp, nb, h0, h1, k⟩ := h
  have G__law_pull := ok__law_pull (P := P) (w := w) (base := base) T
  refine ⟨_, (pss_one (ps_ret (pe_ix (ixK K) (pv 1) (pe_call G__law_pull (hr.mono (by first | decide | omega)) (by rfl) T.g__law_pull T.F__law_pull.kp T.b__law_pull .nil pass0 (pa_cons (pv 0) (pa_cons (pe_callB (callLenK K) (by rfl) T.z_len (by first | exact PySem.boot_len | exact boot_len | decide +kernel) (pa_cons (pv 1) pa_nil)) pa_nil))) (fun _ _ => rfl)))), ?_⟩
  (try dsimp only [cxOf, L2H.cxH, gcxOf, Cx.nox, Cx.wish]); rw [show L2.start _ [(.ref b : V), (.ref p : V)] = [some (.ref b), some (.ref p)] from rfl]
  walk_at "rd"
  have go : ∀ H', Fr (N1 b) H H' → H' p = some (.lst xs) ∨ TupAt K H' p xs := fun H' f => hp.imp (fun e => f.keep _ _ e nb) fun e => e.fr f
  have fin : ∀ (r : Int) H', 0 ≤ r → r < xs.length → Bag b H' → Fr (N1 b) H H' → rIx K (.ref p) (.int r) H' Q := by
    intro r H' r0 r1 B1 f1
    obtain ⟨j, rfl⟩ := nat0 r0
    have hj : j < xs.length := by omega
    have e : atI xs (j : Int) = some xs[j] := atI_nat (by rw [List.getElem?_eq_getElem hj])
    rcases go H' f1 with e1 | e1
    · exact s_ixL (SqL.of e1) e (k _ _ (List.getElem_mem hj) B1 f1)
    · exact s_ixT e1.sq e (k _ _ (List.getElem_mem hj) B1 f1)
  rcases hp with e | e
  · refine s_lenL (SqL.of e) ?_
    walk_at "rd"
    refine s_pull B (by omega) fun r H1 r0 r1 B1 f1 => ?_
    exact fin r H1 r0 r1 B1 f1
  · refine s_lenT e.sq ?_
    walk_at "rd"
    refine s_pull B (by omega) fun r H1 r0 r1 B1 f1 => ?_
    exact fin r H1 r0 r1 B1 f1
end My
namespace My
open PySem PySem.Spec PyProof.Rows L2 RZ
def sp__law_great (_ : PySem.W.Frag) : Sp := fun vs H Q _ => ∃ (b : Addr), vs = [.ref b] ∧ Bag b H ∧ ∀ (r : Int) H', 0 ≤ r → r < 1000 * 1000000000 ^ 3 → Bag b H' → Fr (N1 b) H H' → Q (.int r) H'
theorem s_great {K : PySem.W.Frag} {b : Addr} {H : Hp} {Q : VK} {E : XK} (B : Bag b H) (k : ∀ (r : Int) H', 0 ≤ r → r < 1000 * 1000000000 ^ 3 → Bag b H' → Fr (N1 b) H H' → Q (.int r) H') : sp__law_great K [.ref b] H Q E := ⟨b, rfl, B, k⟩
theorem great_lt {z r : Int} {i : Nat} (h : z < 1000 * 1000000000 ^ i) (h2 : r < 1000000000) : z * 1000000000 + r < 1000 * 1000000000 ^ (i + 1) := by
  rw [Int.pow_succ]
  omega
theorem ok__law_great {P : Program} {w : World} {K : PySem.W.Frag} {mg : Str → Option Value} {base : Heap} (T : Txt K mg) : FnOk P w K mg base CX0 lv__law_great T.f__law_great T.fd__law_great ["_law_bag_here"] (sp__law_great K) := by
  refine T.F__law_great.ok sc__law_great (fun vs H Q E h => ?_) (fun cdv A outer s H vs Q E hr h => ?_)
  · obtain ⟨b, rfl, _⟩ := h
    rfl
  · obtain ⟨b, rfl, B, k⟩ := h
    have G__law_pull := ok__law_pull (P := P) (w := w) (base := base) T
    refine ⟨_, (pss_cons (ps_set (i := 1) sc__law_great.nd rfl (by first | exact .inl rfl | exact .inr rfl) (pe_call G__law_pull (hr.mono (by first | decide | omega)) (by rfl) T.g__law_pull T.F__law_pull.kp T.b__law_pull .nil pass0 (pa_cons (pv 0) (pa_cons pe_int pa_nil))))
      (pss_cons (ps_for PassesOwn.never rfl (pi_range1 (by rfl) T.z_range (pa_cons pe_int pa_nil)) (pg_name (i := 2) sc__law_great.nd rfl (by first | exact .inl rfl | exact .inr rfl))
        (pss_one (ps_set (i := 1) sc__law_great.nd rfl (by first | exact .inl rfl | exact .inr rfl) (pe_op (opAddK K) (pe_op opMul (pv 1) (pe_op op_pow pe_int pe_int)) (pe_call G__law_pull (hr.mono (by first | decide | omega)) (by rfl) T.g__law_pull T.F__law_pull.kp T.b__law_pull .nil pass0 (pa_cons (pv 0) (pa_cons (pe_op op_pow pe_int pe_int) pa_nil)))))))
      (pss_one (ps_ret (pv 1))))), ?_⟩
    (try dsimp only [cxOf, L2H.cxH, gcxOf, Cx.nox, Cx.wish]); rw [show L2.start _ [(.ref b : V)] = [some (.ref b), none, none] from rfl]
    walk_at "rd"
    refine s_pull B (by decide) fun r H1 r0 r1 B1 f1 => ?_
    walk_at "rd"
    refine for_by walk_range0 (fun i σ H' => ∃ (z : Int) (v : Option V), σ = [some (.ref b), some (.int z), v] ∧ 0 ≤ z ∧ z < 1000 * 1000000000 ^ i ∧ Bag b H' ∧ Fr (N1 b) H H') ⟨r, none, rfl, r0, by omega, B1, f1⟩ (fun _ _ _ _ _ => trivial) ?_ ?_
    · rintro i _ σ H' _ hi ⟨z, v, rfl, z0, z1, B', f'⟩ ⟨rfl, rfl⟩
      walk_at "rd"
      refine s_pull B' (by decide) fun r H2 r0 r1 B2 f2 => ?_
      walk_at "rd"
      exact ⟨_, _, rfl, by omega, great_lt z1 r1, B2, f'.trans f2⟩
    · rintro σ H' ⟨z, v, rfl, z0, z1, B', f'⟩
      walk_at "rd"
      exact k _ _ z0 z1 B' f'
end My
namespace My
open PySem PySem.Spec PyProof.Rows L2 RZ
open LamX (ExtN Tabs TabS TabB CodeO)
theorem ok__law_field {P : Program} {w : World} {K : PySem.W.Frag} {mg : Str → Option Value} {base : Heap} (T : Txt K mg) : FnP P w K mg base CX0 lv__law_field T.f__law_field T.fd__law_field ["_law_e"] (sp_field K) := by
  refine fun_okP T.F__law_field sc__law_field (fun a c d vs H Q E h => by rw [h.1]; rfl) (fun cdv A outer s H vs Q E a oe cls d hr hz hf h => ?_)
  obtain ⟨rfl, C, dd, fs, w, rfl, rfl, x, hd, hw, told⟩ := h
  refine ⟨_, (pss_cons (ps_if (pt_cmpR (opInK K) (pe_xg (.head _) hz hf (pv 0)) (pe_lst (pa_cons pe_str (pa_cons pe_str (pa_cons pe_str (pa_cons pe_str (pa_cons pe_str (pa_cons pe_str pa_nil))))))) (by first | exact nomark _ | rfl))
        (pss_one (ps_ret (pe_xg (.head _) hz hf (pv 0))))
        pss_nil)
      (pss_cons (ps_if (pt_cmpR (opInK K) (pe_xg (.head _) hz hf (pv 0)) (pe_lst (pa_cons pe_str (pa_cons pe_str (pa_cons pe_str pa_nil)))) (by first | exact nomark _ | rfl))
        (pss_one (ps_ret (pe_xg (.head _) hz hf (pv 0))))
        pss_nil)
      (pss_cons (ps_if (pt_cmpR (opInK K) (pe_xg (.head _) hz hf (pv 0)) (pe_lst (pa_cons pe_str (pa_cons pe_str (pa_cons pe_str pa_nil)))) (by first | exact nomark _ | rfl))
        (pss_one (ps_ret (pe_xg (.head _) hz hf (pv 0))))
        pss_nil)
      (pss_cons (ps_if (pt_cmpR (opInK K) (pe_xg (.head _) hz hf (pv 0)) (pe_lst (pa_cons pe_str (pa_cons pe_str pa_nil))) (by first | exact nomark _ | rfl))
        (pss_one (ps_ret (pe_xg (.head _) hz hf (pv 0))))
        pss_nil)
      (pss_cons (ps_if (pt_cmpR (opEqK K hr.units) (pe_xg (.head _) hz hf (pv 0)) pe_str (by first | exact nomark _ | rfl))
        (pss_one (ps_ret (pe_tup (pa_cons (pe_xg (.head _) hz hf (pv 0)) (pa_cons (pe_xg (.head _) hz hf (pv 0)) pa_nil)))))
        pss_nil)
      (pss_cons (ps_if (pt_cmpR (opEqK K hr.units) (pe_xg (.head _) hz hf (pv 0)) pe_str (by first | exact nomark _ | rfl))
        (pss_one (ps_ret (pe_xg (.head _) hz hf (pv 0))))
        pss_nil)
      (pss_cons (ps_if (pt_cmpR (opEqK K hr.units) (pe_xg (.head _) hz hf (pv 0)) pe_str (by first | exact nomark _ | rfl))
        (pss_one (ps_ret (pe_xg (.head _) hz hf (pv 0))))
        pss_nil)
      (pss_cons (ps_if (pt_cmpR (opEqK K hr.units) (pe_xg (.head _) hz hf (pv 0)) pe_str (by first | exact nomark _ | rfl))
        (pss_one (ps_ret (pe_xg (.head _) hz hf (pv 0))))
        pss_nil)
      (pss_cons (ps_if (pt_cmpR (opEqK K hr.units) (pe_xg (.head _) hz hf (pv 0)) pe_str (by first | exact nomark _ | rfl))
        (pss_one (ps_ret (pe_xg (.head _) hz hf (pv 0))))
        pss_nil)
      (pss_one (ps_ret pe_non))))))))))), ?_⟩
  (try dsimp only [cxOf, L2H.cxH, gcxOf, Cx.nox, Cx.wish]); rw [show L2.start _ [(.ref a : V)] = [some (.ref a)] from rfl]
  rcases told with ⟨v, hv, k⟩ | ⟨hg, n, u, hn, hu, k⟩
  · skip
    have xf := x.fl
    unfold fldVal at hv
    unfold fldName at hv xf
    walk_at "rd"
    refine s_xgV x.xf x.wd hd hw ?_
    walk_at "rd"
    refine ⟨szb rfl, fun p0 n0 => ?_⟩
    have f0 : Fr N0 H (upd H p0 (.lst [.str "invalidsteps", .str "invalidcode", .str "invalidtext", .str "invalidcorner", .str "notquiet", .str "invaliddeed"])) := Fr.new n0
    refine s_inL (SqL.of upd_same) rfl rfl ?_
    have d0 := f0.keep _ _ hd id
    generalize upd H p0 (.lst [.str "invalidsteps", .str "invalidcode", .str "invalidtext", .str "invalidcorner", .str "notquiet", .str "invaliddeed"]) = H0 at f0 d0 ⊢
    walk_at "rd"
    refine if_bl (fun e => ?_) (fun e => ?_)
    · rw [if_pos e] at hv
      walk_at "rd"
      exact s_xgV x.xf (xf _ (by rw [if_pos e])) d0 hv (k _ f0)
    rw [if_neg (by rw [e]; exact Bool.false_ne_true)] at hv xf
    walk_at "rd"
    refine s_xgV x.xf x.wd d0 hw ?_
    walk_at "rd"
    refine ⟨szb rfl, fun p1 n1 => ?_⟩
    have f1 := f0.trans (Fr.new (N := N0) (o := .lst [.str "invalidcount", .str "invalidconstant", .str "invalidbudget"]) n1)
    refine s_inL (SqL.of upd_same) rfl rfl ?_
    have d1 := f1.keep _ _ hd id
    generalize upd H0 p1 (.lst [.str "invalidcount", .str "invalidconstant", .str "invalidbudget"]) = H1 at f1 d1 ⊢
    walk_at "rd"
    refine if_bl (fun e => ?_) (fun e => ?_)
    · rw [if_pos e] at hv
      walk_at "rd"
      exact s_xgV x.xf (xf _ (by rw [if_pos e])) d1 hv (k _ f1)
    rw [if_neg (by rw [e]; exact Bool.false_ne_true)] at hv xf
    walk_at "rd"
    refine s_xgV x.xf x.wd d1 hw ?_
    walk_at "rd"
    refine ⟨szb rfl, fun p2 n2 => ?_⟩
    have f2 := f1.trans (Fr.new (N := N0) (o := .lst [.str "invalidname", .str "duplicatename", .str "unknownname"]) n2)
    refine s_inL (SqL.of upd_same) rfl rfl ?_
    have d2 := f2.keep _ _ hd id
    generalize upd H1 p2 (.lst [.str "invalidname", .str "duplicatename", .str "unknownname"]) = H2 at f2 d2 ⊢
    walk_at "rd"
    refine if_bl (fun e => ?_) (fun e => ?_)
    · rw [if_pos e] at hv
      walk_at "rd"
      exact s_xgV x.xf (xf _ (by rw [if_pos e])) d2 hv (k _ f2)
    rw [if_neg (by rw [e]; exact Bool.false_ne_true)] at hv xf
    walk_at "rd"
    refine s_xgV x.xf x.wd d2 hw ?_
    walk_at "rd"
    refine ⟨szb rfl, fun p3 n3 => ?_⟩
    have f3 := f2.trans (Fr.new (N := N0) (o := .lst [.str "invalidfile", .str "invalidcommand"]) n3)
    refine s_inL (SqL.of upd_same) rfl rfl ?_
    have d3 := f3.keep _ _ hd id
    generalize upd H2 p3 (.lst [.str "invalidfile", .str "invalidcommand"]) = H3 at f3 d3 ⊢
    walk_at "rd"
    refine if_bl (fun e => ?_) (fun e => ?_)
    · rw [if_pos e] at hv
      walk_at "rd"
      exact s_xgV x.xf (xf _ (by rw [if_pos e])) d3 hv (k _ f3)
    rw [if_neg (by rw [e]; exact Bool.false_ne_true)] at hv xf
    walk_at "rd"
    refine s_xgV x.xf x.wd d3 hw ?_
    walk_at "rd"
    refine if_bl (fun e => ?_) (fun e => ?_)
    · rw [if_pos e] at hv
      unfold isGate at hv
      simp only [e, if_true] at hv
      cases hv
    have ng : isGate w = false := e
    rw [if_neg (by rw [e]; exact Bool.false_ne_true)] at hv xf
    walk_at "rd"
    refine s_xgV x.xf x.wd d3 hw ?_
    walk_at "rd"
    refine if_bl (fun e => ?_) (fun e => ?_)
    · rw [if_pos e] at hv
      walk_at "rd"
      exact s_xgV x.xf (xf _ (by rw [if_pos e])) d3 hv (k _ f3)
    rw [if_neg (by rw [e]; exact Bool.false_ne_true)] at hv xf
    walk_at "rd"
    refine s_xgV x.xf x.wd d3 hw ?_
    walk_at "rd"
    refine if_bl (fun e => ?_) (fun e => ?_)
    · rw [if_pos e] at hv
      walk_at "rd"
      exact s_xgV x.xf (xf _ (by rw [if_pos e])) d3 hv (k _ f3)
    rw [if_neg (by rw [e]; exact Bool.false_ne_true)] at hv xf
    walk_at "rd"
    refine s_xgV x.xf x.wd d3 hw ?_
    walk_at "rd"
    refine if_bl (fun e => ?_) (fun e => ?_)
    · rw [if_pos e] at hv
      walk_at "rd"
      exact s_xgV x.xf (xf _ (by rw [if_pos e])) d3 hv (k _ f3)
    rw [if_neg (by rw [e]; exact Bool.false_ne_true)] at hv xf
    walk_at "rd"
    refine s_xgV x.xf x.wd d3 hw ?_
    walk_at "rd"
    refine if_bl (fun e => ?_) (fun e => ?_)
    · rw [if_pos e] at hv
      walk_at "rd"
      exact s_xgV x.xf (xf _ (by rw [if_pos e])) d3 hv (k _ f3)
    rw [if_neg (by rw [e]; exact Bool.false_ne_true)] at hv
    simp only [ng, Bool.false_eq_true, if_false] at hv
    cases hv
    walk_at "rd"
    exact k _ f3
  · have ew : w = "gateinuse" := of_decide_eq_true hg
    subst ew
    have gt := x.gt hg
    walk_at "rd"
    refine s_xgV x.xf x.wd hd hw ?_
    walk_at "rd"
    refine ⟨szb rfl, fun p0 n0 => ?_⟩
    have f0 : Fr N0 H (upd H p0 (.lst [.str "invalidsteps", .str "invalidcode", .str "invalidtext", .str "invalidcorner", .str "notquiet", .str "invaliddeed"])) := Fr.new n0
    refine s_inL (SqL.of upd_same) rfl rfl ?_
    have d0 := f0.keep _ _ hd id
    generalize upd H p0 (.lst [.str "invalidsteps", .str "invalidcode", .str "invalidtext", .str "invalidcorner", .str "notquiet", .str "invaliddeed"]) = H0 at f0 d0 ⊢
    walk_at "rd"
    refine s_xgV x.xf x.wd d0 hw ?_
    walk_at "rd"
    refine ⟨szb rfl, fun p1 n1 => ?_⟩
    have f1 := f0.trans (Fr.new (N := N0) (o := .lst [.str "invalidcount", .str "invalidconstant", .str "invalidbudget"]) n1)
    refine s_inL (SqL.of upd_same) rfl rfl ?_
    have d1 := f1.keep _ _ hd id
    generalize upd H0 p1 (.lst [.str "invalidcount", .str "invalidconstant", .str "invalidbudget"]) = H1 at f1 d1 ⊢
    walk_at "rd"
    refine s_xgV x.xf x.wd d1 hw ?_
    walk_at "rd"
    refine ⟨szb rfl, fun p2 n2 => ?_⟩
    have f2 := f1.trans (Fr.new (N := N0) (o := .lst [.str "invalidname", .str "duplicatename", .str "unknownname"]) n2)
    refine s_inL (SqL.of upd_same) rfl rfl ?_
    have d2 := f2.keep _ _ hd id
    generalize upd H1 p2 (.lst [.str "invalidname", .str "duplicatename", .str "unknownname"]) = H2 at f2 d2 ⊢
    walk_at "rd"
    refine s_xgV x.xf x.wd d2 hw ?_
    walk_at "rd"
    refine ⟨szb rfl, fun p3 n3 => ?_⟩
    have f3 := f2.trans (Fr.new (N := N0) (o := .lst [.str "invalidfile", .str "invalidcommand"]) n3)
    refine s_inL (SqL.of upd_same) rfl rfl ?_
    have d3 := f3.keep _ _ hd id
    generalize upd H2 p3 (.lst [.str "invalidfile", .str "invalidcommand"]) = H3 at f3 d3 ⊢
    walk_at "rd"
    refine s_xgV x.xf x.wd d3 hw ?_
    walk_at "rd"
    first
      | (refine if_bl (fun _ => ?_) (fun e => absurd e (by decide +kernel)); walk_at "rd")
      | skip
    refine s_xgV x.xf gt.1 d3 hn ?_
    walk_at "rd"
    refine s_xgV x.xf gt.2 d3 hu ?_
    walk_at "rd"
    exact ⟨szb rfl, fun p hp => k _ f3 p hp⟩
end My
namespace My
open PySem PySem.Spec PyProof.Rows L2 RZ
open LamX (ExtN Tabs TabS TabB CodeO)
theorem gives__law_tried {K : PySem.W.Frag} {mg : Str → Option Value} (T : Txt K mg) {X : Cx} (eK : X.K = K) (em : X.mg = mg) (hr : Room lv__law_tried X.A) {q : Str} (cdg : Value) : LamX.GivesTo X ["_law_ask", "_law_e"] "_law_tried" (defScope s__law_tried) T.f__law_tried cdg (defBody s__law_tried) "_law_ask" q (TTt K T.c_NotsError T.c_Absent) := by
  subst eK em
  intro f c' s H Q tl act hc h
  have G__law_field := ok__law_field (P := X.prog) (w := X.w) (base := X.base) T
  have hrF : ∀ a, L2H.RoomH lv__law_field ((X.A.deeper (envOfC "_law_tried" (defScope s__law_tried) s.heap.objs.size T.f__law_tried cdg)).mark (some (.ref a))) := fun a => roomH_mk ((hr.mono (j := lv__law_field + 1) (by decide)).deeper _) _
  refine ⟨_, pss_one (ps_try_manyA (X := cxG X ["_law_ask", "_law_e"] "_law_tried" (defScope s__law_tried) T.f__law_tried cdg s H) (i := 1) (n := "_law_e") (l := [(.ref T.c_NotsError, fun a cls d D σ H => σ.length = 2 → tRet (tTup (tCons (tXg X.K a cls d "word" (tVar 1)) (tCons (tCall (sp_field X.K a cls d) [] C8.E0 (tCons (tVar 1) tNil)) tNil))) D σ H), (.ref T.c_Absent, fun a cls d D σ H => σ.length = 2 → tRet (tTup (tCons (tXg X.K a cls d "word" (tVar 1)) (tCons (tCall (sp_field X.K a cls d) [] C8.E0 (tCons (tVar 1) tNil)) tNil))) D σ H)])
    (tb := fun W D σ H => ∃ Ech : XK, (∀ cls d σ' H', Ech cls d H' → W cls d σ' H') ∧ σ[0]? = some (some (.ref f)) ∧ H c' = some (LamX.CodeO c' q) ∧ tl Ech H (fun v H1 => [V.str "", v].length ≤ sizeLine ∧ ∀ p, H1 p = none → D.rt (.ref p) (upd H1 p (.tup [.str "", v]))))
    rfl rfl sc__law_tried.nd rfl rfl LamX.takes0 (fun W pn xe tk _ => ?_)
    ?_), ?_⟩
  · refine ⟨fun pins s' σ H' D I h' => ?_⟩
    obtain ⟨Ech, hW, h1, h2, h3⟩ := h'
    exact (pss_one (ps_ret (pe_tup (pa_cons pe_str (pa_cons (act W pn xe Ech _ _ tk hW) pa_nil))))).run pins s' σ H' D I ⟨h1, h2, h3⟩
  · refine HdsA.consL (ts := fun a cls d => tRet (tTup (tCons (tXg X.K a cls d "word" (tVar 1)) (tCons (tCall (sp_field X.K a cls d) [] C8.E0 (tCons (tVar 1) tNil)) tNil)))) 2 rfl ⟨rfl, by decide, .inl T.g_NotsError⟩ (fun a oe cls d pn hz hf => ?_) (HdsA.consL (ts := fun a cls d => tRet (tTup (tCons (tXg X.K a cls d "word" (tVar 1)) (tCons (tCall (sp_field X.K a cls d) [] C8.E0 (tCons (tVar 1) tNil)) tNil)))) 2 rfl ⟨rfl, by decide, .inl T.g_Absent⟩ (fun a oe cls d pn hz hf => ?_) .nil)
    · exact pss_one (ps_ret (pe_tup (pa_cons (pe_xg (.head _) hz hf (pv 1)) (pa_cons (pe_callP (X := (cxG X ["_law_ask", "_law_e"] "_law_tried" (defScope s__law_tried) T.f__law_tried cdg s H).suite a ((a, oe) :: pn)) G__law_field (hrF a) (.head _) hz hf (by rfl) T.g__law_field T.F__law_field.kp T.b__law_field pass0 (pa_cons (pv 1) pa_nil)) pa_nil))))
    · exact pss_one (ps_ret (pe_tup (pa_cons (pe_xg (.head _) hz hf (pv 1)) (pa_cons (pe_callP (X := (cxG X ["_law_ask", "_law_e"] "_law_tried" (defScope s__law_tried) T.f__law_tried cdg s H).suite a ((a, oe) :: pn)) G__law_field (hrF a) (.head _) hz hf (by rfl) T.g__law_field T.F__law_field.kp T.b__law_field pass0 (pa_cons (pv 1) pa_nil)) pa_nil))))
  · have fin : ∀ {a : Addr} {cls : Value} {d : Option Addr} {σ : L2.St} {H' : Hp} {C dd : Addr} {fs : List (Str × V)} {w : Str} {nx bk ct : L2.St → Hp → Prop}, σ.length = 2 → cls = .ref C → d = some dd → XOk X.K C w → H' dd = some (.xd fs) → fs.lookup ("word" : Str) = some (.str w) →
        (Told w fs H' fun v H2 => ∀ p, H2 p = none → Q (.ref p) (upd H2 p (.tup [.str w, v]))) →
        tRet (tTup (tCons (tXg X.K a cls d "word" (tVar 1)) (tCons (tCall (sp_field X.K a cls d) [] C8.E0 (tCons (tVar 1) tNil)) tNil))) ⟨nx, Q, bk, ct⟩ (σ.set 1 (some (.ref a))) H' := by
      intro a cls d σ H' C dd fs w nx bk ct hl e1 e2 x hd hw k
      subst e1 e2
      match σ, hl with
      | [y, z], _ =>
        simp only [List.set_cons_zero, List.set_cons_succ]
        walk_at "rd"
        refine s_xgV x.xf x.wd hd hw ?_
        walk_at "rd"
        refine ⟨rfl, C, dd, fs, w, rfl, rfl, x, hd, hw, k.mono fun v H2 q => ?_⟩
        walk_at "rd"
        exact ⟨szb rfl, fun p hp => q p hp⟩
    refine ⟨fun cls d H' => xCase X.K T.c_NotsError T.c_Absent cls d H' Q, fun cls d σ' H' hx => ?_, rfl, hc, ?_⟩
    · obtain ⟨C, dd, fs, w, e1, e2, x, hd, hw, hm, k⟩ := hx
      rcases hm with hm | ⟨hm, hm2⟩
      · exact ⟨true, by rw [e1]; exact hm, fun _ a ha hl => fin (by rw [List.length_set] at hl; exact hl) e1 e2 x hd hw k, fun z => by cases z⟩
      · exact ⟨false, by rw [e1]; exact hm, fun z => (by cases z), fun _ => ⟨true, by rw [e1]; exact hm2, fun _ a ha hl => fin (by rw [List.length_set] at hl; exact hl) e1 e2 x hd hw k, fun z => by cases z⟩⟩
    · exact h
end My
namespace My
open PySem PySem.Spec PyProof.Rows L2 RZ
open LamX (ExtN Tabs TabS TabB CodeO)
def sp__law_small (K : PySem.W.Frag) : Sp := fun vs H Q _ => ∃ (b : Addr), vs = [.ref b] ∧ Bag b H ∧ ∀ (p : Addr) (x y z : Int) H', 0 ≤ x → x < 9 → 0 ≤ y → y < 9 → 0 ≤ z → z < 9 → TupAt K H' p [.int x, .int y, .int z] → Bag b H' → Fr (N1 b) H H' → Q (.ref p) H'
theorem s_small {K : PySem.W.Frag} {b : Addr} {H : Hp} {Q : VK} {E : XK} (B : Bag b H) (k : ∀ (p : Addr) (x y z : Int) H', 0 ≤ x → x < 9 → 0 ≤ y → y < 9 → 0 ≤ z → z < 9 → TupAt K H' p [.int x, .int y, .int z] → Bag b H' → Fr (N1 b) H H' → Q (.ref p) H') : sp__law_small K [.ref b] H Q E := ⟨b, rfl, B, k⟩
theorem ok__law_small {P : Program} {w : World} {K : PySem.W.Frag} {mg : Str → Option Value} {base : Heap} (T : Txt K mg) : FnOk P w K mg base CX0 lv__law_small T.f__law_small T.fd__law_small ["_law_bag_here"] (sp__law_small K) := by
  refine T.F__law_small.ok sc__law_small (fun vs H Q E h => by obtain ⟨b, rfl, _⟩ := h; rfl) (fun cdv A outer s H vs Q E hr h => ?_)
  obtain ⟨b, rfl, B, k⟩ := h
  have G__law_pull := ok__law_pull (P := P) (w := w) (base := base) T
  refine ⟨_, (pss_one (ps_ret (pe_callTy (callTupleK K) (by rfl) T.z_tuple (by first | exact PySem.boot_tuple | exact boot_tuple | decide +kernel) (pa_cons (pe_lc (own := [("_law_k", 1)]) (g := (gName 1)) (tt := tYes) rfl sc__law_small.nd (pi_range1 (by rfl) T.z_range (pa_cons pe_int pa_nil)) (blkOk_by (N := ["_law_bag_here", "_law_k"]) (sc := defScope s__law_small) (by decide +kernel)) (fun _ _ _ _ _ => (pg_name (i := 1) sc__law_small.nd rfl (by first | exact .inl rfl | exact .inr rfl))) (fun _ _ _ _ _ => pts_nil) (fun _ _ _ _ _ => (pe_call G__law_pull (hr.mono (by first | decide | omega)) (by rfl) T.g__law_pull T.F__law_pull.kp T.b__law_pull .nil pass0 (pa_cons (pv 0) (pa_cons pe_int pa_nil))))) pa_nil)))), ?_⟩
  (try dsimp only [cxOf, L2H.cxH, gcxOf, Cx.nox, Cx.wish]); rw [show L2.start _ [(.ref b : V)] = [some (.ref b), none] from rfl]
  walk_at "rd"
  refine lc_by walk_range0 (fun D i acc H2 => Rng i 0 9 acc ∧ Bag b H2 ∧ Fr (N1 b) H H2) (by walk_at "wipe") (fun D hD => ⟨.nil, B.fr (Fr.new hD), Fr.new hD⟩) (fun _ _ _ _ _ _ => trivial) ?_ ?_
  · rintro D i acc _ H2 _ hD hi hal ⟨r, B2, f2⟩ hDl ⟨rfl, rfl⟩
    walk_at "rd"
    refine ⟨rfl, ?_⟩
    walk_at "rd"
    refine s_pull B2 (by decide) fun q H3 q0 q1 B3 f3 => ?_
    have nD : D ≠ b := fun e => by rw [e] at hD; obtain ⟨_, e⟩ := B.some; rw [e] at hD; cases hD
    have e3 := f3.keep _ _ hDl nD
    exact pvx_add e3 hal (Nat.lt_of_lt_of_le hi (sz (by decide))) ⟨r.snoc q0 q1, bag_mut B hD (f2.trans f3) B3, (f2.trans f3).mut hD⟩
  · rintro D acc H2 hD ⟨r, B2, f2⟩ hDl
    walk_at "rd"
    refine s_tupleL (SqL.of hDl) fun l hl => ?_
    obtain ⟨x, y, z, rfl, a⟩ := r.three
    exact k l x y z _ a.1 a.2.1 a.2.2.1 a.2.2.2.1 a.2.2.2.2.1 a.2.2.2.2.2 (.inl upd_same) (B2.fr (Fr.new hl)) (f2.trans (Fr.new hl))
end My
namespace My
open PySem PySem.Spec PyProof.Rows L2 RZ
open LamX (ExtN Tabs TabS TabB CodeO)
def big : Int := 1000 * 1000000000 ^ 3
def sp__law_situation (K : PySem.W.Frag) : Sp := fun vs H Q _ => ∃ (b : Addr), vs = [.ref b] ∧ Bag b H ∧ ∀ (p : Addr) (x y z : Int) H', 0 ≤ x → x < big → 0 ≤ y → y < big → 0 ≤ z → z < big → TupAt K H' p [.int x, .int y, .int z] → Bag b H' → Fr (N1 b) H H' → Q (.ref p) H'
theorem s_situation {K : PySem.W.Frag} {b : Addr} {H : Hp} {Q : VK} {E : XK} (B : Bag b H) (k : ∀ (p : Addr) (x y z : Int) H', 0 ≤ x → x < big → 0 ≤ y → y < big → 0 ≤ z → z < big → TupAt K H' p [.int x, .int y, .int z] → Bag b H' → Fr (N1 b) H H' → Q (.ref p) H') : sp__law_situation K [.ref b] H Q E := ⟨b, rfl, B, k⟩
theorem big_lt {x : Int} (h : x < 13) : x < big := Int.lt_trans h (by decide)
theorem ok__law_situation {P : Program} {w : World} {K : PySem.W.Frag} {mg : Str → Option Value} {base : Heap} (T : Txt K mg) : FnOk P w K mg base CX0 lv__law_situation T.f__law_situation T.fd__law_situation ["_law_bag_here"] (sp__law_situation K) := by
  refine T.F__law_situation.ok sc__law_situation (fun vs H Q E h => by obtain ⟨b, rfl, _⟩ := h; rfl) (fun cdv A outer s H vs Q E hr h => ?_)
  obtain ⟨b, rfl, B, k⟩ := h
  have G__law_great := ok__law_great (P := P) (w := w) (base := base) T; have G__law_pull := ok__law_pull (P := P) (w := w) (base := base) T; have G__law_small := ok__law_small (P := P) (w := w) (base := base) T
  refine ⟨_, (pss_cons (ps_if (pt_cmpR op_gt (pe_call G__law_pull (hr.mono (by first | decide | omega)) (by rfl) T.g__law_pull T.F__law_pull.kp T.b__law_pull .nil pass0 (pa_cons (pv 0) (pa_cons pe_int pa_nil))) pe_int (by first | exact nomark _ | rfl))
        (pss_one (ps_ret (pe_call G__law_small (hr.mono (by first | decide | omega)) (by rfl) T.g__law_small T.F__law_small.kp T.b__law_small .nil pass0 (pa_cons (pv 0) pa_nil))))
        pss_nil)
      (pss_one (ps_ret (pe_callTy (callTupleK K) (by rfl) T.z_tuple (by first | exact PySem.boot_tuple | exact boot_tuple | decide +kernel) (pa_cons (pe_lc (own := [("_law_k", 1)]) (g := (gName 1)) (tt := tYes) rfl sc__law_situation.nd (pi_range1 (by rfl) T.z_range (pa_cons pe_int pa_nil)) (blkOk_by (N := ["_law_bag_here", "_law_k"]) (sc := defScope s__law_situation) (by decide +kernel)) (fun _ _ _ _ _ => (pg_name (i := 1) sc__law_situation.nd rfl (by first | exact .inl rfl | exact .inr rfl))) (fun _ _ _ _ _ => pts_nil) (fun _ _ _ _ _ => (pe_ifExp (pt_cmpR (opEqK K hr.units) (pe_call G__law_pull (hr.mono (by first | decide | omega)) (by rfl) T.g__law_pull T.F__law_pull.kp T.b__law_pull .nil pass0 (pa_cons (pv 0) (pa_cons pe_int pa_nil))) pe_int (by first | exact nomark _ | rfl)) (pe_call G__law_great (hr.mono (by first | decide | omega)) (by rfl) T.g__law_great T.F__law_great.kp T.b__law_great .nil pass0 (pa_cons (pv 0) pa_nil)) (pe_call G__law_pull (hr.mono (by first | decide | omega)) (by rfl) T.g__law_pull T.F__law_pull.kp T.b__law_pull .nil pass0 (pa_cons (pv 0) (pa_cons pe_int pa_nil)))))) pa_nil))))), ?_⟩
  (try dsimp only [cxOf, L2H.cxH, gcxOf, Cx.nox, Cx.wish]); rw [show L2.start _ [(.ref b : V)] = [some (.ref b), none] from rfl]
  walk_at "rd"
  refine s_pull B (by decide) fun q H1 q0 q1 B1 f1 => ?_
  walk_at "rd"
  refine if_dec (fun _ => ?_) (fun _ => ?_)
  · walk_at "rd"
    exact s_small B1 fun p x y z H2 x0 x1 y0 y1 z0 z1 t B2 f2 => k p x y z H2 x0 (big_lt (by omega)) y0 (big_lt (by omega)) z0 (big_lt (by omega)) t B2 (f1.trans f2)
  walk_at "rd"
  refine lc_by walk_range0 (fun D i acc H2 => Rng i 0 big acc ∧ Bag b H2 ∧ Fr (N1 b) H H2) (by walk_at "wipe") (fun D hD => ⟨.nil, B1.fr (Fr.new hD), f1.trans (Fr.new hD)⟩) (fun _ _ _ _ _ _ => trivial) ?_ ?_
  · rintro D i acc _ H2 _ hD hi hal ⟨r, B2, f2⟩ hDl ⟨rfl, rfl⟩
    walk_at "rd"
    refine ⟨rfl, ?_⟩
    walk_at "rd"
    have nD : D ≠ b := fun e => by rw [e] at hD; obtain ⟨_, e⟩ := B1.some; rw [e] at hD; cases hD
    have hD0 : H D = none := f1.free hD nD
    have hsz : i < sizeLine := Nat.lt_of_lt_of_le hi (sz (by decide))
    refine s_pull B2 (by decide) fun q H3 q0 q1 B3 f3 => ?_
    walk_at "rd"
    refine if_dec (fun _ => ?_) (fun _ => ?_)
    · walk_at "rd"
      refine s_great B3 fun g H4 g0 g1 B4 f4 => ?_
      have f34 := f3.trans f4
      have e4 := f34.keep _ _ hDl nD
      exact pvx_add e4 hal hsz ⟨r.snoc g0 g1, bag_mut B hD0 (f2.trans f34) B4, (f2.trans f34).mut hD0⟩
    · walk_at "rd"
      refine s_pull B3 (by decide) fun g H4 g0 g1 B4 f4 => ?_
      have f34 := f3.trans f4
      have e4 := f34.keep _ _ hDl nD
      exact pvx_add e4 hal hsz ⟨r.snoc g0 (big_lt g1), bag_mut B hD0 (f2.trans f34) B4, (f2.trans f34).mut hD0⟩
  · rintro D acc H2 hD ⟨r, B2, f2⟩ hDl
    walk_at "rd"
    refine s_tupleL (SqL.of hDl) fun l hl => ?_
    obtain ⟨x, y, z, rfl, a⟩ := r.three
    exact k l x y z _ a.1 a.2.1 a.2.2.1 a.2.2.2.1 a.2.2.2.2.1 a.2.2.2.2.2 (.inl upd_same) (B2.fr (Fr.new hl)) (f2.trans (Fr.new hl))
end My
namespace My
open PySem PySem.Spec PyProof.Rows L2 RZ
open LamX (ExtN Tabs TabS TabB CodeO)
def sp_law (K : PySem.W.Frag) (P : Addr) : Sp := fun vs H Q _ => ∃ (a : Addr) (ns : List Int), vs = [.ref a] ∧ SqL K H a (ns.map V.int) ∧ ns.length ≤ 63 ∧ H P = some (.tbl #[]) ∧ ∀ H', Q (.bl true) H'
abbrev lamQ : Str := (envOfC "law" (defScope s_law) 0 0 .none).qual ++ "<lambda>"
def TL (P : Addr) : List (Addr × Str) := [(P, lamQ)]
theorem tabs_start {H : Hp} {P : Addr} (h : H P = some (.tbl #[])) : Tabs (TL P) H := fun p hp => by rw [List.mem_singleton.mp hp]; exact LamX.TabS.nil h
/-- what _law_tried gives for a good one, a bad one -/
theorem ok_law {P : Program} {w : World} {K : PySem.W.Frag} {mg : Str → Option Value} {base : Heap} (T : Txt K mg) (TB : LamX.TabB base mg T.c_law T.P_law) : FnOk P w K mg base CX0 lv_law T.f_law T.fd_law ["_law_script"] (sp_law K T.P_law) := by
  obtain ⟨oc, od, kV, doc, pm, an, ct, osl, hfd, lk, hcd⟩ := T.lk_law
  rw [hfd] at lk ⊢
  refine fun_okC lk hcd sc_law (fun vs H Q E h => by obtain ⟨a, ns, rfl, _⟩ := h; rfl) (fun A outer s H vs Q E hr h => ?_)
  obtain ⟨a, ns, rfl, hS, hl, hP, k⟩ := h
  have G__law_bag := ok__law_bag (P := P) (w := w) (base := base) T; have G__law_great := ok__law_great (P := P) (w := w) (base := base) T; have G__law_of := ok__law_of (P := P) (w := w) (base := base) T; have G__law_pull := ok__law_pull (P := P) (w := w) (base := base) T; have G__law_situation := ok__law_situation (P := P) (w := w) (base := base) T; have G_check_situation := ok_check_situation (P := P) (w := w) (base := base) T
  refine ⟨_, (pss_cons (ps_set (i := 1) sc_law.nd rfl (by first | exact .inl rfl | exact .inr rfl) (pe_call G__law_bag (hr.mono (by first | decide | omega)) (by rfl) T.g__law_bag T.F__law_bag.kp T.b__law_bag .nil pass0 (pa_cons (pv 0) pa_nil)))
      (pss_cons (ps_for PassesOwn.never rfl (pi_range1 (by rfl) T.z_range (pa_cons pe_int pa_nil)) (pg_name (i := 2) sc_law.nd rfl (by first | exact .inl rfl | exact .inr rfl))
        (pss_cons (ps_set (i := 3) sc_law.nd rfl (by first | exact .inl rfl | exact .inr rfl) (pe_call G__law_situation (hr.mono (by first | decide | omega)) (by rfl) T.g__law_situation T.F__law_situation.kp T.b__law_situation .nil pass0 (pa_cons (pv 1) pa_nil)))
        (pss_cons (ps_if (pt_cmpR (opNeK K hr.units) (pe_lamF (c := T.c_law) (P := T.P_law) (k := lv_law - 3) T.F__law_tried T.b__law_tried sc__law_tried T.g__law_tried (by rfl) rfl (.inl rfl) (gives__law_tried T rfl rfl (hr.mono (by decide))) (hr.mono (by decide)) (T := TL T.P_law) TB rfl rfl (LamX.lamS_by (show LamX.lamSB (defScope s_law) _ = true by decide +kernel)) rfl (fun _ _ _ _ _ => rfl) (fun A2 outer2 s2 H2 E2 f2 c2 hr2 => (pe_callS G_check_situation (hr2.mono (by first | decide | omega)) (by rfl) T.g_check_situation T.F_check_situation.kp T.b_check_situation (fun σ => passAt (takes_of rfl rfl rfl rfl) σ) (pa_cons (pv 3) pa_nil)))) (pe_tup (pa_cons pe_str (pa_cons pe_non pa_nil))) (by first | exact nomark _ | rfl))
          (pss_one (ps_ret pe_bl))
          pss_nil)
        (pss_cons (ps_set (i := 4) sc_law.nd rfl (by first | exact .inl rfl | exact .inr rfl) (pe_call G__law_pull (hr.mono (by first | decide | omega)) (by rfl) T.g__law_pull T.F__law_pull.kp T.b__law_pull .nil pass0 (pa_cons (pv 1) (pa_cons pe_int pa_nil))))
        (pss_cons (ps_set (i := 5) sc_law.nd rfl (by first | exact .inl rfl | exact .inr rfl) (pe_call G__law_of (hr.mono (by first | decide | omega)) (by rfl) T.g__law_of T.F__law_of.kp T.b__law_of .nil pass0 (pa_cons (pv 1) (pa_cons (pe_lst (pa_cons (pe_un un_neg pe_int) (pa_cons (pe_op op_sub (pe_un un_neg pe_int) (pe_call G__law_great (hr.mono (by first | decide | omega)) (by rfl) T.g__law_great T.F__law_great.kp T.b__law_great .nil pass0 (pa_cons (pv 1) pa_nil))) (pa_cons pe_bl (pa_cons pe_bl (pa_cons pe_non (pa_cons pe_str pa_nil))))))) pa_nil))))
        (pss_cons (ps_set (i := 6) sc_law.nd rfl (by first | exact .inl rfl | exact .inr rfl) (pe_lst (pa_cons (pe_op (opAddK K) (pe_op (opAddK K) (pe_slice (opSlK K) (pv 3) po_none (po_some (pv 4))) (pe_tup (pa_cons (pv 5) pa_nil))) (pe_slice (opSlK K) (pv 3) (po_some (pe_op (opAddK K) (pv 4) pe_int)) po_none)) (pa_cons (pe_op (opAddK K) (pe_slice (opSlK K) (pv 3) po_none (po_some (pv 4))) (pe_slice (opSlK K) (pv 3) (po_some (pe_op (opAddK K) (pv 4) pe_int)) po_none)) (pa_cons (pe_op (opAddK K) (pe_op (opAddK K) (pe_slice (opSlK K) (pv 3) po_none (po_some (pv 4))) (pe_tup (pa_cons pe_int pa_nil))) (pe_slice (opSlK K) (pv 3) (po_some (pv 4)) po_none)) (pa_cons (pe_callTy (callListK K) (by rfl) T.z_list (by first | exact PySem.boot_list | exact boot_list | decide +kernel) (pa_cons (pv 3) pa_nil)) (pa_cons (pe_tup pa_nil) pa_nil)))))))
        (pss_one (ps_for PassesOwn.never rfl (pi_listK K (pv 6)) (pg_name (i := 7) sc_law.nd rfl (by first | exact .inl rfl | exact .inr rfl))
          (pss_one (ps_if (pt_cmpR (opNeK K hr.units) (pe_lamF (c := T.c_law) (P := T.P_law) (k := lv_law - 3) T.F__law_tried T.b__law_tried sc__law_tried T.g__law_tried (by rfl) rfl (.inl rfl) (gives__law_tried T rfl rfl (hr.mono (by decide))) (hr.mono (by decide)) (T := TL T.P_law) TB rfl rfl (LamX.lamS_by (show LamX.lamSB (defScope s_law) _ = true by decide +kernel)) rfl (fun _ _ _ _ _ => rfl) (fun A2 outer2 s2 H2 E2 f2 c2 hr2 => (pe_callS G_check_situation (hr2.mono (by first | decide | omega)) (by rfl) T.g_check_situation T.F_check_situation.kp T.b_check_situation (fun σ => passAt (takes_of rfl rfl rfl rfl) σ) (pa_cons (pv 7) pa_nil)))) (pe_tup (pa_cons pe_str (pa_cons pe_non pa_nil))) (by first | exact nomark _ | rfl))
            (pss_one (ps_ret pe_bl))
            pss_nil))))))))))
      (pss_one (ps_ret (pe_and (pe_cmpR (opEqK K hr.units) (pe_glob (v := .ref T.c_ORIGIN) (by rfl) T.g_ORIGIN rfl) (pe_tup (pa_cons pe_int (pa_cons pe_int (pa_cons pe_int pa_nil)))) (by first | exact nomark _ | rfl)) (pe_one (pe_cmpR (opEqK K hr.units) (pe_glob (v := .str "abc") (by rfl) T.g_COUNTS ⟨_, rfl⟩) pe_str (by first | exact nomark _ | rfl)))))))), ?_⟩
  (try dsimp only [cxOf, L2H.cxH, gcxOf, Cx.nox, Cx.wish]); rw [show L2.start _ [(.ref a : V)] = [some (.ref a), none, none, none, none, none, none, none] from rfl]
  walk_at "rd"
  refine ⟨a, ns, rfl, hS, hl, fun b H1 nb B f => ?_⟩
  walk_at "rd"
  have TB1 : Tabs (TL T.P_law) H1 := tabs_start (f.keep _ _ hP id)
  refine for_by walk_range0 (fun i σ H' => ∃ v2 v3 v4 v5 v6 v7 : Option V, σ = [some (.ref a), some (.ref b), v2, v3, v4, v5, v6, v7] ∧ Bag b H' ∧ Tabs (TL T.P_law) H') ⟨_, _, _, _, _, _, rfl, B, TB1⟩ (fun _ _ _ _ _ => trivial) ?_ ?_
  · rintro i _ σ H' _ hi ⟨v2, v3, v4, v5, v6, v7, rfl, B, TB2⟩ ⟨rfl, rfl⟩
    walk_at "rd"
    refine s_situation B fun p x y z H2 x0 x1 y0 y1 z0 z1 t B2 f2 => ?_
    walk_at "rd"
    have TB3 := tabs_bag TB2 B f2
    have xok : XOk K T.c_InvalidSituation "invalidsituation" := ⟨T.x_InvalidSituation, T.n_InvalidSituation_word, fun n e => (by rw [show fldName "invalidsituation" = none by decide +kernel] at e; cases e), fun e => absurd e (by decide +kernel)⟩
    have hxs : HdL N0 K H2 [.int x, .int y, .int z] [.int x, .int y, .int z] := HdL.ints [x, y, z]
    refine s_tried TB3 fun H3 e3 TB4 => ?_
    walk_at "rd"
    refine s_checkGood (d := .tuple [.int x, .int y, .int z]) (Hd.tup (ExtN.tupAt e3 t) (HdL.ints [x, y, z])) (by simp [goodSit, okInt, x0, y0, z0]) fun H4 f4 => ?_
    refine s_ok fun p1 n1 => ?_
    walk_at "rd"
    refine ⟨szb rfl, fun p2 n2 => ?_⟩
    have f5 : Fr N0 H4 (upd H4 p1 (.tup [.str "", .non])) := Fr.new n1
    have f6 := f5.trans (Fr.new (N := N0) (o := .tup [.str "", .non]) n2)
    refine s_neD (Hd.tup (N := N0) (.of ((Fr.new (N := N0) (o := .tup [.str "", .non]) n2).tup _ _ upd_same)) (.cons (.str _) (.cons .non .nil))) (Hd.tup (N := N0) (.of upd_same) (.cons (.str _) (.cons .non .nil))) (by decide +kernel) (by decide +kernel) ?_
    rw [show PyData.eqv (.tuple [.str "", .none]) (.tuple [.str "", .none]) = true from by decide +kernel]
    have e6 := e3.trans (ExtN.fr0 (f4.trans f6))
    have B6 := ExtN.bag e6 B2
    have t6 := ExtN.tupAt e6 t
    have TB6 := tabs_fr0 TB4 (f4.trans f6)
    generalize upd (upd H4 p1 (.tup [.str "", .non])) p2 (.tup [.str "", .non]) = H6 at e6 B6 t6 TB6 ⊢
    walk_at "rd"
    refine s_pull B6 (by decide) fun r H7 r0 r1 B7 f7 => ?_
    obtain ⟨n, rfl⟩ := nat0 r0
    have hn : n < 3 := by omega
    have t7 := t6.fr f7
    have TB7 := tabs_bag TB6 B6 f7
    walk_at "rd"
    refine s_great B7 fun g H8 g0 g1 B8 f8 => ?_
    have t8 := t7.fr f8
    have TB8 := tabs_bag TB7 B7 f8
    walk_at "rd"
    refine ⟨szb rfl, fun l1 nl1 => ?_⟩
    walk_at "rd"
    have f9 : Fr N0 H8 (upd H8 l1 (.lst [.int (-1), .int (-1 - g), .bl true, .bl false, .non, .str "1"])) := Fr.new nl1
    refine s_ofL (B8.fr f9) upd_same (fun e => by rw [e] at nl1; obtain ⟨_, z⟩ := B8.some; rw [nl1] at z; cases z) (by simp) fun wv H9 hw B9 f10 => ?_
    have t9 := (t8.fr f9).fr f10
    have TB9 := tabs_bag (tabs_fr0 TB8 f9) (B8.fr f9) f10
    obtain ⟨dw, hdw, okw⟩ : ∃ dw, (∀ H, Hd N0 K H wv dw) ∧ okInt dw = false := by
      simp only [List.mem_cons, List.not_mem_nil, or_false] at hw
      rcases hw with rfl | rfl | rfl | rfl | rfl | rfl
      · exact ⟨_, fun H => .int _, by decide⟩
      · exact ⟨_, fun H => .int _, decide_eq_false (by omega)⟩
      · exact ⟨_, fun H => .bl _, rfl⟩
      · exact ⟨_, fun H => .bl _, rfl⟩
      · exact ⟨_, fun H => .non, rfl⟩
      · exact ⟨_, fun H => .str _, rfl⟩
    walk_at "rd"
    have nl : n ≤ [V.int x, V.int y, V.int z].length := by show n ≤ 3; omega
    have nl1' : n + 1 ≤ [V.int x, V.int y, V.int z].length := by show n + 1 ≤ 3; omega
    have en : ((n : Int) + 1) = ((n + 1 : Nat) : Int) := rfl
    have tk : ([V.int x, V.int y, V.int z].take n).length = n := by rw [List.length_take]; omega
    have dr : ([V.int x, V.int y, V.int z].drop (n + 1)).length = 2 - n := by rw [List.length_drop]; show 3 - (n + 1) = _; omega
    have dr0 : ([V.int x, V.int y, V.int z].drop n).length = 3 - n := by rw [List.length_drop]; rfl
    have dt : ∀ H, HdL N0 K H ([V.int x, V.int y, V.int z].take n) (([x, y, z].take n).map PyData.int) := fun H => by
      have e : [V.int x, V.int y, V.int z].take n = ([x, y, z].take n).map V.int := by rw [List.map_take]; rfl
      rw [e]; exact HdL.ints _
    have dd1 : ∀ H m, HdL N0 K H ([V.int x, V.int y, V.int z].drop m) (([x, y, z].drop m).map PyData.int) := fun H m => by
      have e : [V.int x, V.int y, V.int z].drop m = ([x, y, z].drop m).map V.int := by rw [List.map_drop]; rfl
      rw [e]; exact HdL.ints _
    refine s_slT t9 fun q1 H10 F1 u1 => ?_
    rw [cut_lo nl] at u1
    walk_at "rd"
    refine ⟨szb rfl, fun q2 nq2 => ?_⟩
    have F2 := F1.trans (Fr.new (N := N0) (o := .tup [wv]) nq2)
    refine s_catT (u1.fr (Fr.new (N := N0) nq2)) (.of upd_same) (by rw [tk]; show n + 1 ≤ 1000; omega) fun q3 H11 f11 u3 => ?_
    replace F2 := F2.trans f11
    walk_at "rd"
    refine s_slT (t9.fr F2) fun q4 H12 f12 u4 => ?_
    rw [en, cut_hi nl1'] at u4
    replace F2 := F2.trans f12
    refine s_catT (u3.fr f12) u4 (by rw [List.length_append, tk, dr]; show n + 1 + (2 - n) ≤ 1000; omega) fun q5 H13 f13 u5 => ?_
    replace F2 := F2.trans f13
    walk_at "rd"
    refine s_slT (t9.fr F2) fun q6 H14 f14 u6 => ?_
    rw [cut_lo nl] at u6
    replace F2 := F2.trans f14
    walk_at "rd"
    refine s_slT (t9.fr F2) fun q7 H15 f15 u7 => ?_
    rw [en, cut_hi nl1'] at u7
    replace F2 := F2.trans f15
    refine s_catT (u6.fr f15) u7 (by rw [tk, dr]; omega) fun q8 H16 f16 u8 => ?_
    replace F2 := F2.trans f16
    walk_at "rd"
    refine s_slT (t9.fr F2) fun q9 H17 f17 u9 => ?_
    rw [cut_lo nl] at u9
    replace F2 := F2.trans f17
    walk_at "rd"
    refine ⟨szb rfl, fun q10 nq10 => ?_⟩
    have f17' := Fr.new (N := N0) (o := .tup [.int 0]) nq10
    replace F2 := F2.trans f17'
    refine s_catT (u9.fr f17') (.of upd_same) (by rw [tk]; show n + 1 ≤ 1000; omega) fun q11 H18 f18 u11 => ?_
    replace F2 := F2.trans f18
    walk_at "rd"
    refine s_slT (t9.fr F2) fun q12 H19 f19 u12 => ?_
    rw [cut_hi nl] at u12
    replace F2 := F2.trans f19
    refine s_catT (u11.fr f19) u12 (by rw [List.length_append, tk, dr0]; show n + 1 + (3 - n) ≤ 1000; omega) fun q13 H20 f20 u13 => ?_
    replace F2 := F2.trans f20
    walk_at "rd"
    refine s_listT (t9.fr F2).sq fun q14 nq14 => ?_
    have f21 := Fr.new (N := N0) (o := .lst [.int x, .int y, .int z]) nq14
    have e14 : upd H20 q14 (.lst [.int x, .int y, .int z]) q14 = some (.lst [.int x, .int y, .int z]) := upd_same
    replace F2 := F2.trans f21
    generalize upd H20 q14 (.lst [.int x, .int y, .int z]) = H21 at F2 f21 e14 ⊢
    walk_at "rd"
    refine ⟨szb rfl, fun q15 nq15 => ?_⟩
    have f22 := Fr.new (N := N0) (o := .tup []) nq15
    have e15 : TupAt K (upd H21 q15 (.tup [])) q15 [] := .of upd_same
    replace F2 := F2.trans f22
    generalize upd H21 q15 (.tup []) = H22 at F2 f22 e15 ⊢
    walk_at "rd"
    refine ⟨szb rfl, fun L nL => ?_⟩
    have f23 := Fr.new (N := N0) (o := .lst [.ref q5, .ref q8, .ref q13, .ref q14, .ref q15]) nL
    have eL : upd H22 L (.lst [.ref q5, .ref q8, .ref q13, .ref q14, .ref q15]) L = some (.lst [.ref q5, .ref q8, .ref q13, .ref q14, .ref q15]) := upd_same
    replace F2 := F2.trans f23
    generalize upd H22 L (.lst [.ref q5, .ref q8, .ref q13, .ref q14, .ref q15]) = H23 at F2 f23 eL ⊢
    have BL := B9.fr F2
    have TBL := tabs_fr0 TB9 F2
    have fA := (((((((f14.trans f15).trans f16).trans f17).trans f17').trans f18).trans f19).trans f20).trans ((f21.trans f22).trans f23)
    have fB := (((((f17.trans f17').trans f18).trans f19).trans f20).trans f21).trans (f22.trans f23)
    have bad : ∀ v ∈ [V.ref q5, .ref q8, .ref q13, .ref q14, .ref q15], ∃ d, Hd N0 K H23 v d ∧ goodSit d = false := by
      intro v hv
      simp only [List.mem_cons, List.not_mem_nil, or_false] at hv
      rcases hv with rfl | rfl | rfl | rfl | rfl
      · refine ⟨_, .tup (u5.fr fA) (((dt _).app (.cons (hdw _) .nil)).app (dd1 _ _)), ?_⟩
        simp [goodSit, okw]
      · refine ⟨_, .tup (u8.fr fB) ((dt _).app (dd1 _ _)), ?_⟩
        have : (([x, y, z].take n).map PyData.int ++ ([x, y, z].drop (n + 1)).map PyData.int).length = 2 := by
          rw [List.length_append, List.length_map, List.length_map, List.length_take, List.length_drop]
          show min n 3 + (3 - (n + 1)) = 2
          omega
        show (decide (_ = 3) && _) = false
        rw [this]
        rfl
      · refine ⟨_, .tup (u13.fr ((f21.trans f22).trans f23)) (((dt _).app (.cons (.int 0) .nil)).app (dd1 _ _)), ?_⟩
        have : ((([x, y, z].take n).map PyData.int ++ [PyData.int 0]) ++ ([x, y, z].drop n).map PyData.int).length = 4 := by
          rw [List.length_append, List.length_append, List.length_map, List.length_map, List.length_take, List.length_drop]
          show min n 3 + 1 + (3 - n) = 4
          omega
        show (decide (_ = 3) && _) = false
        rw [this]
        rfl
      · exact ⟨_, .lst ((f22.trans f23).keep _ _ e14 id) id (HdL.ints [x, y, z]), rfl⟩
      · exact ⟨_, .tup (e15.fr f23) .nil, rfl⟩
    walk_at "rd"
    refine for_by (walk_list (xs := [.ref q5, .ref q8, .ref q13, .ref q14, .ref q15])) (fun j σ H' => ∃ v7 : Option V, σ = [some (.ref a), some (.ref b), some (.int (i : Int)), some (.ref p), some (.int (n : Int)), some wv, some (.ref L), v7] ∧ ExtN H23 H' ∧ Tabs (TL T.P_law) H') ⟨_, rfl, ExtN.refl _, TBL⟩ (fun _ _ H' _ ⟨_, _, x, _⟩ => SqL.of (ExtN.lst x eL)) ?_ ?_
    · rintro j v σ H24 _ hj ⟨v7, rfl, e24, TB24⟩ ⟨rfl, hx⟩
      obtain ⟨d, hd, bd⟩ := bad v (List.mem_of_getElem? hx)
      walk_at "rd"
      refine s_tried TB24 fun H25 e25 TB25 => ?_
      walk_at "rd"
      refine s_checkBad (Hd.ext (e24.trans e25) _ _ hd) bd fun H26 dd f26 ndd => ?_
      refine s_xN (v := .non) xok T.e_InvalidSituation_NotsError rfl (by decide +kernel) ndd fun H27 f27 p1 n1 => ?_
      walk_at "rd"
      refine ⟨szb rfl, fun p2 n2 => ?_⟩
      have f28 : Fr N0 H27 (upd H27 p1 (.tup [.str "invalidsituation", .non])) := Fr.new n1
      have f29 := f28.trans (Fr.new (N := N0) (o := .tup [.str "invalidsituation", .non]) n2)
      refine s_neD (Hd.tup (N := N0) (.of ((Fr.new (N := N0) (o := .tup [.str "invalidsituation", .non]) n2).tup _ _ upd_same)) (.cons (.str _) (.cons .non .nil))) (Hd.tup (N := N0) (.of upd_same) (.cons (.str _) (.cons .non .nil))) (by decide +kernel) (by decide +kernel) ?_
      rw [show PyData.eqv (.tuple [.str "invalidsituation", .none]) (.tuple [.str "invalidsituation", .none]) = true from by decide +kernel]
      have fr := (f26.trans f27).trans f29
      walk_at "rd"
      exact ⟨_, rfl, e24.trans (e25.trans (ExtN.fr0 fr)), tabs_fr0 TB25 fr⟩
    · rintro σ H24 ⟨v7, rfl, e24, TB24⟩
      exact ⟨_, _, _, _, _, _, rfl, ExtN.bag e24 BL, TB24⟩
  · rintro σ H' ⟨v2, v3, v4, v5, v6, v7, rfl, B, TB2⟩
    walk_at "rd"
    refine ⟨szb rfl, fun p np => ?_⟩
    refine s_eqD (Hd.tup (N := N0) (T.w_ORIGIN _) (HdL.ints [0, 0, 0])) (Hd.tup (N := N0) (.of upd_same) (HdL.ints [0, 0, 0])) (by decide +kernel) (by decide +kernel) ?_
    rw [show PyData.eqv (.tuple ([0, 0, 0].map PyData.int)) (.tuple ([0, 0, 0].map PyData.int)) = true from by decide +kernel]
    walk_at "rd"
    rw [decide_eq_true rfl]
    exact k _
end My
namespace My
open PySem PySem.Spec PyProof.Rows L2 RZ
open LamX (ExtN Tabs TabS TabB CodeO)
theorem all_mk {l : PySem.W.OpenLaw} {w : World} {K : PySem.W.Frag} {h : Heap} {mg : Str → Option Value} {fa : Addr} (X : K.In h) (G : h.Ns mainGlobals mg) (hfa : mg "law" = some (.ref fa))
    {CNotsError : Addr} {CAbsent : Addr} {CInvalidSituation : Addr} {qInvalidSituation nmInvalidSituation : Str} {NInvalidSituation : Addr} {bsInvalidSituation suInvalidSituation : List Value} {snInvalidSituation : List Str} {abInvalidSituation : Bool} {coInvalidSituation : Option Bool} {ddInvalidSituation : Option Addr} {m0InvalidSituation m1InvalidSituation m2InvalidSituation m3InvalidSituation m5InvalidSituation : Option Value} {od0 an0 : Option Addr} {sl0 : Array (Option Value)} {oc0 kV0 dc0 pm0 ct0 : Value} {f0 : Addr} {cd0 : Value} {od1 an1 : Option Addr} {sl1 : Array (Option Value)} {oc1 kV1 dc1 pm1 ct1 : Value} {f1 : Addr} {cd1 : Value} {od2 an2 : Option Addr} {sl2 : Array (Option Value)} {oc2 kV2 dc2 pm2 ct2 : Value} {f2 : Addr} {cd2 : Value} {od3 an3 : Option Addr} {sl3 : Array (Option Value)} {oc3 kV3 dc3 pm3 ct3 : Value} {f3 : Addr} {cd3 : Value} {od4 an4 : Option Addr} {sl4 : Array (Option Value)} {oc4 kV4 dc4 pm4 ct4 : Value} {f4 : Addr} {cd4 : Value} {od5 an5 : Option Addr} {sl5 : Array (Option Value)} {oc5 kV5 dc5 pm5 ct5 : Value} {f5 : Addr} {cd5 : Value} {od6 an6 : Option Addr} {sl6 : Array (Option Value)} {oc6 kV6 dc6 pm6 ct6 : Value} {f6 : Addr} {cd6 : Value} {od7 an7 : Option Addr} {sl7 : Array (Option Value)} {oc7 kV7 dc7 pm7 ct7 : Value} {f7 : Addr} {cd7 : Value} {od8 an8 : Option Addr} {sl8 : Array (Option Value)} {oc8 kV8 dc8 pm8 ct8 : Value} {f8 : Addr} {cd8 : Value} {od9 an9 : Option Addr} {sl9 : Array (Option Value)} {oc9 kV9 dc9 pm9 ct9 : Value} {f9 : Addr} {cd9 : Value} {od10 an10 : Option Addr} {sl10 : Array (Option Value)} {oc10 kV10 dc10 pm10 ct10 : Value} {f10 : Addr} {cd10 : Value} {od11 an11 : Option Addr} {sl11 : Array (Option Value)} {oc11 kV11 dc11 pm11 ct11 : Value} {f11 : Addr} {cl11 Pl11 : Addr} {ce11 : Value} {cdd11 : Option Addr} {cvs11 : Array Value} {csl11 : Array (Option Value)} {tk0 : Tok} {DORIGIN : Addr} {DdORIGIN : Option Addr} {DnORIGIN : Nat} {DsORIGIN : Array (Option Value)} {DtORIGIN_0 : Tok} {DtORIGIN_1 : Tok} {DtORIGIN_2 : Tok}
    (aNotsError : PySem.W.nsIn K mainGlobals "NotsError" = some (some (.ref CNotsError)))
    (uNotsError : PySem.W.subIn K (.ref CNotsError) (.type "BaseException") = some true)
    (iNotsError : PySem.W.isClsIn K CNotsError = true)
    (tNotsError : PySem.W.typeIn K (.ref CNotsError) = some (.type "type"))
    (aAbsent : PySem.W.nsIn K mainGlobals "Absent" = some (some (.ref CAbsent)))
    (uAbsent : PySem.W.subIn K (.ref CAbsent) (.type "BaseException") = some true)
    (iAbsent : PySem.W.isClsIn K CAbsent = true)
    (tAbsent : PySem.W.typeIn K (.ref CAbsent) = some (.type "type"))
    (aInvalidSituation : PySem.W.nsIn K mainGlobals "InvalidSituation" = some (some (.ref CInvalidSituation)))
    (xInvalidSituation : K.lookup CInvalidSituation = some (excClassObj nmInvalidSituation qInvalidSituation CInvalidSituation NInvalidSituation bsInvalidSituation [.ref CNotsError, .type "ValueError", .type "Exception", .type "BaseException", .type "object"] true snInvalidSituation suInvalidSituation abInvalidSituation coInvalidSituation ddInvalidSituation m0InvalidSituation m1InvalidSituation m2InvalidSituation m3InvalidSituation m5InvalidSituation "ValueError.__new__"))
    (saInvalidSituation : PySem.W.findIn K (.ref CInvalidSituation) "__setattr__" = some (some (.builtin "object.__setattr__")))
    (gaInvalidSituation : PySem.W.findIn K (.ref CInvalidSituation) "__getattribute__" = some (some (.builtin "BaseException.__getattribute__")))
    (ggInvalidSituation : PySem.W.findIn K (.ref CInvalidSituation) "__getattr__" = some (none))
    (nInvalidSituation_word : PySem.W.findIn K (.ref CInvalidSituation) "word" = some none)
    (kInvalidSituation : PySem.W.keepIn K (.ref CInvalidSituation) = true)
    (eInvalidSituation : PySem.W.subIn K (.ref CInvalidSituation) (.type "BaseException") = some true)
    (tInvalidSituation : PySem.W.typeIn K (.ref CInvalidSituation) = some (.type "type"))
    (hInvalidSituation : PySem.W.hasDictIn K CInvalidSituation = true)
    (sInvalidSituation_NotsError : PySem.W.subIn K (.ref CInvalidSituation) (.ref CNotsError) = some true)
    (sInvalidSituation_Absent : PySem.W.subIn K (.ref CInvalidSituation) (.ref CAbsent) = some false)
    (a0 : PySem.W.findIn K (.ref CInvalidSituation) "__init__" = some (some (.ref f0)))
    (t0 : PySem.W.typeIn K (.ref f0) = some (.type "function"))
    (l0 : K.lookup f0 = some ⟨oc0, od0, .func (PySem.W.fnOf "__init__" "InvalidSituation.__init__" (defArgs s_InvalidSituation____init__) (defBody s_InvalidSituation____init__) (defScope s_InvalidSituation____init__) .none kV0 dc0 pm0 an0 cd0 ct0), sl0⟩)
    (c0 : PySem.W.codeIn K cd0 "InvalidSituation.__init__" = true)
    (k0 : PySem.W.keepIn K (.ref f0) = true)
    (a1 : PySem.W.nsIn K mainGlobals "is_integer" = some (some (.ref f1)))
    (l1 : K.lookup f1 = some ⟨oc1, od1, .func (PySem.W.fnOf "is_integer" "is_integer" (defArgs s_is_integer) (defBody s_is_integer) (defScope s_is_integer) .none kV1 dc1 pm1 an1 cd1 ct1), sl1⟩)
    (c1 : PySem.W.codeIn K cd1 "is_integer" = true)
    (k1 : PySem.W.keepIn K (.ref f1) = true)
    (a2 : PySem.W.nsIn K mainGlobals "check_situation" = some (some (.ref f2)))
    (l2 : K.lookup f2 = some ⟨oc2, od2, .func (PySem.W.fnOf "check_situation" "check_situation" (defArgs s_check_situation) (defBody s_check_situation) (defScope s_check_situation) .none kV2 dc2 pm2 an2 cd2 ct2), sl2⟩)
    (c2 : PySem.W.codeIn K cd2 "check_situation" = true)
    (k2 : PySem.W.keepIn K (.ref f2) = true)
    (a3 : PySem.W.nsIn K mainGlobals "_law_bag" = some (some (.ref f3)))
    (l3 : K.lookup f3 = some ⟨oc3, od3, .func (PySem.W.fnOf "_law_bag" "_law_bag" (defArgs s__law_bag) (defBody s__law_bag) (defScope s__law_bag) .none kV3 dc3 pm3 an3 cd3 ct3), sl3⟩)
    (c3 : PySem.W.codeIn K cd3 "_law_bag" = true)
    (k3 : PySem.W.keepIn K (.ref f3) = true)
    (a4 : PySem.W.nsIn K mainGlobals "_law_pull" = some (some (.ref f4)))
    (l4 : K.lookup f4 = some ⟨oc4, od4, .func (PySem.W.fnOf "_law_pull" "_law_pull" (defArgs s__law_pull) (defBody s__law_pull) (defScope s__law_pull) .none kV4 dc4 pm4 an4 cd4 ct4), sl4⟩)
    (c4 : PySem.W.codeIn K cd4 "_law_pull" = true)
    (k4 : PySem.W.keepIn K (.ref f4) = true)
    (a5 : PySem.W.nsIn K mainGlobals "_law_of" = some (some (.ref f5)))
    (l5 : K.lookup f5 = some ⟨oc5, od5, .func (PySem.W.fnOf "_law_of" "_law_of" (defArgs s__law_of) (defBody s__law_of) (defScope s__law_of) .none kV5 dc5 pm5 an5 cd5 ct5), sl5⟩)
    (c5 : PySem.W.codeIn K cd5 "_law_of" = true)
    (k5 : PySem.W.keepIn K (.ref f5) = true)
    (a6 : PySem.W.nsIn K mainGlobals "_law_great" = some (some (.ref f6)))
    (l6 : K.lookup f6 = some ⟨oc6, od6, .func (PySem.W.fnOf "_law_great" "_law_great" (defArgs s__law_great) (defBody s__law_great) (defScope s__law_great) .none kV6 dc6 pm6 an6 cd6 ct6), sl6⟩)
    (c6 : PySem.W.codeIn K cd6 "_law_great" = true)
    (k6 : PySem.W.keepIn K (.ref f6) = true)
    (a7 : PySem.W.nsIn K mainGlobals "_law_field" = some (some (.ref f7)))
    (l7 : K.lookup f7 = some ⟨oc7, od7, .func (PySem.W.fnOf "_law_field" "_law_field" (defArgs s__law_field) (defBody s__law_field) (defScope s__law_field) .none kV7 dc7 pm7 an7 cd7 ct7), sl7⟩)
    (c7 : PySem.W.codeIn K cd7 "_law_field" = true)
    (k7 : PySem.W.keepIn K (.ref f7) = true)
    (a8 : PySem.W.nsIn K mainGlobals "_law_tried" = some (some (.ref f8)))
    (l8 : K.lookup f8 = some ⟨oc8, od8, .func (PySem.W.fnOf "_law_tried" "_law_tried" (defArgs s__law_tried) (defBody s__law_tried) (defScope s__law_tried) .none kV8 dc8 pm8 an8 cd8 ct8), sl8⟩)
    (c8 : PySem.W.codeIn K cd8 "_law_tried" = true)
    (k8 : PySem.W.keepIn K (.ref f8) = true)
    (a9 : PySem.W.nsIn K mainGlobals "_law_small" = some (some (.ref f9)))
    (l9 : K.lookup f9 = some ⟨oc9, od9, .func (PySem.W.fnOf "_law_small" "_law_small" (defArgs s__law_small) (defBody s__law_small) (defScope s__law_small) .none kV9 dc9 pm9 an9 cd9 ct9), sl9⟩)
    (c9 : PySem.W.codeIn K cd9 "_law_small" = true)
    (k9 : PySem.W.keepIn K (.ref f9) = true)
    (a10 : PySem.W.nsIn K mainGlobals "_law_situation" = some (some (.ref f10)))
    (l10 : K.lookup f10 = some ⟨oc10, od10, .func (PySem.W.fnOf "_law_situation" "_law_situation" (defArgs s__law_situation) (defBody s__law_situation) (defScope s__law_situation) .none kV10 dc10 pm10 an10 cd10 ct10), sl10⟩)
    (c10 : PySem.W.codeIn K cd10 "_law_situation" = true)
    (k10 : PySem.W.keepIn K (.ref f10) = true)
    (a11 : PySem.W.nsIn K mainGlobals "law" = some (some (.ref f11)))
    (l11 : K.lookup f11 = some ⟨oc11, od11, .func (PySem.W.fnOf "law" "law" (defArgs s_law) (defBody s_law) (defScope s_law) .none kV11 dc11 pm11 an11 (.ref cl11) ct11), sl11⟩)
    (c11 : PySem.W.codeIn K (.ref cl11) "law" = true)
    (k11 : PySem.W.keepIn K (.ref f11) = true)
    (ca11 : K.lookup cl11 = some ⟨ce11, cdd11, .fields cvs11, csl11⟩)
    (cb11 : cvs11[11]? = some (.ref Pl11))
    (cc11 : PySem.W.codeHdIn K cl11 Pl11 = true)
    (cn11 : K.lookup Pl11 = none)
    (cz11 : h.get? Pl11 = some { cls := .none, data := .fields #[] })
    (gk0 : PySem.W.nsIn K mainGlobals "COUNTS" = some (some (.str "abc" tk0)))
    (a_ORIGIN : PySem.W.nsIn K mainGlobals "ORIGIN" = some (some (.ref DORIGIN)))
    (l_ORIGIN : K.lookup DORIGIN = some ⟨.type "tuple", DdORIGIN, .seq #[.int 0 DtORIGIN_0, .int 0 DtORIGIN_1, .int 0 DtORIGIN_2] DnORIGIN, DsORIGIN⟩)
    (z0 : PySem.W.nsIn K mainGlobals "all" = some none)
    (z1 : PySem.W.nsIn K mainGlobals "bool" = some none)
    (z2 : PySem.W.nsIn K mainGlobals "int" = some none)
    (z3 : PySem.W.nsIn K mainGlobals "isinstance" = some none)
    (z4 : PySem.W.nsIn K mainGlobals "len" = some none)
    (z5 : PySem.W.nsIn K mainGlobals "list" = some none)
    (z6 : PySem.W.nsIn K mainGlobals "range" = some none)
    (z7 : PySem.W.nsIn K mainGlobals "tuple" = some none) :
    LamX.LawAtS l w K CX0 lv_law 63 "_law_script" mg fa h := by
  have e := hfa.symm.trans (PySem.W.mg_of X G a11)
  cases e
  have F0 := fun_mk (st := s_InvalidSituation____init__) l0 c0 k0
  have b0 := F0.binds (ps := ["self"]) fun _ _ _ _ _ _ us hl => match us, hl with | [_], _ => rfl
  have F1 := fun_mk (st := s_is_integer) l1 c1 k1
  have b1 := F1.binds (ps := ["value"]) fun _ _ _ _ _ _ us hl => match us, hl with | [_], _ => rfl
  have F2 := fun_mk (st := s_check_situation) l2 c2 k2
  have b2 := F2.binds (ps := ["situation"]) fun _ _ _ _ _ _ us hl => match us, hl with | [_], _ => rfl
  have F3 := fun_mk (st := s__law_bag) l3 c3 k3
  have b3 := F3.binds (ps := ["_law_script"]) fun _ _ _ _ _ _ us hl => match us, hl with | [_], _ => rfl
  have F4 := fun_mk (st := s__law_pull) l4 c4 k4
  have b4 := F4.binds (ps := ["_law_bag_here", "_law_many"]) fun _ _ _ _ _ _ us hl => match us, hl with | [_, _], _ => rfl
  have F5 := fun_mk (st := s__law_of) l5 c5 k5
  have b5 := F5.binds (ps := ["_law_bag_here", "_law_things"]) fun _ _ _ _ _ _ us hl => match us, hl with | [_, _], _ => rfl
  have F6 := fun_mk (st := s__law_great) l6 c6 k6
  have b6 := F6.binds (ps := ["_law_bag_here"]) fun _ _ _ _ _ _ us hl => match us, hl with | [_], _ => rfl
  have F7 := fun_mk (st := s__law_field) l7 c7 k7
  have b7 := F7.binds (ps := ["_law_e"]) fun _ _ _ _ _ _ us hl => match us, hl with | [_], _ => rfl
  have F8 := fun_mk (st := s__law_tried) l8 c8 k8
  have b8 := F8.binds (ps := ["_law_ask"]) fun _ _ _ _ _ _ us hl => match us, hl with | [_], _ => rfl
  have F9 := fun_mk (st := s__law_small) l9 c9 k9
  have b9 := F9.binds (ps := ["_law_bag_here"]) fun _ _ _ _ _ _ us hl => match us, hl with | [_], _ => rfl
  have F10 := fun_mk (st := s__law_situation) l10 c10 k10
  have b10 := F10.binds (ps := ["_law_bag_here"]) fun _ _ _ _ _ _ us hl => match us, hl with | [_], _ => rfl
  have F11 := fun_mk (st := s_law) l11 c11 k11
  have b11 := F11.binds (ps := ["_law_script"]) fun _ _ _ _ _ _ us hl => match us, hl with | [_], _ => rfl
  let T : Txt K mg := { c_NotsError := CNotsError, g_NotsError := PySem.W.mg_of X G aNotsError, c_Absent := CAbsent, g_Absent := PySem.W.mg_of X G aAbsent, c_InvalidSituation := CInvalidSituation, g_InvalidSituation := PySem.W.mg_of X G aInvalidSituation, T_InvalidSituation := ⟨⟨nmInvalidSituation, qInvalidSituation, NInvalidSituation, bsInvalidSituation, _, snInvalidSituation, suInvalidSituation, abInvalidSituation, coInvalidSituation, ddInvalidSituation, m0InvalidSituation, m1InvalidSituation, m2InvalidSituation, m3InvalidSituation, m5InvalidSituation, xInvalidSituation, rfl⟩, saInvalidSituation, eInvalidSituation, tInvalidSituation, kInvalidSituation⟩, x_InvalidSituation := ⟨gaInvalidSituation, ggInvalidSituation, eInvalidSituation, hInvalidSituation⟩, n_InvalidSituation_word := nInvalidSituation_word, e_InvalidSituation_NotsError := exm_self uNotsError iNotsError tNotsError sInvalidSituation_NotsError, e_InvalidSituation_Absent := exm_self uAbsent iAbsent tAbsent sInvalidSituation_Absent, f_InvalidSituation____init__ := f0, fd_InvalidSituation____init__ := _, F_InvalidSituation____init__ := F0, b_InvalidSituation____init__ := b0, iC_InvalidSituation := a0, tI_InvalidSituation := t0, f_is_integer := f1, fd_is_integer := _, F_is_integer := F1, b_is_integer := b1, g_is_integer := PySem.W.mg_of X G a1, f_check_situation := f2, fd_check_situation := _, F_check_situation := F2, b_check_situation := b2, g_check_situation := PySem.W.mg_of X G a2, f__law_bag := f3, fd__law_bag := _, F__law_bag := F3, b__law_bag := b3, g__law_bag := PySem.W.mg_of X G a3, f__law_pull := f4, fd__law_pull := _, F__law_pull := F4, b__law_pull := b4, g__law_pull := PySem.W.mg_of X G a4, f__law_of := f5, fd__law_of := _, F__law_of := F5, b__law_of := b5, g__law_of := PySem.W.mg_of X G a5, f__law_great := f6, fd__law_great := _, F__law_great := F6, b__law_great := b6, g__law_great := PySem.W.mg_of X G a6, f__law_field := f7, fd__law_field := _, F__law_field := F7, b__law_field := b7, g__law_field := PySem.W.mg_of X G a7, f__law_tried := f8, fd__law_tried := _, F__law_tried := F8, b__law_tried := b8, g__law_tried := PySem.W.mg_of X G a8, f__law_small := f9, fd__law_small := _, F__law_small := F9, b__law_small := b9, g__law_small := PySem.W.mg_of X G a9, f__law_situation := f10, fd__law_situation := _, F__law_situation := F10, b__law_situation := b10, g__law_situation := PySem.W.mg_of X G a10, f_law := fa, fd_law := _, F_law := F11, b_law := b11, g_law := PySem.W.mg_of X G a11, c_law := cl11, P_law := Pl11, lk_law := ⟨oc11, od11, kV11, dc11, pm11, an11, ct11, sl11, rfl, l11, c11⟩, tk_COUNTS := tk0, g_COUNTS := PySem.W.mg_of X G gk0, g_ORIGIN := PySem.W.mg_of X G a_ORIGIN, c_ORIGIN := DORIGIN, w_ORIGIN := tupK l_ORIGIN (Nat.le_of_ble_eq_true rfl) (.cons ⟨_, rfl⟩ (.cons ⟨_, rfl⟩ (.cons ⟨_, rfl⟩ (.nil)))), z_all := PySem.W.mg_none_of X G z0, z_bool := PySem.W.mg_none_of X G z1, z_int := PySem.W.mg_none_of X G z2, z_isinstance := PySem.W.mg_none_of X G z3, z_len := PySem.W.mg_none_of X G z4, z_list := PySem.W.mg_none_of X G z5, z_range := PySem.W.mg_none_of X G z6, z_tuple := PySem.W.mg_none_of X G z7 }
  refine ⟨PySem.W.fnOf "law" "law" (defArgs s_law) (defBody s_law) (defScope s_law) .none kV11 dc11 pm11 an11 (.ref cl11) ct11, [(cl11, Pl11)], sp_law K Pl11, fun p hp => ?_, fun p hp => ?_, fun p hp => ?_, fun s v => .of_eq rfl, fun H a ns hl hb hT hS => ⟨a, ns, rfl, hS, hl, hT _ (List.mem_singleton.mpr rfl), fun _ => rfl⟩, fun base _ _ TB => ok_law T (TB _ (List.mem_singleton.mpr rfl))⟩
  · rw [List.mem_singleton.mp hp]; exact cz11
  · rw [List.mem_singleton.mp hp]; exact cn11
  · rw [List.mem_singleton.mp hp]; exact PySem.W.codeHd_of_K X cc11
end My
open PySem PySem.W PyProof.Rows
set_option maxRecDepth 100000 in
set_option maxHeartbeats 0 in
theorem PySem.Challenge.cw_sparenots_k02_checked_situations_holds : PySem.Challenge.rw_sparenots_k02_checked_situations.Holds := by
  w_on; o_law; k_head; (case hw => w_witness2)
  k_fill
  refine LamX.walk_ofTs (l := PySem.Challenge.rw_sparenots_k02_checked_situations) (n := 63) (k := My.lv_law) (x := "_law_script") (CX := fun _ => L2.CX0) rfl (by decide) rfl ⟨rfl, by decide, by decide⟩ (fun w h Y => PySem.W.km_in_of Y) ?F (fun _ _ _ _ _ h => h)
  case F =>
    intro w mg fa h YY KX G hmg
    refine' My.all_mk KX G hmg ?aNotsError ?uNotsError ?iNotsError ?tNotsError ?aAbsent ?uAbsent ?iAbsent ?tAbsent ?aInvalidSituation ?xInvalidSituation ?saInvalidSituation ?gaInvalidSituation ?ggInvalidSituation ?nInvalidSituation_word ?kInvalidSituation ?eInvalidSituation ?tInvalidSituation ?hInvalidSituation ?sInvalidSituation_NotsError ?sInvalidSituation_Absent ?a0 ?t0 ?l0 ?c0 ?k0 ?a1 ?l1 ?c1 ?k1 ?a2 ?l2 ?c2 ?k2 ?a3 ?l3 ?c3 ?k3 ?a4 ?l4 ?c4 ?k4 ?a5 ?l5 ?c5 ?k5 ?a6 ?l6 ?c6 ?k6 ?a7 ?l7 ?c7 ?k7 ?a8 ?l8 ?c8 ?k8 ?a9 ?l9 ?c9 ?k9 ?a10 ?l10 ?c10 ?k10 ?a11 ?l11 ?c11 ?k11 ?ca11 ?cb11 ?cc11 ?cn11 ?cz11 ?gk0 ?a_ORIGIN ?l_ORIGIN ?z0 ?z1 ?z2 ?z3 ?z4 ?z5 ?z6 ?z7
    (case aNotsError => k_is)
    (case uNotsError => k_is)
    (case iNotsError => k_is)
    (case tNotsError => k_is)
    (case aAbsent => k_is)
    (case uAbsent => k_is)
    (case iAbsent => k_is)
    (case tAbsent => k_is)
    (case aInvalidSituation => k_is)
    (case xInvalidSituation => k_is)
    (case saInvalidSituation => k_is)
    (case gaInvalidSituation => k_is)
    (case ggInvalidSituation => k_is)
    (case nInvalidSituation_word => k_is)
    (case kInvalidSituation => k_is)
    (case eInvalidSituation => k_is)
    (case tInvalidSituation => k_is)
    (case hInvalidSituation => k_is)
    (case sInvalidSituation_NotsError => first | rfl | k_is)
    (case sInvalidSituation_Absent => first | rfl | k_is)
    (case a0 => k_is)
    (case t0 => k_is)
    (case l0 => k_is)
    (case c0 => k_is)
    (case k0 => k_is)
    (case a1 => k_is)
    (case l1 => k_is)
    (case c1 => k_is)
    (case k1 => k_is)
    (case a2 => k_is)
    (case l2 => k_is)
    (case c2 => k_is)
    (case k2 => k_is)
    (case a3 => k_is)
    (case l3 => k_is)
    (case c3 => k_is)
    (case k3 => k_is)
    (case a4 => k_is)
    (case l4 => k_is)
    (case c4 => k_is)
    (case k4 => k_is)
    (case a5 => k_is)
    (case l5 => k_is)
    (case c5 => k_is)
    (case k5 => k_is)
    (case a6 => k_is)
    (case l6 => k_is)
    (case c6 => k_is)
    (case k6 => k_is)
    (case a7 => k_is)
    (case l7 => k_is)
    (case c7 => k_is)
    (case k7 => k_is)
    (case a8 => k_is)
    (case l8 => k_is)
    (case c8 => k_is)
    (case k8 => k_is)
    (case a9 => k_is)
    (case l9 => k_is)
    (case c9 => k_is)
    (case k9 => k_is)
    (case a10 => k_is)
    (case l10 => k_is)
    (case c10 => k_is)
    (case k10 => k_is)
    (case a11 => k_is)
    (case l11 => k_is)
    (case c11 => k_is)
    (case k11 => k_is)
    (case ca11 => k_is)
    (case cb11 => rfl)
    (case cc11 => first | rfl | decide +kernel)
    (case cn11 => first | rfl | decide +kernel)
    (case cz11 => exact PySem.W.km_tabs_of YY _ (by decide))
    (case gk0 => k_is)
    (case a_ORIGIN => k_is)
    (case l_ORIGIN => k_is)
    (case z0 => k_is)
    (case z1 => k_is)
    (case z2 => k_is)
    (case z3 => k_is)
    (case z4 => k_is)
    (case z5 => k_is)
    (case z6 => k_is)
    (case z7 => k_is)
