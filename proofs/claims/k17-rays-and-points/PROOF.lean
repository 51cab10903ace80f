import PyProof.Rows.All
import Wide.All
import OpenK.AllK
import Wide.FinOn
import HandS.ForMost
import HandS.ForExc
import HandS.Evl
import HandS.IsInst
import HandS.Wide
import HandS.WideBits
import HandS.TupAny
import HandS.Flow
import HandS.Walk
import HandS.Zip
import HandS.ExcInit
import HandS.ExcField
import HandS.TryMany
import HandS.HotCalls
import HandS.Lambda
import HandS.Nested
import HandS.EndOwn
import HandS.GenCall
import HandS.GenList
import HandS.FStr
import HandS.SortKw
import HandS.Replace
import HandS.TupMul
import KE.DatumOrd
import KE.GoesMore
import KE.GoesEnum
import KE.GoesZip
import KE.KOpsOwn
import KE.KCallOwn
import HandS.ClsMeth
import KE.KeyNested
import KE.SortData
import KE.KDictPairs
import HandS.Set
import HandS.SetTxt0
import HandS.SetBool
import KE.GoesSet
import HandS.Conv
import HandS.Iter
import HandS.DictComp
import KE.GoesRaise
import HandS.Defaults
import HandS.MakeKw
import HandS.MakeKwOnly
import HandS.Property
import HandS.OwnEq
import HandS.RaiseMore
import HandS.Style
import HandS.Star
import KE.SortKeyHeap
import PySem.Challenge.RW_sparenots_k17_rays_and_points
set_option Elab.async false
set_option linter.all false
set_option maxRecDepth 100000
set_option maxHeartbeats 4000000
namespace My
open PySem PySem.Spec PyProof.Rows L2 RZ
abbrev St := L2.St
def rPar (i j : Nat) (σ : St) (nx : St → Hp → Prop) : List V → Hp → Prop := fun vs H => ∃ v w, vs = [v, w] ∧ nx ((σ.set i (some v)).set j (some w)) H
section steps
variable {σ σ' : St} {H H1 : Hp} {i j : Nat} {v x y z : V} {ta tb te tc : TE} {t u : TS} {c c' : TT} {b : Bool} {K : PySem.W.Frag} {a p : Addr} {Q : VK} {QT : Bool → Hp → Prop} {nx bk ct : St → Hp → Prop} {rt : VK} {tr : TA} {QA : List V → Hp → Prop}
theorem s_var (h : σ[i]? = some (some v)) (q : Q v H) : tVar i σ H Q := ⟨v, h, q⟩
theorem s_c (q : Q v H) : tC v σ H Q := q
theorem s_op {r : R2} (h : ta σ H fun x H1 => tb σ H1 fun y H2 => r x y H2 Q) : tOp r ta tb σ H Q := h
theorem s_un {r : V → Hp → VK → Prop} (h : ta σ H fun x H1 => r x H1 Q) : tUn r ta σ H Q := h
theorem s_rI0 {g : Int → Int → V} {m n : Int} (q : Q (g m n) H) : rI0 g (.int m) (.int n) H Q := ⟨m, n, rfl, rfl, q⟩
theorem s_rI {C : Int → Int → Prop} {g : Int → Int → V} {m n : Int} (hc : C m n) (q : Q (g m n) H) : rI C g (.int m) (.int n) H Q := ⟨m, n, rfl, rfl, hc, q⟩
theorem s_rU {g : Int → V} {m : Int} (q : Q (g m) H) : rU g (.int m) H Q := ⟨m, rfl, q⟩
theorem s_rEqI {m n : Int} (q : Q (.bl (decide (m = n))) H) : rEq (.int m) (.int n) H Q := ⟨rfl, by
  have e : decide (V.int m = V.int n) = decide (m = n) := decide_eq_decide.mpr ⟨fun h => V.int.inj h, fun h => by rw [h]⟩
  rw [e]; exact q⟩
theorem s_rNeI {m n : Int} (q : Q (.bl (!decide (m = n))) H) : rNe (.int m) (.int n) H Q := ⟨rfl, by
  have e : decide (V.int m = V.int n) = decide (m = n) := decide_eq_decide.mpr ⟨fun h => V.int.inj h, fun h => by rw [h]⟩
  rw [e]; exact q⟩
theorem s_rEqS {m n : Str} (q : Q (.bl (decide (m = n))) H) : rEq (.str m) (.str n) H Q := ⟨rfl, by
  have e : decide (V.str m = V.str n) = decide (m = n) := decide_eq_decide.mpr ⟨fun h => V.str.inj h, fun h => by rw [h]⟩
  rw [e]; exact q⟩
theorem s_rNeS {m n : Str} (q : Q (.bl (!decide (m = n))) H) : rNe (.str m) (.str n) H Q := ⟨rfl, by
  have e : decide (V.str m = V.str n) = decide (m = n) := decide_eq_decide.mpr ⟨fun h => V.str.inj h, fun h => by rw [h]⟩
  rw [e]; exact q⟩
theorem s_rEqB {m n : Bool} (q : Q (.bl (decide (m = n))) H) : rEq (.bl m) (.bl n) H Q := ⟨rfl, by
  have e : decide (V.bl m = V.bl n) = decide (m = n) := decide_eq_decide.mpr ⟨fun h => V.bl.inj h, fun h => by rw [h]⟩
  rw [e]; exact q⟩
theorem s_rNeB {m n : Bool} (q : Q (.bl (!decide (m = n))) H) : rNe (.bl m) (.bl n) H Q := ⟨rfl, by
  have e : decide (V.bl m = V.bl n) = decide (m = n) := decide_eq_decide.mpr ⟨fun h => V.bl.inj h, fun h => by rw [h]⟩
  rw [e]; exact q⟩
theorem s_test (h : te σ H fun x H' => ∃ k, x = .bl k ∧ QT k H') : tTest te σ H QT := h
theorem s_B (h : te σ H fun x H' => ∃ k, x = .bl k ∧ QT k H') : tB te σ H QT := h
theorem s_and (h : c σ H fun k H1 => if k = true then c' σ H1 QT else QT false H1) : tAnd c c' σ H QT := h
theorem s_or (h : c σ H fun k H1 => if k = true then QT true H1 else c' σ H1 QT) : tOr c c' σ H QT := h
theorem s_not (h : c σ H fun k H1 => QT (!k) H1) : tNot c σ H QT := h
theorem s_andV (h : ta σ H fun x H1 => ∃ k, x = .bl k ∧ if k = true then tb σ H1 Q else Q (.bl false) H1) : tAndV ta tb σ H Q := h
theorem s_orV (h : ta σ H fun x H1 => ∃ k, x = .bl k ∧ if k = true then Q (.bl true) H1 else tb σ H1 Q) : tOrV ta tb σ H Q := h
theorem s_notV (h : ta σ H fun x H1 => ∃ k, x = .bl k ∧ Q (.bl (!k)) H1) : tNotV ta σ H Q := h
theorem s_exbP {P : Bool → Prop} (q : P b) : ∃ k, V.bl b = .bl k ∧ P k := ⟨b, rfl, q⟩
theorem s_if (h : c σ H fun k H1 => if k = true then ta σ H1 Q else tb σ H1 Q) : tIf c ta tb σ H Q := h
theorem s_nil (q : QA [] H) : tNil σ H QA := q
theorem s_cons (h : ta σ H fun x H1 => tr σ H1 fun xs H2 => QA (x :: xs) H2) : tCons ta tr σ H QA := h
theorem s_tup (h : tr σ H fun xs H1 => xs.length ≤ sizeLine ∧ ∀ p, H1 p = none → Q (.ref p) (upd H1 p (.tup xs))) : tTup tr σ H Q := h
theorem s_lst (h : tr σ H fun xs H1 => xs.length ≤ sizeLine ∧ ∀ p, H1 p = none → Q (.ref p) (upd H1 p (.lst xs))) : tLst tr σ H Q := h
theorem s_CB {r : List V → Hp → VK → Prop} (h : tr σ H fun vs H1 => r vs H1 Q) : tCB r tr σ H Q := h
theorem s_BM {T : String} {r : V → List V → Hp → VK → Prop} (h : te σ H fun x H1 => tyV K T x H1 ∧ tr σ H1 fun xs H2 => r x xs H2 Q) : tBM K T r te tr σ H Q := h
theorem s_BM0 {T : String} {r : V → List V → Hp → VK → Prop} (h : te σ H fun x H1 => tyV K T x H1 ∧ r x [] H1 Q) : tBM0 K T r te σ H Q := h
theorem s_call {sp : Sp} {E : XK} (h : tr σ H fun vs H1 => sp vs H1 Q E) : tCall sp [] E tr σ H Q := by
  unfold tCall
  simpa only [List.append_nil] using h
theorem s_seq (h : t ⟨fun σ' H' => u ⟨nx, rt, bk, ct⟩ σ' H', rt, bk, ct⟩ σ H) : tSeq t u ⟨nx, rt, bk, ct⟩ σ H := h
theorem s_ret (h : te σ H rt) : tRet te ⟨nx, rt, bk, ct⟩ σ H := h
theorem s_retN (h : rt .non H) : tRetN ⟨nx, rt, bk, ct⟩ σ H := h
theorem s_next (h : nx σ H) : tNext ⟨nx, rt, bk, ct⟩ σ H := h
theorem s_break (h : bk σ H) : tBreak ⟨nx, rt, bk, ct⟩ σ H := h
theorem s_cont (h : ct σ H) : tCont ⟨nx, rt, bk, ct⟩ σ H := h
theorem s_asg {g : TG} (h : te σ H fun x H1 => g x σ H1 nx) : tAsg te g ⟨nx, rt, bk, ct⟩ σ H := h
theorem s_name (e : σ.set i (some v) = σ') (h : nx σ' H) : gName i v σ H nx := by unfold gName; rw [e]; exact h
theorem s_drop (h : te σ H fun _ H1 => nx σ H1) : tDrop te ⟨nx, rt, bk, ct⟩ σ H := h
theorem s_ifS (h : c σ H fun k H1 => if k = true then t ⟨nx, rt, bk, ct⟩ σ H1 else u ⟨nx, rt, bk, ct⟩ σ H1) : tIfS c t u ⟨nx, rt, bk, ct⟩ σ H := h
theorem s_par (h : tr σ H fun vs H1 => rPar i j σ nx vs H1) : tPar i j tr ⟨nx, rt, bk, ct⟩ σ H := h
theorem s_par2 (e : (σ.set i (some v)).set j (some x) = σ') (h : nx σ' H) : rPar i j σ nx [v, x] H := ⟨v, x, rfl, by rw [e]; exact h⟩
theorem s_sub {ti to : TE} {s : TSet} {w : V} (h : to σ H fun o H1 => ti σ H1 fun i H2 => s o i w H2 fun H3 => nx σ H3) : gSub to ti s w σ H nx := h
theorem s_setL {xs : List V} {k : Int} {n : Nat} {w : V} {R : Hp → Prop} (h : H p = some (.lst xs)) (e : ixN xs.length k = some n) (q : R (upd H p (.lst (xs.set n w)))) : rSetL (.ref p) (.int k) w H R := ⟨p, xs, k, n, rfl, rfl, h, e, q⟩
theorem s_ixL {xs : List V} {k : Int} (h : SqL K H p xs) (e : atI xs k = some v) (q : Q v H) : rIx K (.ref p) (.int k) H Q := .inl ⟨p, xs, k, v, rfl, rfl, h, e, q⟩
theorem s_ixT {xs : List V} {k : Int} (h : SqT K H p xs) (e : atI xs k = some v) (q : Q v H) : rIx K (.ref p) (.int k) H Q := .inr (.inl ⟨p, xs, k, v, rfl, rfl, h, e, q⟩)
theorem s_ixS {w : Str} {k : Int} {n : Nat} (h : w.length ≤ sizeLine) (e : atI w.cps.toList k = some n) (q : Q (.str ⟨#[n]⟩) H) : rIx K (.str w) (.int k) H Q := .inr (.inr ⟨w, k, n, rfl, rfl, h, e, q⟩)
end steps
/-- tests -/
theorem if_dec {p A B : Prop} [Decidable p] (h1 : p → A) (h2 : ¬ p → B) : if decide p = true then A else B := by
  by_cases h : p
  · rw [if_pos (decide_eq_true h)]; exact h1 h
  · rw [if_neg (by rw [decide_eq_false h]; exact Bool.false_ne_true)]; exact h2 h
theorem ite_t {b : Bool} {A B : Prop} (e : b = true) (h : A) : if b = true then A else B := by rw [if_pos e]; exact h
theorem ite_f {b : Bool} {A B : Prop} (e : b = false) (h : B) : if b = true then A else B := by rw [if_neg (by rw [e]; exact Bool.false_ne_true)]; exact h
theorem ndec_t {p : Prop} [Decidable p] (h : ¬ p) : (!decide p) = true := by rw [decide_eq_false h]; rfl
theorem ndec_f {p : Prop} [Decidable p] (h : p) : (!decide p) = false := by rw [decide_eq_true h]; rfl
theorem szb {n : Nat} (h : Nat.ble n 1000 = true) : n ≤ sizeLine := Nat.le_trans (Nat.le_of_ble_eq_true h) (by decide)
theorem sz {n : Nat} (h : n ≤ 1000) : n ≤ sizeLine := Nat.le_trans h (by decide)
def rAddG (K : PySem.W.Frag) : R2 := fun x y H Q => rI0 (fun i j => .int (i + j)) x y H Q ∨ (∃ i j, x = .str i ∧ y = .str j ∧ i.length + j.length ≤ sizeLine ∧ Q (.str (i ++ j)) H) ∨ rCatA K x y H Q ∨ rCat x y H Q
theorem opAdd {X : Cx} : OpR X (binaryOp .Add) (rAddG X.K) := op_add.or (op_add_str.or (op_catA.or op_cat))
def rEqG' (K : PySem.W.Frag) : R2 := fun x y H Q => rEq x y H Q ∨ rEqD K x y H Q
def rNeG' (K : PySem.W.Frag) : R2 := fun x y H Q => rNe x y H Q ∨ rNeD K x y H Q
theorem opEq {X : Cx} (hu : X.A.units + 64 < cLine) : OpR X (compareOp .Eq) (rEqG' X.K) := op_eq.or (op_eqD hu)
theorem opNe {X : Cx} (hu : X.A.units + 64 < cLine) : OpR X (compareOp .NotEq) (rNeG' X.K) := op_ne.or (op_neD hu)
section
variable {K : PySem.W.Frag} {H : Hp} {Q : VK} {x y : V} {m n : Int} {s t : Str}
theorem s_addI (q : Q (.int (m + n)) H) : rAddG K (.int m) (.int n) H Q := .inl (s_rI0 q)
theorem s_addS (h : s.length + t.length ≤ sizeLine) (q : Q (.str (s ++ t)) H) : rAddG K (.str s) (.str t) H Q := .inr (.inl ⟨s, t, rfl, rfl, h, q⟩)
theorem s_eqI (q : Q (.bl (decide (m = n))) H) : rEqG' K (.int m) (.int n) H Q := .inl (s_rEqI q)
theorem s_neI (q : Q (.bl (!decide (m = n))) H) : rNeG' K (.int m) (.int n) H Q := .inl (s_rNeI q)
theorem s_eqS (q : Q (.bl (decide (s = t))) H) : rEqG' K (.str s) (.str t) H Q := .inl (s_rEqS q)
theorem s_neS (q : Q (.bl (!decide (s = t))) H) : rNeG' K (.str s) (.str t) H Q := .inl (s_rNeS q)
theorem s_eqB {b c : Bool} (q : Q (.bl (decide (b = c))) H) : rEqG' K (.bl b) (.bl c) H Q := .inl (s_rEqB q)
theorem s_neB {b c : Bool} (q : Q (.bl (!decide (b = c))) H) : rNeG' K (.bl b) (.bl c) H Q := .inl (s_rNeB q)
/-- int(x), len(x), list(x), by names -/
def rInt1 : List V → Hp → VK → Prop := fun xs H Q => (∃ i, xs = [.int i] ∧ Q (.int i) H) ∨ ∃ k, xs = [.bl k] ∧ Q (.int (if k then 1 else 0)) H
theorem callInt {X : Cx} : CallR X (.type "int") rInt1 := call_int1
theorem s_int1 (q : Q (.int m) H) : rInt1 [.int m] H Q := .inl ⟨m, rfl, q⟩
def rLen (K : PySem.W.Frag) : List V → Hp → VK → Prop := fun xs H Q => (∃ p ys, xs = [.ref p] ∧ (SqL K H p ys ∨ SqT K H p ys) ∧ Q (.int ys.length) H) ∨ (∃ z, xs = [.str z] ∧ z.length ≤ sizeLine ∧ Q (.int z.length) H) ∨ ∃ a kvs, xs = [V.ref a] ∧ H a = some (.dK kvs) ∧ Q (.int kvs.length) H
theorem callLen {X : Cx} : CallR X (.builtin "len") (rLen X.K) := call_len_seq.or (call_len_str.or call_lenD)
theorem s_lenL {p : Addr} {xs : List V} (h : SqL K H p xs) (q : Q (.int xs.length) H) : rLen K [.ref p] H Q := .inl ⟨p, xs, rfl, .inl h, q⟩
theorem s_lenT {p : Addr} {xs : List V} (h : SqT K H p xs) (q : Q (.int xs.length) H) : rLen K [.ref p] H Q := .inl ⟨p, xs, rfl, .inr h, q⟩
def rList (K : PySem.W.Frag) : List V → Hp → VK → Prop := fun xs H Q => ∃ p ys, xs = [.ref p] ∧ (SqL K H p ys ∨ SqT K H p ys) ∧ ∀ l, H l = none → Q (.ref l) (upd H l (.lst ys))
theorem callList {X : Cx} : CallR X (.type "list") (rList X.K) := call_list_of
theorem s_listL {p : Addr} {xs : List V} (h : SqL K H p xs) (q : ∀ l, H l = none → Q (.ref l) (upd H l (.lst xs))) : rList K [.ref p] H Q := ⟨p, xs, rfl, .inl h, q⟩
theorem s_listT {p : Addr} {xs : List V} (h : SqT K H p xs) (q : ∀ l, H l = none → Q (.ref l) (upd H l (.lst xs))) : rList K [.ref p] H Q := ⟨p, xs, rfl, .inr h, q⟩
def rTuple (K : PySem.W.Frag) : List V → Hp → VK → Prop := fun xs H Q => ∃ p ys, xs = [.ref p] ∧ ((SqL K H p ys ∧ ∀ l, H l = none → Q (.ref l) (upd H l (.tup ys))) ∨ (SqT K H p ys ∧ Q (.ref p) H))
theorem callTuple {X : Cx} : CallR X (.type "tuple") (rTuple X.K) := call_tuple_of
theorem s_tupleL {p : Addr} {xs : List V} (h : SqL K H p xs) (q : ∀ l, H l = none → Q (.ref l) (upd H l (.tup xs))) : rTuple K [.ref p] H Q := ⟨p, xs, rfl, .inl ⟨h, q⟩⟩
theorem s_all {p : Addr} {bs : List Bool} (h : SqL K H p (bs.map V.bl)) (q : Q (.bl (bs.all id)) H) : rAll K [.ref p] H Q := ⟨p, bs, rfl, h, q⟩
theorem s_mul (h : (-(2 ^ 64) < m ∧ m < 2 ^ 64) ∨ (-(2 ^ 64) < n ∧ n < 2 ^ 64)) (q : Q (.int (m * n)) H) : rI CMul (fun i j => .int (i * j)) (.int m) (.int n) H Q := s_rI (C := CMul) h q
theorem s_fdiv (h : 0 < n ∧ n < 1073741824) (q : Q (.int (m / n)) H) : rI CDiv (fun i j => .int (i / j)) (.int m) (.int n) H Q := s_rI (C := CDiv) h q
theorem s_mod (h : 0 < n) (q : Q (.int (m % n)) H) : rI (fun _ j => 0 < j) (fun i j => .int (i % j)) (.int m) (.int n) H Q := s_rI (C := fun _ j => 0 < j) h q
theorem s_pow (h : 0 ≤ n ∧ n ≤ 1000000 ∧ m.natAbs < 2 ^ 64) (q : Q (.int (m ^ n.toNat)) H) : rI CPow (fun i j => .int (i ^ j.toNat)) (.int m) (.int n) H Q := s_rI (C := CPow) h q
theorem s_pow9 (q : Q (.int 1000000000) H) : rI CPow (fun i j => .int (i ^ j.toNat)) (.int 10) (.int 9) H Q := s_pow ⟨by decide, by decide, by decide⟩ (by
  rw [show (10 : Int) ^ (9 : Int).toNat = 1000000000 by decide]; exact q)
theorem s_pow18 (q : Q (.int 1000000000000000000) H) : rI CPow (fun i j => .int (i ^ j.toNat)) (.int 10) (.int 18) H Q := s_pow ⟨by decide, by decide, by decide⟩ (by
  rw [show (10 : Int) ^ (18 : Int).toNat = 1000000000000000000 by decide]; exact q)
end
theorem s_isN {σ : St} {H : Hp} {Q : VK} {ta : TE} (h : ta σ H fun x H1 => Q (.bl (decide (x = .non))) H1) : tIsN ta σ H Q := h
theorem s_notN {σ : St} {H : Hp} {Q : VK} {ta : TE} (h : ta σ H fun x H1 => Q (.bl (!decide (x = .non))) H1) : tNotN ta σ H Q := h
abbrev opMul {X : Cx} := @op_mul X
abbrev opDiv {X : Cx} := @op_fdiv X
theorem at0 {α : Type} {x0 : α} {l : List α} : atI (x0 :: l) 0 = some x0 := atI_nat (j := 0) rfl
theorem ix0 {x0 : V} {l : List V} : ixN (x0 :: l).length 0 = some 0 := by
  have h : (0 : Int) < ((x0 :: l).length : Nat) := by simp only [List.length_cons]; omega
  unfold ixN
  rw [if_pos (by decide), if_pos h]
  rfl
theorem at1 {α : Type} {x0 x1 : α} {l : List α} : atI (x0 :: x1 :: l) 1 = some x1 := atI_nat (j := 1) rfl
theorem ix1 {x0 x1 : V} {l : List V} : ixN (x0 :: x1 :: l).length 1 = some 1 := by
  have h : (1 : Int) < ((x0 :: x1 :: l).length : Nat) := by simp only [List.length_cons]; omega
  unfold ixN
  rw [if_pos (by decide), if_pos h]
  rfl
theorem at2 {α : Type} {x0 x1 x2 : α} {l : List α} : atI (x0 :: x1 :: x2 :: l) 2 = some x2 := atI_nat (j := 2) rfl
theorem ix2 {x0 x1 x2 : V} {l : List V} : ixN (x0 :: x1 :: x2 :: l).length 2 = some 2 := by
  have h : (2 : Int) < ((x0 :: x1 :: x2 :: l).length : Nat) := by simp only [List.length_cons]; omega
  unfold ixN
  rw [if_pos (by decide), if_pos h]
  rfl
theorem at3 {α : Type} {x0 x1 x2 x3 : α} {l : List α} : atI (x0 :: x1 :: x2 :: x3 :: l) 3 = some x3 := atI_nat (j := 3) rfl
theorem ix3 {x0 x1 x2 x3 : V} {l : List V} : ixN (x0 :: x1 :: x2 :: x3 :: l).length 3 = some 3 := by
  have h : (3 : Int) < ((x0 :: x1 :: x2 :: x3 :: l).length : Nat) := by simp only [List.length_cons]; omega
  unfold ixN
  rw [if_pos (by decide), if_pos h]
  rfl
theorem at4 {α : Type} {x0 x1 x2 x3 x4 : α} {l : List α} : atI (x0 :: x1 :: x2 :: x3 :: x4 :: l) 4 = some x4 := atI_nat (j := 4) rfl
theorem ix4 {x0 x1 x2 x3 x4 : V} {l : List V} : ixN (x0 :: x1 :: x2 :: x3 :: x4 :: l).length 4 = some 4 := by
  have h : (4 : Int) < ((x0 :: x1 :: x2 :: x3 :: x4 :: l).length : Nat) := by simp only [List.length_cons]; omega
  unfold ixN
  rw [if_pos (by decide), if_pos h]
  rfl
theorem at5 {α : Type} {x0 x1 x2 x3 x4 x5 : α} {l : List α} : atI (x0 :: x1 :: x2 :: x3 :: x4 :: x5 :: l) 5 = some x5 := atI_nat (j := 5) rfl
theorem ix5 {x0 x1 x2 x3 x4 x5 : V} {l : List V} : ixN (x0 :: x1 :: x2 :: x3 :: x4 :: x5 :: l).length 5 = some 5 := by
  have h : (5 : Int) < ((x0 :: x1 :: x2 :: x3 :: x4 :: x5 :: l).length : Nat) := by simp only [List.length_cons]; omega
  unfold ixN
  rw [if_pos (by decide), if_pos h]
  rfl
theorem at6 {α : Type} {x0 x1 x2 x3 x4 x5 x6 : α} {l : List α} : atI (x0 :: x1 :: x2 :: x3 :: x4 :: x5 :: x6 :: l) 6 = some x6 := atI_nat (j := 6) rfl
theorem ix6 {x0 x1 x2 x3 x4 x5 x6 : V} {l : List V} : ixN (x0 :: x1 :: x2 :: x3 :: x4 :: x5 :: x6 :: l).length 6 = some 6 := by
  have h : (6 : Int) < ((x0 :: x1 :: x2 :: x3 :: x4 :: x5 :: x6 :: l).length : Nat) := by simp only [List.length_cons]; omega
  unfold ixN
  rw [if_pos (by decide), if_pos h]
  rfl
theorem at7 {α : Type} {x0 x1 x2 x3 x4 x5 x6 x7 : α} {l : List α} : atI (x0 :: x1 :: x2 :: x3 :: x4 :: x5 :: x6 :: x7 :: l) 7 = some x7 := atI_nat (j := 7) rfl
theorem ix7 {x0 x1 x2 x3 x4 x5 x6 x7 : V} {l : List V} : ixN (x0 :: x1 :: x2 :: x3 :: x4 :: x5 :: x6 :: x7 :: l).length 7 = some 7 := by
  have h : (7 : Int) < ((x0 :: x1 :: x2 :: x3 :: x4 :: x5 :: x6 :: x7 :: l).length : Nat) := by simp only [List.length_cons]; omega
  unfold ixN
  rw [if_pos (by decide), if_pos h]
  rfl
/-- a for over a walk -/
def ForGo (g : TG) (tb : TS) (nx : St → Hp → Prop) (rt : VK) (σ : St) : It → Hp → Prop := fun J H => ∃ W : Nat → Nat → St → Hp → Prop, (∃ m, W 0 m σ H) ∧ ∀ i m σ H, W i m σ H →
      (J.stop i H ∧ nx σ H) ∨ (J.go i H ∧ ∃ N : St → Hp → Prop, (∀ σ' H', N σ' H' → ∃ m', m' < m ∧ W (i + 1) m' σ' H') ∧ ∀ x H', J.yld i H x H' → g x σ H' fun σ2 H2 => tb ⟨N, rt, nx, N⟩ σ2 H2)
theorem for_by {J : It} {n : Nat} {G : Hp → Prop} {Y : Nat → Hp → V → Hp → Prop} (w : Walk J n G Y) {σ : St} {H : Hp} {nx : St → Hp → Prop} {rt : VK} {g : TG} {tb : TS} (Pv : Nat → St → Hp → Prop) (h0 : Pv 0 σ H) (hG : ∀ i σ H, i ≤ n → Pv i σ H → G H)
    (hs : ∀ i x σ H H', i < n → Pv i σ H → Y i H x H' → g x σ H' fun σ2 H2 => tb ⟨Pv (i + 1), rt, nx, Pv (i + 1)⟩ σ2 H2) (hd : ∀ σ H, Pv n σ H → nx σ H) : ForGo g tb nx rt σ J H :=
  for_it (D := ⟨nx, rt, fun _ _ => False, fun _ _ => False⟩) w Pv h0 hG hs hd
theorem walk_range0 {n : Nat} : Walk (Itr 0 n) n (fun _ => True) (YFn fun i => .int (i : Nat)) :=
  ⟨fun _ _ hi _ => hi, fun _ _ => Nat.le_refl _, fun i H x H' _ _ y => ⟨y.1, by rw [y.2, Int.zero_add]⟩⟩
def rRng1 : List V → Hp → (It → Hp → Prop) → Prop := fun vs H R => ∃ j : Int, vs = [.int j] ∧ -(2 ^ 62) ≤ j ∧ j < 2 ^ 62 ∧ R (Itr 0 j.toNat) H
def rRng2 : List V → Hp → (It → Hp → Prop) → Prop := fun vs H R => ∃ i j : Int, vs = [.int i, .int j] ∧ (-(2 ^ 62) ≤ i ∧ i < 2 ^ 62 ∧ -(2 ^ 62) ≤ j ∧ j < 2 ^ 62) ∧ R (Itr i (j - i).toNat) H
def rLst1 (K : PySem.W.Frag) : V → Hp → (It → Hp → Prop) → Prop := fun x H R => ∃ a, x = .ref a ∧ (∃ xs, SqL K H a xs) ∧ R (Itl K a) H
def rTup1 (K : PySem.W.Frag) : V → Hp → (It → Hp → Prop) → Prop := fun x H R => ∃ a, x = .ref a ∧ (∃ xs, SqT K H a xs) ∧ R (Itt K a) H
section
variable {σ : St} {H : Hp} {R : It → Hp → Prop} {ta : TA} {tl : TE} {K : PySem.W.Frag} {a : Addr} {xs : List V} {m n : Int}
theorem s_iRng1 (h : ta σ H fun vs H1 => rRng1 vs H1 R) : iRng1 ta σ H R := h
theorem s_iRng2 (h : ta σ H fun vs H1 => rRng2 vs H1 R) : iRng2 ta σ H R := h
theorem s_iList (h : tl σ H fun x H1 => rLst1 K x H1 R) : iList K tl σ H R := h
theorem s_iTup (h : tl σ H fun x H1 => rTup1 K x H1 R) : iTup K tl σ H R := h
theorem s_rng1 (h : -4611686018427387904 ≤ n ∧ n < 4611686018427387904) (q : R (Itr 0 n.toNat) H) : rRng1 [.int n] H R := ⟨n, rfl, h.1, h.2, q⟩
theorem s_rng2 (h : -4611686018427387904 ≤ m ∧ m < 4611686018427387904 ∧ -4611686018427387904 ≤ n ∧ n < 4611686018427387904) (q : R (Itr m (n - m).toNat) H) : rRng2 [.int m, .int n] H R := ⟨m, n, rfl, h, q⟩
theorem s_lst1 (h : SqL K H a xs) (q : R (Itl K a) H) : rLst1 K (.ref a) H R := ⟨a, rfl, ⟨xs, h⟩, q⟩
theorem s_tup1 (h : SqT K H a xs) (q : R (Itt K a) H) : rTup1 K (.ref a) H R := ⟨a, rfl, ⟨xs, h⟩, q⟩
end
theorem s_for {σ : St} {H : Hp} {nx bk ct : St → Hp → Prop} {rt : VK} {wi : TI} {g : TG} {tb : TS} (h : wi σ H (ForGo g tb nx rt σ)) : tFor wi g tb ⟨nx, rt, bk, ct⟩ σ H := h
def rSlG (K : PySem.W.Frag) : V → Option Int → Option Int → Hp → VK → Prop := fun x lo hi H Q => rSlL K x lo hi H Q ∨ rSlA K x lo hi H Q ∨ rSlS x lo hi H Q
theorem opSl {X : Cx} : SlR X (rSlG X.K) := sl_list.or (sl_tupA.or sl_str)
theorem s_slL {K : PySem.W.Frag} {H : Hp} {Q : VK} {p : Addr} {xs : List V} {lo hi : Option Int} (h : SqL K H p xs) (q : ∀ l, H l = none → Q (.ref l) (upd H l (.lst (cutV xs lo hi)))) : rSlG K (.ref p) lo hi H Q := .inl ⟨p, xs, rfl, h, q⟩
theorem s_sl {σ : St} {H : Hp} {Q : VK} {r : V → Option Int → Option Int → Hp → VK → Prop} {te : TE} {tl th : TO} (h : te σ H fun x H1 => tl σ H1 fun l H2 => th σ H2 fun u H3 => r x l u H3 Q) : tSl r te tl th σ H Q := h
theorem s_noPart {σ : St} {H : Hp} {Q : Option Int → Hp → Prop} (q : Q none H) : tNoPart σ H Q := q
theorem s_part {σ : St} {H : Hp} {Q : Option Int → Hp → Prop} {t : TE} (h : t σ H fun x H1 => ∃ i, x = .int i ∧ Q (some i) H1) : tPart t σ H Q := h
theorem s_exi {m : Int} {P : Int → Prop} (q : P m) : ∃ i, V.int m = .int i ∧ P i := ⟨m, rfl, q⟩
theorem s_bits {σ : St} {H : Hp} {Q : VK} {to : TE} (h : to σ H fun x H1 => ∃ i, x = .int i ∧ Q (.int (Builtin.Int.intBits i : Nat)) H1) : tBits to σ H Q := h
theorem cut_all {xs : List V} {n : Int} (h : (xs.length : Int) ≤ n) : cutV xs none (some n) = xs := by
  unfold cutV
  rw [HT.sIx_none]
  obtain ⟨k, rfl⟩ : ∃ k : Nat, n = (k : Int) := ⟨n.toNat, by omega⟩
  rw [HT.sIx_nat]
  rw [List.drop_zero, Nat.sub_zero]
  exact List.take_of_length_le (by omega)
end My
namespace My
open PySem PySem.Spec PyProof.Rows L2 RZ
/-- all that was tracked outside N is as it was; tuples stay anyway -/
structure Fr (N : Addr → Prop) (H H' : Hp) : Prop where
  tup : ∀ a xs, H a = some (.tup xs) → H' a = some (.tup xs)
  keep : ∀ a o, H a = some o → ¬ N a → H' a = some o
  hd : ∀ a x r, H a = some (.lst (.ref x :: r)) → ∃ r', H' a = some (.lst (.ref x :: r'))
abbrev N0 : Addr → Prop := fun _ => False
abbrev N1 (b : Addr) : Addr → Prop := fun a => a = b
theorem Fr.refl {N : Addr → Prop} {H : Hp} : Fr N H H := ⟨fun _ _ h => h, fun _ _ h _ => h, fun _ _ _ h => ⟨_, h⟩⟩
theorem Fr.trans {N : Addr → Prop} {H H1 H2 : Hp} (a : Fr N H H1) (b : Fr N H1 H2) : Fr N H H2 := ⟨fun c o h => b.tup c o (a.tup c o h), fun c o h n => b.keep c o (a.keep c o h n) n, fun c x r h => let ⟨_, h'⟩ := a.hd c x r h; b.hd c x _ h'⟩
theorem Fr.mono {N N' : Addr → Prop} {H H' : Hp} (a : Fr N H H') (h : ∀ x, N x → N' x) : Fr N' H H' := ⟨a.tup, fun c o e n => a.keep c o e fun z => n (h c z), a.hd⟩
theorem Fr.of0 {N : Addr → Prop} {H H' : Hp} (a : Fr N0 H H') : Fr N H H' := a.mono fun _ z => z.elim
theorem Fr.same {H H' : Hp} (a : Fr N0 H H') : Same H H' := fun b o e => a.keep b o e id
theorem Fr.ofSame {N : Addr → Prop} {H H' : Hp} (a : Same H H') : Fr N H H' := ⟨fun b xs e => a b _ e, fun b o e _ => a b o e, fun b x r e => ⟨_, a b _ e⟩⟩
theorem Fr.new {N : Addr → Prop} {H : Hp} {p : Addr} {o : HO} (h : H p = none) : Fr N H (upd H p o) := .ofSame fun b x e => by
  rw [upd_ne (ne_of_none e h)]
  exact e
theorem Fr.wr {N : Addr → Prop} {H : Hp} {p : Addr} {o : HO} {xs : List V} (h : H p = some (.lst xs)) (n : N p) (hh : ∀ x r, xs = .ref x :: r → ∃ r', o = .lst (.ref x :: r') := by (rintro _ _ ⟨⟩; exact ⟨_, rfl⟩)) : Fr N H (upd H p o) := ⟨fun b ys e => by
  rw [upd_ne (ne_of e h (by intro z; cases z))]
  exact e, fun b x e nb => by
  rw [upd_ne (fun z => nb (by rw [z]; exact n))]
  exact e, fun b x r e => by
  by_cases hb : b = p
  · rw [hb, h] at e
    obtain ⟨r', e'⟩ := hh x r (HO.lst.inj (Option.some.inj e))
    exact ⟨r', by rw [hb, upd_same, e']⟩
  · exact ⟨r, by rw [upd_ne hb]; exact e⟩⟩
/-- an object that H does not know may change -/
theorem Fr.mut {N : Addr → Prop} {H H' : Hp} {p : Addr} {o : HO} (f : Fr N H H') (h : H p = none) : Fr N H (upd H' p o) := ⟨fun a xs e => by
  rw [upd_ne (ne_of_none e h)]
  exact f.tup a xs e, fun a x e n => by
  rw [upd_ne (ne_of_none e h)]
  exact f.keep a x e n, fun a x r e => by
  rw [upd_ne (ne_of_none e h)]
  exact f.hd a x r e⟩
theorem Fr.free {N : Addr → Prop} {H H' : Hp} {p : Addr} (a : Fr N H H') (h : H' p = none) (n : ¬ N p) : H p = none := by
  cases q : H p with
  | none => rfl
  | some o => rw [a.keep p o q n] at h; cases h
theorem Fr.rdL {N : Addr → Prop} {K : PySem.W.Frag} {H H' : Hp} {p : Addr} {xs : List V} (a : Fr N H H') (h : SqL K H p xs) (n : ¬ N p) : SqL K H' p xs := by
  rcases h with (h | ⟨o, h⟩) | h
  · exact .inl (.inl (a.keep _ _ h n))
  · exact .inl (.inr ⟨o, a.keep _ _ h n⟩)
  · exact .inr h
theorem nat0 {p : Int} (h : 0 ≤ p) : ∃ j : Nat, p = (j : Int) := ⟨p.toNat, by omega⟩
/-- the bag of draws at b -/
structure Bag (b : Addr) (H : Hp) : Prop where
  ex : ∃ (c : Addr) (ns : List Int) (p cur seed : Int), H b = some (.lst [.ref c, .int p, .int cur, .int seed]) ∧ H c = some (.lst (ns.map V.int)) ∧ ns.length ≤ 63 ∧ 0 ≤ p ∧ 0 ≤ cur ∧ 0 ≤ seed ∧ seed < 2147483563
theorem bag_ne {H : Hp} {b c : Addr} {x : Addr} {r : List V} {ns : List Int} (h1 : H b = some (.lst (.ref x :: r))) (h2 : H c = some (.lst (ns.map V.int))) : c ≠ b := by
  intro e
  subst e
  rw [h1] at h2
  cases ns with
  | nil => cases h2
  | cons n l => cases h2
theorem Bag.fr {b : Addr} {H H' : Hp} (B : Bag b H) (f : Fr N0 H H') : Bag b H' := by
  obtain ⟨c, ns, p, cur, seed, h1, h2, r⟩ := B.ex
  exact ⟨c, ns, p, cur, seed, f.same _ _ h1, f.same _ _ h2, r⟩
theorem Bag.some {b : Addr} {H : Hp} (B : Bag b H) : ∃ xs, H b = some (.lst xs) := let ⟨_, _, _, _, _, h, _⟩ := B.ex; ⟨_, h⟩
/-- the bag where a list that it does not know is made longer -/
theorem bag_mut {N : Addr → Prop} {b D : Addr} {o : HO} {H H2 : Hp} (B : Bag b H) (hD : H D = none) (f : Fr N H H2) (B2 : Bag b H2) : Bag b (upd H2 D o) := by
  obtain ⟨c, _, p, cur, seed, h1, h2, _⟩ := B.ex
  obtain ⟨c', ns, p', cur', seed', h1', h2', r⟩ := B2.ex
  obtain ⟨r', e⟩ := f.hd _ _ _ h1
  rw [e] at h1'
  cases h1'
  exact ⟨c, ns, p', cur', seed', by rw [upd_ne (ne_of_none h1 hD)]; exact e, by rw [upd_ne (ne_of_none h2 hD)]; exact h2', r⟩
end My
namespace My
open PySem PySem.Spec PyProof.Rows L2 RZ
/-- a tuple at a: tracked, or of the written part -/
def TupAt (K : PySem.W.Frag) (H : Hp) (a : Addr) (xs : List V) : Prop :=
  H a = some (.tup xs) ∨ ∃ (o : Obj) (its : Array Value) (n : Nat), K.lookup a = some o ∧ o.cls = .type "tuple" ∧ o.data = .seq its n ∧ its.size ≤ sizeLine ∧ Vals xs its.toList
theorem TupAt.sq {K : PySem.W.Frag} {H : Hp} {a : Addr} {xs : List V} (h : TupAt K H a xs) : SqT K H a xs := by
  rcases h with h | h
  · exact .inl (.inl h)
  · exact .inr h
theorem TupAt.of {K : PySem.W.Frag} {H : Hp} {a : Addr} {xs : List V} (h : H a = some (.tup xs)) : TupAt K H a xs := .inl h
theorem TupAt.fr {N : Addr → Prop} {K : PySem.W.Frag} {H H' : Hp} {a : Addr} {xs : List V} (f : Fr N H H') (h : TupAt K H a xs) : TupAt K H' a xs := by
  rcases h with h | h
  · exact .inl (f.tup a xs h)
  · exact .inr h
def keyD : Key → PyData
  | .inl i => .int i
  | .inr s => .str s
mutual
inductive Hd (N : Addr → Prop) (K : PySem.W.Frag) (H : Hp) : V → PyData → Prop
  | non : Hd N K H .non .none
  | bl (b : Bool) : Hd N K H (.bl b) (.bool b)
  | int (i : Int) : Hd N K H (.int i) (.int i)
  | str (x : Str) : Hd N K H (.str x) (.str x)
  | lst {a : Addr} {xs : List V} {ds : List PyData} : H a = some (.lst xs) → ¬ N a → HdL N K H xs ds → Hd N K H (.ref a) (.list ds)
  | tup {a : Addr} {xs : List V} {ds : List PyData} : TupAt K H a xs → HdL N K H xs ds → Hd N K H (.ref a) (.tuple ds)
  | dct {a : Addr} {kvs : List (Key × V)} {ds : List (PyData × PyData)} : H a = some (.dK kvs) → ¬ N a → HdK N K H kvs ds → Hd N K H (.ref a) (.dict ds)
inductive HdL (N : Addr → Prop) (K : PySem.W.Frag) (H : Hp) : List V → List PyData → Prop
  | nil : HdL N K H [] []
  | cons {v : V} {vs : List V} {d : PyData} {ds : List PyData} : Hd N K H v d → HdL N K H vs ds → HdL N K H (v :: vs) (d :: ds)
inductive HdK (N : Addr → Prop) (K : PySem.W.Frag) (H : Hp) : List (Key × V) → List (PyData × PyData) → Prop
  | nil : HdK N K H [] []
  | cons {k : Key} {v : V} {vs : List (Key × V)} {d : PyData} {ds : List (PyData × PyData)} : Hd N K H v d → HdK N K H vs ds → HdK N K H ((k, v) :: vs) ((keyD k, d) :: ds)
end
section
variable {N N' : Addr → Prop} {K : PySem.W.Frag} {H H' : Hp}
mutual
theorem Hd.fr (f : Fr N H H') : ∀ (d : PyData) (v : V), Hd N K H v d → Hd N K H' v d
  | .none, _, h => by cases h; exact .non
  | .bool b, _, h => by cases h; exact .bl b
  | .int i, _, h => by cases h; exact .int i
  | .str x, _, h => by cases h; exact .str x
  | .list ds, _, h => by
    cases h with
    | lst e n r => exact .lst (f.keep _ _ e n) n (HdL.fr f ds _ r)
  | .tuple ds, _, h => by
    cases h with
    | tup e r => exact .tup (e.fr f) (HdL.fr f ds _ r)
  | .dict ds, _, h => by
    cases h with
    | dct e n r => exact .dct (f.keep _ _ e n) n (HdK.fr f ds _ r)
theorem HdL.fr (f : Fr N H H') : ∀ (ds : List PyData) (vs : List V), HdL N K H vs ds → HdL N K H' vs ds
  | [], _, h => by cases h; exact .nil
  | d :: ds, _, h => by
    cases h with
    | cons a b => exact .cons (Hd.fr f d _ a) (HdL.fr f ds _ b)
theorem HdK.fr (f : Fr N H H') : ∀ (ds : List (PyData × PyData)) (vs : List (Key × V)), HdK N K H vs ds → HdK N K H' vs ds
  | [], _, h => by cases h; exact .nil
  | (_, d) :: ds, _, h => by
    cases h with
    | cons a b => exact .cons (Hd.fr f d _ a) (HdK.fr f ds _ b)
end
theorem HdL.len : ∀ {ds : List PyData} {vs : List V}, HdL N K H vs ds → vs.length = ds.length
  | [], _, h => by cases h; rfl
  | d :: ds, _, h => by
    cases h with
    | cons a b => rw [List.length_cons, List.length_cons, HdL.len b]
theorem HdL.get : ∀ {ds : List PyData} {vs : List V} {i : Nat} {v : V}, HdL N K H vs ds → vs[i]? = some v → ∃ d, ds[i]? = some d ∧ Hd N K H v d
  | [], _, _, _, h, e => by cases h; simp at e
  | d :: ds, _, 0, _, h, e => by
    cases h with
    | cons a b => simp at e; subst e; exact ⟨d, rfl, a⟩
  | d :: ds, _, i + 1, _, h, e => by
    cases h with
    | cons a b =>
      obtain ⟨d', e', r⟩ := HdL.get b (by simpa using e)
      exact ⟨d', by simpa using e', r⟩
theorem HdL.app : ∀ {ds es : List PyData} {vs us : List V}, HdL N K H vs ds → HdL N K H us es → HdL N K H (vs ++ us) (ds ++ es)
  | [], _, _, _, h, h' => by cases h; exact h'
  | d :: ds, _, _, _, h, h' => by
    cases h with
    | cons a b => exact .cons a (HdL.app b h')
end
end My
namespace My
open PySem PySem.Spec PyProof.Rows L2 RZ
def tyD : PyData → String
  | .none => "NoneType" | .bool _ => "bool" | .int _ => "int" | .str _ => "str" | .list _ => "list" | .tuple _ => "tuple" | .dict _ => "dict"
section
variable {N : Addr → Prop} {K : PySem.W.Frag} {H : Hp}
theorem TupAt.ty {a : Addr} {xs : List V} (h : TupAt K H a xs) : TyX K H (.ref a) (.type "tuple") := by
  rcases h with h | ⟨o, its, n, hk, hc, _⟩
  · exact .base (.tup h)
  · exact .kTuple hk hc
theorem Hd.ty : ∀ {d : PyData} {v : V}, Hd N K H v d → TyX K H v (.type (tyD d))
  | .none, _, h => by cases h; exact .base .non
  | .bool b, _, h => by cases h; exact .base (.bl b)
  | .int i, _, h => by cases h; exact .base (.int i)
  | .str x, _, h => by cases h; exact .base (.str x)
  | .list ds, _, h => by
    cases h with
    | lst e n r => exact .base (.lst e)
  | .tuple ds, _, h => by
    cases h with
    | tup e r => exact e.ty
  | .dict ds, _, h => by
    cases h with
    | dct e n r => exact .base (.dK e)
def isList : PyData → Bool | .list _ => true | _ => false
def isTup : PyData → Bool | .tuple _ => true | _ => false
def isDict : PyData → Bool | .dict _ => true | _ => false
def isBool : PyData → Bool | .bool _ => true | _ => false
def isInt : PyData → Bool | .bool _ => true | .int _ => true | _ => false
def isStr : PyData → Bool | .str _ => true | _ => false
theorem kit_list (d : PyData) : kitB (tyD d) "list" = some (isList d) := by cases d <;> simp only [tyD, isList, isTup, isDict, isBool, isInt, isStr] <;> decide +kernel
theorem kit_tuple (d : PyData) : kitB (tyD d) "tuple" = some (isTup d) := by cases d <;> simp only [tyD, isList, isTup, isDict, isBool, isInt, isStr] <;> decide +kernel
theorem kit_dict (d : PyData) : kitB (tyD d) "dict" = some (isDict d) := by cases d <;> simp only [tyD, isList, isTup, isDict, isBool, isInt, isStr] <;> decide +kernel
theorem kit_bool (d : PyData) : kitB (tyD d) "bool" = some (isBool d) := by cases d <;> simp only [tyD, isList, isTup, isDict, isBool, isInt, isStr] <;> decide +kernel
theorem kit_int (d : PyData) : kitB (tyD d) "int" = some (isInt d) := by cases d <;> simp only [tyD, isList, isTup, isDict, isBool, isInt, isStr] <;> decide +kernel
theorem kit_str (d : PyData) : kitB (tyD d) "str" = some (isStr d) := by cases d <;> simp only [tyD, isList, isTup, isDict, isBool, isInt, isStr] <;> decide +kernel
def rIsiG (K : PySem.W.Frag) : List V → Hp → VK → Prop := fun xs H Q => rIsi K xs H Q ∨ rIsiT K xs H Q
theorem callIsi {X : Cx} : CallR X (.builtin "isinstance") (rIsiG X.K) := call_isi.or call_isiT
variable {Q : VK} {x : V} {d : PyData}
theorem s_isi {n : String} {b : Bool} (h : Hd N K H x d) (e : kitB (tyD d) n = some b) (q : Q (.bl b) H) : rIsiG K [x, .ty n] H Q := .inl ⟨x, .ty n, _, _, b, rfl, .ty n, h.ty, kit_ty e, q⟩
theorem s_isi_list (h : Hd N K H x d) (q : Q (.bl (isList d)) H) : rIsiG K [x, .ty "list"] H Q := s_isi h (kit_list d) q
theorem s_isi_tuple (h : Hd N K H x d) (q : Q (.bl (isTup d)) H) : rIsiG K [x, .ty "tuple"] H Q := s_isi h (kit_tuple d) q
theorem s_isi_dict (h : Hd N K H x d) (q : Q (.bl (isDict d)) H) : rIsiG K [x, .ty "dict"] H Q := s_isi h (kit_dict d) q
theorem s_isi_bool (h : Hd N K H x d) (q : Q (.bl (isBool d)) H) : rIsiG K [x, .ty "bool"] H Q := s_isi h (kit_bool d) q
theorem s_isi_int (h : Hd N K H x d) (q : Q (.bl (isInt d)) H) : rIsiG K [x, .ty "int"] H Q := s_isi h (kit_int d) q
theorem s_isi_str (h : Hd N K H x d) (q : Q (.bl (isStr d)) H) : rIsiG K [x, .ty "str"] H Q := s_isi h (kit_str d) q
theorem s_isi_lt {p : Addr} (h : Hd N K H x d) (hp : H p = some (.tup [.ty "list", .ty "tuple"])) (q : Q (.bl (isList d || isTup d)) H) : rIsiG K [x, .ref p] H Q := by
  refine .inr ⟨x, p, _, _, [.type "list", .type "tuple"], _, rfl, hp, .cons (.ty _) (.cons (.ty _) .nil), h.ty, ?_, q⟩
  refine kitAny_cons (kit_ty (kit_list d)) (fun e => ?_) (fun e => by rw [e, Bool.true_or])
  rw [e, Bool.false_or]
  exact kitAny_cons (kit_ty (kit_tuple d)) (fun e => by rw [e]; exact kitAny_nil) (fun e => e)
end
/-- what holds between two turns of a comprehension: P by the turn, the list so far and the heap -/
def Pvx (P : Addr → Nat → List V → Hp → Prop) (D : Addr) (i : Nat) (H : Hp) : Prop := ∃ acc, acc.length ≤ i ∧ P D i acc H ∧ H D = some (.lst acc)
theorem pvx_add {P : Addr → Nat → List V → Hp → Prop} {D : Addr} {i : Nat} {acc : List V} {y : V} {H : Hp} (e : H D = some (.lst acc)) (hl : acc.length ≤ i) (hi : i < sizeLine) (p : P D (i + 1) (acc ++ [y]) (upd H D (.lst (acc ++ [y])))) :
    ∃ acc', H D = some (.lst acc') ∧ acc'.length < sizeLine ∧ Pvx P D (i + 1) (upd H D (.lst (acc' ++ [y]))) :=
  ⟨acc, e, by omega, acc ++ [y], by rw [List.length_append]; show acc.length + 1 ≤ i + 1; omega, p, upd_same⟩
theorem pvx_skip {P : Addr → Nat → List V → Hp → Prop} {D : Addr} {i : Nat} {acc : List V} {H : Hp} (e : H D = some (.lst acc)) (hl : acc.length ≤ i) (p : P D (i + 1) acc H) : Pvx P D (i + 1) H := ⟨acc, by omega, p, e⟩
def LcGo (g : TG) (tt : TT) (te : TE) (vs : List Nat) (σ : St) (Q : VK) : It → Hp → Prop := fun J H1 => ∀ D, H1 D = none → ∃ W : Nat → Nat → Hp → Prop, (∃ m, W 0 m (upd H1 D (.lst []))) ∧ ∀ i m H, W i m H →
      (J.stop i H ∧ Q (.ref D) H) ∨ (J.go i H ∧ ∃ Nx : Hp → Prop, (∀ H', Nx H' → ∃ m', m' < m ∧ W (i + 1) m' H') ∧ ∀ x H', J.yld i H x H' → g x (wipe σ vs) H' fun σ2 H2 => wipe σ2 vs = wipe σ vs ∧ tt σ2 H2 fun b H3 =>
        if b = true then te σ2 H3 fun y H4 => ∃ acc, H4 D = some (.lst acc) ∧ acc.length < sizeLine ∧ Nx (upd H4 D (.lst (acc ++ [y]))) else Nx H3)
theorem lc_by {J : It} {n : Nat} {G : Hp → Prop} {Y : Nat → Hp → V → Hp → Prop} (w : Walk J n G Y) {g : TG} {tt : TT} {te : TE} {vs : List Nat} {σ σ0 : St} {H1 : Hp} {Q : VK} (P : Addr → Nat → List V → Hp → Prop) (hw : wipe σ vs = σ0)
    (h0 : ∀ D, H1 D = none → P D 0 [] (upd H1 D (.lst []))) (hG : ∀ D i acc H, P D i acc H → H D = some (.lst acc) → G H)
    (hs : ∀ D i acc x H H', H1 D = none → i < n → acc.length ≤ i → P D i acc H → H D = some (.lst acc) → Y i H x H' → g x σ0 H' fun σ2 H2 => wipe σ2 vs = σ0 ∧ tt σ2 H2 fun b H3 =>
      if b = true then te σ2 H3 fun y H4 => ∃ acc', H4 D = some (.lst acc') ∧ acc'.length < sizeLine ∧ Pvx P D (i + 1) (upd H4 D (.lst (acc' ++ [y]))) else Pvx P D (i + 1) H3)
    (hd : ∀ D acc H, H1 D = none → P D n acc H → H D = some (.lst acc) → Q (.ref D) H) : LcGo g tt te vs σ Q J H1 := by
  subst hw
  exact fun D hD => lc_it w (Qd := fun H => Q (.ref D) H) (Pvx P D) ⟨[], Nat.le_refl _, h0 D hD, upd_same⟩ (fun i H _ ⟨acc, _, p, e⟩ => hG D i acc H p e) (fun i x H H' hi ⟨acc, hl, p, e⟩ y => hs D i acc x H H' hD hi hl p e y) (fun H ⟨acc, _, p, e⟩ => hd D acc H hD p e)
theorem s_lc {wi : TI} {g : TG} {tt : TT} {te : TE} {vs : List Nat} {σ : St} {H : Hp} {Q : VK} (h : wi σ H (LcGo g tt te vs σ Q)) : tLc wi g tt te vs σ H Q := h
def rZipA (K : PySem.W.Frag) : List V → Hp → (It → Hp → Prop) → Prop := fun vs H R => ∃ a b xs ys, vs = [.ref a, .ref b] ∧ ((SqL K H a xs ∧ SqL K H b ys ∧ R (Itz K a b) H) ∨ (SqT K H a xs ∧ SqT K H b ys ∧ R (ItzT K a b) H))
theorem s_zipA {σ : St} {H : Hp} {R : It → Hp → Prop} {ta : TA} {K : PySem.W.Frag} (h : ta σ H fun vs H1 => rZipA K vs H1 R) : iZipA K ta σ H R := h
theorem s_zipL {H : Hp} {R : It → Hp → Prop} {K : PySem.W.Frag} {a b : Addr} {xs ys : List V} (h1 : SqL K H a xs) (h2 : SqL K H b ys) (q : R (Itz K a b) H) : rZipA K [.ref a, .ref b] H R := ⟨a, b, xs, ys, rfl, .inl ⟨h1, h2, q⟩⟩
theorem s_zipT {H : Hp} {R : It → Hp → Prop} {K : PySem.W.Frag} {a b : Addr} {xs ys : List V} (h1 : SqT K H a xs) (h2 : SqT K H b ys) (q : R (ItzT K a b) H) : rZipA K [.ref a, .ref b] H R := ⟨a, b, xs, ys, rfl, .inr ⟨h1, h2, q⟩⟩
theorem walk_zipT {K : PySem.W.Frag} {a b : Addr} {xs ys : List V} {n : Nat} (hn : n = min xs.length ys.length) : Walk (ItzT K a b) n (fun H => SqT K H a xs ∧ SqT K H b ys) (YPair (fun i => xs[i]?) (fun i => ys[i]?)) := by
  subst hn
  refine ⟨fun i _ hi q => ?_, fun _ q => ⟨xs, ys, q.1, q.2, by omega⟩, fun i H v H' _ q y => ?_⟩
  · have h1 : i < xs.length := by omega
    have h2 : i < ys.length := by omega
    exact ⟨xs, ys, xs[i], ys[i], q.1, q.2, by simp [h1], by simp [h2]⟩
  · obtain ⟨T, x, z, h1, h2, h3, h4, h5⟩ := y
    exact ⟨T, x, z, h1, h2, h3, h4 xs q.1, h5 ys q.2⟩
/-- a, b = a pair -/
theorem s_gTup {K : PySem.W.Frag} {n : Nat} {t : TGs} {a : Addr} {xs : List V} {σ : St} {H : Hp} {R : St → Hp → Prop} (h : SqT K H a xs) (e : xs.length = n) (q : t xs σ H R) : gTup K n t (.ref a) σ H R := ⟨a, xs, rfl, h, e, q⟩
theorem s_gCons {t : TG} {u : TGs} {x : V} {r : List V} {σ : St} {H : Hp} {R : St → Hp → Prop} (q : t x σ H fun σ' H' => u r σ' H' R) : gCons t u (x :: r) σ H R := ⟨x, r, rfl, q⟩
theorem s_gNil {σ : St} {H : Hp} {R : St → Hp → Prop} (q : R σ H) : gNil [] σ H R := ⟨rfl, q⟩
theorem s_yes {σ : St} {H : Hp} {Q : Bool → Hp → Prop} (q : Q true H) : tYes σ H Q := q
end My
theorem L2H.RoomH.units {k : Nat} {A : PySem.Around} (r : L2H.RoomH k A) : A.units + 64 < PySem.cLine := by
  have := r.un
  omega
namespace My
open PySem PySem.Spec PyProof.Rows L2 RZ
open LamX (ExtN Tabs TabS TabB CodeO)
def tXg (K : PySem.W.Frag) (a : Addr) (cls : Value) (d : Option Addr) (n : Str) (te : TE) : TE := fun σ H Q => te σ H fun x H1 => x = .ref a ∧ ∃ C, cls = .ref C ∧ XfC K C ∧ PySem.W.findIn K (.ref C) n = some none ∧
  ∃ (dd : Addr) (fs : List (Str × V)) (v : V), d = some dd ∧ H1 dd = some (.xd fs) ∧ fs.lookup n = some v ∧ Q v H1
end My
namespace My
open PySem PySem.Spec PyProof.Rows L2 RZ
open LamX (ExtN Tabs TabS TabB CodeO)
def rOst (K : PySem.W.Frag) (f : Str) (y : V) (nx : Hp → Prop) : V → Hp → Prop := fun x H2 => ∃ a C : Addr, x = .ref a ∧ OexC K C ∧ PySem.W.findIn K (.ref C) f = some none ∧
  ((H2 a = some (exo a C none) ∧ ∀ dx, H2 dx = none → dx ≠ a → nx (upd (upd H2 dx (exd dx [(f, y)])) a (exo a C (some dx)))) ∨
    ∃ (dx : Addr) (fs : List (Str × V)), H2 a = some (exo a C (some dx)) ∧ H2 dx = some (exd dx fs) ∧ fs.length ≤ 900 ∧ nx (upd H2 dx (exd dx ((f, y) :: fs))))
theorem s_ost {K : PySem.W.Frag} {f : Str} {to te : TE} {σ : L2.St} {H : Hp} {nx bk ct : L2.St → Hp → Prop} {rt : VK} (h : te σ H fun y H1 => to σ H1 (rOst K f y (nx σ))) : tOst K f to te ⟨nx, rt, bk, ct⟩ σ H := h
def rMkO (C : Addr) (sp : Sp) (Q : XK) : List V → Hp → Prop := fun vs H1 => vs.length ≤ 1000 ∧ ∀ a, H1 a = none → sp (.ref a :: (vs ++ [])) (upd H1 a (exo a C none))
  (fun v H2 => v = .non ∧ ∃ (d : Addr) (fs : List (Str × V)), H2 a = some (exo a C (some d)) ∧ H2 d = some (exd d fs) ∧ H1 d = none ∧ Q (.ref C) (some d) (upd (del H2 a) d (.xd fs))) (fun _ _ _ => False)
theorem s_mkO {C : Addr} {sp : Sp} {σ : L2.St} {H : Hp} {Q : XK} {ta : TA} (h : ta σ H (rMkO C sp Q)) : tMkO C sp [] ta σ H Q := h
/-- the field that the law reads of an exception with that word -/
def fldName (w : Str) : Option Str :=
  if inV (.str w) [.str "invalidsteps", .str "invalidcode", .str "invalidtext", .str "invalidcorner", .str "notquiet", .str "invaliddeed"] = true then some "position"
  else if inV (.str w) [.str "invalidcount", .str "invalidconstant", .str "invalidbudget"] = true then some "value"
  else if inV (.str w) [.str "invalidname", .str "duplicatename", .str "unknownname"] = true then some "name"
  else if inV (.str w) [.str "invalidfile", .str "invalidcommand"] = true then some "line"
  else if decide (w = "gateinuse") = true then none
  else if decide (w = "limitexceeded") = true then some "limit"
  else if decide (w = "invalidsize") = true then some "size"
  else if decide (w = "invalidneeded") = true then some "needed"
  else if decide (w = "budgetexceeded") = true then some "amount"
  else none
def isGate (w : Str) : Bool := decide (w = "gateinuse")
def fldVal (w : Str) (fs : List (Str × V)) : Option V := match fldName w with
  | some n => fs.lookup n
  | none => if isGate w = true then none else some .non
/-- what the law tells of an exception's fields: one of them, None, or the two of a gate in use as a new pair -/
def Told (w : Str) (fs : List (Str × V)) (H : Hp) (Q : VK) : Prop :=
  (∃ v, fldVal w fs = some v ∧ ∀ H', Fr N0 H H' → Q v H') ∨
  (isGate w = true ∧ ∃ n u, fs.lookup ("name" : Str) = some n ∧ fs.lookup ("users" : Str) = some u ∧ ∀ H', Fr N0 H H' → ∀ p, H' p = none → Q (.ref p) (upd H' p (.tup [n, u])))
theorem Told.mono {w : Str} {fs : List (Str × V)} {H : Hp} {Q Q' : VK} (h : ∀ v H2, Q v H2 → Q' v H2) (t : Told w fs H Q) : Told w fs H Q' :=
  t.imp (fun ⟨v, e, k⟩ => ⟨v, e, fun H' f => h _ _ (k H' f)⟩) fun ⟨g, n, u, e1, e2, k⟩ => ⟨g, n, u, e1, e2, fun H' f p hp => h _ _ (k H' f p hp)⟩
def rXg (K : PySem.W.Frag) (a : Addr) (cls : Value) (d : Option Addr) (n : Str) (Q : VK) : V → Hp → Prop := fun x H1 => x = .ref a ∧ ∃ C, cls = .ref C ∧ XfC K C ∧ PySem.W.findIn K (.ref C) n = some none ∧
  ∃ (dd : Addr) (fs : List (Str × V)) (v : V), d = some dd ∧ H1 dd = some (.xd fs) ∧ fs.lookup n = some v ∧ Q v H1
theorem s_xgR {K : PySem.W.Frag} {a : Addr} {cls : Value} {d : Option Addr} {n : Str} {te : TE} {σ : L2.St} {H : Hp} {Q : VK} (h : te σ H (rXg K a cls d n Q)) : tXg K a cls d n te σ H Q := h
theorem s_callS {sp : Sp} {E : L2.St → XK} {t : TA} {σ : L2.St} {H : Hp} {Q : VK} (h : t σ H fun vs H1 => sp vs H1 Q (E σ)) : tCallS sp E t σ H Q := h
end My
namespace My
open PySem PySem.Spec PyProof.Rows L2 RZ
section
variable {K : PySem.W.Frag} {H : Hp} {Q : VK} {a b : Addr} {xs ys : List V}
/-- a list that was laid as data -/
theorem HdL.fr0 {N : Addr → Prop} {H' : Hp} {ds : List PyData} {vs : List V} (h : HdL N K H vs ds) (f : Fr N0 H H') : HdL N K H' vs ds := HdL.fr f.of0 ds vs h
end
end My
namespace My
open PySem PySem.Spec PyProof.Rows L2 RZ
section
variable (K : PySem.W.Frag) {X : Cx}
theorem opAddK (e : X.K = K := by rfl) : OpR X (binaryOp .Add) (rAddG K) := e ▸ opAdd
theorem opEqK (hu : X.A.units + 64 < cLine) (e : X.K = K := by rfl) : OpR X (compareOp .Eq) (rEqG' K) := e ▸ opEq hu
theorem opNeK (hu : X.A.units + 64 < cLine) (e : X.K = K := by rfl) : OpR X (compareOp .NotEq) (rNeG' K) := e ▸ opNe hu
theorem callLenK (e : X.K = K := by rfl) : CallR X (.builtin "len") (rLen K) := e ▸ callLen
theorem callIsiK (e : X.K = K := by rfl) : CallR X (.builtin "isinstance") (rIsiG K) := e ▸ callIsi
theorem callListK (e : X.K = K := by rfl) : CallR X (.type "list") (rList K) := e ▸ callList
theorem callTupleK (e : X.K = K := by rfl) : CallR X (.type "tuple") (rTuple K) := e ▸ callTuple
theorem allK (hc : X.calm = true) (e : X.K = K := by rfl) : CallR X (.builtin "all") (rAll K) := e ▸ cr_all hc
theorem opSlK (e : X.K = K := by rfl) : SlR X (rSlG K) := e ▸ opSl
theorem ixK (e : X.K = K := by rfl) : IxR X (rIx K) := e ▸ ix_seq
section
variable {a o x : Expr} {es : List Expr} {ta to te : TE} {t : TA} {pos apos cpos p tpos : Pos} {name : Str} {f : Str} {T id : String} {r : V → List V → Hp → VK → Prop} {tg : Expr} {elts : List Expr} {kk : Nat}
theorem pe_fldK (he : PE X x te) (hb : attributeBase x f X.env (eval x X.env) = eval x X.env) (e : X.K = K := by rfl) : PE X (.Attribute x f pos) (tFld K te f) := e ▸ pe_fld he hb
theorem pi_listK (hl : PE X x te) (e : X.K = K := by rfl) : PI X tg x (iList K te) := e ▸ pi_list hl
theorem pi_tupK (hl : PE X x te) (e : X.K = K := by rfl) : PI X tg x (iTup K te) := e ▸ pi_tup hl
end
end
end My
namespace My
open PySem PySem.Spec PyProof.Rows L2 RZ
open LamX (ExtN Tabs TabS TabB CodeO)
theorem ExtN.lst {H H' : Hp} {a : Addr} {xs : List V} (x : ExtN H H') (h : H a = some (.lst xs)) : H' a = some (.lst xs) := x _ _ h fun _ z => by cases z
theorem HdL.ints {N : Addr → Prop} {K : PySem.W.Frag} {H : Hp} : ∀ ns : List Int, HdL N K H (ns.map V.int) (ns.map PyData.int)
  | [] => .nil
  | _ :: ns => .cons (.int _) (HdL.ints ns)
end My
namespace My
open PySem PySem.Spec PyProof.Rows L2 RZ GenW
section
variable {M : Model} {A : Around} {R : GenEnd} {Y : Protocol} {n : Nat} {s₀ : Shared} {fs : List Frame} {s : Shared} {env : Env} {prog : Program} {w : World}
/-- what a turn of a for does with the way that its body took -/
def forWay (c : Code) : Flow → Sem PySem.Fin
  | .next => .pure (.again c)
  | .cont => .pure (.again c)
  | .brk => .pure (.done .next)
  | .ret v => .pure (.done (.ret v))
def forOut (env : Env) (e : Value) : Sem PySem.Fin := (do noteFrame e env; theTreesLotGoes e : Sem Unit).wrap (fun _ => .raise e) .raise id id
theorem seg_forTurn {target : Expr} {it : Value} {body : List Stmt}
    (h : wpAny (model prog w) (A.over (.forLoop target it body [] env) fs) (pyNext it) (fun r s1 => match r with
        | none => Seg (model prog w) A R Y n s₀ (.forLoop target it body [] env) (.pure (.again (.block [] env))) fs s1
        | some v => wpAny (model prog w) (A.over (.forLoop target it body [] env) fs) (letOwnedTupleGo target it v) (fun _ s2 => wpAny (model prog w) (A.over (.forLoop target it body [] env) fs) (assign target env v) (fun _ s3 =>
            Seg (model prog w) A R Y n s₀ (.forLoop target it body [] env) ((execs body env).wrap (forWay (.forLoop target it body [] env)) (forOut env) id id) fs s3)
            (fun x s' => Seg (model prog w) A R Y n s₀ (.forLoop target it body [] env) (forOut env x) fs s') s2) (fun x s' => Seg (model prog w) A R Y n s₀ (.forLoop target it body [] env) (forOut env x) fs s') s1)
      (fun x s' => Seg (model prog w) A R Y n s₀ (.forLoop target it body [] env) (forOut env x) fs s') s) :
    Seg (model prog w) A R Y n s₀ (.forLoop target it body [] env) ((model prog w).den (.forLoop target it body [] env)) fs s := by
  show Seg _ A R Y n s₀ _ ((forTurn target it body [] env).onRaise (fun x => do noteFrame x env; theTreesLotGoes x)) fs s
  have eJ : ∀ x, ((do noteFrame x env; theTreesLotGoes x : Sem Unit).bind fun _ => (.raise x : Sem PySem.Fin)) = forOut env x := fun x => Sem.bind_eq_wrap _ _
  rw [Sem.onRaise_eq_wrap]
  unfold forTurn
  refine seg_bind_wrap (wpAny_standAt ?_)
  refine seg_bind_wrap (wpAny_onRaise (wpAny_mono h (fun r s1 h1 => ?_) fun x s' hx => wpAny_standAt ?_))
  · cases r with
    | none => exact h1
    | some v =>
      refine seg_bind_wrap (wpAny_mono h1 (fun _ s2 h2 => ?_) fun x s' hx => ?_)
      · refine seg_bind_wrap (wpAny_mono h2 (fun _ s3 h3 => ?_) fun x s' hx => ?_)
        · rw [Sem.bind_eq_wrap', Sem.wrap_wrap]
          rw [Sem.wrap_congr (execs body env) _ _ (K' := forWay (.forLoop target it body [] env)) (H' := forOut env) (fun f => by cases f <;> rfl) (fun e => by first | exact eJ e | rfl)]
          exact h3
        · first
            | exact hx
            | (rw [← eJ] at hx; exact hx)
      · first
          | exact hx
          | (rw [← eJ] at hx; exact hx)
  · first
      | exact hx
      | (rw [← eJ] at hx; exact hx)
theorem seg_blockNil (h : Seg (model prog w) A R Y n s₀ (.block [] env) (leafOf (.ok .next)) fs s) : Seg (model prog w) A R Y n s₀ (.block [] env) ((model prog w).den (.block [] env)) fs s := h
end
section
variable {X : Cx}
def tGFor (wi : TI) (g : TG) (tb : TGn) : TGn := fun D ys σ H => wi σ H fun J H1 => ∃ W : Nat → Nat → List V → L2.St → Hp → Prop, (∃ m, W 0 m ys σ H1) ∧ ∀ i m ys σ H, W i m ys σ H →
  (J.stop i H ∧ D.nx ys σ H) ∨ (J.go i H ∧ ∃ N : List V → L2.St → Hp → Prop, (∀ ys' σ' H', N ys' σ' H' → ∃ m', m' < m ∧ W (i + 1) m' ys' σ' H') ∧ ∀ x H', J.yld i H x H' → g x σ H' fun σ2 H2 => tb { D with nx := N, ct := N, bk := D.nx } ys σ2 H2)
theorem gc_pins {S : Addr} {ip ip' : List (Addr × Obj)} {A : Around} {c : Code} {fs : List Frame} {gd : Bool → Bool} (g : GC X S ip A c fs gd) (h : ∀ p ∈ ip', p.1 ≠ S) : GC X S ip' A c fs gd := ⟨g.pn, h, g.apart, g.over, g.split, g.guard, g.gd⟩
theorem gs_for {tg iter : Expr} {body : List Stmt} {wi : TI} {g : TG} {tb : TGn} {pos : Pos} (hp : PassesOwn (model X.prog X.w) X.A X.env X.xe) (hcm : X.calm = true) (hi : PI X tg iter wi) (hg : PG X tg g) (hb : GSs X body tb)
    (hs : ∀ x, foldedSetIterable iter X.env x = pure x := by intro _; rfl) : GS X (.For tg iter body [] pos) (tGFor wi g tb) := by
  refine ⟨fun A S ip R n ys s₀ c fs K J gd lv s σ H D gc hn k hI ht => ?_⟩
  obtain ⟨acc, cc, r, I⟩ := hI
  rw [exec_For]
  refine seg_at ?_
  show Seg _ _ _ _ n s₀ c ((eval iter X.env >>= fun a => foldedSetIterable iter X.env a >>= fun x => standAt iter.pos >>= fun _ => holding [x] (pyIter x) >>= fun it => runOwn (.forLoop tg it body [] X.env) X.env).wrap K J gd lv) fs s
  refine seg_bind_wrap ?_
  rw [gc.over]
  refine wpAny_mono (hi.run _ s σ H _ I ht) (fun v s1 h1 => ?_) fun x s' hx => k.exc n s₀ x s' hx
  refine seg_bind_wrap (wpAny_of_eq (hs v) ?_)
  refine seg_bind_wrap (wpAny_standAt ?_)
  refine seg_bind_wrap (wpAny_holding ?_)
  rw [gc.over]
  refine wpAny_mono h1 (fun itv s2 h2 => ?_) fun x s' hx => k.exc n s₀ x s' hx
  obtain ⟨it, fp, tn, Jt, H2, rfl, I2, T, st2, f2, W, ⟨m0, w0⟩, turn⟩ := h2
  refine seg_call fun p => ?_
  have gl := fun (kk : Result → Sem PySem.Fin) => gc_loop (k := kk) (c' := .forLoop tg (.ref it) body [] X.env) (l := lv []) (kp := []) (p := p) gc rfl rfl
  have glb := fun (kk : Result → Sem PySem.Fin) => gc_loop (k := kk) (c' := .block [] X.env) (l := lv []) (kp := []) (p := p) gc rfl rfl
  have fS : ∀ b ∈ fp, b ≠ S := fun b hb z => (f2 b hb).2.2.2.2.2 (S, lstObj acc cc) (List.mem_append_right _ List.mem_cons_self) z.symm
  -- the iterator's objects, whatever stands in the consumer's list
  have stat : ∀ {acc' : Array Value} {c' : Nat} {H' : Hp}, (∀ b ∈ fp, H' b = none) → ∀ b ∈ fp, FpOk X ((S, lstObj acc' c') :: ip) H' b := by
    intro acc' c' H' hn b hb
    obtain ⟨_, z1, z2, z3, z4, z5⟩ := f2 b hb
    refine ⟨hn b hb, z1, z2, z3, z4, fun q hq => ?_⟩
    rcases List.mem_append.mp hq with hq | hq
    · exact z5 q (List.mem_append_left _ hq)
    · rcases List.mem_cons.mp hq with hq | hq
      · rw [hq]
        exact Ne.symm (fS b hb)
      · exact z5 q (List.mem_append_right _ (List.mem_cons_of_mem _ hq))
  have loop : ∀ (m i n : Nat) (ys : List V) (s₀ s : Shared) (σ : L2.St) (H : Hp), n + ys.length = sizeLine → W i m ys σ H → GI X S ip ys σ H s → tn i s.heap → (∀ b ∈ fp, H b = none) →
      Seg (model X.prog X.w) A R (GY X S) n s₀ (.forLoop tg (.ref it) body [] X.env) ((model X.prog X.w).den (.forLoop tg (.ref it) body [] X.env))
        (.ret (fun r => ((match r with | .ok f => (.pure f : Sem Flow) | .error e => .raise e).onRaise (cameBack X.env)).wrap K J gd lv) none (gd false) (lv []) c p [] :: fs) s := by
    intro m
    induction m using Nat.strongRecOn with
    | ind m ih =>
      intro i n ys s₀ s σ H hn w hI st hf
      have ee : ∀ (n : Nat) (s₀ : Shared) (x : Value) (s' : Shared), X.xe x s' → Seg (model X.prog X.w) A R (GY X S) n s₀ (.forLoop tg (.ref it) body [] X.env) (forOut X.env x)
          (.ret (fun r => ((match r with | .ok f => (.pure f : Sem Flow) | .error e => .raise e).onRaise (cameBack X.env)).wrap K J gd lv) none (gd false) (lv []) c p [] :: fs) s' := by
        intro n s₀ x s' hx
        unfold forOut
        refine seg_wrap ?_
        rw [(gl _).over]
        refine wpAny_bind (wpAny_mono (hp x s' hx) (fun _ s'' hcb => wpAny_theTreesLotGoes ?_) fun y s'' hcb => ?_)
        · exact seg_leaf (.error x) (seg_cameBack gc k hcb)
        · exact seg_leaf (.error y) (seg_cameBack gc k hcb)
      refine seg_forTurn ?_
      rw [(gl _).over]
      obtain ⟨acc, cc, r, I⟩ := hI
      rcases turn i m ys σ H w with ⟨stop, qn⟩ | ⟨go, N, hN, step⟩
      · refine thn (T.done X rfl rfl rfl hcm i _ s σ H _ I (stat hf) st stop) fun r' s4 ⟨hr, I4⟩ => ?_
        subst hr
        refine seg_again rfl (seg_blockNil ?_)
        exact seg_leaf (.ok .next) (k.ok n ys s₀ s4 .next hn ⟨σ, H, ⟨acc, cc, r, I4⟩, qn⟩)
      · refine thn (T.item X rfl rfl rfl hcm i _ s σ H _ I (stat hf) st go) fun r' s4 ⟨u, hr, h4⟩ => ?_
        subst hr
        refine thn h4 fun _ s5 ⟨x, H5, I5, r5, y5, st5, fr5⟩ => ?_
        have I5' := I5.pinned (stat fr5) (T.obj _ _ st5)
        refine wpAny_mono (hg.run _ s5 σ H5 x u _ I5' r5 (step x H5 y5)) (fun _ s6 ⟨σ6, H6, I6, q6⟩ => ?_) fun x s' hx => ee n s₀ x s' hx
        have hip : ∀ q ∈ ip ++ pinsAt fp s5.heap, q.1 ≠ S := fun q hq => by
          rcases List.mem_append.mp hq with hq | hq
          · exact gc.ip q hq
          · exact fS _ (of_pinsAt hq).1
        refine hb.run A S (ip ++ pinsAt fp s5.heap) R n ys s₀ _ _ _ _ id id s6 σ6 H6 { D with nx := N, ct := N, bk := D.nx } (gc_pins (gl _) hip) hn ⟨fun n' ys' s₀' s7 f hn' hs => ?_, fun n' s₀' x s7 hx => ee n' s₀' x s7 hx⟩ ⟨acc, cc, r, I6⟩ q6
        have back : ∀ {ys' : List V} {σ7 : L2.St} {H7 : Hp}, GI X S (ip ++ pinsAt fp s5.heap) ys' σ7 H7 s7 → GI X S ip ys' σ7 H7 s7 ∧ tn (i + 1) s7.heap ∧ ∀ b ∈ fp, H7 b = none := by
          rintro ys' σ7 H7 ⟨acc7, c7, r7, I7⟩
          have pin7 : ∀ {b : Addr} {o : Obj}, b ∈ fp → s5.heap.get? b = some o → s7.heap.get? b = some o ∧ H7 b = none := fun hb e =>
            let z := I7.pin (_, _) (List.mem_append_right _ (List.mem_cons_of_mem _ (List.mem_append_right _ (mem_pinsAt hb e)))); ⟨z.1, z.2.1⟩
          refine ⟨⟨acc7, c7, r7, I7.pins_of fun q hq => I7.pin q ?_⟩, T.keep _ _ _ st5 fun b hb o e => (pin7 hb e).1, fun b hb => ?_⟩
          · rcases List.mem_cons.mp hq with hq | hq
            · rw [hq]; exact List.mem_append_right _ List.mem_cons_self
            · exact List.mem_append_right _ (List.mem_cons_of_mem _ (List.mem_append_left _ hq))
          · obtain ⟨o, e, _⟩ := T.obj _ _ st5 b hb
            exact (pin7 hb e).2
        cases f with
        | next =>
          obtain ⟨σ7, H7, I7, n7⟩ := hs
          obtain ⟨m', hm, w7⟩ := hN ys' σ7 H7 n7
          exact seg_again rfl (ih m' hm (i + 1) n' ys' s₀' s7 σ7 H7 hn' w7 (back I7).1 (back I7).2.1 (back I7).2.2)
        | cont =>
          obtain ⟨σ7, H7, I7, n7⟩ := hs
          obtain ⟨m', hm, w7⟩ := hN ys' σ7 H7 n7
          exact seg_again rfl (ih m' hm (i + 1) n' ys' s₀' s7 σ7 H7 hn' w7 (back I7).1 (back I7).2.1 (back I7).2.2)
        | brk =>
          obtain ⟨σ7, H7, I7, q7⟩ := hs
          exact seg_leaf (.ok .next) (k.ok n' ys' s₀' s7 .next hn' ⟨σ7, H7, (back I7).1, q7⟩)
        | ret v =>
          obtain ⟨v7, σ7, H7, I7, r7, q7⟩ := hs
          exact seg_leaf (.ok (.ret v)) (k.ok n' ys' s₀' s7 (.ret v) hn' ⟨v7, σ7, H7, (back I7).1, r7, q7⟩)
  exact loop m0 0 n ys s₀ s2 σ H2 hn w0 ⟨acc, cc, r, I2⟩ st2 fun b hb => (f2 b hb).1
end
def GForGo (g : TG) (tb : TGn) (D : GEnds) (ys : List V) (σ : L2.St) : It → Hp → Prop := fun J H1 => ∃ W : Nat → Nat → List V → L2.St → Hp → Prop, (∃ m, W 0 m ys σ H1) ∧ ∀ i m ys σ H, W i m ys σ H →
  (J.stop i H ∧ D.nx ys σ H) ∨ (J.go i H ∧ ∃ N : List V → L2.St → Hp → Prop, (∀ ys' σ' H', N ys' σ' H' → ∃ m', m' < m ∧ W (i + 1) m' ys' σ' H') ∧ ∀ x H', J.yld i H x H' → g x σ H' fun σ2 H2 => tb { D with nx := N, ct := N, bk := D.nx } ys σ2 H2)
theorem gfor_by {J : It} {n : Nat} {G : Hp → Prop} {Y : Nat → Hp → V → Hp → Prop} (w : Walk J n G Y) {g : TG} {tb : TGn} {D : GEnds} {ys : List V} {σ : L2.St} {H : Hp} (Pv : Nat → List V → L2.St → Hp → Prop) (h0 : Pv 0 ys σ H) (hG : ∀ i ys σ H, i ≤ n → Pv i ys σ H → G H)
    (hs : ∀ i ys x σ H H', i < n → Pv i ys σ H → Y i H x H' → g x σ H' fun σ2 H2 => tb { D with nx := Pv (i + 1), ct := Pv (i + 1), bk := D.nx } ys σ2 H2) (hd : ∀ ys σ H, Pv n ys σ H → D.nx ys σ H) : GForGo g tb D ys σ J H := by
  refine ⟨fun i m ys σ H => m = n - i ∧ i ≤ n ∧ Pv i ys σ H, ⟨n, by simp, Nat.zero_le _, h0⟩, ?_⟩
  rintro i m ys σ H ⟨rfl, hi, p⟩
  have q := hG i ys σ H hi p
  by_cases hlt : i < n
  · exact .inr ⟨w.goes i H hlt q, Pv (i + 1), fun ys' σ' H' p' => ⟨n - (i + 1), by omega, rfl, hlt, p'⟩, fun x H' y => hs i ys x σ H H' hlt p (w.yields i H x H' hlt q y)⟩
  · have e : i = n := by omega
    subst e
    exact .inl ⟨w.stops H q, hd ys σ H p⟩
section
variable {D : GEnds} {ys : List V} {σ : L2.St} {H : Hp}
theorem s_gfor {wi : TI} {g : TG} {tb : TGn} (h : wi σ H (GForGo g tb D ys σ)) : tGFor wi g tb D ys σ H := h
theorem s_gthen {t u : TGn} (h : t { D with nx := fun ys' σ' H' => u D ys' σ' H' } ys σ H) : tGThen t u D ys σ H := h
theorem s_g0 (h : D.nx ys σ H) : tG0 D ys σ H := h
theorem s_gyield {te : TE} (hl : ys.length < sizeLine) (h : te σ H fun x H1 => D.nx (ys ++ [x]) σ H1) : tGYield te D ys σ H := ⟨hl, h⟩
theorem s_gplain {t : TS} (h : t ⟨D.nx ys, D.rt ys, D.bk ys, D.ct ys⟩ σ H) : tPlain t D ys σ H := h
end
def rOut (Q : VK) : List V → Hp → Prop := fun out H2 => ∀ p, H2 p = none → Q (.ref p) (upd H2 p (.lst out))
theorem s_listG {sp : SpG} {E : XK} {t : TA} {σ : L2.St} {H : Hp} {Q : VK} (h : t σ H fun vs H1 => sp vs H1 (rOut Q) E) : tListG (tCallG sp [] E t) σ H Q := by
  show t σ H fun vs H1 => sp (vs ++ []) H1 (rOut Q) E
  simpa only [List.append_nil] using h
theorem fun_okG {P : Program} {w : World} {K : PySem.W.Frag} {mg : Str → Option Value} {base : Heap} {x qual : Str} {st : Stmt} {f : Addr} {fd : FuncData} {N ps : List Str} {k : Nat} {sp : SpG} (F : Fun K x qual st f fd) (S : GScope N ps (defScope st)) (len : ∀ vs H Q E, sp vs H Q E → vs.length = ps.length)
    (hbody : ∀ (cdv : Value) (A : Around) (outer : List Env) (s : Shared) (H : Hp) (vs : List V) (Q : List V → Hp → Prop) (E : XK) (pn : List (Addr × Obj)), Room k (A.deeper (envOfC qual (defScope st) s.heap.objs.size f cdv)) → sp vs H Q E →
      ∃ t, GSs (gcxOf P w K mg base N qual (defScope st) f cdv A outer s H E pn) (defBody st) t ∧ t { nx := fun ys _ H' => Q ys H', rt := fun ys v H' => v = .non ∧ Q ys H' } [] (L2.start N vs) H) : GFn P w K mg base (k + 1) f fd ps sp := by
  obtain ⟨oc, od, kV, doc, pm, an, cdv, ct, osl, rfl, lk, hcd⟩ := F.ex
  exact gfn_of lk hcd S len fun A outer s H vs Q E pn hr hsp => hbody cdv A outer s H vs Q E pn hr hsp
theorem noStop0 {K : PySem.W.Frag} : NoStop K C8.E0 := fun _ _ _ h => h.elim
def rMax2 : List V → Hp → VK → Prop := fun xs H Q => ∃ i j, xs = [.int i, .int j] ∧ Q (.int (if j > i then j else i)) H
def rMin2 : List V → Hp → VK → Prop := fun xs H Q => ∃ i j, xs = [.int i, .int j] ∧ Q (.int (if j < i then j else i)) H
theorem s_max2 {i j : Int} {H : Hp} {Q : VK} (q : Q (.int (if j > i then j else i)) H) : rMax2 [.int i, .int j] H Q := ⟨i, j, rfl, q⟩
theorem s_min2 {i j : Int} {H : Hp} {Q : VK} (q : Q (.int (if j < i then j else i)) H) : rMin2 [.int i, .int j] H Q := ⟨i, j, rfl, q⟩
end My
namespace My
open PySem PySem.Spec PyProof.Rows L2 RZ
theorem s_catL {K : PySem.W.Frag} {H : Hp} {Q : VK} {a b : Addr} {xs ys : List V} (ha : H a = some (.lst xs)) (hb : H b = some (.lst ys)) (hl : xs.length + ys.length ≤ 1000000) (k : ∀ p, H p = none → Q (.ref p) (upd H p (.lst (xs ++ ys)))) : rAddG K (.ref a) (.ref b) H Q :=
  .inr (.inr (.inr ⟨a, b, xs, ys, rfl, rfl, ha, hb, by rw [sizeLine_eq]; omega, k⟩))
end My
namespace My
open PySem PySem.Spec PyProof.Rows L2 RZ
/-- a source: a list, a tuple, a text -/
inductive Kv | l (a : Addr) | t (a : Addr) | s (z : Str)
def Kv.v : Kv → V | .l a => .ref a | .t a => .ref a | .s z => .str z
def signs (z : Str) : List V := z.cps.toList.map fun c => V.str ⟨#[c]⟩
def Kv.seq (K : PySem.W.Frag) (H : Hp) (xs : List V) : Kv → Prop
  | .l a => SqL K H a xs
  | .t a => SqT K H a xs
  | .s z => xs = signs z
def Kv.u (t : Tok) : Kv → Value | .l a => .ref a | .t a => .ref a | .s z => .str z t
def Kv.at (t : Tok) (h : Heap) (it : Addr) (i : Nat) : Kv → Prop
  | .l a => h.IsListIter it a i
  | .t a => h.IsTupleIter it a i
  | .s z => h.IsStrIter it (strIterType z) z t i
def Kv.own : Kv → List Addr | .l a => [a] | .t a => [a] | .s _ => []
def Kv.obj (t : Tok) : Kv → Obj
  | .l a => { cls := .type "list_iterator", data := .fields #[.ref a, .int 0 0] }
  | .t a => { cls := .type "tuple_iterator", data := .fields #[.ref a, .int 0 0] }
  | .s z => { cls := .type (strIterType z), data := .fields #[.str z t, .int 0 0] }
theorem Kv.u_of {k : Kv} {w : Value} (r : RelV k.v w) : ∃ t, w = k.u t := by
  cases k with
  | l a => exact ⟨0, r⟩
  | t a => exact ⟨0, r⟩
  | s z => exact r
theorem Kv.at_move {k : Kv} {t : Tok} {h h' : Heap} {it : Addr} {i : Nat} (x : k.at t h it i) (e : ∀ o, h.get? it = some o → h'.get? it = some o) : k.at t h' it i := by
  cases k with
  | l a => exact Heap.IsListIter.at x e
  | t a => exact Heap.IsTupleIter.at x e
  | s z => obtain ⟨o, ho, r⟩ := x; exact ⟨o, e o ho, r⟩
theorem Kv.at_obj {k : Kv} {t : Tok} {h : Heap} {it : Addr} {i : Nat} (x : k.at t h it i) : ∃ o, h.get? it = some o ∧ ∀ v, o.data ≠ .cell v := by
  cases k with
  | l a => obtain ⟨o, e, _, d⟩ := x; exact ⟨o, e, fun v z => by rw [d] at z; cases z⟩
  | t a => obtain ⟨o, e, _, d⟩ := x; exact ⟨o, e, fun v z => by rw [d] at z; cases z⟩
  | s z => obtain ⟨o, e, _, d⟩ := x; exact ⟨o, e, fun v z => by rw [d] at z; cases z⟩
section
variable {X : Cx} {pins : List (Addr × Obj)} {σ : L2.St} {H : Hp} {s : Shared}
theorem Kv.inj {k : Kv} {xs ys : List V} (I : Inv X pins σ H s) (h : k.seq X.K H xs) (h' : k.seq X.K H ys) : xs = ys := by
  cases k with
  | l a => exact I.list_inj h h'
  | t a => exact I.tuple_inj h h'
  | s z => exact Eq.trans h (Eq.symm h')
theorem Kv.live {k : Kv} {xs : List V} (I : Inv X pins σ H s) (q : k.seq X.K H xs) : ∀ b ∈ k.own, b < s.heap.objs.size := by
  intro b hb
  cases k with
  | l a =>
    obtain ⟨its, r, p, _⟩ := I.list q
    rw [List.mem_singleton.mp hb]
    exact p.lt
  | t a =>
    obtain ⟨its, r, ⟨o, ho, _⟩, _⟩ := I.tuple q
    rw [List.mem_singleton.mp hb]
    exact Heap.lt_size ho
  | s z => cases hb
/-- what its iterator draws -/
theorem Kv.draws {k : Kv} {xs : List V} (I : Inv X pins σ H s) (q : k.seq X.K H xs) (hc : X.calm = true) (t : Tok) (it : Addr) (hne : it ∉ k.own) :
    ∃ (P : Nat → Value → Prop) (St : Nat → Heap → Prop), Draws X.prog X.w X.A.in1 it (it :: k.own) xs.length P St ∧ (∀ i v, P i v → ∃ y, xs[i]? = some y ∧ RelV y v) ∧ (∀ i, k.at t s.heap it i → St i s.heap) ∧ ∀ i h, St i h → k.at t h it i := by
  have hd : X.A.in1.handled = none := I.ok.hd hc
  cases k with
  | l a =>
    obtain ⟨its, r, p, _⟩ := I.list q
    have e := r.length
    have D := Draws.list (prog := X.prog) (w := X.w) hd it a (fun z => hne (by rw [z]; exact List.mem_singleton.mpr rfl)) its.toArray
    rw [show its.toArray.size = xs.length by rw [List.size_toArray]; exact e.symm] at D
    refine ⟨_, _, D, fun i v hv => ?_, fun i h => ⟨h, p.isList⟩, fun i h st => st.1⟩
    have hv' : its[i]? = some v := by simpa using hv
    have hi : i < xs.length := by rw [e]; exact (List.getElem?_eq_some_iff.mp hv').1
    obtain ⟨u, hu, ru⟩ := r.get (List.getElem?_eq_getElem hi)
    rw [hv'] at hu
    cases hu
    exact ⟨_, List.getElem?_eq_getElem hi, ru⟩
  | t a =>
    obtain ⟨its, r, p, _⟩ := I.tuple q
    have e := r.length
    have D := Draws.tuple (prog := X.prog) (w := X.w) hd it a (fun z => hne (by rw [z]; exact List.mem_singleton.mpr rfl)) its.toArray
    rw [show its.toArray.size = xs.length by rw [List.size_toArray]; exact e.symm] at D
    refine ⟨_, _, D, fun i v hv => ?_, fun i h => ⟨h, p⟩, fun i h st => st.1⟩
    have hv' : its[i]? = some v := by simpa using hv
    have hi : i < xs.length := by rw [e]; exact (List.getElem?_eq_some_iff.mp hv').1
    obtain ⟨u, hu, ru⟩ := r.get (List.getElem?_eq_getElem hi)
    rw [hv'] at hu
    cases hu
    exact ⟨_, List.getElem?_eq_getElem hi, ru⟩
  | s z =>
    have q' : xs = signs z := q
    subst q'
    have D := Draws.text (prog := X.prog) (w := X.w) hd it z t
    rw [show z.cps.size = (signs z).length by simp [signs]] at D
    refine ⟨_, _, D, fun i v hv => ?_, fun i h => h, fun i h st => st⟩
    obtain ⟨c, u, hcx, rfl⟩ := hv
    refine ⟨.str ⟨#[c]⟩, ?_, ⟨u, rfl⟩⟩
    simp [signs, hcx]
theorem Kv.begins {k : Kv} {xs : List V} (I : Inv X pins σ H s) (q : k.seq X.K H xs) (t : Tok) : ∃ G : Heap → Prop, Begins (k.u t) (k.obj t) G ∧ G s.heap := by
  cases k with
  | l a =>
    obtain ⟨its, r, p, _⟩ := I.list q
    exact ⟨_, begins_list a its.toArray, p.isList⟩
  | t a =>
    obtain ⟨its, r, p, _⟩ := I.tuple q
    exact ⟨_, begins_tuple a its.toArray, p⟩
  | s z => exact ⟨_, begins_text z t, trivial⟩
theorem Kv.start {k : Kv} {t : Tok} {h : Heap} {it : Addr} (e : h.get? it = some (k.obj t)) : k.at t h it 0 := by
  cases k with
  | l a => exact ⟨_, e, rfl, rfl⟩
  | t a => exact ⟨_, e, rfl, rfl⟩
  | s z => exact ⟨_, e, rfl, rfl⟩
end
def ItzG (K : PySem.W.Frag) (k1 k2 : Kv) : It :=
  ⟨fun i H => ∃ (xs ys : List V) (x y : V), k1.seq K H xs ∧ k2.seq K H ys ∧ xs[i]? = some x ∧ ys[i]? = some y,
    fun i H v H' => ∃ T x y, v = .ref T ∧ H T = none ∧ H' = upd H T (.tup [x, y]) ∧ (∀ xs, k1.seq K H xs → xs[i]? = some x) ∧ ∀ ys, k2.seq K H ys → ys[i]? = some y,
    fun i H => ∃ xs ys : List V, k1.seq K H xs ∧ k2.seq K H ys ∧ i = min xs.length ys.length⟩
theorem five {c z TI TO i1 i2 : Addr} (h : c ∈ [z, TI, TO, i1, i2]) : c = z ∨ c = TI ∨ c = TO ∨ c = i1 ∨ c = i2 := by simpa using h
/-- what a walk over owned pairs gives, on our heap -/
theorem turn_of_walksT {P : Program} {w : World} {K : PySem.W.Frag} {elts : List Expr} {kk : Nat} {tpos : Pos} {J : It} {fp : List Addr} {it : Addr} {tn : Nat → Heap → Prop}
    (mem : it ∈ fp) (obj : ∀ i h, tn i h → ∀ b ∈ fp, ∃ o, h.get? b = some o ∧ ∀ v, o.data ≠ .cell v) (keep : ∀ i h h', tn i h → (∀ b ∈ fp, ∀ o, h.get? b = some o → h'.get? b = some o) → tn i h')
    (go : ∀ (X : Cx), X.prog = P → X.w = w → X.K = K → X.calm = true → ∀ (i : Nat) (pins : List (Addr × Obj)) (s : Shared) (σ : L2.St) (H : Hp), Inv X pins σ H s → tn i s.heap → J.go i H →
      ∃ (n : Nat) (fpw wr : List Addr) (Pt : Nat → Array Value → Prop) (St : Nat → Heap → Prop) (Mid : Nat → Addr → Heap → Prop), WalksT P w X.A it fpw wr n Pt St Mid ∧ i < n ∧ St i s.heap ∧ (∀ b ∈ wr, b ∈ fp) ∧ (∀ h, St (i + 1) h → tn (i + 1) h) ∧
        ∀ vals, Pt i vals → ∃ xs, Vals xs vals.toList ∧ xs.length ≤ sizeLine ∧ ∀ T, H T = none → J.yld i H (.ref T) (upd H T (.tup xs)))
    (stop : ∀ (X : Cx), X.prog = P → X.w = w → X.K = K → X.calm = true → ∀ (i : Nat) (pins : List (Addr × Obj)) (s : Shared) (σ : L2.St) (H : Hp), Inv X pins σ H s → tn i s.heap → J.stop i H →
      ∃ (n : Nat) (fpw wr : List Addr) (Pt : Nat → Array Value → Prop) (St : Nat → Heap → Prop) (Mid : Nat → Addr → Heap → Prop), WalksT P w X.A it fpw wr n Pt St Mid ∧ St n s.heap ∧ ∀ b ∈ wr, b ∈ fp)
    (self : ∀ (A : Around) (i : Nat) (s : Shared) (Q : Value → Shared → Prop) (E : Value → Shared → Prop), tn i s.heap → Q (.ref it) s → wpAny (model P w) A (pyIter (.ref it)) Q E s) :
    Turn P w K (.Tuple elts kk tpos) J fp it tn where
  mem := mem
  obj := obj
  keep := keep
  item := by
    intro X hP hw hK hc i pins s σ H E I hf st hg
    obtain ⟨n, fpw, wr, Pt, St, Mid, W, hi, st0, hwr, back, give⟩ := go X hP hw hK hc i pins s σ H I st hg
    subst hP hw hK
    refine W.item i s _ _ hi st0 fun T vals h' tk hPt hT hIsT hMid hk => ⟨_, rfl, ?_⟩
    obtain ⟨xs, rv, hz, y⟩ := give vals hPt
    refine W.go elts kk tpos i T { s with heap := h', toks := tk } _ _ hMid fun h'' st' hk2 => ?_
    have kk2 : ∀ b o, b ∉ wr → s.heap.get? b = some o → h''.get? b = some o := fun b o hb e => hk2 b o hb (hk b o hb e)
    have hT2 : h''.IsTuple T vals := by
      obtain ⟨o, e, r⟩ := hIsT
      exact ⟨o, hk2 T o (W.apart i T h' hMid) e, r⟩
    have hn : H T = none := I.hok.fresh hT
    have new : ObjOk X.prog X.w (upd H T (.tup xs)) h'' T (.tup xs) := ⟨hz, vals.toList, rv, by rw [Array.toArray_toList]; exact hT2⟩
    have I1 : Inv X pins σ (upd H T (.tup xs)) { s with heap := h'', toks := tk } :=
      I.turnedNew (t' := tk) (ch := fp) (fun b o hb e => kk2 b o (fun z => hb (hwr b z)) e) hf hT new
    refine ⟨.ref T, _, I1, rfl, y T hn, back _ st', fun b hb => ?_⟩
    obtain ⟨o, e, _⟩ := obj i s.heap st b hb
    rw [upd_ne (Nat.ne_of_lt (Nat.lt_of_lt_of_le (Heap.lt_size e) hT))]
    exact (hf b hb).1
  done := by
    intro X hP hw hK hc i pins s σ H E I hf st hg
    obtain ⟨n, fpw, wr, Pt, St, Mid, W, st0, hwr⟩ := stop X hP hw hK hc i pins s σ H I st hg
    subst hP hw hK
    exact W.done s _ _ st0 fun h' tk hk => ⟨rfl, I.turnedL (t' := tk) (ch := fp) (fun b o hb e => hk b o (fun z => hb (hwr b z)) e) hf⟩
  self := self
theorem turn_zipG {P : Program} {w : World} {K : PySem.W.Frag} {elts : List Expr} {kk : Nat} {tpos : Pos} {k1 k2 : Kv} {t1 t2 : Tok} {z TI TO i1 i2 : Addr} (D : ZipSep2 z TI TO i1 i2 (i1 :: k1.own) (i2 :: k2.own)) (n1 : i1 ∉ k1.own) (n2 : i2 ∉ k2.own) :
    Turn P w K (.Tuple elts kk tpos) (ItzG K k1 k2) [z, TI, TO, i1, i2] z (fun i h => IsZip h z TI TO .none ∧ IsPair h TI (.ref i1) (.ref i2) ∧ (∃ x y, IsPair h TO x y) ∧ k1.at t1 h i1 i ∧ k2.at t2 h i2 i) := by
  refine turn_of_walksT (by simp) ?_ ?_ ?_ ?_ ?_
  · intro i h st c hc
    obtain ⟨hz, hTI, ⟨x, y, hTO⟩, h1, h2⟩ := st
    rcases five hc with q | q | q | q | q
    · rw [q]; exact ⟨_, hz, fun v q => nomatch q⟩
    · rw [q]; exact ⟨_, hTI, fun v q => nomatch q⟩
    · rw [q]; exact ⟨_, hTO, fun v q => nomatch q⟩
    · rw [q]; exact Kv.at_obj h1
    · rw [q]; exact Kv.at_obj h2
  · intro i h h' st k
    obtain ⟨hz, hTI, ⟨x, y, hTO⟩, h1, h2⟩ := st
    exact ⟨k z (by simp) _ hz, k TI (by simp) _ hTI, ⟨x, y, k TO (by simp) _ hTO⟩, Kv.at_move h1 fun o q => k i1 (by simp) o q, Kv.at_move h2 fun o q => k i2 (by simp) o q⟩
  · intro X hP hw hK hc i pins s σ H I st hg
    subst hP hw hK
    obtain ⟨hz, hTI, hTO, h1, h2⟩ := st
    obtain ⟨xs, ys, x, y, hx, hy, gx, gy⟩ := hg
    obtain ⟨P1, S1, D1, r1, e1, b1⟩ := Kv.draws I hx hc t1 i1 n1
    obtain ⟨P2, S2, D2, r2, e2, b2⟩ := Kv.draws I hy hc t2 i2 n2
    have l1 := (List.getElem?_eq_some_iff.mp gx).1
    have l2 := (List.getElem?_eq_some_iff.mp gy).1
    refine ⟨_, _, _, _, _, _, WalksT.zipD2 D D1 D2, by omega, ⟨hz, hTI, hTO, e1 i h1, e2 i h2⟩, fun b hb => ?_, fun h st => ⟨st.1, st.2.1, st.2.2.1, b1 _ _ st.2.2.2.1, b2 _ _ st.2.2.2.2⟩, ?_⟩
    · have hb' : b = z ∨ b = TO ∨ b = i1 ∨ b = i2 := by simpa using hb
      rcases hb' with q | q | q | q <;> simp [q]
    · rintro vals ⟨x1, x2, p1, p2, rfl⟩
      obtain ⟨y1, g1, rv1⟩ := r1 i x1 p1
      obtain ⟨y2, g2, rv2⟩ := r2 i x2 p2
      exact ⟨[y1, y2], .cons rv1 (.cons rv2 .nil), szb rfl, fun T hT => ⟨T, y1, y2, rfl, hT, rfl, fun xs' h' => by rw [Kv.inj I h' hx]; exact g1, fun ys' h' => by rw [Kv.inj I h' hy]; exact g2⟩⟩
  · intro X hP hw hK hc i pins s σ H I st hg
    subst hP hw hK
    obtain ⟨hz, hTI, hTO, h1, h2⟩ := st
    obtain ⟨xs, ys, hx, hy, rfl⟩ := hg
    obtain ⟨P1, S1, D1, r1, e1, b1⟩ := Kv.draws I hx hc t1 i1 n1
    obtain ⟨P2, S2, D2, r2, e2, b2⟩ := Kv.draws I hy hc t2 i2 n2
    refine ⟨_, _, _, _, _, _, WalksT.zipD2 D D1 D2, ⟨hz, hTI, hTO, e1 _ h1, e2 _ h2⟩, fun b hb => ?_⟩
    have hb' : b = z ∨ b = TO ∨ b = i1 ∨ b = i2 := by simpa using hb
    rcases hb' with q | q | q | q <;> simp [q]
  · exact fun A i s Q E st h => wpAny_pyIter_zip st.1 h
def iZipG (K : PySem.W.Frag) (ta : TA) : TI := fun σ H R => ta σ H fun vs H1 => ∃ (k1 k2 : Kv) (xs ys : List V), vs = [k1.v, k2.v] ∧ k1.seq K H1 xs ∧ k2.seq K H1 ys ∧ R (ItzG K k1 k2) H1
theorem pi_zipG (K : PySem.W.Frag) {X : Cx} {e e2 : Expr} {ta : TA} {p pos tpos : Pos} {elts : List Expr} {kk : Nat} (hg : Gl X "zip") (hm : X.mg "zip" = none) (ha : PA X [e, e2] ta) (eK : X.K = K := by rfl)
    (hs : starEach [e, e2] X.env = (false, eval e X.env) :: starEach [e2] X.env := by rfl) (hpl : (backTo pos (starEach [e2] X.env)).any (·.1) = false := by rfl) :
    PI X (.Tuple elts kk tpos) (.Call (.Name "zip" p) [e, e2] [] pos) (iZipG K ta) := by
  subst eK
  constructor
  intro pins s σ H R I h
  refine Call_ (ld_blt I hg hm PyProof.Rows.boot_zip (PyProof.Rows.callWith_type1 (thn (ha.run pos pins s σ H _ I h) ?_) hs hpl))
  rintro us s1 ⟨vs, H1, I1, r1, k1, k2, xs, ys, rfl, hx, hy, q⟩
  obtain ⟨w1, w2, rfl, rw1, rw2⟩ := vals2 r1
  obtain ⟨t1, rfl⟩ := Kv.u_of rw1
  obtain ⟨t2, rfl⟩ := Kv.u_of rw2
  obtain ⟨G1, B1, g1⟩ := Kv.begins I1 hx t1
  obtain ⟨G2, B2, g2⟩ := Kv.begins I1 hy t2
  have lv1 := Kv.live I1 hx
  have lv2 := Kv.live I1 hy
  refine zip_begins2 B1 B2 g1 g2 fun h' hz hTI hTO o1 o2 hsz hk => wpAny_pyIter_zip hz ?_
  have I2 : Inv X pins σ H1 { s1 with heap := h' } := I1.kept (t' := s1.toks) hk
  refine ⟨s1.heap.objs.size + 4, [s1.heap.objs.size + 4, s1.heap.objs.size + 2, s1.heap.objs.size + 3, s1.heap.objs.size, s1.heap.objs.size + 1], _, _, H1, rfl, I2,
    turn_zipG (t1 := t1) (t2 := t2) (zip_sep2 lv1 lv2) (fun z => Nat.lt_irrefl _ (lv1 _ z)) (fun z => Nat.lt_irrefl _ (Nat.lt_of_succ_lt (lv2 _ z))), ⟨hz, hTI, ⟨_, _, hTO⟩, Kv.start o1, Kv.start o2⟩, fun c hcm => ?_, q⟩
  have hle : s1.heap.objs.size ≤ c := by
    rcases five hcm with z | z | z | z | z <;> rw [z] <;> first | exact Nat.le_refl _ | exact Nat.le_add_right _ _
  exact I1.fpOk hle (I1.hok.fresh hle)
theorem walk_zipG {K : PySem.W.Frag} {k1 k2 : Kv} {xs ys : List V} {n : Nat} (hn : n = min xs.length ys.length) : Walk (ItzG K k1 k2) n (fun H => k1.seq K H xs ∧ k2.seq K H ys) (YPair (fun i => xs[i]?) (fun i => ys[i]?)) := by
  subst hn
  refine ⟨fun i _ hi q => ?_, fun _ q => ⟨xs, ys, q.1, q.2, rfl⟩, fun i H v H' _ q y => ?_⟩
  · have h1 : i < xs.length := by omega
    have h2 : i < ys.length := by omega
    exact ⟨xs, ys, xs[i], ys[i], q.1, q.2, by simp [h1], by simp [h2]⟩
  · obtain ⟨T, x, z, h1, h2, h3, h4, h5⟩ := y
    exact ⟨T, x, z, h1, h2, h3, h4 xs q.1, h5 ys q.2⟩
def IteG (K : PySem.W.Frag) (k : Kv) : It :=
  ⟨fun i H => ∃ (xs : List V) (x : V), k.seq K H xs ∧ xs[i]? = some x,
    fun i H v H' => ∃ T x, v = .ref T ∧ H T = none ∧ H' = upd H T (.tup [.int (i : Nat), x]) ∧ ∀ xs, k.seq K H xs → xs[i]? = some x,
    fun i H => ∃ xs : List V, k.seq K H xs ∧ i = xs.length⟩
def iEnumG (K : PySem.W.Frag) (ta : TA) : TI := fun σ H R => ta σ H fun vs H1 => ∃ (k : Kv) (xs : List V), vs = [k.v] ∧ k.seq K H1 xs ∧ R (IteG K k) H1
section
variable {K : PySem.W.Frag} {σ : L2.St} {H : Hp} {R : It → Hp → Prop} {ta : TA}
def rZipG (K : PySem.W.Frag) : List V → Hp → (It → Hp → Prop) → Prop := fun vs H R => ∃ (k1 k2 : Kv) (xs ys : List V), vs = [k1.v, k2.v] ∧ k1.seq K H xs ∧ k2.seq K H ys ∧ R (ItzG K k1 k2) H
def rEnumG (K : PySem.W.Frag) : List V → Hp → (It → Hp → Prop) → Prop := fun vs H R => ∃ (k : Kv) (xs : List V), vs = [k.v] ∧ k.seq K H xs ∧ R (IteG K k) H
theorem s_izipG (h : ta σ H fun vs H1 => rZipG K vs H1 R) : iZipG K ta σ H R := h
theorem s_ienumG (h : ta σ H fun vs H1 => rEnumG K vs H1 R) : iEnumG K ta σ H R := h
theorem s_zipG (k1 k2 : Kv) {xs ys : List V} (h1 : k1.seq K H xs) (h2 : k2.seq K H ys) (q : R (ItzG K k1 k2) H) : rZipG K [k1.v, k2.v] H R := ⟨k1, k2, xs, ys, rfl, h1, h2, q⟩
end
end My
namespace My
open PySem PySem.Spec PyProof.Rows L2 RZ
section
variable {K : PySem.W.Frag} {σ : L2.St} {H : Hp} {Q : VK} {C a dx : Addr} {f : Str} {v : V} {fs : List (Str × V)} {te tv : TE} {t : TA} {sp : Sp} {dvs : List V} {E : XK} {nx bk ct : L2.St → Hp → Prop} {rt : VK}
def rFld (K : PySem.W.Frag) (f : Str) (Q : VK) : V → Hp → Prop := fun x H1 => ∃ a C dx fs v, x = .ref a ∧ H1 a = some (.ins C dx fs) ∧ Cls K C ∧ NoAttr K C f ∧ fs.lookup f = some v ∧ Q v H1
theorem s_fldR (h : te σ H (rFld K f Q)) : tFld K te f σ H Q := h
theorem s_fldV (e : H a = some (.ins C dx fs)) (c : Cls K C) (n : NoAttr K C f) (l : fs.lookup f = some v) (q : Q v H) : rFld K f Q (.ref a) H := ⟨a, C, dx, fs, v, rfl, e, c, n, l, q⟩
def rSto (K : PySem.W.Frag) (f : Str) (y : V) (nx : Hp → Prop) : V → Hp → Prop := fun x H2 => ∃ a C dx fs, x = .ref a ∧ H2 a = some (.ins C dx fs) ∧ Cls K C ∧ NoAttr K C f ∧ fs.length < 1000 ∧ nx (upd H2 a (.ins C dx (putF f y fs)))
theorem s_stoR (h : tv σ H fun y H1 => te σ H1 (rSto K f y (nx σ))) : sFld K te tv f ⟨nx, rt, bk, ct⟩ σ H := h
theorem s_stoV {y : V} {n : Hp → Prop} (e : H a = some (.ins C dx fs)) (c : Cls K C) (na : NoAttr K C f) (l : Nat.ble fs.length 900 = true) (q : n (upd H a (.ins C dx (putF f y fs)))) : rSto K f y n (.ref a) H := ⟨a, C, dx, fs, rfl, e, c, na, Nat.lt_of_le_of_lt (Nat.le_of_ble_eq_true l) (by decide), q⟩
def rMake (C : Addr) (sp : Sp) (E : XK) (Q : VK) : List V → Hp → Prop := fun vs H1 => ∀ x dx, H1 x = none → H1 dx = none → dx ≠ x → sp (.ref x :: vs) (upd (upd H1 dx (.own x)) x (.ins C dx [])) (fun v H2 => v = .non ∧ Q (.ref x) H2) E
theorem s_makeR (h : t σ H (rMake C sp E Q)) : tMake C sp [] E t σ H Q := by
  unfold tMake
  simp only [List.append_nil]
  exact h
def rMeth (C : Addr) (m : Str) (sp : Sp) (E : XK) (t : TA) (σ : L2.St) (Q : VK) : V → Hp → Prop := fun x H1 => ∃ a dx fs, x = .ref a ∧ H1 a = some (.ins C dx fs) ∧ fs.lookup m = none ∧ t σ H1 fun vs H2 => sp (x :: vs) H2 Q E
theorem s_methR {m : Str} (h : te σ H (rMeth C m sp E t σ Q)) : tMeth C m sp [] E te t σ H Q := by
  unfold tMeth
  simp only [List.append_nil]
  exact h
theorem s_methV {m : Str} (e : H a = some (.ins C dx fs)) (l : fs.lookup m = none) (h : t σ H fun vs H2 => sp (.ref a :: vs) H2 Q E) : rMeth C m sp E t σ Q (.ref a) H := ⟨a, dx, fs, rfl, e, l, h⟩
end
/-- a new instance, its own dict: what was tracked stays -/
theorem Fr.obj {N : Addr → Prop} {H : Hp} {x dx : Addr} {o : HO} (h1 : H x = none) (h2 : H dx = none) (n : dx ≠ x) : Fr N H (upd (upd H dx (.own x)) x o) := (Fr.new h2).mut h1
end My
namespace My
open PySem PySem.Spec PyProof.Rows L2 RZ
theorem upd_upd {H : Hp} {a : Addr} {o u : HO} : upd (upd H a o) a u = upd H a u := by
  funext b
  by_cases hb : b = a
  · rw [hb, upd_same, upd_same]
  · rw [upd_ne hb, upd_ne hb, upd_ne hb]
end My
namespace My
open PySem PySem.Spec PyProof.Rows L2 RZ
theorem holdAll_ints {h : Heap} : ∀ {ns : List Int} {us : List Value}, Vals (ns.map V.int) us → PySem.W.HoldAll h us ns
  | [], _, r => by cases r; exact PySem.W.HoldAll.nil
  | n :: ns, _, r => by
    cases r with
    | cons a b =>
      obtain ⟨t, rfl⟩ := a
      exact .cons (PySem.W.holds_int n t) (holdAll_ints b)
theorem holds_int_inv {h : Heap} {v : Value} {n : Int} (x : PySem.W.Holds h v n) : ∃ t, v = .int n t := by
  obtain ⟨as, r⟩ := x
  cases r
  exact ⟨_, rfl⟩
def maxI (d : Int) : List Int → Int
  | [] => d
  | y :: ys => PySem.W.maxOf y ys
def rMaxD (K : PySem.W.Frag) : List V → List V → Hp → VK → Prop := fun xs ds H Q => ∃ (a : Addr) (ns : List Int) (d : Int), xs = [.ref a] ∧ ds = [.int d] ∧ SqL K H a (ns.map V.int) ∧ Q (.int (maxI d ns)) H
theorem callMaxD (K : PySem.W.Frag) {X : Cx} (hc : X.calm = true) (hu : X.A.units + 64 < cLine) (eK : X.K = K := by rfl) : CallRK X (.builtin "max") [Str.ofString "default"] (rMaxD K) := by
  subst eK
  rintro pins s σ H xs zs us ws Q I r1 r2 ⟨a, ns, d, rfl, rfl, hl, q⟩
  obtain ⟨w1, rfl, rfl⟩ := vals1 r1
  obtain ⟨w2, rfl, t, rfl⟩ := vals1 r2
  obtain ⟨its, rv, pl, _⟩ := I.list hl
  refine PySem.W.max_list_datum_default (α := Int) (xs := ns) (I.ok.hd hc) pl.isList (by simpa using holdAll_ints rv) (by show X.A.units + 1 + 0 < cLine; omega) (fun e h' tk k => ?_) fun y ys i v h' tk e hi hv k => ?_
  · subst e
    exact ⟨.int d, H, I.kept k, ⟨t, rfl⟩, q⟩
  · subst e
    exact ⟨.int (PySem.W.maxOf y ys), H, I.kept k, holds_int_inv hv, q⟩
theorem s_ckw {r : List V → List V → Hp → VK → Prop} {t tk : TA} {σ : L2.St} {H : Hp} {Q : VK} (h : t σ H fun vs H1 => tk σ H1 fun zs H2 => r vs zs H2 Q) : tCKw r t tk σ H Q := h
theorem s_maxD {K : PySem.W.Frag} {a : Addr} {ns : List Int} {d : Int} {H : Hp} {Q : VK} (h : SqL K H a (ns.map V.int)) (q : Q (.int (maxI d ns)) H) : rMaxD K [.ref a] [.int d] H Q := ⟨a, ns, d, rfl, rfl, h, q⟩
def rSIndex : V → List V → Hp → VK → Prop := fun x xs H Q => ∃ (a b : Str) (i : Nat) (rest : List Nat), x = .str a ∧ xs = [.str b] ∧ Builtin.Str.occurrences a b 0 a.length 1 = i :: rest ∧ Q (.int (i : Nat)) H
theorem mtSIndex {X : Cx} : MtR X "str.index" rSIndex := mt_sindex
theorem s_sindex {a b : Str} {i : Nat} {rest : List Nat} {H : Hp} {Q : VK} (e : Builtin.Str.occurrences a b 0 a.length 1 = i :: rest) (q : Q (.int (i : Nat)) H) : rSIndex (.str a) [.str b] H Q := ⟨a, b, i, rest, rfl, rfl, e, q⟩
def tJoined (ts : List TE) : TE := fun σ H Q => tJs ts Str.empty σ H fun out H1 => Q (.str out) H1
theorem peJoined {X : Cx} {v1 v2 : Expr} {rest : List Expr} {ts : List TE} {pos : Pos} (h : PJ X (v1 :: v2 :: rest) ts) : PE X (.JoinedStr (v1 :: v2 :: rest) pos) (tJoined ts) := pe_joined h
def rJ (ts : List TE) (acc : Str) (σ : L2.St) (Q : Str → Hp → Prop) : V → Hp → Prop := fun x H1 => ∃ y : Str, x = .str y ∧ (acc ++ y).length ≤ sizeLine ∧ tJs ts (acc ++ y) σ H1 Q
theorem s_joined {ts : List TE} {σ : L2.St} {H : Hp} {Q : VK} (h : tJs ts Str.empty σ H fun out H1 => Q (.str out) H1) : tJoined ts σ H Q := h
theorem s_js {t : TE} {ts : List TE} {acc : Str} {σ : L2.St} {H : Hp} {Q : Str → Hp → Prop} (h : t σ H (rJ ts acc σ Q)) : tJs (t :: ts) acc σ H Q := h
theorem s_js0 {acc : Str} {σ : L2.St} {H : Hp} {Q : Str → Hp → Prop} (h : Q acc H) : tJs [] acc σ H Q := h
theorem s_jV {ts : List TE} {acc y : Str} {σ : L2.St} {H : Hp} {Q : Str → Hp → Prop} (hl : (acc ++ y).length ≤ sizeLine) (h : tJs ts (acc ++ y) σ H Q) : rJ ts acc σ Q (.str y) H := ⟨y, rfl, hl, h⟩
def rFmt (Q : VK) : V → Hp → Prop := fun x H1 => (∃ y : Str, x = .str y ∧ y.length ≤ sizeLine ∧ Q (.str y) H1) ∨ ∃ i : Int, x = .int i ∧ i.natAbs.log2 < 1920 ∧ Q (.str (toString i)) H1
theorem s_fmt {te : TE} {σ : L2.St} {H : Hp} {Q : VK} (h : te σ H (rFmt Q)) : tFmt te σ H Q := h
theorem s_fmtS {y : Str} {H : Hp} {Q : VK} (hl : y.length ≤ sizeLine) (q : Q (.str y) H) : rFmt Q (.str y) H := .inl ⟨y, rfl, hl, q⟩
end My
namespace My
open PySem PySem.Spec PyProof.Rows L2 RZ
section
variable {X : Cx} {CX : CXT} {k : Nat} {C f : Addr} {fd : FuncData} {ps : List Str} {sp : Sp} {E : XK} {pins : List (Addr × Obj)} {σ : L2.St} {H : Hp} {s : Shared} {Q : VK}
theorem strback {v : Value} {s' : Shared} {Q : VK} (h : EP X pins σ (fun z H1 => ∃ y, z = .str y ∧ Q (.str y) H1) v s') : PySem.W.StrBack (EP X pins σ Q) v s' := by
  obtain ⟨z, H1, I1, rz, y, rfl, q⟩ := h
  obtain ⟨t, rfl⟩ := rz
  exact ⟨.str y, H1, I1, ⟨t, rfl⟩, q⟩
/-- a special method run at another place below the same frame -/
theorem run_special {A : Around} {us : List Value} {vs : List V} (F : FnOk X.prog X.w X.K X.mg X.base CX k f fd ps sp) (hr : Room k A) (e0 : Env0 X.prog X.w X.K X.mg X.base A X.stack s H) (hb : Binds X.K fd ps []) (hx : Passes CX X E)
    (I : Inv X pins σ H s) (r : Vals vs us) (h : sp vs H Q E) : wpAny (model X.prog X.w) A (call (.ref f) us) (EP X pins σ Q) X.xe s := by
  have hl : us.length = ps.length := by rw [← r.length]; exact F.len _ _ _ _ h
  refine wpAny_call (codeAny_mono (F.run A X.stack s H ⟨us, []⟩ us vs Q E hr e0 (by simpa using hb s us I.kIn (by simpa using hl)) r h) fun r s' hq => ?_)
  cases r with
  | error e => exact hx pins σ H s e s' I hq
  | ok fl =>
    cases fl with
    | ret u => exact I.after hq
    | next => exact False.elim hq
    | brk => exact False.elim hq
    | cont => exact False.elim hq
/-- x is an instance of C; its own method gives a text -/
def rTextO (C : Addr) (sp : Sp) (E : XK) : List V → Hp → VK → Prop := fun xs H Q => ∃ a dx fs, xs = [.ref a] ∧ H a = some (.ins C dx fs) ∧ sp [.ref a] H (fun z H1 => ∃ y, z = .str y ∧ Q (.str y) H1) E
theorem call_reprO (m : Meth X.K C "__repr__" f) (F : FnOk X.prog X.w X.K X.mg X.base CX k f fd ps sp) (hr : Room (k + 1) X.A) (hb : Binds X.K fd ps []) (hx : Passes CX X E) : CallR X (.builtin "repr") (rTextO C sp E) := by
  intro pins s σ H xs us Q I r h
  obtain ⟨a, dx, fs, rfl, e, q⟩ := h
  obtain ⟨u, rfl, ru⟩ := r.one
  cases (show u = Value.ref a from ru)
  obtain ⟨mA, O, _⟩ := ins_get I.hok e
  obtain ⟨od, J, _⟩ := O.look
  obtain ⟨mm, hF⟩ := I.fr
  refine PySem.W.repr_K (Room.in1 hr).units0 hF I.ok.mod.kin J m.at_ m.fn (wpAny_mono (run_special (us := [.ref a]) (vs := [.ref a]) F hr.in1 I.env0.in1 hb hx I (.cons rfl .nil) q) (fun v s' z => strback z) fun _ _ x => x)
theorem s_textO {a dx : Addr} {fs : List (Str × V)} (e : H a = some (.ins C dx fs)) (h : sp [.ref a] H (fun z H1 => ∃ y, z = .str y ∧ Q (.str y) H1) E) : rTextO C sp E [.ref a] H Q := ⟨a, dx, fs, rfl, e, h⟩
end
end My
namespace My
open PySem PySem.Spec PyProof.Rows L2 RZ
def rStr1 (R : It → Hp → Prop) : V → Hp → Prop := fun v H1 => ∃ x, v = .str x ∧ R (Its x) H1
theorem s_iStr {te : TE} {σ : L2.St} {H : Hp} {R : It → Hp → Prop} (h : te σ H (rStr1 R)) : iStr te σ H R := h
theorem s_str1 {x : Str} {H : Hp} {R : It → Hp → Prop} (h : R (Its x) H) : rStr1 R (.str x) H := ⟨x, rfl, h⟩
def rInSign : V → V → Hp → VK → Prop := fun x y H Q => ∃ (c : Nat) (z : Str), x = .str ⟨#[c]⟩ ∧ y = .str z ∧ Q (.bl (decide (c ∈ z.cps.toList))) H
theorem opInSign {X : Cx} : OpR X (compareOp .In) rInSign := op_in_sign
theorem s_inSign {c : Nat} {z : Str} {H : Hp} {Q : VK} (q : Q (.bl (decide (c ∈ z.cps.toList))) H) : rInSign (.str ⟨#[c]⟩) (.str z) H Q := ⟨c, z, rfl, rfl, q⟩
theorem s_ifx {tt : TT} {ta tb : TE} {σ : L2.St} {H : Hp} {Q : VK} (h : tt σ H fun b H1 => if b = true then ta σ H1 Q else tb σ H1 Q) : tIf tt ta tb σ H Q := h
end My
namespace My
open PySem PySem.Spec PyProof.Rows L2 RZ
def rMaxL (K : PySem.W.Frag) : List V → Hp → VK → Prop := fun xs H Q => ∃ (a : Addr) (n : Int) (ns : List Int), xs = [.ref a] ∧ (SqL K H a ((n :: ns).map V.int) ∨ SqT K H a ((n :: ns).map V.int)) ∧ Q (.int (PySem.W.maxOf n ns)) H
theorem callMaxL (K : PySem.W.Frag) {X : Cx} (hc : X.calm = true) (hu : X.A.units + 64 < cLine) (eK : X.K = K := by rfl) : CallR X (.builtin "max") (rMaxL K) := by
  subst eK
  rintro pins s σ H xs us Q I r1 ⟨a, n, ns, rfl, hl | hl, q⟩
  · obtain ⟨w1, rfl, rfl⟩ := vals1 r1
    obtain ⟨its, rv, pl, _⟩ := I.list hl
    refine PySem.W.max_list_datum (α := Int) (x := n) (xs := ns) (I.ok.hd hc) pl.isList (by simpa using holdAll_ints (ns := n :: ns) rv) (by show X.A.units + 1 + 0 < cLine; omega) fun i v h' tk hi hv k => ?_
    exact ⟨.int (PySem.W.maxOf n ns), H, I.kept k, holds_int_inv hv, q⟩
  · obtain ⟨w1, rfl, rfl⟩ := vals1 r1
    obtain ⟨its, rv, pl, _⟩ := I.tuple hl
    refine PySem.W.max_tuple_datum (α := Int) (x := n) (xs := ns) (I.ok.hd hc) pl (by simpa using holdAll_ints (ns := n :: ns) rv) (by show X.A.units + 1 + 0 < cLine; omega) fun i v h' tk hi hv k => ?_
    exact ⟨.int (PySem.W.maxOf n ns), H, I.kept k, holds_int_inv hv, q⟩
theorem s_maxL {K : PySem.W.Frag} {a : Addr} {n : Int} {ns : List Int} {H : Hp} {Q : VK} (h : SqL K H a ((n :: ns).map V.int)) (q : Q (.int (PySem.W.maxOf n ns)) H) : rMaxL K [.ref a] H Q := ⟨a, n, ns, rfl, .inl h, q⟩
/-- so many numbers, each within -/
def Rng (n : Nat) (lo hi : Int) (vs : List V) : Prop := ∃ ns : List Int, vs = ns.map V.int ∧ ns.length = n ∧ ∀ i ∈ ns, lo ≤ i ∧ i < hi
theorem Rng.nil {lo hi : Int} : Rng 0 lo hi [] := ⟨[], rfl, rfl, fun _ h => by cases h⟩
theorem Rng.snoc {n : Nat} {lo hi i : Int} {vs : List V} (h : Rng n lo hi vs) (h1 : lo ≤ i) (h2 : i < hi) : Rng (n + 1) lo hi (vs ++ [.int i]) := by
  obtain ⟨ns, rfl, rfl, a⟩ := h
  refine ⟨ns ++ [i], by simp, by simp, fun j hj => ?_⟩
  rcases List.mem_append.mp hj with hj | hj
  · exact a j hj
  · rw [List.mem_singleton.mp hj]
    exact ⟨h1, h2⟩
theorem Rng.three {lo hi : Int} {vs : List V} (h : Rng 3 lo hi vs) : ∃ x y z, vs = [.int x, .int y, .int z] ∧ lo ≤ x ∧ x < hi ∧ lo ≤ y ∧ y < hi ∧ lo ≤ z ∧ z < hi := by
  obtain ⟨ns, rfl, e, a⟩ := h
  match ns, e with
  | [x, y, z], _ =>
    have hx := a x (by simp)
    have hy := a y (by simp)
    have hz := a z (by simp)
    exact ⟨x, y, z, rfl, hx.1, hx.2, hy.1, hy.2, hz.1, hz.2⟩
end My
local macro_rules | `(tactic| walk_at "at") => `(tactic| (first | with_reducible exact My.at0 | with_reducible exact My.at1 | with_reducible exact My.at2 | with_reducible exact My.at3 | with_reducible exact My.at4 | with_reducible exact My.at5 | with_reducible exact My.at6 | with_reducible exact My.at7))
local macro_rules | `(tactic| walk_at "ix") => `(tactic| (first | with_reducible exact My.ix0 | with_reducible exact My.ix1 | with_reducible exact My.ix2 | with_reducible exact My.ix3 | with_reducible exact My.ix4 | with_reducible exact My.ix5 | with_reducible exact My.ix6 | with_reducible exact My.ix7))
local macro_rules | `(tactic| walk_at "tt") => `(tactic| first | exact rfl | exact decide_eq_true (by first | rfl | omega) | exact My.ndec_t (by omega))
local macro_rules | `(tactic| walk_at "ff") => `(tactic| first | exact rfl | exact decide_eq_false (by omega) | exact My.ndec_f (by first | rfl | omega))
local macro_rules | `(tactic| walk_at "rd1") => `(tactic| first
  | with_reducible refine My.s_seq ?_
  | with_reducible refine My.s_asg ?_
  | ((with_reducible apply My.s_var); (focus exact rfl))
  | with_reducible refine My.s_c ?_
  | with_reducible refine My.s_op ?_
  | with_reducible refine My.s_un ?_
  | ((with_reducible apply My.s_name); (focus (simp only [List.set_cons_zero, List.set_cons_succ]; try exact rfl)))
  | with_reducible refine My.s_addI ?_
  | with_reducible refine My.s_rI0 ?_
  | with_reducible refine My.s_eqI ?_
  | with_reducible refine My.s_neI ?_
  | with_reducible refine My.s_eqS ?_
  | with_reducible refine My.s_neS ?_
  | with_reducible refine My.s_eqB ?_
  | with_reducible refine My.s_neB ?_
  | with_reducible refine My.s_rU ?_
  | with_reducible refine My.s_test ?_
  | with_reducible refine My.s_B ?_
  | with_reducible refine My.s_exbP ?_
  | with_reducible refine My.s_exi ?_
  | with_reducible refine My.s_and ?_
  | with_reducible refine My.s_or ?_
  | with_reducible refine My.s_not ?_
  | with_reducible refine My.s_andV ?_
  | with_reducible refine My.s_orV ?_
  | with_reducible refine My.s_notV ?_
  | with_reducible refine My.s_if ?_
  | with_reducible refine My.s_ifS ?_
  | ((with_reducible refine My.ite_t ?_ ?_); (focus (walk_at "tt")))
  | ((with_reducible refine My.ite_f ?_ ?_); (focus (walk_at "ff")))
  | with_reducible refine My.s_isN ?_
  | with_reducible refine My.s_notN ?_
  | with_reducible refine My.s_nil ?_
  | with_reducible refine My.s_cons ?_
  | with_reducible refine My.s_tup ?_
  | with_reducible refine My.s_lst ?_
  | with_reducible refine My.s_CB ?_
  | with_reducible refine My.s_BM ?_
  | with_reducible refine My.s_BM0 ?_
  | with_reducible refine My.s_call ?_
  | with_reducible refine My.s_ret ?_
  | with_reducible refine My.s_retN ?_
  | with_reducible refine My.s_next ?_
  | with_reducible refine My.s_break ?_
  | with_reducible refine My.s_cont ?_
  | with_reducible refine My.s_drop ?_
  | with_reducible refine My.s_par ?_
  | with_reducible refine My.s_sub ?_
  | ((with_reducible apply My.s_ixL); (focus (first | assumption | (apply L2.SqL.of; first | assumption | exact L2.upd_same))); (focus (walk_at "at")))
  | ((with_reducible apply My.s_ixT); (focus (first | assumption | (apply L2.SqT.of; first | assumption | exact L2.upd_same) | (apply My.TupAt.sq; assumption))); (focus (walk_at "at")))
  | ((with_reducible apply My.s_setL); (focus assumption); (focus (walk_at "ix")))
  | ((with_reducible apply My.s_lenL); (focus (first | assumption | (apply L2.SqL.of; first | assumption | exact L2.upd_same))))
  | ((with_reducible apply My.s_lenT); (focus (first | assumption | (apply L2.SqT.of; first | assumption | exact L2.upd_same) | (apply My.TupAt.sq; assumption))))
  | ((with_reducible apply My.s_par2); (focus (simp only [List.set_cons_zero, List.set_cons_succ]; try exact rfl)))
  | with_reducible refine My.s_int1 ?_
  | with_reducible refine My.s_for ?_
  | with_reducible refine My.s_iRng1 ?_
  | with_reducible refine My.s_iRng2 ?_
  | with_reducible refine My.s_iList ?_
  | with_reducible refine My.s_iTup ?_
  | ((with_reducible refine My.s_rng1 ?_ ?_); (focus omega))
  | ((with_reducible refine My.s_rng2 ?_ ?_); (focus omega))
  | ((with_reducible apply My.s_lst1); (focus (first | assumption | (apply L2.SqL.of; first | assumption | exact L2.upd_same))))
  | ((with_reducible apply My.s_tup1); (focus (first | assumption | (apply L2.SqT.of; first | assumption | exact L2.upd_same) | (apply My.TupAt.sq; assumption))))
  | with_reducible refine My.s_sl ?_
  | with_reducible refine My.s_noPart ?_
  | with_reducible refine My.s_part ?_
  | with_reducible refine My.s_bits ?_
  | ((with_reducible refine My.s_mul ?_ ?_); (focus omega))
  | ((with_reducible refine My.s_fdiv ?_ ?_); (focus omega))
  | ((with_reducible refine My.s_mod ?_ ?_); (focus omega))
  | with_reducible refine My.s_pow9 ?_
  | with_reducible refine My.s_pow18 ?_
  | ((with_reducible refine My.s_pow ?_ ?_); (focus (refine ⟨by decide, by decide, by decide⟩))))
local macro_rules | `(tactic| walk_at "rd") => `(tactic| repeat walk_at "rd1")
local macro_rules | `(tactic| walk_at "wipe") => `(tactic| (simp only [L2.wipe, List.map_cons, List.map_nil, List.set_cons_zero, List.set_cons_succ]; try exact rfl))
local macro_rules | `(tactic| walk_at "rd1") => `(tactic| first
  | with_reducible refine My.s_lc ?_
  | with_reducible refine My.s_zipA ?_
  | with_reducible refine My.s_gCons ?_
  | with_reducible refine My.s_gNil ?_
  | with_reducible refine My.s_yes ?_
  | ((with_reducible apply My.s_gTup); (focus (first | assumption | (apply L2.SqT.of; first | assumption | exact L2.upd_same) | (apply My.TupAt.sq; assumption))); (focus exact rfl))
  | ((with_reducible apply My.s_zipL); (focus (first | assumption | (apply L2.SqL.of; first | assumption | exact L2.upd_same))); (focus (first | assumption | (apply L2.SqL.of; first | assumption | exact L2.upd_same))))
  | ((with_reducible apply My.s_zipT); (focus (first | assumption | (apply L2.SqT.of; first | assumption | exact L2.upd_same) | (apply My.TupAt.sq; assumption))); (focus (first | assumption | (apply L2.SqT.of; first | assumption | exact L2.upd_same) | (apply My.TupAt.sq; assumption))))
  | ((with_reducible apply My.s_isi_list); (focus (walk_at "hd")))
  | ((with_reducible apply My.s_isi_tuple); (focus (walk_at "hd")))
  | ((with_reducible apply My.s_isi_dict); (focus (walk_at "hd")))
  | ((with_reducible apply My.s_isi_bool); (focus (walk_at "hd")))
  | ((with_reducible apply My.s_isi_int); (focus (walk_at "hd")))
  | ((with_reducible apply My.s_isi_str); (focus (walk_at "hd"))))
local macro_rules | `(tactic| walk_at "hd") => `(tactic| first
  | with_reducible assumption
  | with_reducible exact My.Hd.int (N := My.N0) _
  | with_reducible exact My.Hd.str (N := My.N0) _
  | with_reducible exact My.Hd.bl (N := My.N0) _
  | with_reducible exact My.Hd.non (N := My.N0))
local macro_rules | `(tactic| walk_at "rd1") => `(tactic| first
  | with_reducible refine My.s_xgR ?_
  | with_reducible refine My.s_callS ?_
  | with_reducible refine My.s_mkO ?_
  | with_reducible refine My.s_ost ?_)
local macro_rules | `(tactic| walk_at "rd1") => `(tactic| first
  | with_reducible refine My.s_gfor ?_
  | with_reducible refine My.s_gthen ?_
  | with_reducible refine My.s_g0 ?_
  | with_reducible refine My.s_gplain ?_
  | with_reducible refine My.s_max2 ?_
  | with_reducible refine My.s_min2 ?_
  | with_reducible refine My.s_listG ?_)
local macro_rules | `(tactic| walk_at "rd1") => `(tactic| first
  | with_reducible refine My.s_fldR ?_
  | with_reducible refine My.s_stoR ?_
  | with_reducible refine My.s_makeR ?_
  | with_reducible refine My.s_methR ?_
  | with_reducible refine My.s_izipG ?_
  | with_reducible refine My.s_ienumG ?_)
local macro_rules | `(tactic| walk_at "rd1") => `(tactic| first
  | with_reducible refine My.s_ckw ?_
  | with_reducible refine My.s_joined ?_
  | with_reducible refine My.s_js ?_
  | with_reducible refine My.s_js0 ?_
  | with_reducible refine My.s_fmt ?_)
local macro_rules | `(tactic| walk_at "rd1") => `(tactic| first
  | with_reducible refine My.s_ifx ?_
  | with_reducible refine My.s_iStr ?_
  | with_reducible refine My.s_str1 ?_
  | with_reducible refine My.s_inSign ?_)
namespace My
open PySem PySem.Spec PyProof.Rows L2 RZ
open LamX (ExtN Tabs TabS TabB CodeO)
def top (i : Nat) : Stmt := PySem.Challenge.pw_sparenots_k17_rays_and_points.main.body.getD i (.Pass ⟨0, 0, 0, 0⟩)
abbrev s_Rays____init__ : Stmt := inClass (top 4) 0
abbrev lv_Rays____init__ : Nat := 1
theorem sc_Rays____init__ : FnScope ["self", "name", "far", "period", "holding", "failing"] ["self", "name", "far", "period", "holding", "failing"] (defScope s_Rays____init__) := ⟨rfl, rfl, rfl, by decide +kernel, rfl, by decide +kernel, by decide +kernel⟩
abbrev s_Rays__point : Stmt := inClass (top 4) 1
abbrev lv_Rays__point : Nat := 1
theorem sc_Rays__point : FnScope ["self", "begin", "turn", "by", "count", "value"] ["self", "begin", "turn"] (defScope s_Rays__point) := ⟨rfl, rfl, rfl, by decide +kernel, rfl, by decide +kernel, by decide +kernel⟩
abbrev s_value_of : Stmt := top 2
abbrev lv_value_of : Nat := 1
theorem sc_value_of : FnScope ["situation", "count"] ["situation", "count"] (defScope s_value_of) := ⟨rfl, rfl, rfl, by decide +kernel, rfl, by decide +kernel, by decide +kernel⟩
abbrev s_Rays__turns_to : Stmt := inClass (top 4) 2
abbrev lv_Rays__turns_to : Nat := 2
theorem sc_Rays__turns_to : FnScope ["self", "begin", "situation", "missing", "count", "value"] ["self", "begin", "situation"] (defScope s_Rays__turns_to) := ⟨rfl, rfl, rfl, by decide +kernel, rfl, by decide +kernel, by decide +kernel⟩
abbrev s_Rays__climb : Stmt := inClass (top 4) 3
abbrev lv_Rays__climb : Nat := 3
theorem sc_Rays__climb : GScope ["self", "turns", "situation", "turn"] ["self", "turns"] (defScope s_Rays__climb) := ⟨rfl, rfl, rfl, by decide +kernel, rfl, by decide +kernel, by decide +kernel⟩
abbrev s_Rays____repr__ : Stmt := inClass (top 4) 4
abbrev lv_Rays____repr__ : Nat := 1
theorem sc_Rays____repr__ : FnScope ["self"] ["self"] (defScope s_Rays____repr__) := ⟨rfl, rfl, rfl, by decide +kernel, rfl, by decide +kernel, by decide +kernel⟩
abbrev s__law_bag : Stmt := top 6
abbrev lv__law_bag : Nat := 1
theorem sc__law_bag : FnScope ["_law_script", "_law_salt", "_law_cell"] ["_law_script"] (defScope s__law_bag) := ⟨rfl, rfl, rfl, by decide +kernel, rfl, by decide +kernel, by decide +kernel⟩
abbrev s__law_pull : Stmt := top 7
abbrev lv__law_pull : Nat := 1
theorem sc__law_pull : FnScope ["_law_bag_here", "_law_many", "_law_cell", "_law_got", "_law_seed"] ["_law_bag_here", "_law_many"] (defScope s__law_pull) := ⟨rfl, rfl, rfl, by decide +kernel, rfl, by decide +kernel, by decide +kernel⟩
abbrev s__law_of : Stmt := top 8
abbrev lv__law_of : Nat := 2
theorem sc__law_of : FnScope ["_law_bag_here", "_law_things"] ["_law_bag_here", "_law_things"] (defScope s__law_of) := ⟨rfl, rfl, rfl, by decide +kernel, rfl, by decide +kernel, by decide +kernel⟩
abbrev s__law_great : Stmt := top 9
abbrev lv__law_great : Nat := 2
theorem sc__law_great : FnScope ["_law_bag_here", "_law_result", "_law_turn"] ["_law_bag_here"] (defScope s__law_great) := ⟨rfl, rfl, rfl, by decide +kernel, rfl, by decide +kernel, by decide +kernel⟩
abbrev s__law_like : Stmt := top 10
abbrev lv__law_like : Nat := 6
theorem sc__law_like : FnScope ["_law_found", "_law_due", "_law_one", "_law_other", "_law_name"] ["_law_found", "_law_due"] (defScope s__law_like) := ⟨rfl, rfl, rfl, by decide +kernel, rfl, by decide +kernel, by decide +kernel⟩
abbrev s__law_value : Stmt := top 11
abbrev lv__law_value : Nat := 1
theorem sc__law_value : FnScope ["_law_s", "_law_count"] ["_law_s", "_law_count"] (defScope s__law_value) := ⟨rfl, rfl, rfl, by decide +kernel, rfl, by decide +kernel, by decide +kernel⟩
abbrev s_law : Stmt := top 12
abbrev lv_law : Nat := 10
theorem sc_law : FnScope ["_law_script", "_law_bag_here", "_law_far", "_law_near", "_law_holding", "_law_failing", "_law_at", "_law_period", "_law_one", "_law_two", "_law_rays", "_law_turn", "_law_due", "_law_many", "_law_here", "_law_begin", "_law_gaps", "_law_turns", "_law_k", "_law_value_here", "_law_sign", "_law_gap"] ["_law_script"] (defScope s_law) := ⟨rfl, rfl, rfl, by decide +kernel, rfl, by decide +kernel, by decide +kernel⟩
structure Txt (K : PySem.W.Frag) (mg : Str → Option Value) : Type where
  f_Rays____init__ : Addr
  fd_Rays____init__ : FuncData
  F_Rays____init__ : Fun K "__init__" "Rays.__init__" s_Rays____init__ f_Rays____init__ fd_Rays____init__
  b_Rays____init__ : Binds K fd_Rays____init__ ["self", "name", "far", "period", "holding", "failing"] []
  f_Rays__point : Addr
  fd_Rays__point : FuncData
  F_Rays__point : Fun K "point" "Rays.point" s_Rays__point f_Rays__point fd_Rays__point
  b_Rays__point : Binds K fd_Rays__point ["self", "begin", "turn"] []
  f_value_of : Addr
  fd_value_of : FuncData
  F_value_of : Fun K "value_of" "value_of" s_value_of f_value_of fd_value_of
  g_value_of : mg "value_of" = some (.ref f_value_of)
  b_value_of : Binds K fd_value_of ["situation", "count"] []
  f_Rays__turns_to : Addr
  fd_Rays__turns_to : FuncData
  F_Rays__turns_to : Fun K "turns_to" "Rays.turns_to" s_Rays__turns_to f_Rays__turns_to fd_Rays__turns_to
  b_Rays__turns_to : Binds K fd_Rays__turns_to ["self", "begin", "situation"] []
  f_Rays__climb : Addr
  fd_Rays__climb : FuncData
  F_Rays__climb : Fun K "climb" "Rays.climb" s_Rays__climb f_Rays__climb fd_Rays__climb
  b_Rays__climb : Binds K fd_Rays__climb ["self", "turns"] []
  f_Rays____repr__ : Addr
  fd_Rays____repr__ : FuncData
  F_Rays____repr__ : Fun K "__repr__" "Rays.__repr__" s_Rays____repr__ f_Rays____repr__ fd_Rays____repr__
  b_Rays____repr__ : Binds K fd_Rays____repr__ ["self"] []
  f__law_bag : Addr
  fd__law_bag : FuncData
  F__law_bag : Fun K "_law_bag" "_law_bag" s__law_bag f__law_bag fd__law_bag
  g__law_bag : mg "_law_bag" = some (.ref f__law_bag)
  b__law_bag : Binds K fd__law_bag ["_law_script"] []
  f__law_pull : Addr
  fd__law_pull : FuncData
  F__law_pull : Fun K "_law_pull" "_law_pull" s__law_pull f__law_pull fd__law_pull
  g__law_pull : mg "_law_pull" = some (.ref f__law_pull)
  b__law_pull : Binds K fd__law_pull ["_law_bag_here", "_law_many"] []
  f__law_of : Addr
  fd__law_of : FuncData
  F__law_of : Fun K "_law_of" "_law_of" s__law_of f__law_of fd__law_of
  g__law_of : mg "_law_of" = some (.ref f__law_of)
  b__law_of : Binds K fd__law_of ["_law_bag_here", "_law_things"] []
  f__law_great : Addr
  fd__law_great : FuncData
  F__law_great : Fun K "_law_great" "_law_great" s__law_great f__law_great fd__law_great
  g__law_great : mg "_law_great" = some (.ref f__law_great)
  b__law_great : Binds K fd__law_great ["_law_bag_here"] []
  f__law_like : Addr
  fd__law_like : FuncData
  F__law_like : Fun K "_law_like" "_law_like" s__law_like f__law_like fd__law_like
  g__law_like : mg "_law_like" = some (.ref f__law_like)
  b__law_like : Binds K fd__law_like ["_law_found", "_law_due"] []
  f__law_value : Addr
  fd__law_value : FuncData
  F__law_value : Fun K "_law_value" "_law_value" s__law_value f__law_value fd__law_value
  g__law_value : mg "_law_value" = some (.ref f__law_value)
  b__law_value : Binds K fd__law_value ["_law_s", "_law_count"] []
  f_law : Addr
  fd_law : FuncData
  F_law : Fun K "law" "law" s_law f_law fd_law
  g_law : mg "law" = some (.ref f_law)
  b_law : Binds K fd_law ["_law_script"] []
  tk_COUNTS : Tok
  g_COUNTS : mg "COUNTS" = some (.str "abc" tk_COUNTS)
  z_all : mg "all" = none
  z_bool : mg "bool" = none
  z_dict : mg "dict" = none
  z_int : mg "int" = none
  z_isinstance : mg "isinstance" = none
  z_len : mg "len" = none
  z_list : mg "list" = none
  z_max : mg "max" = none
  z_range : mg "range" = none
  z_repr : mg "repr" = none
  z_str : mg "str" = none
  z_tuple : mg "tuple" = none
  z_zip : mg "zip" = none
  c_Rays : Addr
  g_Rays : mg "Rays" = some (.ref c_Rays)
  K_Rays : Cls K c_Rays
  Mk_Rays : Mk K c_Rays f_Rays____init__
  n_Rays_name : NoAttr K c_Rays "name"
  n_Rays_far : NoAttr K c_Rays "far"
  n_Rays_period : NoAttr K c_Rays "period"
  n_Rays_holding : NoAttr K c_Rays "holding"
  n_Rays_failing : NoAttr K c_Rays "failing"
  m_Rays____repr__ : Meth K c_Rays "__repr__" f_Rays____repr__
  m_Rays__climb : Meth K c_Rays "climb" f_Rays__climb
  m_Rays__point : Meth K c_Rays "point" f_Rays__point
  m_Rays__turns_to : Meth K c_Rays "turns_to" f_Rays__turns_to
end My
namespace My
open PySem PySem.Spec PyProof.Rows L2 RZ
open LamX (ExtN Tabs TabS TabB CodeO)
/-- rays made: the five fields as they were given -/
def raysF (n f p h g : V) : List (Str × V) := [("name", n), ("far", f), ("period", p), ("holding", h), ("failing", g)]
def sp_Rays____init__ (C : Addr) : Sp := fun vs H Q _ => ∃ (a dx : Addr) (n f p h g : V), vs = [.ref a, n, f, p, h, g] ∧ H a = some (.ins C dx []) ∧ Q .non (upd H a (.ins C dx (raysF n f p h g)))
theorem ok_Rays____init__ {P : Program} {w : World} {K : PySem.W.Frag} {mg : Str → Option Value} {base : Heap} (T : Txt K mg) : FnOk P w K mg base CX0 lv_Rays____init__ T.f_Rays____init__ T.fd_Rays____init__ ["self", "name", "far", "period", "holding", "failing"] (sp_Rays____init__ T.c_Rays) := by
  refine T.F_Rays____init__.ok sc_Rays____init__ (fun vs H Q E h => by obtain ⟨a, dx, n, f, p, h, g, rfl, _⟩ := h; rfl) (fun cdv A outer s H vs Q E hr h => ?_)
  obtain ⟨a, dx, n, f, p, h, g, rfl, ea, k⟩ := h
  refine ⟨_, (pss_cons (ps_fld (pv 0) (pv 1) rfl)
      (pss_cons (ps_fld (pv 0) (pv 2) rfl)
      (pss_cons (ps_fld (pv 0) (pv 3) rfl)
      (pss_cons (ps_fld (pv 0) (pv 4) rfl)
      (pss_one (ps_fld (pv 0) (pv 5) rfl)))))), ?_⟩
  (try dsimp only [cxOf, L2H.cxH, gcxOf, Cx.nox, Cx.wish]); rw [show L2.start _ [(.ref a : V), (n : V), (f : V), (p : V), (h : V), (g : V)] = [some (.ref a), some (n), some (f), some (p), some (h), some (g)] from rfl]
  walk_at "rd"
  refine s_stoV ea T.K_Rays T.n_Rays_name rfl ?_
  walk_at "rd"
  refine s_stoV upd_same T.K_Rays T.n_Rays_far rfl ?_
  walk_at "rd"
  refine s_stoV upd_same T.K_Rays T.n_Rays_period rfl ?_
  walk_at "rd"
  refine s_stoV upd_same T.K_Rays T.n_Rays_holding rfl ?_
  walk_at "rd"
  refine s_stoV upd_same T.K_Rays T.n_Rays_failing rfl ?_
  rw [upd_upd, upd_upd, upd_upd, upd_upd]
  exact k
end My
namespace My
open PySem PySem.Spec PyProof.Rows L2 RZ
open LamX (ExtN Tabs TabS TabB CodeO)
def inF (far : Str) (i : Nat) : Bool := decide (97 + i ∈ far.cps.toList)
/-- begin, each count of far more by m -/
def shiftC (far : Str) (m : Int) (ns : List Int) : List Int := (List.range 3).map fun i => if inF far i then ns[i]! + m else ns[i]!
theorem abc_sign {i : Nat} (h : i < 3) : (signs "abc")[i]? = some (.str ⟨#[97 + i]⟩) := by
  match i, h with
  | 0, _ => rfl
  | 1, _ => rfl
  | 2, _ => rfl
def sp_Rays__point (K : PySem.W.Frag) (C : Addr) : Sp := fun vs H Q _ => ∃ (x dx b : Addr) (t p : Int) (far : Str) (n h g : V) (ns : List Int), vs = [.ref x, .ref b, .int t] ∧ H x = some (.ins C dx (raysF n (.str far) (.int p) h g)) ∧ TupAt K H b (ns.map V.int) ∧ ns.length = 3 ∧ (0 < p ∧ p < 1073741824) ∧
  ∀ q H', Fr N0 H H' → TupAt K H' q ((shiftC far (t * p) ns).map V.int) → Q (.ref q) H'
theorem ok_Rays__point {P : Program} {w : World} {K : PySem.W.Frag} {mg : Str → Option Value} {base : Heap} (T : Txt K mg) : FnOk P w K mg base CX0 lv_Rays__point T.f_Rays__point T.fd_Rays__point ["self", "begin", "turn"] (sp_Rays__point K T.c_Rays) := by
  refine T.F_Rays__point.ok sc_Rays__point (fun vs H Q E h => by obtain ⟨x, dx, b, t, p, far, n, h, g, ns, rfl, _⟩ := h; rfl) (fun cdv A outer s H vs Q E hr h => ?_)
  obtain ⟨x, dx, b, t, p, far, n, h, g, ns, rfl, ex, tb, hl, hp, k⟩ := h
  refine ⟨_, (pss_cons (ps_set (i := 3) sc_Rays__point.nd rfl (by first | exact .inl rfl | exact .inr rfl) (pe_op opMul (pv 2) (pe_fldK K (pv 0) rfl)))
      (pss_one (ps_ret (pe_callTy (callTupleK K) (by rfl) T.z_tuple (by first | exact PySem.boot_tuple | exact boot_tuple | decide +kernel) (pa_cons (pe_lc (own := [("count", 4), ("value", 5)]) (g := (gTup K 2 (gCons (gName 4) (gCons (gName 5) gNil)))) (tt := tYes) rfl sc_Rays__point.nd (pi_zipG K (by rfl) T.z_zip (pa_cons (pe_glob (v := .str "abc") (by rfl) T.g_COUNTS ⟨_, rfl⟩) (pa_cons (pv 1) pa_nil))) (blkOk_by (N := ["self", "begin", "turn", "by", "count", "value"]) (sc := defScope s_Rays__point) (by decide +kernel)) (fun _ _ _ _ _ => (pg_tup rfl (pgs_cons (pg_name (i := 4) sc_Rays__point.nd rfl (by first | exact .inl rfl | exact .inr rfl)) (pgs_cons (pg_name (i := 5) sc_Rays__point.nd rfl (by first | exact .inl rfl | exact .inr rfl)) pgs_nil)))) (fun _ _ _ _ _ => pts_nil) (fun _ _ _ _ _ => (pe_ifExp (pt_cmpR opInSign (pv 4) (pe_fldK K (pv 0) rfl) (by first | exact nomark _ | rfl)) (pe_op (opAddK K) (pv 5) (pv 3)) (pv 5)))) pa_nil))))), ?_⟩
  (try dsimp only [cxOf, L2H.cxH, gcxOf, Cx.nox, Cx.wish]); rw [show L2.start _ [(.ref x : V), (.ref b : V), (.int t : V)] = [some (.ref x), some (.ref b), some (.int t), none, none, none] from rfl]
  walk_at "rd"
  refine s_fldV ex T.K_Rays T.n_Rays_period rfl ?_
  walk_at "rd"
  refine s_zipG (.s "abc") (.t b) rfl tb.sq ?_
  walk_at "rd"
  refine lc_by (walk_zipG (n := 3) (by simp [hl]; rfl)) (fun D i acc H2 => acc = ((List.range i).map fun i => if inF far i then ns[i]! + t * p else ns[i]!).map V.int ∧ Fr N0 H H2) (by walk_at "wipe") (fun D hD => ⟨rfl, Fr.new hD⟩) (fun D i acc H2 ⟨_, f2⟩ _ => ⟨rfl, (tb.fr f2).sq⟩) ?_ ?_
  · rintro D i acc z H2 H3 hD hi hl2 ⟨rfl, f2⟩ hDl ⟨tt, u, v, rfl, nt, rfl, gu, gv⟩
    dsimp only at gu gv
    rw [abc_sign hi] at gu
    rw [List.getElem?_map, List.getElem?_eq_getElem (by omega)] at gv
    cases gu
    cases gv
    have ht : upd H2 tt (.tup [.str ⟨#[97 + i]⟩, .int ns[i]]) tt = some (.tup [.str ⟨#[97 + i]⟩, .int ns[i]]) := upd_same
    have f3 := Fr.new (N := N0) (o := .tup [.str ⟨#[97 + i]⟩, .int ns[i]]) nt
    walk_at "rd"
    refine ⟨rfl, ?_⟩
    walk_at "rd"
    refine s_fldV (((f2.trans f3).keep _ _ ex id)) T.K_Rays T.n_Rays_far rfl ?_
    walk_at "rd"
    refine if_dec (fun hc => ?_) (fun hc => ?_)
    case' refine_1 => have e2 : (if inF far i then ns[i]! + t * p else ns[i]!) = ns[i] + t * p := by rw [if_pos (show inF far i = true from decide_eq_true hc), getElem!_pos ns i (by omega)]
    case' refine_2 => have e2 : (if inF far i then ns[i]! + t * p else ns[i]!) = ns[i] := by rw [if_neg (by rw [inF, decide_eq_false hc]; exact Bool.false_ne_true), getElem!_pos ns i (by omega)]
    all_goals
      walk_at "rd"
      refine pvx_add (f3.keep D _ hDl id) hl2 (Nat.lt_of_lt_of_le hi (by rw [sizeLine_eq]; omega)) ⟨?_, (f2.trans f3).mut hD⟩
      rw [List.range_succ, List.map_append, List.map_append, List.map_cons, List.map_cons, e2]
      rfl
  · rintro D acc H2 hD ⟨rfl, f2⟩ hDl
    walk_at "rd"
    refine s_tupleL (SqL.of hDl) fun q nq => ?_
    have f4 := Fr.new (N := N0) (o := .tup (((List.range 3).map fun i => if inF far i then ns[i]! + t * p else ns[i]!).map V.int)) nq
    walk_at "rd"
    exact k q _ (f2.trans f4) (.of upd_same)
end My
namespace My
open PySem PySem.Spec PyProof.Rows L2 RZ
open LamX (ExtN Tabs TabS TabB CodeO)
/-- the place of a count's sign -/
def cntAt (c : Str) : Option Nat := if c = "a" then some 0 else if c = "b" then some 1 else if c = "c" then some 2 else none
theorem occ_cnt {c : Str} {i : Nat} (h : cntAt c = some i) : i < 3 ∧ ∃ rest, Builtin.Str.occurrences "abc" c 0 ("abc" : Str).length 1 = i :: rest := by
  unfold cntAt at h
  split at h
  · cases h; rename_i e; subst e; exact ⟨by decide, [], by decide +kernel⟩
  split at h
  · cases h; rename_i e; subst e; exact ⟨by decide, [], by decide +kernel⟩
  split at h
  · cases h; rename_i e; subst e; exact ⟨by decide, [], by decide +kernel⟩
  · cases h
def sp_value_of (K : PySem.W.Frag) : Sp := fun vs H Q _ => ∃ (p : Addr) (ns : List Int) (c : Str) (i : Nat) (n : Int), vs = [.ref p, .str c] ∧ TupAt K H p (ns.map V.int) ∧ cntAt c = some i ∧ ns[i]? = some n ∧ Q (.int n) H
theorem s_valueOf {K : PySem.W.Frag} {p : Addr} {ns : List Int} {c : Str} {i : Nat} {n : Int} {H : Hp} {Q : VK} {E : XK} (h : TupAt K H p (ns.map V.int)) (hc : cntAt c = some i) (hn : ns[i]? = some n) (q : Q (.int n) H) : sp_value_of K [.ref p, .str c] H Q E := ⟨p, ns, c, i, n, rfl, h, hc, hn, q⟩
theorem ok_value_of {P : Program} {w : World} {K : PySem.W.Frag} {mg : Str → Option Value} {base : Heap} (T : Txt K mg) : FnOk P w K mg base CX0 lv_value_of T.f_value_of T.fd_value_of ["situation", "count"] (sp_value_of K) := by
  refine T.F_value_of.ok sc_value_of (fun vs H Q E h => by obtain ⟨p, ns, c, i, n, rfl, _⟩ := h; rfl) (fun cdv A outer s H vs Q E hr h => ?_)
  obtain ⟨p, ns, c, i, n, rfl, ht, hc, hn, k⟩ := h
  refine ⟨_, (pss_one (ps_ret (pe_ix (ixK K) (pv 0) (pe_bm PySem.F.plainAttrs_str PySem.F.slot_str_index PySem.F.type_str_index mtSIndex (pe_glob (v := .str "abc") (by rfl) T.g_COUNTS ⟨_, rfl⟩) (pa_cons (pv 1) pa_nil)) (fun _ _ => rfl)))), ?_⟩
  (try dsimp only [cxOf, L2H.cxH, gcxOf, Cx.nox, Cx.wish]); rw [show L2.start _ [(.ref p : V), (.str c : V)] = [some (.ref p), some (.str c)] from rfl]
  walk_at "rd"
  refine ⟨rfl, ?_⟩
  walk_at "rd"
  obtain ⟨_, rest, e⟩ := occ_cnt hc
  refine s_sindex e ?_
  exact s_ixT ht.sq (atI_nat (by rw [List.getElem?_map, hn]; rfl)) k
end My
namespace My
open PySem PySem.Spec PyProof.Rows L2 RZ
open LamX (ExtN Tabs TabS TabB CodeO)
/-- the counts of far, as numbers 0 1 2 -/
def farIx (far : Str) : List Nat := far.cps.toList.map (· - 97)
def gapsC (far : Str) (ns ms : List Int) : List Int := (farIx far).map fun i => ns[i]! - ms[i]!
def turnsC (far : Str) (p : Int) (ns ms : List Int) : Int := maxI 0 (((gapsC far ns ms).filter fun v => decide (v > 0)).map fun v => -(-v / p))
def FarOk (far : Str) : Prop := ∀ c ∈ far.cps.toList, c = 97 ∨ c = 98 ∨ c = 99
theorem far_at {far : Str} (h : FarOk far) {i c : Nat} (e : far.cps[i]? = some c) : cntAt ⟨#[c]⟩ = some (c - 97) ∧ c - 97 < 3 ∧ (farIx far)[i]? = some (c - 97) := by
  have hm : c ∈ far.cps.toList := by
    rw [Array.mem_toList_iff]
    exact Array.mem_of_getElem? e
  have e3 : (farIx far)[i]? = some (c - 97) := by
    unfold farIx
    rw [List.getElem?_map, Array.getElem?_toList, e]
    rfl
  rcases h c hm with rfl | rfl | rfl
  · exact ⟨rfl, by decide, e3⟩
  · exact ⟨rfl, by decide, e3⟩
  · exact ⟨rfl, by decide, e3⟩
def sp_Rays__turns_to (K : PySem.W.Frag) (C : Addr) : Sp := fun vs H Q _ => ∃ (x dx b q : Addr) (p : Int) (far : Str) (n h g : V) (ms ns : List Int), vs = [.ref x, .ref b, .ref q] ∧ H x = some (.ins C dx (raysF n (.str far) (.int p) h g)) ∧ TupAt K H b (ms.map V.int) ∧ TupAt K H q (ns.map V.int) ∧ ms.length = 3 ∧ ns.length = 3 ∧ (0 < p ∧ p < 1073741824) ∧ FarOk far ∧ far.cps.size ≤ 3 ∧
  ∀ H', Fr N0 H H' → Q (.int (turnsC far p ns ms)) H'
theorem ok_Rays__turns_to {P : Program} {w : World} {K : PySem.W.Frag} {mg : Str → Option Value} {base : Heap} (T : Txt K mg) : FnOk P w K mg base CX0 lv_Rays__turns_to T.f_Rays__turns_to T.fd_Rays__turns_to ["self", "begin", "situation"] (sp_Rays__turns_to K T.c_Rays) := by
  refine T.F_Rays__turns_to.ok sc_Rays__turns_to (fun vs H Q E h => by obtain ⟨x, dx, b, q, p, far, n, h, g, ms, ns, rfl, _⟩ := h; rfl) (fun cdv A outer s H vs Q E hr h => ?_)
  obtain ⟨x, dx, b, q, p, far, n, h, g, ms, ns, rfl, ex, tb, tq, lm, ln, hp, fo, fz, k⟩ := h
  have G_value_of := ok_value_of (P := P) (w := w) (base := base) T
  refine ⟨_, (pss_cons (ps_setLc (i := 3) (own := [("count", 4)]) (g := (gName 4)) (tt := tYes) rfl sc_Rays__turns_to.nd rfl rfl (sw_true rfl rfl rfl (by decide +kernel)) (pi_str (pe_fldK K (pv 0) rfl)) (blkOk_by (N := ["self", "begin", "situation", "missing", "count", "value"]) (sc := defScope s_Rays__turns_to) (by decide +kernel)) (fun _ _ _ _ _ => (pg_name (i := 4) sc_Rays__turns_to.nd rfl (by first | exact .inl rfl | exact .inr rfl))) (fun _ _ _ _ _ => pts_nil) (fun _ _ _ _ _ => (pe_op op_sub (pe_call G_value_of (hr.mono (by first | decide | omega)) (by rfl) T.g_value_of T.F_value_of.kp T.b_value_of .nil pass0 (pa_cons (pv 2) (pa_cons (pv 4) pa_nil))) (pe_call G_value_of (hr.mono (by first | decide | omega)) (by rfl) T.g_value_of T.F_value_of.kp T.b_value_of .nil pass0 (pa_cons (pv 1) (pa_cons (pv 4) pa_nil))))))
      (pss_one (ps_ret (pe_callBK (callMaxD K rfl hr.units) (by rfl) T.z_max (by first | exact PySem.boot_max | exact boot_max | decide +kernel) (pa_cons (pe_lc (own := [("value", 5)]) (g := (gName 5)) (tt := _) rfl sc_Rays__turns_to.nd (pi_listK K (pv 3)) (blkOk_by (N := ["self", "begin", "situation", "missing", "count", "value"]) (sc := defScope s_Rays__turns_to) (by decide +kernel)) (fun _ _ _ _ _ => (pg_name (i := 5) sc_Rays__turns_to.nd rfl (by first | exact .inl rfl | exact .inr rfl))) (fun _ _ _ _ _ => pts_one (pt_cmpR op_gt (pv 5) pe_int (by first | exact nomark _ | rfl))) (fun _ _ _ _ _ => (pe_un un_neg (pe_op opDiv (pe_un un_neg (pv 5)) (pe_fldK K (pv 0) rfl))))) pa_nil) (pk_cons pe_int pk_nil))))), ?_⟩
  (try dsimp only [cxOf, L2H.cxH, gcxOf, Cx.nox, Cx.wish]); rw [show L2.start _ [(.ref x : V), (.ref b : V), (.ref q : V)] = [some (.ref x), some (.ref b), some (.ref q), none, none, none] from rfl]
  walk_at "rd"
  refine s_fldV ex T.K_Rays T.n_Rays_far rfl ?_
  walk_at "rd"
  refine lc_by walk_str (fun D i acc H2 => acc = ((gapsC far ns ms).take i).map V.int ∧ Fr N0 H H2) (by walk_at "wipe") (fun D hD => ⟨rfl, Fr.new hD⟩) (fun D i acc H2 ⟨_, f2⟩ _ => trivial) ?_ ?_
  · rintro D i acc z H2 H3 hD hi hl2 ⟨rfl, f2⟩ hDl ⟨rfl, c, hc, rfl⟩
    obtain ⟨c1, c2, c3⟩ := far_at fo hc
    walk_at "rd"
    refine ⟨rfl, ?_⟩
    walk_at "rd"
    refine s_valueOf (tq.fr f2) c1 (List.getElem?_eq_getElem (by omega)) ?_
    walk_at "rd"
    refine s_valueOf (tb.fr f2) c1 (List.getElem?_eq_getElem (by omega)) ?_
    walk_at "rd"
    refine pvx_add hDl hl2 (Nat.lt_of_lt_of_le hi (by rw [sizeLine_eq]; omega)) ⟨?_, f2.mut hD⟩
    have e : (gapsC far ns ms)[i]? = some (ns[c - 97] - ms[c - 97]) := by
      unfold gapsC
      rw [List.getElem?_map, c3]
      show some (ns[c - 97]! - ms[c - 97]!) = _
      rw [getElem!_pos ns (c - 97) (by omega), getElem!_pos ms (c - 97) (by omega)]
    rw [List.take_add_one, List.map_append, e]
    rfl
  · rintro D acc H2 hD ⟨rfl, f2⟩ hDl
    have gl : (gapsC far ns ms).length = far.cps.size := by simp [gapsC, farIx]
    rw [← gl, List.take_length] at hDl
    walk_at "rd"
    refine lc_by (walk_list (xs := (gapsC far ns ms).map V.int)) (fun D2 i acc H3 => acc = ((((gapsC far ns ms).take i).filter fun v => decide (v > 0)).map fun v => -(-v / p)).map V.int ∧ Fr N0 H2 H3) (by walk_at "wipe") (fun D2 hD2 => ⟨rfl, Fr.new hD2⟩) (fun D2 i acc H3 ⟨_, f3⟩ _ => SqL.of (f3.keep _ _ hDl id)) ?_ ?_
    · rintro D2 i acc z H3 H4 hD2 hi hl2 ⟨rfl, f3⟩ hDl2 ⟨rfl, hz⟩
      have hi' : i < (gapsC far ns ms).length := by simpa using hi
      rw [List.getElem?_map, List.getElem?_eq_getElem hi'] at hz
      cases hz
      walk_at "rd"
      have ft : ((gapsC far ns ms).take (i + 1)).filter (fun v => decide (v > 0)) = ((gapsC far ns ms).take i).filter (fun v => decide (v > 0)) ++ [(gapsC far ns ms)[i]].filter (fun v => decide (v > 0)) := by
        rw [List.take_add_one, List.getElem?_eq_getElem hi', List.filter_append]
        rfl
      refine ⟨rfl, ?_⟩
      walk_at "rd"
      refine if_dec (fun hc => ?_) (fun hc => ?_)
      · walk_at "rd"
        refine s_fldV (f3.keep _ _ (f2.keep _ _ ex id) id) T.K_Rays T.n_Rays_period rfl ?_
        walk_at "rd"
        refine pvx_add hDl2 hl2 (Nat.lt_of_lt_of_le hi' (by rw [sizeLine_eq]; simp [gapsC, farIx]; omega)) ⟨?_, f3.mut hD2⟩
        have fe : [(gapsC far ns ms)[i]].filter (fun v => decide (v > 0)) = [(gapsC far ns ms)[i]] := List.filter_cons_of_pos (p := fun v : Int => decide (v > 0)) (decide_eq_true hc)
        rw [ft, fe, List.map_append, List.map_append]
        rfl
      · refine pvx_skip hDl2 hl2 ⟨?_, f3⟩
        have fe : [(gapsC far ns ms)[i]].filter (fun v => decide (v > 0)) = [] := List.filter_cons_of_neg (p := fun v : Int => decide (v > 0)) (by show ¬ decide ((gapsC far ns ms)[i] > 0) = true; rw [decide_eq_false hc]; exact Bool.false_ne_true)
        rw [ft, fe, List.append_nil]
    · rintro D2 acc H3 hD2 ⟨rfl, f3⟩ hDl2
      rw [List.length_map, List.take_length] at hDl2
      walk_at "rd"
      refine s_maxD (SqL.of hDl2) ?_
      exact k _ (f2.trans f3)
end My
namespace My
open PySem PySem.Spec PyProof.Rows L2 RZ
open LamX (ExtN Tabs TabS TabB CodeO)
def stepC (far : Str) (p : Int) (now bg : List Int) : List Int := shiftC far (turnsC far p now bg * p) bg
/-- where the climb stands after m turns -/
def nowC (far : Str) (p : Int) (hs gs : List Int) : Nat → List Int
  | 0 => hs
  | m + 1 => stepC far p (stepC far p (nowC far p hs gs m) hs) gs
def rowC (far : Str) (p : Int) (hs gs : List Int) (j : Nat) : List (List Int) := [stepC far p (nowC far p hs gs j) hs, nowC far p hs gs (j + 1)]
/-- what m turns give -/
def climbC (far : Str) (p : Int) (hs gs : List Int) (m : Nat) : List (List Int) := (List.range m).flatMap (rowC far p hs gs)
theorem step_len {far : Str} {p : Int} {a b : List Int} : (stepC far p a b).length = 3 := by simp [stepC, shiftC]
theorem now_len {far : Str} {p : Int} {hs gs : List Int} (h : hs.length = 3) : ∀ m, (nowC far p hs gs m).length = 3
  | 0 => h
  | _ + 1 => step_len
theorem tups_app {K : PySem.W.Frag} {H : Hp} {ys : List V} {xss : List (List Int)} {q : Addr} {xs : List Int} (h : HdL N0 K H ys (xss.map fun xs => PyData.tuple (xs.map PyData.int))) (t : TupAt K H q (xs.map V.int)) :
    HdL N0 K H (ys ++ [.ref q]) ((xss ++ [xs]).map fun xs => PyData.tuple (xs.map PyData.int)) := by
  rw [List.map_append]
  exact h.app (.cons (.tup t (HdL.ints xs)) .nil)
def Tups (K : PySem.W.Frag) (H : Hp) (ys : List V) (xss : List (List Int)) : Prop := HdL N0 K H ys (xss.map fun xs => PyData.tuple (xs.map PyData.int))
theorem s_turnsTo {K : PySem.W.Frag} {C x dx b q : Addr} {p : Int} {far : Str} {n h g : V} {ms ns : List Int} {H : Hp} {Q : VK} {E : XK} (ex : H x = some (.ins C dx (raysF n (.str far) (.int p) h g))) (tb : TupAt K H b (ms.map V.int)) (tq : TupAt K H q (ns.map V.int)) (lm : ms.length = 3) (ln : ns.length = 3) (hp : 0 < p ∧ p < 1073741824) (fo : FarOk far) (fz : far.cps.size ≤ 3)
    (k : ∀ H', Fr N0 H H' → Q (.int (turnsC far p ns ms)) H') : sp_Rays__turns_to K C [.ref x, .ref b, .ref q] H Q E := ⟨x, dx, b, q, p, far, n, h, g, ms, ns, rfl, ex, tb, tq, lm, ln, hp, fo, fz, k⟩
theorem s_point {K : PySem.W.Frag} {C x dx b : Addr} {t p : Int} {far : Str} {n h g : V} {ns : List Int} {H : Hp} {Q : VK} {E : XK} (ex : H x = some (.ins C dx (raysF n (.str far) (.int p) h g))) (tb : TupAt K H b (ns.map V.int)) (ln : ns.length = 3) (hp : 0 < p ∧ p < 1073741824)
    (k : ∀ q H', Fr N0 H H' → TupAt K H' q ((shiftC far (t * p) ns).map V.int) → Q (.ref q) H') : sp_Rays__point K C [.ref x, .ref b, .int t] H Q E := ⟨x, dx, b, t, p, far, n, h, g, ns, rfl, ex, tb, ln, hp, k⟩
def sp_Rays__climb (K : PySem.W.Frag) (C : Addr) : SpG := fun vs H Q _ => ∃ (x dx hh gg : Addr) (m : Nat) (p : Int) (far : Str) (n : V) (hs gs : List Int), vs = [.ref x, .int m] ∧ H x = some (.ins C dx (raysF n (.str far) (.int p) (.ref hh) (.ref gg))) ∧ TupAt K H hh (hs.map V.int) ∧ TupAt K H gg (gs.map V.int) ∧ hs.length = 3 ∧ gs.length = 3 ∧ (0 < p ∧ p < 1073741824) ∧ FarOk far ∧ far.cps.size ≤ 3 ∧ m ≤ 1000 ∧
  ∀ ys H', Fr N0 H H' → Tups K H' ys (climbC far p hs gs m) → Q ys H'
theorem ok_Rays__climb {P : Program} {w : World} {K : PySem.W.Frag} {mg : Str → Option Value} {base : Heap} (T : Txt K mg) : GFn P w K mg base lv_Rays__climb T.f_Rays__climb T.fd_Rays__climb ["self", "turns"] (sp_Rays__climb K T.c_Rays) := by
  refine fun_okG T.F_Rays__climb sc_Rays__climb (fun vs H Q E h => by obtain ⟨x, dx, hh, gg, m, p, far, n, hs, gs, rfl, _⟩ := h; rfl) (fun cdv A outer s H vs Q E pn hr h => ?_)
  obtain ⟨x, dx, hh, gg, m, p, far, n, hs, gs, rfl, ex, th, tg, lh, lg, hp, fo, fz, hm, k⟩ := h
  have G_Rays__point := ok_Rays__point (P := P) (w := w) (base := base) T; have G_Rays__turns_to := ok_Rays__turns_to (P := P) (w := w) (base := base) T
  refine ⟨_, (gss_cons (gs_ps (ps_set (i := 2) sc_Rays__climb.nd rfl (by first | exact .inl rfl | exact .inr rfl) (pe_fldK K (pv 0) rfl)))
      (gss_cons (gs_for (passes_of rfl) rfl (pi_range1 (by rfl) T.z_range (pa_cons (pv 1) pa_nil)) (pg_name (i := 3) sc_Rays__climb.nd rfl (by first | exact .inl rfl | exact .inr rfl))
        (gss_cons (gs_ps (ps_set (i := 2) sc_Rays__climb.nd rfl (by first | exact .inl rfl | exact .inr rfl) (pe_meth (pv 0) T.K_Rays T.m_Rays__point G_Rays__point (hr.mono (by first | decide | omega)) T.b_Rays__point .nil pass0 (pa_cons (pe_fldK K (pv 0) rfl) (pa_cons (pe_meth (pv 0) T.K_Rays T.m_Rays__turns_to G_Rays__turns_to (hr.mono (by first | decide | omega)) T.b_Rays__turns_to .nil pass0 (pa_cons (pe_fldK K (pv 0) rfl) (pa_cons (pv 2) pa_nil))) pa_nil)))))
        (gss_cons (gs_yield (pv 2))
        (gss_cons (gs_ps (ps_set (i := 2) sc_Rays__climb.nd rfl (by first | exact .inl rfl | exact .inr rfl) (pe_meth (pv 0) T.K_Rays T.m_Rays__point G_Rays__point (hr.mono (by first | decide | omega)) T.b_Rays__point .nil pass0 (pa_cons (pe_fldK K (pv 0) rfl) (pa_cons (pe_meth (pv 0) T.K_Rays T.m_Rays__turns_to G_Rays__turns_to (hr.mono (by first | decide | omega)) T.b_Rays__turns_to .nil pass0 (pa_cons (pe_fldK K (pv 0) rfl) (pa_cons (pv 2) pa_nil))) pa_nil)))))
        (gss_cons (gs_yield (pv 2))
        gss_nil)))))
      gss_nil)), ?_⟩
  (try dsimp only [cxOf, L2H.cxH, gcxOf, Cx.nox, Cx.wish]); rw [show L2.start _ [(.ref x : V), (.int m : V)] = [some (.ref x), some (.int m), none, none] from rfl]
  walk_at "rd"
  refine s_fldV ex T.K_Rays T.n_Rays_holding rfl ?_
  walk_at "rd"
  refine gfor_by walk_range0 (fun i ys σ H' => ∃ (q : Addr) (v : Option V), σ = [some (.ref x), some (.int m), some (.ref q), v] ∧ Fr N0 H H' ∧ TupAt K H' q ((nowC far p hs gs i).map V.int) ∧ Tups K H' ys (climbC far p hs gs i) ∧ ys.length = 2 * i) ⟨hh, _, rfl, .refl, th, .nil, rfl⟩ (fun _ _ _ _ _ _ => trivial) ?_ ?_
  · rintro i ys _ σ H' _ hi ⟨q, v, rfl, f, tq, hy, yl⟩ ⟨rfl, rfl⟩
    walk_at "rd"
    have e1 := f.keep _ _ ex id
    refine s_methV e1 rfl ?_
    walk_at "rd"
    refine s_fldV e1 T.K_Rays T.n_Rays_holding rfl ?_
    walk_at "rd"
    refine s_methV e1 rfl ?_
    walk_at "rd"
    refine s_fldV e1 T.K_Rays T.n_Rays_holding rfl ?_
    walk_at "rd"
    refine s_turnsTo e1 (th.fr f) tq lh (now_len lh i) hp fo fz fun H1 f1 => ?_
    walk_at "rd"
    have e2 := (f.trans f1).keep _ _ ex id
    refine s_point e2 (th.fr (f.trans f1)) lh hp fun q1 H2 f2 t1 => ?_
    walk_at "rd"
    refine s_gyield (by rw [sizeLine_eq]; omega) ?_
    walk_at "rd"
    have f3 := (f.trans f1).trans f2
    have e3 := f3.keep _ _ ex id
    refine s_methV e3 rfl ?_
    walk_at "rd"
    refine s_fldV e3 T.K_Rays T.n_Rays_failing rfl ?_
    walk_at "rd"
    refine s_methV e3 rfl ?_
    walk_at "rd"
    refine s_fldV e3 T.K_Rays T.n_Rays_failing rfl ?_
    walk_at "rd"
    refine s_turnsTo e3 (tg.fr f3) t1 lg step_len hp fo fz fun H4 f4 => ?_
    walk_at "rd"
    have f5 := f3.trans f4
    refine s_point (f5.keep _ _ ex id) (tg.fr f5) lg hp fun q2 H6 f6 t2 => ?_
    walk_at "rd"
    refine s_gyield (by rw [sizeLine_eq, List.length_append]; show ys.length + 1 < _; omega) ?_
    walk_at "rd"
    have f7 := f5.trans f6
    refine ⟨q2, _, rfl, f7, t2, ?_, by simp; omega⟩
    have hy2 : Tups K H6 ys (climbC far p hs gs i) := HdL.fr0 (HdL.fr0 hy (f1.trans f2)) (f4.trans f6)
    have hz := tups_app (tups_app hy2 (t1.fr (f4.trans f6))) t2
    unfold Tups climbC
    rw [List.range_succ, List.flatMap_append]
    simpa [climbC, rowC, stepC, nowC] using hz
  · rintro ys σ H' ⟨q, v, rfl, f, tq, hy, yl⟩
    walk_at "rd"
    exact k ys H' f hy
end My
namespace My
open PySem PySem.Spec PyProof.Rows L2 RZ
open LamX (ExtN Tabs TabS TabB CodeO)
def sp_Rays____repr__ (K : PySem.W.Frag) (C : Addr) : Sp := fun vs H Q _ => ∃ (x dx : Addr) (n f : Str) (p h g : V), vs = [.ref x] ∧ H x = some (.ins C dx (raysF (.str n) (.str f) p h g)) ∧ n.length + f.length ≤ 1000 ∧
  Q (.str (Str.ofString "Rays(" ++ n ++ Str.ofString ", " ++ f ++ Str.ofString ")")) H
theorem ok_Rays____repr__ {P : Program} {w : World} {K : PySem.W.Frag} {mg : Str → Option Value} {base : Heap} (T : Txt K mg) : FnOk P w K mg base CX0 lv_Rays____repr__ T.f_Rays____repr__ T.fd_Rays____repr__ ["self"] (sp_Rays____repr__ K T.c_Rays) := by
  refine T.F_Rays____repr__.ok sc_Rays____repr__ (fun vs H Q E h => by obtain ⟨x, dx, n, f, p, h, g, rfl, _⟩ := h; rfl) (fun cdv A outer s H vs Q E hr h => ?_)
  obtain ⟨x, dx, n, f, p, h, g, rfl, ex, hl, k⟩ := h
  refine ⟨_, (pss_one (ps_ret (peJoined (.cons pe_str (.cons (pe_fmt (pe_fldK K (pv 0) rfl)) (.cons pe_str (.cons (pe_fmt (pe_fldK K (pv 0) rfl)) (.cons pe_str .nil)))))))), ?_⟩
  (try dsimp only [cxOf, L2H.cxH, gcxOf, Cx.nox, Cx.wish]); rw [show L2.start _ [(.ref x : V)] = [some (.ref x)] from rfl]
  walk_at "rd"
  have l1 : (Str.ofString "Rays(").length = 5 := rfl
  have l2 : (Str.ofString ", ").length = 2 := rfl
  have l3 : (Str.ofString ")").length = 1 := rfl
  have lz := sizeLine_eq
  refine s_jV (by simp only [Str.empty_append, Str.length_append]; omega) ?_
  walk_at "rd"
  refine s_fldV ex T.K_Rays T.n_Rays_name rfl ?_
  refine s_fmtS (by omega) ?_
  refine s_jV (by simp only [Str.empty_append, Str.length_append]; omega) ?_
  walk_at "rd"
  refine s_jV (by simp only [Str.empty_append, Str.length_append]; omega) ?_
  walk_at "rd"
  refine s_fldV ex T.K_Rays T.n_Rays_far rfl ?_
  refine s_fmtS (by omega) ?_
  refine s_jV (by simp only [Str.empty_append, Str.length_append]; omega) ?_
  walk_at "rd"
  refine s_jV (by simp only [Str.empty_append, Str.length_append]; omega) ?_
  walk_at "rd"
  rw [Str.empty_append]
  exact k
end My
namespace My
open PySem PySem.Spec PyProof.Rows L2 RZ
def sp__law_bag (K : PySem.W.Frag) : Sp := fun vs H Q _ => ∃ (a : Addr) (ns : List Int), vs = [.ref a] ∧ SqL K H a (ns.map V.int) ∧ ns.length ≤ 63 ∧ ∀ b H', H b = none → Bag b H' → Fr N0 H H' → Q (.ref b) H'
theorem ok__law_bag {P : Program} {w : World} {K : PySem.W.Frag} {mg : Str → Option Value} {base : Heap} (T : Txt K mg) : FnOk P w K mg base CX0 lv__law_bag T.f__law_bag T.fd__law_bag ["_law_script"] (sp__law_bag K) := by
  refine T.F__law_bag.ok sc__law_bag (fun vs H Q E h => ?_) (fun cdv A outer s H vs Q E hr h => ?_)
  · obtain ⟨a, ns, rfl, _⟩ := h
    rfl
  · obtain ⟨a, ns, rfl, hS, hl, k⟩ := h
    have hc : cutV (ns.map V.int) none (some 63) = ns.map V.int := cut_all (by rw [List.length_map]; omega)
    refine ⟨_, (pss_cons (ps_set (i := 1) sc__law_bag.nd rfl (by first | exact .inl rfl | exact .inr rfl) pe_int)
      (pss_cons (ps_for PassesOwn.never rfl (pi_listK K (pe_slice (opSlK K) (pv 0) po_none (po_some pe_int))) (pg_name (i := 2) sc__law_bag.nd rfl (by first | exact .inl rfl | exact .inr rfl))
        (pss_one (ps_set (i := 1) sc__law_bag.nd rfl (by first | exact .inl rfl | exact .inr rfl) (pe_op op_mod (pe_callTy callInt (by rfl) T.z_int (by first | exact PySem.boot_int | exact boot_int | decide +kernel) (pa_cons (pe_op (opAddK K) (pe_op (opAddK K) (pe_op opMul (pv 1) pe_int) (pe_op op_mod (pe_callTy callInt (by rfl) T.z_int (by first | exact PySem.boot_int | exact boot_int | decide +kernel) (pa_cons (pv 2) pa_nil)) pe_int)) pe_int) pa_nil)) pe_int))))
      (pss_one (ps_ret (pe_lst (pa_cons (pe_callTy (callListK K) (by rfl) T.z_list (by first | exact PySem.boot_list | exact boot_list | decide +kernel) (pa_cons (pe_slice (opSlK K) (pv 0) po_none (po_some pe_int)) pa_nil)) (pa_cons pe_int (pa_cons pe_int (pa_cons (pv 1) pa_nil))))))))), ?_⟩
    (try dsimp only [cxOf, L2H.cxH, gcxOf, Cx.nox, Cx.wish]); rw [show L2.start _ [(.ref a : V)] = [some (.ref a), none, none] from rfl]
    walk_at "rd"
    refine s_slL hS fun l nl => ?_
    rw [hc]
    refine s_lst1 (SqL.of upd_same) ?_
    refine for_by (walk_list (xs := ns.map V.int)) (fun i σ H' => ∃ (z : Int) (v : Option V), σ = [some (.ref a), some (.int z), v] ∧ 0 ≤ z ∧ z < 2147483563 ∧ H' = upd H l (.lst (ns.map V.int))) ⟨4935, none, rfl, by decide, by decide, rfl⟩ (fun i σ H' _ ⟨_, _, _, _, _, e⟩ => by rw [e]; exact SqL.of upd_same) ?_ ?_
    · rintro i x σ H' _ hi ⟨z, v, rfl, h0, h1, rfl⟩ ⟨rfl, hx⟩
      obtain ⟨n, rfl⟩ : ∃ n, x = V.int n := by
        rw [List.getElem?_map] at hx
        cases e : ns[i]? with
        | none => rw [e] at hx; cases hx
        | some n => rw [e] at hx; exact ⟨n, (Option.some.inj hx).symm⟩
      walk_at "rd"
      exact ⟨_, _, rfl, Int.emod_nonneg _ (by decide), Int.emod_lt_of_pos _ (by decide), rfl⟩
    · rintro σ H' ⟨z, v, rfl, h0, h1, rfl⟩
      have f1 : Fr N0 H (upd H l (.lst (ns.map V.int))) := Fr.new nl
      walk_at "rd"
      refine s_slL (f1.rdL hS id) fun l2 nl2 => ?_
      rw [hc]
      walk_at "rd"
      have f2 := f1.trans (Fr.new (o := .lst (ns.map V.int)) nl2)
      refine s_listL (SqL.of upd_same) fun l3 nl3 => ?_
      have f3 := f2.trans (Fr.new (o := .lst (ns.map V.int)) nl3)
      walk_at "rd"
      refine ⟨by show 4 ≤ sizeLine; decide, fun b nb => ?_⟩
      have f4 := f3.trans (Fr.new (o := .lst [.ref l3, .int 0, .int 0, .int z]) nb)
      refine k b _ (f3.free nb id) ⟨l3, ns, 0, 0, z, upd_same, ?_, hl, by decide, by decide, h0, h1⟩ f4
      rw [upd_ne (fun e => by rw [e] at nb; rw [upd_same] at nb; cases nb)]
      exact upd_same
end My
namespace My
open PySem PySem.Spec PyProof.Rows L2 RZ
def sp__law_pull (_ : PySem.W.Frag) : Sp := fun vs H Q _ => ∃ (b : Addr) (n : Int), vs = [.ref b, .int n] ∧ Bag b H ∧ 0 < n ∧ n < 1073741824 ∧ ∀ (r : Int) H', 0 ≤ r → r < n → Bag b H' → Fr (N1 b) H H' → Q (.int r) H'
theorem s_pull {K : PySem.W.Frag} {b : Addr} {n : Int} {H : Hp} {Q : VK} {E : XK} (B : Bag b H) (h : 0 < n ∧ n < 1073741824) (k : ∀ (r : Int) H', 0 ≤ r → r < n → Bag b H' → Fr (N1 b) H H' → Q (.int r) H') : sp__law_pull K [.ref b, .int n] H Q E := ⟨b, n, rfl, B, h.1, h.2, k⟩
theorem ok__law_pull {P : Program} {w : World} {K : PySem.W.Frag} {mg : Str → Option Value} {base : Heap} (T : Txt K mg) : FnOk P w K mg base CX0 lv__law_pull T.f__law_pull T.fd__law_pull ["_law_bag_here", "_law_many"] (sp__law_pull K) := by
  refine T.F__law_pull.ok sc__law_pull (fun vs H Q E h => ?_) (fun cdv A outer s H vs Q E hr h => ?_)
  · obtain ⟨b, n, rfl, _⟩ := h
    rfl
  · obtain ⟨b, n, rfl, B, hn, hn2, k⟩ := h
    refine ⟨_, (Evl.pss_cut (ps_if (PW.pt (pw_and (pt_cmpR (opEqK K hr.units) (pe_ix (ixK K) (pv 0) pe_int (fun _ _ => rfl)) pe_int (by first | exact nomark _ | rfl)) (pw_and1 (pt_cmpR op_lt (pe_ix (ixK K) (pv 0) pe_int (fun _ _ => rfl)) (pe_callB (callLenK K) (by rfl) T.z_len (by first | exact PySem.boot_len | exact boot_len | decide +kernel) (pa_cons (pe_ix (ixK K) (pv 0) pe_int (fun _ _ => rfl)) pa_nil)) (by first | exact nomark _ | rfl)))))
        (pss_cons (ps_set (i := 2) sc__law_pull.nd rfl (by first | exact .inl rfl | exact .inr rfl) (pe_ix (ixK K) (pe_ix (ixK K) (pv 0) pe_int (fun _ _ => rfl)) (pe_ix (ixK K) (pv 0) pe_int (fun _ _ => rfl)) (fun _ _ => rfl)))
        (pss_cons (ps_asg (pe_op (opAddK K) (pe_ix (ixK K) (pv 0) pe_int (fun _ _ => rfl)) pe_int) (pg_sub (pv 0) pe_int set_list))
        (pss_one (ps_if (pt_cmpR op_ge (pv 2) (pe_op op_pow pe_int pe_int) (by first | exact nomark _ | rfl))
          (pss_one (ps_asg (pe_op op_sub (pv 2) (pe_op op_pow pe_int pe_int)) (pg_sub (pv 0) pe_int set_list)))
          (pss_one (ps_asg (pe_op op_mod (pe_callTy callInt (by rfl) T.z_int (by first | exact PySem.boot_int | exact boot_int | decide +kernel) (pa_cons (pe_op (opAddK K) (pe_op (opAddK K) (pe_op opMul (pe_ix (ixK K) (pv 0) pe_int (fun _ _ => rfl)) pe_int) (pe_op opMul (pe_op op_mod (pe_callTy callInt (by rfl) T.z_int (by first | exact PySem.boot_int | exact boot_int | decide +kernel) (pa_cons (pv 2) pa_nil)) pe_int) pe_int)) pe_int) pa_nil)) pe_int) (pg_sub (pv 0) pe_int set_list)))))))
        pss_nil)
      (pss_cons (ps_if (pt_cmpR op_gt (pe_ix (ixK K) (pv 0) pe_int (fun _ _ => rfl)) pe_int (by first | exact nomark _ | rfl))
        (pss_cons (ps_set (i := 3) sc__law_pull.nd rfl (by first | exact .inl rfl | exact .inr rfl) (pe_op op_mod (pe_callTy callInt (by rfl) T.z_int (by first | exact PySem.boot_int | exact boot_int | decide +kernel) (pa_cons (pe_ix (ixK K) (pv 0) pe_int (fun _ _ => rfl)) pa_nil)) (pe_callTy callInt (by rfl) T.z_int (by first | exact PySem.boot_int | exact boot_int | decide +kernel) (pa_cons (pv 1) pa_nil))))
        (pss_cons (ps_asg (pe_op opDiv (pe_ix (ixK K) (pv 0) pe_int (fun _ _ => rfl)) (pv 1)) (pg_sub (pv 0) pe_int set_list))
        (pss_one (ps_ret (pv 3)))))
        pss_nil)
      (pss_cons (ps_set (i := 4) sc__law_pull.nd rfl (by first | exact .inl rfl | exact .inr rfl) (pe_ix (ixK K) (pv 0) pe_int (fun _ _ => rfl)))
      (pss_cons (ps_asg (pe_op op_mod (pe_callTy callInt (by rfl) T.z_int (by first | exact PySem.boot_int | exact boot_int | decide +kernel) (pa_cons (pe_op (opAddK K) (pe_op (opAddK K) (pe_op opMul (pe_op opMul (pv 4) (pv 4)) pe_int) (pe_op opMul (pv 4) pe_int)) pe_int) pa_nil)) pe_int) (pg_sub (pv 0) pe_int set_list))
      (pss_one (ps_ret (pe_op op_mod (pe_callTy callInt (by rfl) T.z_int (by first | exact PySem.boot_int | exact boot_int | decide +kernel) (pa_cons (pe_op (opAddK K) (pe_op opDiv (pe_ix (ixK K) (pv 0) pe_int (fun _ _ => rfl)) pe_int) (pe_op opMul (pe_op op_mod (pe_callTy callInt (by rfl) T.z_int (by first | exact PySem.boot_int | exact boot_int | decide +kernel) (pa_cons (pe_ix (ixK K) (pv 0) pe_int (fun _ _ => rfl)) pa_nil)) pe_int) pe_int)) pa_nil)) (pe_callTy callInt (by rfl) T.z_int (by first | exact PySem.boot_int | exact boot_int | decide +kernel) (pa_cons (pv 1) pa_nil))))))))), ?_⟩
    (try dsimp only [cxOf, L2H.cxH, gcxOf, Cx.nox, Cx.wish]); rw [show L2.start _ [(.ref b : V), (.int n : V)] = [some (.ref b), some (.int n), none, none, none] from rfl]
    refine ⟨fun σ' H' => ∃ v, σ' = [some (.ref b), some (.int n), v, none, none] ∧ Bag b H' ∧ Fr (N1 b) H H', ?_, ?_⟩
    · obtain ⟨c, ns, p, cur, seed, h1, h2, hlen, hp, hcur, hs0, hs1⟩ := B.ex
      have nc : c ≠ b := bag_ne h1 h2
      obtain ⟨j, rfl⟩ := nat0 hp
      walk_at "rd"
      refine if_dec (fun ec => ?_) (fun _ => iteF ⟨none, rfl, B, .refl⟩)
      walk_at "rd"
      rw [List.length_map]
      walk_at "rd"
      refine if_dec (fun hj => ?_) (fun _ => ⟨none, rfl, B, .refl⟩)
      have hj2 : j < ns.length := by omega
      walk_at "rd"
      refine s_ixL (SqL.of h2) (atI_nat (j := j) (v := .int ns[j]) (by rw [List.getElem?_map, List.getElem?_eq_getElem hj2]; rfl)) ?_
      walk_at "rd"
      have f1 : Fr (N1 b) H (upd H b (.lst ([V.ref c, .int j, .int cur, .int seed].set 1 (.int (j + 1))))) := Fr.wr h1 rfl
      have g1 := f1.keep c _ h2 nc
      have g2 : upd H b (.lst ([V.ref c, .int j, .int cur, .int seed].set 1 (.int (j + 1)))) b = _ := upd_same
      generalize upd H b (.lst ([V.ref c, .int j, .int cur, .int seed].set 1 (.int (j + 1)))) = H1 at f1 g1 g2 ⊢
      simp only [List.set_cons_zero, List.set_cons_succ] at g2
      refine if_dec (fun hb => ?_) (fun _ => ?_)
      · walk_at "rd"
        refine ⟨_, rfl, ⟨c, ns, _, _, _, upd_same, ?_, hlen, ?_, ?_, hs0, hs1⟩, f1.trans (Fr.wr g2 rfl)⟩
        · rw [upd_ne nc]; exact g1
        · omega
        · omega
      · walk_at "rd"
        refine ⟨_, rfl, ⟨c, ns, _, _, _, upd_same, ?_, hlen, ?_, hcur, Int.emod_nonneg _ (by decide), Int.emod_lt_of_pos _ (by decide)⟩, f1.trans (Fr.wr g2 rfl)⟩
        · rw [upd_ne nc]; exact g1
        · omega
    · rintro σ' H1 ⟨v, rfl, B1, f1⟩
      obtain ⟨c, ns, p, cur, seed, h1, h2, hlen, hp, hcur, hs0, hs1⟩ := B1.ex
      have nc : c ≠ b := bag_ne h1 h2
      walk_at "rd"
      refine if_dec (fun h0 => ?_) (fun _ => ?_)
      · walk_at "rd"
        refine k _ _ (Int.emod_nonneg _ (by omega)) (Int.emod_lt_of_pos _ hn) ⟨c, ns, _, _, _, upd_same, ?_, hlen, hp, Int.ediv_nonneg hcur (by omega), hs0, hs1⟩ (f1.trans (Fr.wr h1 rfl))
        rw [upd_ne nc]; exact h2
      · walk_at "rd"
        have f2 := f1.trans (Fr.wr (o := .lst ([V.ref c, .int p, .int cur, .int seed].set 3 (.int ((seed * seed * 3 + seed * 16807 + 1013904223) % 2147483563)))) h1 rfl)
        have g2 : upd H1 b (.lst ([V.ref c, .int p, .int cur, .int seed].set 3 (.int ((seed * seed * 3 + seed * 16807 + 1013904223) % 2147483563)))) b = _ := upd_same
        have g1 := Eq.trans (upd_ne (H := H1) (o := .lst ([V.ref c, .int p, .int cur, .int seed].set 3 (.int ((seed * seed * 3 + seed * 16807 + 1013904223) % 2147483563)))) nc) h2
        generalize upd H1 b _ = H2 at f2 g1 g2 ⊢
        simp only [List.set_cons_zero, List.set_cons_succ] at g2
        walk_at "rd"
        exact k _ _ (Int.emod_nonneg _ (by omega)) (Int.emod_lt_of_pos _ hn) ⟨c, ns, _, _, _, g2, g1, hlen, hp, hcur, Int.emod_nonneg _ (by decide), Int.emod_lt_of_pos _ (by decide)⟩ f2
end My
namespace My
open PySem PySem.Spec PyProof.Rows L2 RZ
open LamX (ExtN Tabs TabS TabB CodeO)
def sp__law_of (K : PySem.W.Frag) : Sp := fun vs H Q _ => ∃ (b p : Addr) (xs : List V), vs = [.ref b, .ref p] ∧ Bag b H ∧ (H p = some (.lst xs) ∨ TupAt K H p xs) ∧ p ≠ b ∧ 0 < xs.length ∧ xs.length < 1000000 ∧ ∀ v H', v ∈ xs → Bag b H' → Fr (N1 b) H H' → Q v H'
theorem s_ofL {K : PySem.W.Frag} {b p : Addr} {xs : List V} {H : Hp} {Q : VK} {E : XK} (B : Bag b H) (h : H p = some (.lst xs)) (n : p ≠ b) (hl : 0 < xs.length ∧ xs.length < 1000000) (k : ∀ v H', v ∈ xs → Bag b H' → Fr (N1 b) H H' → Q v H') : sp__law_of K [.ref b, .ref p] H Q E := ⟨b, p, xs, rfl, B, .inl h, n, hl.1, hl.2, k⟩
theorem ok__law_of {P : Program} {w : World} {K : PySem.W.Frag} {mg : Str → Option Value} {base : Heap} (T : Txt K mg) : FnOk P w K mg base CX0 lv__law_of T.f__law_of T.fd__law_of ["_law_bag_here", "_law_things"] (sp__law_of K) := by
  refine T.F__law_of.ok sc__law_of (fun vs H Q E h => by obtain ⟨b, p, xs, rfl, _⟩ := h; rfl) (fun cdv A outer s H vs Q E hr h => ?_)
  obtain ⟨b, p, xs, rfl, B, hp, nb, h0, h1, k⟩ := h
  have G__law_pull := ok__law_pull (P := P) (w := w) (base := base) T
  refine ⟨_, (pss_one (ps_ret (pe_ix (ixK K) (pv 1) (pe_call G__law_pull (hr.mono (by first | decide | omega)) (by rfl) T.g__law_pull T.F__law_pull.kp T.b__law_pull .nil pass0 (pa_cons (pv 0) (pa_cons (pe_callB (callLenK K) (by rfl) T.z_len (by first | exact PySem.boot_len | exact boot_len | decide +kernel) (pa_cons (pv 1) pa_nil)) pa_nil))) (fun _ _ => rfl)))), ?_⟩
  (try dsimp only [cxOf, L2H.cxH, gcxOf, Cx.nox, Cx.wish]); rw [show L2.start _ [(.ref b : V), (.ref p : V)] = [some (.ref b), some (.ref p)] from rfl]
  walk_at "rd"
  have go : ∀ H', Fr (N1 b) H H' → H' p = some (.lst xs) ∨ TupAt K H' p xs := fun H' f => hp.imp (fun e => f.keep _ _ e nb) fun e => e.fr f
  have fin : ∀ (r : Int) H', 0 ≤ r → r < xs.length → Bag b H' → Fr (N1 b) H H' → rIx K (.ref p) (.int r) H' Q := by
    intro r H' r0 r1 B1 f1
    obtain ⟨j, rfl⟩ := nat0 r0
    have hj : j < xs.length := by omega
    have e : atI xs (j : Int) = some xs[j] := atI_nat (by rw [List.getElem?_eq_getElem hj])
    rcases go H' f1 with e1 | e1
    · exact s_ixL (SqL.of e1) e (k _ _ (List.getElem_mem hj) B1 f1)
    · exact s_ixT e1.sq e (k _ _ (List.getElem_mem hj) B1 f1)
  rcases hp with e | e
  · refine s_lenL (SqL.of e) ?_
    walk_at "rd"
    refine s_pull B (by omega) fun r H1 r0 r1 B1 f1 => ?_
    exact fin r H1 r0 r1 B1 f1
  · refine s_lenT e.sq ?_
    walk_at "rd"
    refine s_pull B (by omega) fun r H1 r0 r1 B1 f1 => ?_
    exact fin r H1 r0 r1 B1 f1
end My
namespace My
open PySem PySem.Spec PyProof.Rows L2 RZ
def sp__law_great (_ : PySem.W.Frag) : Sp := fun vs H Q _ => ∃ (b : Addr), vs = [.ref b] ∧ Bag b H ∧ ∀ (r : Int) H', 0 ≤ r → r < 1000 * 1000000000 ^ 3 → Bag b H' → Fr (N1 b) H H' → Q (.int r) H'
theorem s_great {K : PySem.W.Frag} {b : Addr} {H : Hp} {Q : VK} {E : XK} (B : Bag b H) (k : ∀ (r : Int) H', 0 ≤ r → r < 1000 * 1000000000 ^ 3 → Bag b H' → Fr (N1 b) H H' → Q (.int r) H') : sp__law_great K [.ref b] H Q E := ⟨b, rfl, B, k⟩
theorem great_lt {z r : Int} {i : Nat} (h : z < 1000 * 1000000000 ^ i) (h2 : r < 1000000000) : z * 1000000000 + r < 1000 * 1000000000 ^ (i + 1) := by
  rw [Int.pow_succ]
  omega
theorem ok__law_great {P : Program} {w : World} {K : PySem.W.Frag} {mg : Str → Option Value} {base : Heap} (T : Txt K mg) : FnOk P w K mg base CX0 lv__law_great T.f__law_great T.fd__law_great ["_law_bag_here"] (sp__law_great K) := by
  refine T.F__law_great.ok sc__law_great (fun vs H Q E h => ?_) (fun cdv A outer s H vs Q E hr h => ?_)
  · obtain ⟨b, rfl, _⟩ := h
    rfl
  · obtain ⟨b, rfl, B, k⟩ := h
    have G__law_pull := ok__law_pull (P := P) (w := w) (base := base) T
    refine ⟨_, (pss_cons (ps_set (i := 1) sc__law_great.nd rfl (by first | exact .inl rfl | exact .inr rfl) (pe_call G__law_pull (hr.mono (by first | decide | omega)) (by rfl) T.g__law_pull T.F__law_pull.kp T.b__law_pull .nil pass0 (pa_cons (pv 0) (pa_cons pe_int pa_nil))))
      (pss_cons (ps_for PassesOwn.never rfl (pi_range1 (by rfl) T.z_range (pa_cons pe_int pa_nil)) (pg_name (i := 2) sc__law_great.nd rfl (by first | exact .inl rfl | exact .inr rfl))
        (pss_one (ps_set (i := 1) sc__law_great.nd rfl (by first | exact .inl rfl | exact .inr rfl) (pe_op (opAddK K) (pe_op opMul (pv 1) (pe_op op_pow pe_int pe_int)) (pe_call G__law_pull (hr.mono (by first | decide | omega)) (by rfl) T.g__law_pull T.F__law_pull.kp T.b__law_pull .nil pass0 (pa_cons (pv 0) (pa_cons (pe_op op_pow pe_int pe_int) pa_nil)))))))
      (pss_one (ps_ret (pv 1))))), ?_⟩
    (try dsimp only [cxOf, L2H.cxH, gcxOf, Cx.nox, Cx.wish]); rw [show L2.start _ [(.ref b : V)] = [some (.ref b), none, none] from rfl]
    walk_at "rd"
    refine s_pull B (by decide) fun r H1 r0 r1 B1 f1 => ?_
    walk_at "rd"
    refine for_by walk_range0 (fun i σ H' => ∃ (z : Int) (v : Option V), σ = [some (.ref b), some (.int z), v] ∧ 0 ≤ z ∧ z < 1000 * 1000000000 ^ i ∧ Bag b H' ∧ Fr (N1 b) H H') ⟨r, none, rfl, r0, by omega, B1, f1⟩ (fun _ _ _ _ _ => trivial) ?_ ?_
    · rintro i _ σ H' _ hi ⟨z, v, rfl, z0, z1, B', f'⟩ ⟨rfl, rfl⟩
      walk_at "rd"
      refine s_pull B' (by decide) fun r H2 r0 r1 B2 f2 => ?_
      walk_at "rd"
      exact ⟨_, _, rfl, by omega, great_lt z1 r1, B2, f'.trans f2⟩
    · rintro σ H' ⟨z, v, rfl, z0, z1, B', f'⟩
      walk_at "rd"
      exact k _ _ z0 z1 B' f'
end My
namespace My
open PySem PySem.Spec PyProof.Rows L2 RZ
open LamX (ExtN Tabs TabS TabB CodeO)
mutual
/-- no dict within -/
def plainD : PyData → Bool
  | .none | .bool _ | .int _ | .str _ => true
  | .list xs | .tuple xs => decide (xs.length ≤ 100000) && plainL xs
  | .dict _ => false
def plainL : List PyData → Bool
  | [] => true
  | x :: xs => plainD x && plainL xs
end
mutual
def deepD : PyData → Nat
  | .none | .bool _ | .int _ | .str _ => 0
  | .list xs | .tuple xs => deepL xs + 1
  | .dict _ => 0
def deepL : List PyData → Nat
  | [] => 0
  | x :: xs => max (deepD x) (deepL xs)
end
theorem plain_get : ∀ {xs : List PyData} {i : Nat} {d : PyData}, plainL xs = true → xs[i]? = some d → plainD d = true
  | [], _, _, _, e => by simp at e
  | x :: xs, 0, _, h, e => by
    simp at e
    subst e
    simp only [plainL, Bool.and_eq_true] at h
    exact h.1
  | x :: xs, i + 1, _, h, e => by
    simp only [plainL, Bool.and_eq_true] at h
    exact plain_get h.2 (by simpa using e)
theorem deep_get : ∀ {xs : List PyData} {i : Nat} {d : PyData}, xs[i]? = some d → deepD d ≤ deepL xs
  | [], _, _, e => by simp at e
  | x :: xs, 0, _, e => by
    simp at e
    subst e
    simp only [deepL]
    omega
  | x :: xs, i + 1, _, e => by
    have h := deep_get (xs := xs) (i := i) (by simpa using e)
    simp only [deepL]
    omega
theorem all_rep (n : Nat) : (List.replicate n true).all id = true := by
  induction n with
  | zero => rfl
  | succ n ih => rw [List.replicate_succ, List.all_cons, ih]; rfl
/-- _law_like of the same data: True -/
def sp_like_n (K : PySem.W.Frag) (n : Nat) : Sp := fun vs H Q _ => ∃ (x y : V) (d : PyData), vs = [x, y] ∧ Hd N0 K H x d ∧ Hd N0 K H y d ∧ plainD d = true ∧ deepD d < n ∧ ∀ H', Fr N0 H H' → Q (.bl true) H'
def sp__law_like (K : PySem.W.Frag) : Sp := sp_like_n K 6
theorem s_like {K : PySem.W.Frag} {H : Hp} {Q : VK} {E : XK} {x y : V} {d : PyData} (hx : Hd N0 K H x d) (hy : Hd N0 K H y d) (hp : plainD d = true) (hn : deepD d < 6) (k : ∀ H', Fr N0 H H' → Q (.bl true) H') : sp__law_like K [x, y] H Q E := ⟨x, y, d, rfl, hx, hy, hp, hn, k⟩
theorem s_like_n {K : PySem.W.Frag} {n : Nat} {H : Hp} {Q : VK} {E : XK} {x y : V} {d : PyData} (hx : Hd N0 K H x d) (hy : Hd N0 K H y d) (hp : plainD d = true) (hn : deepD d < n) (k : ∀ H', Fr N0 H H' → Q (.bl true) H') : sp_like_n K n [x, y] H Q E := ⟨x, y, d, rfl, hx, hy, hp, hn, k⟩
theorem ok_like_step {P : Program} {w : World} {K : PySem.W.Frag} {mg : Str → Option Value} {base : Heap} (T : Txt K mg) {n : Nat} (G__law_like : FnOk P w K mg base CX0 n T.f__law_like T.fd__law_like ["_law_found", "_law_due"] (sp_like_n K n)) : FnOk P w K mg base CX0 (n + 1) T.f__law_like T.fd__law_like ["_law_found", "_law_due"] (sp_like_n K (n + 1)) := by
  refine T.F__law_like.ok sc__law_like (fun vs H Q E h => ?_) (fun cdv A outer s H vs Q E hr h => ?_)
  · obtain ⟨x, y, d, rfl, _⟩ := h
    rfl
  · obtain ⟨x, y, d, rfl, hx, hy, hp, hn, k⟩ := h
    refine ⟨_, (pss_cons (ps_if (pt_val (pe_callB (callIsiK K) (by rfl) T.z_isinstance (by first | exact PySem.boot_isinstance | exact boot_isinstance | decide +kernel) (pa_cons (pv 1) (pa_cons (pe_tup (pa_cons (pe_bltn (v := .ty "list") (by rfl) T.z_list (by first | exact boot_list | decide +kernel) rfl) (pa_cons (pe_bltn (v := .ty "tuple") (by rfl) T.z_tuple (by first | exact boot_tuple | decide +kernel) rfl) pa_nil))) pa_nil))))
        (pss_cons (ps_if (pt_cmpR (opNeK K hr.units) (pe_callB (callIsiK K) (by rfl) T.z_isinstance (by first | exact PySem.boot_isinstance | exact boot_isinstance | decide +kernel) (pa_cons (pv 0) (pa_cons (pe_bltn (v := .ty "list") (by rfl) T.z_list (by first | exact boot_list | decide +kernel) rfl) pa_nil))) (pe_callB (callIsiK K) (by rfl) T.z_isinstance (by first | exact PySem.boot_isinstance | exact boot_isinstance | decide +kernel) (pa_cons (pv 1) (pa_cons (pe_bltn (v := .ty "list") (by rfl) T.z_list (by first | exact boot_list | decide +kernel) rfl) pa_nil))) (by first | exact nomark _ | rfl))
          (pss_one (ps_ret pe_bl))
          pss_nil)
        (pss_cons (ps_if (pt_cmpR (opNeK K hr.units) (pe_callB (callIsiK K) (by rfl) T.z_isinstance (by first | exact PySem.boot_isinstance | exact boot_isinstance | decide +kernel) (pa_cons (pv 0) (pa_cons (pe_bltn (v := .ty "tuple") (by rfl) T.z_tuple (by first | exact boot_tuple | decide +kernel) rfl) pa_nil))) (pe_callB (callIsiK K) (by rfl) T.z_isinstance (by first | exact PySem.boot_isinstance | exact boot_isinstance | decide +kernel) (pa_cons (pv 1) (pa_cons (pe_bltn (v := .ty "tuple") (by rfl) T.z_tuple (by first | exact boot_tuple | decide +kernel) rfl) pa_nil))) (by first | exact nomark _ | rfl))
          (pss_one (ps_ret pe_bl))
          pss_nil)
        (pss_cons (ps_if (pt_cmpR (opNeK K hr.units) (pe_callB (callLenK K) (by rfl) T.z_len (by first | exact PySem.boot_len | exact boot_len | decide +kernel) (pa_cons (pv 0) pa_nil)) (pe_callB (callLenK K) (by rfl) T.z_len (by first | exact PySem.boot_len | exact boot_len | decide +kernel) (pa_cons (pv 1) pa_nil)) (by first | exact nomark _ | rfl))
          (pss_one (ps_ret pe_bl))
          pss_nil)
        (pss_one (ps_ret (pe_callB (allK K rfl) (by rfl) T.z_all (by first | exact PySem.boot_all | exact boot_all | decide +kernel) (pa_cons (pe_lc (own := [("_law_one", 2), ("_law_other", 3)]) (g := (gTup K 2 (gCons (gName 2) (gCons (gName 3) gNil)))) (tt := tYes) rfl sc__law_like.nd (pi_zipA (by rfl) T.z_zip (pa_cons (pv 0) (pa_cons (pv 1) pa_nil))) (blkOk_by (N := ["_law_found", "_law_due", "_law_one", "_law_other", "_law_name"]) (sc := defScope s__law_like) (by decide +kernel)) (fun _ _ _ _ _ => (pg_tup rfl (pgs_cons (pg_name (i := 2) sc__law_like.nd rfl (by first | exact .inl rfl | exact .inr rfl)) (pgs_cons (pg_name (i := 3) sc__law_like.nd rfl (by first | exact .inl rfl | exact .inr rfl)) pgs_nil)))) (fun _ _ _ _ _ => pts_nil) (fun _ _ _ _ _ => (pe_call G__law_like (hr.mono (by first | decide | omega)) (by rfl) T.g__law_like T.F__law_like.kp T.b__law_like .nil pass0 (pa_cons (pv 2) (pa_cons (pv 3) pa_nil))))) pa_nil)))))))
        pss_nil)
      (pss_cons (ps_if (pt_val (pe_callB (callIsiK K) (by rfl) T.z_isinstance (by first | exact PySem.boot_isinstance | exact boot_isinstance | decide +kernel) (pa_cons (pv 1) (pa_cons (pe_bltn (v := .ty "dict") (by rfl) T.z_dict (by first | exact boot_dict | decide +kernel) rfl) pa_nil))))
        pss_never
        pss_nil)
      (pss_cons (ps_if (PW.pt (pw_or (pt_cmp (pc_isN (pv 0))) (pw_or1 (pt_cmp (pc_isN (pv 1))))))
        (pss_one (ps_ret (pe_and (pe_cmp (pc_isN (pv 0)) rfl) (pe_one (pe_cmp (pc_isN (pv 1)) rfl)))))
        pss_nil)
      (pss_cons (ps_if (pt_cmpR (opNeK K hr.units) (pe_callB (callIsiK K) (by rfl) T.z_isinstance (by first | exact PySem.boot_isinstance | exact boot_isinstance | decide +kernel) (pa_cons (pv 0) (pa_cons (pe_bltn (v := .ty "bool") (by rfl) T.z_bool (by first | exact boot_bool | decide +kernel) rfl) pa_nil))) (pe_callB (callIsiK K) (by rfl) T.z_isinstance (by first | exact PySem.boot_isinstance | exact boot_isinstance | decide +kernel) (pa_cons (pv 1) (pa_cons (pe_bltn (v := .ty "bool") (by rfl) T.z_bool (by first | exact boot_bool | decide +kernel) rfl) pa_nil))) (by first | exact nomark _ | rfl))
        (pss_one (ps_ret pe_bl))
        pss_nil)
      (pss_cons (ps_if (pt_cmpR (opNeK K hr.units) (pe_callB (callIsiK K) (by rfl) T.z_isinstance (by first | exact PySem.boot_isinstance | exact boot_isinstance | decide +kernel) (pa_cons (pv 0) (pa_cons (pe_bltn (v := .ty "int") (by rfl) T.z_int (by first | exact boot_int | decide +kernel) rfl) pa_nil))) (pe_callB (callIsiK K) (by rfl) T.z_isinstance (by first | exact PySem.boot_isinstance | exact boot_isinstance | decide +kernel) (pa_cons (pv 1) (pa_cons (pe_bltn (v := .ty "int") (by rfl) T.z_int (by first | exact boot_int | decide +kernel) rfl) pa_nil))) (by first | exact nomark _ | rfl))
        (pss_one (ps_ret pe_bl))
        pss_nil)
      (pss_one (ps_ret (pe_and (pe_cmpR (opEqK K hr.units) (pe_callB (callIsiK K) (by rfl) T.z_isinstance (by first | exact PySem.boot_isinstance | exact boot_isinstance | decide +kernel) (pa_cons (pv 0) (pa_cons (pe_bltn (v := .ty "str") (by rfl) T.z_str (by first | exact boot_str | decide +kernel) rfl) pa_nil))) (pe_callB (callIsiK K) (by rfl) T.z_isinstance (by first | exact PySem.boot_isinstance | exact boot_isinstance | decide +kernel) (pa_cons (pv 1) (pa_cons (pe_bltn (v := .ty "str") (by rfl) T.z_str (by first | exact boot_str | decide +kernel) rfl) pa_nil))) (by first | exact nomark _ | rfl)) (pe_one (pe_cmpR (opEqK K hr.units) (pv 0) (pv 1) (by first | exact nomark _ | rfl))))))))))), ?_⟩
    (try dsimp only [cxOf, L2H.cxH, gcxOf, Cx.nox, Cx.wish]); rw [show L2.start _ [(x : V), (y : V)] = [some (x), some (y), none, none, none] from rfl]
    cases d with
    | dict ds => simp [plainD] at hp
    | none =>
      walk_at "rd"
      refine ⟨sz (by decide), fun p np => ?_⟩
      have f : Fr N0 H (upd H p (.tup [.ty "list", .ty "tuple"])) := Fr.new np
      replace hx := Hd.fr f _ _ hx
      replace hy := Hd.fr f _ _ hy
      walk_at "rd"
      refine s_isi_lt hy upd_same ?_
      walk_at "rd"
      cases hx
      cases hy
      walk_at "rd"
      exact k _ f
    | bool b =>
      walk_at "rd"
      refine ⟨sz (by decide), fun p np => ?_⟩
      have f : Fr N0 H (upd H p (.tup [.ty "list", .ty "tuple"])) := Fr.new np
      replace hx := Hd.fr f _ _ hx
      replace hy := Hd.fr f _ _ hy
      walk_at "rd"
      refine s_isi_lt hy upd_same ?_
      walk_at "rd"
      cases hx
      cases hy
      walk_at "rd"
      rw [decide_eq_true rfl]
      exact k _ f
    | int i =>
      walk_at "rd"
      refine ⟨sz (by decide), fun p np => ?_⟩
      have f : Fr N0 H (upd H p (.tup [.ty "list", .ty "tuple"])) := Fr.new np
      replace hx := Hd.fr f _ _ hx
      replace hy := Hd.fr f _ _ hy
      walk_at "rd"
      refine s_isi_lt hy upd_same ?_
      walk_at "rd"
      cases hx
      cases hy
      walk_at "rd"
      rw [decide_eq_true rfl]
      exact k _ f
    | str z =>
      walk_at "rd"
      refine ⟨sz (by decide), fun p np => ?_⟩
      have f : Fr N0 H (upd H p (.tup [.ty "list", .ty "tuple"])) := Fr.new np
      replace hx := Hd.fr f _ _ hx
      replace hy := Hd.fr f _ _ hy
      walk_at "rd"
      refine s_isi_lt hy upd_same ?_
      walk_at "rd"
      cases hx
      cases hy
      walk_at "rd"
      rw [decide_eq_true rfl]
      exact k _ f
    | list ds =>
      walk_at "rd"
      refine ⟨sz (by decide), fun p np => ?_⟩
      have f : Fr N0 H (upd H p (.tup [.ty "list", .ty "tuple"])) := Fr.new np
      replace hx := Hd.fr f _ _ hx
      replace hy := Hd.fr f _ _ hy
      walk_at "rd"
      refine s_isi_lt hy upd_same ?_
      walk_at "rd"
      simp only [plainD, Bool.and_eq_true, decide_eq_true_eq] at hp
      simp only [deepD] at hn
      cases hx with
      | lst ea na ra =>
      cases hy with
      | lst eb nb rb =>
      have ex := ra.len
      have ey := rb.len
      have el := ex.trans ey.symm
      walk_at "rd"
      refine lc_by (walk_zip (n := ds.length) (by omega)) (fun D i acc H2 => acc = List.replicate i (V.bl true) ∧ Fr N0 (upd H p (.tup [.ty "list", .ty "tuple"])) H2) (by walk_at "wipe") (fun D hD => ⟨rfl, Fr.new hD⟩) (fun D i acc H2 ⟨_, f2⟩ _ => ⟨SqL.of (f2.keep _ _ ea id), SqL.of (f2.keep _ _ eb id)⟩) ?_ ?_
      · rintro D i acc z H2 H3 hD hi hl ⟨rfl, f2⟩ hDl ⟨t, u, v, rfl, nt, rfl, gu, gv⟩
        have ht : upd H2 t (.tup [u, v]) t = some (.tup [u, v]) := upd_same
        walk_at "rd"
        refine ⟨rfl, ?_⟩
        walk_at "rd"
        obtain ⟨e1, g1, h1⟩ := ra.get gu
        obtain ⟨e2, g2, h2⟩ := rb.get gv
        obtain rfl : e1 = e2 := Option.some.inj (g1.symm.trans g2)
        have f3 := f2.trans (Fr.new (N := N0) (o := .tup [u, v]) nt)
        have dg := deep_get g1
        refine s_like_n (Hd.fr f3 _ _ h1) (Hd.fr f3 _ _ h2) (plain_get hp.2 g1) (by omega) fun H4 f4 => ?_
        have f5 := (Fr.new (N := N0) (o := .tup [u, v]) nt).trans f4
        exact pvx_add (f5.keep D _ hDl id) hl (Nat.lt_of_lt_of_le hi (Nat.le_trans hp.1 (by decide))) ⟨by rw [← List.replicate_succ'], (f2.trans f5).mut hD⟩
      · rintro D acc H2 hD ⟨rfl, f2⟩ hDl
        walk_at "rd"
        refine s_all (bs := List.replicate ds.length true) (SqL.of (by rw [hDl, List.map_replicate])) ?_
        rw [all_rep]
        exact k _ (f.trans f2)
    | tuple ds =>
      walk_at "rd"
      refine ⟨sz (by decide), fun p np => ?_⟩
      have f : Fr N0 H (upd H p (.tup [.ty "list", .ty "tuple"])) := Fr.new np
      replace hx := Hd.fr f _ _ hx
      replace hy := Hd.fr f _ _ hy
      walk_at "rd"
      refine s_isi_lt hy upd_same ?_
      walk_at "rd"
      simp only [plainD, Bool.and_eq_true, decide_eq_true_eq] at hp
      simp only [deepD] at hn
      cases hx with
      | tup ea ra =>
      cases hy with
      | tup eb rb =>
      have ex := ra.len
      have ey := rb.len
      have el := ex.trans ey.symm
      walk_at "rd"
      refine lc_by (walk_zipT (n := ds.length) (by omega)) (fun D i acc H2 => acc = List.replicate i (V.bl true) ∧ Fr N0 (upd H p (.tup [.ty "list", .ty "tuple"])) H2) (by walk_at "wipe") (fun D hD => ⟨rfl, Fr.new hD⟩) (fun D i acc H2 ⟨_, f2⟩ _ => ⟨(ea.fr f2).sq, (eb.fr f2).sq⟩) ?_ ?_
      · rintro D i acc z H2 H3 hD hi hl ⟨rfl, f2⟩ hDl ⟨t, u, v, rfl, nt, rfl, gu, gv⟩
        have ht : upd H2 t (.tup [u, v]) t = some (.tup [u, v]) := upd_same
        walk_at "rd"
        refine ⟨rfl, ?_⟩
        walk_at "rd"
        obtain ⟨e1, g1, h1⟩ := ra.get gu
        obtain ⟨e2, g2, h2⟩ := rb.get gv
        obtain rfl : e1 = e2 := Option.some.inj (g1.symm.trans g2)
        have f3 := f2.trans (Fr.new (N := N0) (o := .tup [u, v]) nt)
        have dg := deep_get g1
        refine s_like_n (Hd.fr f3 _ _ h1) (Hd.fr f3 _ _ h2) (plain_get hp.2 g1) (by omega) fun H4 f4 => ?_
        have f5 := (Fr.new (N := N0) (o := .tup [u, v]) nt).trans f4
        exact pvx_add (f5.keep D _ hDl id) hl (Nat.lt_of_lt_of_le hi (Nat.le_trans hp.1 (by decide))) ⟨by rw [← List.replicate_succ'], (f2.trans f5).mut hD⟩
      · rintro D acc H2 hD ⟨rfl, f2⟩ hDl
        walk_at "rd"
        refine s_all (bs := List.replicate ds.length true) (SqL.of (by rw [hDl, List.map_replicate])) ?_
        rw [all_rep]
        exact k _ (f.trans f2)
theorem ok__law_like {P : Program} {w : World} {K : PySem.W.Frag} {mg : Str → Option Value} {base : Heap} (T : Txt K mg) : FnOk P w K mg base CX0 lv__law_like T.f__law_like T.fd__law_like ["_law_found", "_law_due"] (sp__law_like K) := by
  have h0 : FnOk P w K mg base CX0 0 T.f__law_like T.fd__law_like ["_law_found", "_law_due"] (sp_like_n K 0) := ⟨fun vs H Q E h => by obtain ⟨x, y, d, rfl, _⟩ := h; rfl, fun A outer s H args us vs Q E _ _ _ _ h => by
    obtain ⟨x, y, d, _, _, _, _, hn, _⟩ := h
    omega⟩
  exact ok_like_step T (ok_like_step T (ok_like_step T (ok_like_step T (ok_like_step T (ok_like_step T h0)))))
end My
namespace My
open PySem PySem.Spec PyProof.Rows L2 RZ
open LamX (ExtN Tabs TabS TabB CodeO)
def sp__law_value (K : PySem.W.Frag) : Sp := fun vs H Q _ => ∃ (p : Addr) (ns : List Int) (c : Str) (i : Nat) (n : Int), vs = [.ref p, .str c] ∧ TupAt K H p (ns.map V.int) ∧ cntAt c = some i ∧ ns[i]? = some n ∧ Q (.int n) H
theorem s_lawValue {K : PySem.W.Frag} {p : Addr} {ns : List Int} {c : Str} {i : Nat} {n : Int} {H : Hp} {Q : VK} {E : XK} (h : TupAt K H p (ns.map V.int)) (hc : cntAt c = some i) (hn : ns[i]? = some n) (q : Q (.int n) H) : sp__law_value K [.ref p, .str c] H Q E := ⟨p, ns, c, i, n, rfl, h, hc, hn, q⟩
theorem ok__law_value {P : Program} {w : World} {K : PySem.W.Frag} {mg : Str → Option Value} {base : Heap} (T : Txt K mg) : FnOk P w K mg base CX0 lv__law_value T.f__law_value T.fd__law_value ["_law_s", "_law_count"] (sp__law_value K) := by
  refine T.F__law_value.ok sc__law_value (fun vs H Q E h => by obtain ⟨p, ns, c, i, n, rfl, _⟩ := h; rfl) (fun cdv A outer s H vs Q E hr h => ?_)
  obtain ⟨p, ns, c, i, n, rfl, ht, hc, hn, k⟩ := h
  refine ⟨_, (pss_one (ps_ret (pe_ix (ixK K) (pv 0) (pe_bm PySem.F.plainAttrs_str PySem.F.slot_str_index PySem.F.type_str_index mtSIndex pe_str (pa_cons (pv 1) pa_nil)) (fun _ _ => rfl)))), ?_⟩
  (try dsimp only [cxOf, L2H.cxH, gcxOf, Cx.nox, Cx.wish]); rw [show L2.start _ [(.ref p : V), (.str c : V)] = [some (.ref p), some (.str c)] from rfl]
  walk_at "rd"
  refine ⟨rfl, ?_⟩
  walk_at "rd"
  obtain ⟨_, rest, e⟩ := occ_cnt hc
  refine s_sindex e ?_
  exact s_ixT ht.sq (atI_nat (by rw [List.getElem?_map, hn]; rfl)) k
end My
namespace My
open PySem PySem.Spec PyProof.Rows L2 RZ
open LamX (ExtN Tabs TabS TabB CodeO)
def sp_law (K : PySem.W.Frag) : Sp := fun vs H Q _ => ∃ (a : Addr) (ns : List Int), vs = [.ref a] ∧ SqL K H a (ns.map V.int) ∧ ns.length ≤ 63 ∧ ∀ H', Q (.bl true) H'
def fars : List Str := ["a", "b", "c", "ab", "ac", "bc", "abc"]
instance (far : Str) : Decidable (FarOk far) := inferInstanceAs (Decidable (∀ c ∈ far.cps.toList, c = 97 ∨ c = 98 ∨ c = 99))
theorem fars_ok : ∀ f ∈ fars, FarOk f ∧ f.cps.size ≤ 3 := by decide +kernel
theorem far_of {v : V} (h : v ∈ [V.str "a", V.str "b", V.str "c", V.str "ab", V.str "ac", V.str "bc", V.str "abc"]) : ∃ far : Str, v = .str far ∧ FarOk far ∧ far.cps.size ≤ 3 := by
  have h' : v ∈ fars.map V.str := h
  obtain ⟨f, hf, rfl⟩ := List.mem_map.mp h'
  exact ⟨f, rfl, fars_ok f hf⟩
theorem tens_of {v : V} (h : v ∈ [V.int 10, V.int 100, V.int 1000000000]) : ∃ n : Int, v = .int n ∧ 0 < n ∧ n < 1073741824 := by
  rcases List.mem_cons.mp h with rfl | h
  · exact ⟨_, rfl, by decide, by decide⟩
  rcases List.mem_cons.mp h with rfl | h
  · exact ⟨_, rfl, by decide, by decide⟩
  rw [List.mem_singleton.mp h]
  exact ⟨_, rfl, by decide, by decide⟩
theorem sixes_of {v : V} (h : v ∈ [V.int 2, V.int 6, V.int (10 ^ Int.toNat 6)]) : ∃ n : Int, v = .int n ∧ 0 < n ∧ n < 1073741823 := by
  rcases List.mem_cons.mp h with rfl | h
  · exact ⟨_, rfl, by decide, by decide⟩
  rcases List.mem_cons.mp h with rfl | h
  · exact ⟨_, rfl, by decide, by decide⟩
  rw [List.mem_singleton.mp h]
  exact ⟨_, rfl, by decide, by decide⟩
theorem abc_at {i : Nat} (h : i < Int.toNat 3) : atI ("abc" : Str).cps.toList (i : Nat) = some (97 + i) := by
  match i, h with
  | 0, _ => rfl
  | 1, _ => rfl
  | 2, _ => rfl
theorem ixN_at {n i : Nat} (h : i < n) : ixN n (i : Int) = some i := by
  unfold ixN
  rw [if_pos (Int.natCast_nonneg i), if_pos (by omega)]
  rfl
theorem plain_ints : ∀ ns : List Int, plainL (ns.map PyData.int) = true
  | [] => rfl
  | n :: ns => by simp [plainL, plainD, plain_ints ns]
theorem deep_ints : ∀ ns : List Int, deepL (ns.map PyData.int) = 0
  | [] => rfl
  | n :: ns => by simp [deepL, deepD, deep_ints ns]
theorem plain_tupI {ns : List Int} (h : ns.length ≤ 1000) : plainD (.tuple (ns.map .int)) = true ∧ deepD (.tuple (ns.map .int)) = 1 := by
  constructor
  · simp only [plainD, plain_ints, Bool.and_true, decide_eq_true_eq, List.length_map]
    omega
  · simp only [deepD, deep_ints]
theorem shift_len {far : Str} {m : Int} {ns : List Int} : (shiftC far m ns).length = 3 := by simp [shiftC]
theorem plain_tups : ∀ {xss : List (List Int)}, (∀ xs ∈ xss, xs.length ≤ 1000) → plainL (xss.map fun xs => PyData.tuple (xs.map PyData.int)) = true ∧ deepL (xss.map fun xs => PyData.tuple (xs.map PyData.int)) ≤ 1
  | [], _ => ⟨rfl, Nat.zero_le _⟩
  | xs :: xss, h => by
    obtain ⟨a, b⟩ := plain_tups (xss := xss) fun ys m => h ys (by simp [m])
    obtain ⟨c, d⟩ := plain_tupI (h xs (by simp))
    rw [List.map_cons]
    refine ⟨by simp only [plainL, c, a, Bool.and_true], ?_⟩
    simp only [deepL] at b ⊢
    omega
theorem ints_vs {N : Addr → Prop} {K : PySem.W.Frag} {H : Hp} : ∀ {ns : List Int} {vs : List V}, HdL N K H vs (ns.map PyData.int) → vs = ns.map V.int
  | [], _, h => by cases h; rfl
  | n :: ns, _, h => by
    cases h with
    | cons a b => cases a; rw [ints_vs b]; rfl
theorem tups_any {N : Addr → Prop} {K : PySem.W.Frag} {H H' : Hp} (f : Fr N H H') : ∀ {xss : List (List Int)} {ys : List V}, Tups K H ys xss → Tups K H' ys xss
  | [], _, h => by cases h; exact .nil
  | xs :: xss, _, h => by
    cases h with
    | cons a b =>
      cases a with
      | tup t hi =>
        have e := ints_vs hi
        subst e
        exact .cons (.tup (t.fr f) (HdL.ints xs)) (tups_any f b)
/-- where the climb stands within a turn -/
def hereC (far : Str) (p : Int) (hs gs : List Int) (i : Nat) : Nat → List Int
  | 0 => nowC far p hs gs i
  | 1 => stepC far p (nowC far p hs gs i) hs
  | _ + 2 => nowC far p hs gs (i + 1)
theorem here_len {far : Str} {p : Int} {hs gs : List Int} (h : hs.length = 3) {i : Nat} : ∀ j, (hereC far p hs gs i j).length = 3
  | 0 => now_len h i
  | 1 => step_len
  | _ + 2 => now_len h (i + 1)
theorem ceil1 {g p : Int} (hp : 0 < p) : (g - 1) / p + 1 = -(-g / p) := by
  have e1 := Int.emod_add_mul_ediv (g - 1) p
  have e2 := Int.emod_nonneg (g - 1) (by omega : p ≠ 0)
  have e3 := Int.emod_lt_of_pos (g - 1) hp
  have e4 := Int.emod_add_mul_ediv (-g) p
  have e5 := Int.emod_nonneg (-g) (by omega : p ≠ 0)
  have e6 := Int.emod_lt_of_pos (-g) hp
  generalize (g - 1) / p = a at *
  generalize (-g) / p = b at *
  have h : -1 < a + b + 1 ∧ a + b + 1 < 1 := by
    constructor
    · have : p * (-1) < p * (a + b + 1) := by rw [Int.mul_add, Int.mul_add]; omega
      exact Int.lt_of_mul_lt_mul_left this (by omega)
    · have : p * (a + b + 1) < p * 1 := by rw [Int.mul_add, Int.mul_add]; omega
      exact Int.lt_of_mul_lt_mul_left this (by omega)
  omega
theorem ceil_gap {g p : Int} (hp : 0 < p) : (0 < g → (g + p - 1) / p = -(-g / p)) ∧ (g ≤ 0 → (g + p - 1) / p ≤ 0) := by
  constructor
  · intro hg
    have h1 : (g + p - 1) / p = (g - 1) / p + 1 := by
      rw [show g + p - 1 = (g - 1) + 1 * p by omega, Int.add_mul_ediv_right _ _ (by omega)]
    rw [h1, ceil1 hp]
  · intro hg
    have : (g + p - 1) / p < 1 := Int.ediv_lt_of_lt_mul hp (by omega)
    omega
theorem max_max (x : Int) (xs : List Int) : PySem.W.maxOf x xs = xs.foldl max x := by
  unfold PySem.W.maxOf
  congr 1
  funext a y
  show (if decide (a < y) = true then y else a) = max a y
  by_cases h : a < y <;> simp [h] <;> omega
theorem fold_gaps {p : Int} (hp : 0 < p) : ∀ (gs : List Int) (a : Int), 0 ≤ a → (gs.map fun g => (g + p - 1) / p).foldl max a = ((gs.filter fun v => decide (v > 0)).map fun v => -(-v / p)).foldl max a
  | [], _, _ => rfl
  | g :: gs, a, ha => by
    rw [List.map_cons, List.foldl_cons]
    by_cases h : g > 0
    · rw [List.filter_cons_of_pos (by simpa using h), List.map_cons, List.foldl_cons, (ceil_gap hp).1 h, fold_gaps hp gs _ (by omega)]
    · rw [List.filter_cons_of_neg (by simpa using h)]
      have h1 := (ceil_gap (g := g) hp).2 (by omega)
      rw [show max a ((g + p - 1) / p) = a by omega, fold_gaps hp gs a ha]
theorem fold0 : ∀ (ys : List Int) (y : Int), 0 ≤ y → (y :: ys).foldl max 0 = ys.foldl max y := fun ys y h => by
  rw [List.foldl_cons, show max 0 y = y by omega]
theorem turns_eq {far : Str} {p : Int} {ns ms : List Int} (hp : 0 < p) : PySem.W.maxOf 0 ((gapsC far ns ms).map fun g => (g + p - 1) / p) = turnsC far p ns ms := by
  rw [max_max, fold_gaps hp _ 0 (Int.le_refl _)]
  unfold turnsC
  cases e : ((gapsC far ns ms).filter fun v => decide (v > 0)).map fun v => -(-v / p) with
  | nil => rfl
  | cons y ys =>
    show _ = PySem.W.maxOf y ys
    rw [max_max]
    refine fold0 ys y ?_
    have m : y ∈ ((gapsC far ns ms).filter fun v => decide (v > 0)).map fun v => -(-v / p) := by rw [e]; simp
    obtain ⟨g, hg, rfl⟩ := List.mem_map.mp m
    have hg0 := (List.mem_filter.mp hg).2
    rw [← ceil1 hp]
    have : 0 ≤ (g - 1) / p := Int.ediv_nonneg (by simp at hg0; omega) (by omega)
    omega
theorem s_listMG {C : Addr} {m : Str} {sp : SpG} {E : XK} {ta : TE} {t : TA} {σ : L2.St} {H : Hp} {Q : VK} (h : ta σ H (fun x H1 => ∃ a dx fs, x = .ref a ∧ H1 a = some (.ins C dx fs) ∧ fs.lookup m = none ∧ t σ H1 fun vs H2 => sp (x :: vs) H2 (rOut Q) E)) : tListG (tMethG C m sp [] E ta t) σ H Q := by
  unfold tListG tMethG
  simp only [List.append_nil]
  exact h
theorem ok_law {P : Program} {w : World} {K : PySem.W.Frag} {mg : Str → Option Value} {base : Heap} (T : Txt K mg) : FnOk P w K mg base CX0 lv_law T.f_law T.fd_law ["_law_script"] (sp_law K) := by
  refine T.F_law.ok sc_law (fun vs H Q E h => by obtain ⟨a, ns, rfl, _⟩ := h; rfl) (fun cdv A outer s H vs Q E hr h => ?_)
  obtain ⟨a, ns, rfl, hS, hl, k⟩ := h
  have G_Rays____init__ := ok_Rays____init__ (P := P) (w := w) (base := base) T; have G_Rays____repr__ := ok_Rays____repr__ (P := P) (w := w) (base := base) T; have G_Rays__climb := ok_Rays__climb (P := P) (w := w) (base := base) T; have G_Rays__point := ok_Rays__point (P := P) (w := w) (base := base) T; have G__law_bag := ok__law_bag (P := P) (w := w) (base := base) T; have G__law_great := ok__law_great (P := P) (w := w) (base := base) T; have G__law_like := ok__law_like (P := P) (w := w) (base := base) T; have G__law_of := ok__law_of (P := P) (w := w) (base := base) T; have G__law_pull := ok__law_pull (P := P) (w := w) (base := base) T; have G__law_value := ok__law_value (P := P) (w := w) (base := base) T
  refine ⟨_, (pss_cons (ps_set (i := 1) sc_law.nd rfl (by first | exact .inl rfl | exact .inr rfl) (pe_call G__law_bag (hr.mono (by first | decide | omega)) (by rfl) T.g__law_bag T.F__law_bag.kp T.b__law_bag .nil pass0 (pa_cons (pv 0) pa_nil)))
      (pss_cons (ps_set (i := 2) sc_law.nd rfl (by first | exact .inl rfl | exact .inr rfl) (pe_call G__law_of (hr.mono (by first | decide | omega)) (by rfl) T.g__law_of T.F__law_of.kp T.b__law_of .nil pass0 (pa_cons (pv 1) (pa_cons (pe_lst (pa_cons pe_str (pa_cons pe_str (pa_cons pe_str (pa_cons pe_str (pa_cons pe_str (pa_cons pe_str (pa_cons pe_str pa_nil)))))))) pa_nil))))
      (pss_cons (ps_set (i := 3) sc_law.nd rfl (by first | exact .inl rfl | exact .inr rfl) (pe_callTy (callTupleK K) (by rfl) T.z_tuple (by first | exact PySem.boot_tuple | exact boot_tuple | decide +kernel) (pa_cons (pe_lc (own := [("_law_k", 18)]) (g := (gName 18)) (tt := tYes) rfl sc_law.nd (pi_range1 (by rfl) T.z_range (pa_cons pe_int pa_nil)) (blkOk_by (N := ["_law_script", "_law_bag_here", "_law_far", "_law_near", "_law_holding", "_law_failing", "_law_at", "_law_period", "_law_one", "_law_two", "_law_rays", "_law_turn", "_law_due", "_law_many", "_law_here", "_law_begin", "_law_gaps", "_law_turns", "_law_k", "_law_value_here", "_law_sign", "_law_gap"]) (sc := defScope s_law) (by decide +kernel)) (fun _ _ _ _ _ => (pg_name (i := 18) sc_law.nd rfl (by first | exact .inl rfl | exact .inr rfl))) (fun _ _ _ _ _ => pts_nil) (fun _ _ _ _ _ => (pe_call G__law_pull (hr.mono (by first | decide | omega)) (by rfl) T.g__law_pull T.F__law_pull.kp T.b__law_pull .nil pass0 (pa_cons (pv 1) (pa_cons pe_int pa_nil))))) pa_nil)))
      (pss_cons (ps_par (i := 4) (j := 5) rfl sc_law.nd rfl rfl (by decide) rfl rfl (pa_cons (pe_callTy (callListK K) (by rfl) T.z_list (by first | exact PySem.boot_list | exact boot_list | decide +kernel) (pa_cons (pv 3) pa_nil)) (pa_cons (pe_callTy (callListK K) (by rfl) T.z_list (by first | exact PySem.boot_list | exact boot_list | decide +kernel) (pa_cons (pv 3) pa_nil)) pa_nil)) (by first | rfl | kernel_rfl))
      (pss_cons (ps_for PassesOwn.never rfl (pi_range1 (by rfl) T.z_range (pa_cons pe_int pa_nil)) (pg_name (i := 6) sc_law.nd rfl (by first | exact .inl rfl | exact .inr rfl))
        (pss_one (ps_if (pt_cmpR opInSign (pe_ix (ixK K) pe_str (pv 6) (fun _ _ => rfl)) (pv 2) (by first | exact nomark _ | rfl))
          (pss_cons (ps_asg (pe_op (opAddK K) pe_int (pe_call G__law_pull (hr.mono (by first | decide | omega)) (by rfl) T.g__law_pull T.F__law_pull.kp T.b__law_pull .nil pass0 (pa_cons (pv 1) (pa_cons (pe_call G__law_of (hr.mono (by first | decide | omega)) (by rfl) T.g__law_of T.F__law_of.kp T.b__law_of .nil pass0 (pa_cons (pv 1) (pa_cons (pe_lst (pa_cons pe_int (pa_cons pe_int (pa_cons (pe_op op_pow pe_int pe_int) pa_nil)))) pa_nil))) pa_nil)))) (pg_sub (pv 4) (pv 6) set_list))
          (pss_one (ps_asg (pe_op (opAddK K) pe_int (pe_call G__law_pull (hr.mono (by first | decide | omega)) (by rfl) T.g__law_pull T.F__law_pull.kp T.b__law_pull .nil pass0 (pa_cons (pv 1) (pa_cons (pe_call G__law_of (hr.mono (by first | decide | omega)) (by rfl) T.g__law_of T.F__law_of.kp T.b__law_of .nil pass0 (pa_cons (pv 1) (pa_cons (pe_lst (pa_cons pe_int (pa_cons pe_int (pa_cons (pe_op op_pow pe_int pe_int) pa_nil)))) pa_nil))) pa_nil)))) (pg_sub (pv 5) (pv 6) set_list))))
          pss_nil)))
      (pss_cons (ps_set (i := 7) sc_law.nd rfl (by first | exact .inl rfl | exact .inr rfl) (pe_op (opAddK K) pe_int (pe_call G__law_pull (hr.mono (by first | decide | omega)) (by rfl) T.g__law_pull T.F__law_pull.kp T.b__law_pull .nil pass0 (pa_cons (pv 1) (pa_cons (pe_call G__law_of (hr.mono (by first | decide | omega)) (by rfl) T.g__law_of T.F__law_of.kp T.b__law_of .nil pass0 (pa_cons (pv 1) (pa_cons (pe_lst (pa_cons pe_int (pa_cons pe_int (pa_cons (pe_op op_pow pe_int pe_int) pa_nil)))) pa_nil))) pa_nil)))))
      (pss_cons (ps_par (i := 8) (j := 9) rfl sc_law.nd rfl rfl (by decide) rfl rfl (pa_cons (pe_callTy (callTupleK K) (by rfl) T.z_tuple (by first | exact PySem.boot_tuple | exact boot_tuple | decide +kernel) (pa_cons (pv 4) pa_nil)) (pa_cons (pe_callTy (callTupleK K) (by rfl) T.z_tuple (by first | exact PySem.boot_tuple | exact boot_tuple | decide +kernel) (pa_cons (pv 5) pa_nil)) pa_nil)) (by first | rfl | kernel_rfl))
      (pss_cons (ps_set (i := 10) sc_law.nd rfl (by first | exact .inl rfl | exact .inr rfl) (pe_make T.Mk_Rays G_Rays____init__ (hr.mono (by first | decide | omega)) (by rfl) T.g_Rays T.b_Rays____init__ .nil pass0 (pa_cons pe_str (pa_cons (pv 2) (pa_cons (pv 7) (pa_cons (pv 8) (pa_cons (pv 9) pa_nil)))))))
      (pss_cons (ps_if (pt_not (pt_val (pe_call G__law_like (hr.mono (by first | decide | omega)) (by rfl) T.g__law_like T.F__law_like.kp T.b__law_like .nil pass0 (pa_cons (pe_lst (pa_cons (pe_fldK K (pv 10) rfl) (pa_cons (pe_fldK K (pv 10) rfl) (pa_cons (pe_fldK K (pv 10) rfl) (pa_cons (pe_fldK K (pv 10) rfl) (pa_cons (pe_fldK K (pv 10) rfl) pa_nil)))))) (pa_cons (pe_lst (pa_cons pe_str (pa_cons (pv 2) (pa_cons (pv 7) (pa_cons (pv 8) (pa_cons (pv 9) pa_nil)))))) pa_nil)))))
        (pss_one (ps_ret pe_bl))
        pss_nil)
      (pss_cons (ps_for PassesOwn.never rfl (pi_listK K (pe_lst (pa_cons pe_int (pa_cons pe_int (pa_cons (pe_call G__law_great (hr.mono (by first | decide | omega)) (by rfl) T.g__law_great T.F__law_great.kp T.b__law_great .nil pass0 (pa_cons (pv 1) pa_nil)) pa_nil))))) (pg_name (i := 11) sc_law.nd rfl (by first | exact .inl rfl | exact .inr rfl))
        (pss_cons (ps_set (i := 12) sc_law.nd rfl (by first | exact .inl rfl | exact .inr rfl) (pe_callTy (callTupleK K) (by rfl) T.z_tuple (by first | exact PySem.boot_tuple | exact boot_tuple | decide +kernel) (pa_cons (pe_lc (own := [("_law_value_here", 19), ("_law_sign", 20)]) (g := (gTup K 2 (gCons (gName 19) (gCons (gName 20) gNil)))) (tt := tYes) rfl sc_law.nd (pi_zipG K (by rfl) T.z_zip (pa_cons (pv 8) (pa_cons pe_str pa_nil))) (blkOk_by (N := ["_law_script", "_law_bag_here", "_law_far", "_law_near", "_law_holding", "_law_failing", "_law_at", "_law_period", "_law_one", "_law_two", "_law_rays", "_law_turn", "_law_due", "_law_many", "_law_here", "_law_begin", "_law_gaps", "_law_turns", "_law_k", "_law_value_here", "_law_sign", "_law_gap"]) (sc := defScope s_law) (by decide +kernel)) (fun _ _ _ _ _ => (pg_tup rfl (pgs_cons (pg_name (i := 19) sc_law.nd rfl (by first | exact .inl rfl | exact .inr rfl)) (pgs_cons (pg_name (i := 20) sc_law.nd rfl (by first | exact .inl rfl | exact .inr rfl)) pgs_nil)))) (fun _ _ _ _ _ => pts_nil) (fun _ _ _ _ _ => (pe_ifExp (pt_cmpR opInSign (pv 20) (pv 2) (by first | exact nomark _ | rfl)) (pe_op (opAddK K) (pv 19) (pe_op opMul (pv 11) (pv 7))) (pv 19)))) pa_nil)))
        (pss_one (ps_if (pt_not (pt_val (pe_call G__law_like (hr.mono (by first | decide | omega)) (by rfl) T.g__law_like T.F__law_like.kp T.b__law_like .nil pass0 (pa_cons (pe_meth (pv 10) T.K_Rays T.m_Rays__point G_Rays__point (hr.mono (by first | decide | omega)) T.b_Rays__point .nil pass0 (pa_cons (pv 8) (pa_cons (pv 11) pa_nil))) (pa_cons (pv 12) pa_nil)))))
          (pss_one (ps_ret pe_bl))
          pss_nil))))
      (pss_cons (ps_set (i := 13) sc_law.nd rfl (by first | exact .inl rfl | exact .inr rfl) (pe_call G__law_pull (hr.mono (by first | decide | omega)) (by rfl) T.g__law_pull T.F__law_pull.kp T.b__law_pull .nil pass0 (pa_cons (pv 1) (pa_cons pe_int pa_nil))))
      (pss_cons (ps_asg (pe_tup (pa_cons (pe_lst pa_nil) (pa_cons (pv 8) pa_nil))) (pg_tup rfl (pgs_cons (pg_name (i := 12) sc_law.nd rfl (by first | exact .inl rfl | exact .inr rfl)) (pgs_cons (pg_name (i := 14) sc_law.nd rfl (by first | exact .inl rfl | exact .inr rfl)) pgs_nil))))
      (pss_cons (ps_for PassesOwn.never rfl (pi_range1 (by rfl) T.z_range (pa_cons (pv 13) pa_nil)) (pg_name (i := 11) sc_law.nd rfl (by first | exact .inl rfl | exact .inr rfl))
        (pss_one (ps_for PassesOwn.never rfl (pi_tupK K (pe_tup (pa_cons (pv 8) (pa_cons (pv 9) pa_nil)))) (pg_name (i := 15) sc_law.nd rfl (by first | exact .inl rfl | exact .inr rfl))
          (pss_cons (ps_setLc (i := 16) (own := [("_law_sign", 20)]) (g := (gName 20)) (tt := tYes) rfl sc_law.nd rfl rfl (sw_true rfl rfl rfl (by decide +kernel)) (pi_str (pv 2)) (blkOk_by (N := ["_law_script", "_law_bag_here", "_law_far", "_law_near", "_law_holding", "_law_failing", "_law_at", "_law_period", "_law_one", "_law_two", "_law_rays", "_law_turn", "_law_due", "_law_many", "_law_here", "_law_begin", "_law_gaps", "_law_turns", "_law_k", "_law_value_here", "_law_sign", "_law_gap"]) (sc := defScope s_law) (by decide +kernel)) (fun _ _ _ _ _ => (pg_name (i := 20) sc_law.nd rfl (by first | exact .inl rfl | exact .inr rfl))) (fun _ _ _ _ _ => pts_nil) (fun _ _ _ _ _ => (pe_op op_sub (pe_call G__law_value (hr.mono (by first | decide | omega)) (by rfl) T.g__law_value T.F__law_value.kp T.b__law_value .nil pass0 (pa_cons (pv 14) (pa_cons (pv 20) pa_nil))) (pe_call G__law_value (hr.mono (by first | decide | omega)) (by rfl) T.g__law_value T.F__law_value.kp T.b__law_value .nil pass0 (pa_cons (pv 15) (pa_cons (pv 20) pa_nil))))))
          (pss_cons (ps_set (i := 17) sc_law.nd rfl (by first | exact .inl rfl | exact .inr rfl) (pe_callB (callMaxL K rfl hr.units) (by rfl) T.z_max (by first | exact PySem.boot_max | exact boot_max | decide +kernel) (pa_cons (pe_op (opAddK K) (pe_lst (pa_cons pe_int pa_nil)) (pe_lc (own := [("_law_gap", 21)]) (g := (gName 21)) (tt := tYes) rfl sc_law.nd (pi_listK K (pv 16)) (blkOk_by (N := ["_law_script", "_law_bag_here", "_law_far", "_law_near", "_law_holding", "_law_failing", "_law_at", "_law_period", "_law_one", "_law_two", "_law_rays", "_law_turn", "_law_due", "_law_many", "_law_here", "_law_begin", "_law_gaps", "_law_turns", "_law_k", "_law_value_here", "_law_sign", "_law_gap"]) (sc := defScope s_law) (by decide +kernel)) (fun _ _ _ _ _ => (pg_name (i := 21) sc_law.nd rfl (by first | exact .inl rfl | exact .inr rfl))) (fun _ _ _ _ _ => pts_nil) (fun _ _ _ _ _ => (pe_op opDiv (pe_op op_sub (pe_op (opAddK K) (pv 21) (pv 7)) pe_int) (pv 7))))) pa_nil)))
          (pss_cons (ps_set (i := 14) sc_law.nd rfl (by first | exact .inl rfl | exact .inr rfl) (pe_callTy (callTupleK K) (by rfl) T.z_tuple (by first | exact PySem.boot_tuple | exact boot_tuple | decide +kernel) (pa_cons (pe_lc (own := [("_law_value_here", 19), ("_law_sign", 20)]) (g := (gTup K 2 (gCons (gName 19) (gCons (gName 20) gNil)))) (tt := tYes) rfl sc_law.nd (pi_zipG K (by rfl) T.z_zip (pa_cons (pv 15) (pa_cons pe_str pa_nil))) (blkOk_by (N := ["_law_script", "_law_bag_here", "_law_far", "_law_near", "_law_holding", "_law_failing", "_law_at", "_law_period", "_law_one", "_law_two", "_law_rays", "_law_turn", "_law_due", "_law_many", "_law_here", "_law_begin", "_law_gaps", "_law_turns", "_law_k", "_law_value_here", "_law_sign", "_law_gap"]) (sc := defScope s_law) (by decide +kernel)) (fun _ _ _ _ _ => (pg_tup rfl (pgs_cons (pg_name (i := 19) sc_law.nd rfl (by first | exact .inl rfl | exact .inr rfl)) (pgs_cons (pg_name (i := 20) sc_law.nd rfl (by first | exact .inl rfl | exact .inr rfl)) pgs_nil)))) (fun _ _ _ _ _ => pts_nil) (fun _ _ _ _ _ => (pe_ifExp (pt_cmpR opInSign (pv 20) (pv 2) (by first | exact nomark _ | rfl)) (pe_op (opAddK K) (pv 19) (pe_op opMul (pv 17) (pv 7))) (pv 19)))) pa_nil)))
          (pss_one (ps_expr (pe_bm PySem.F.plainAttrs_list PySem.F.slot_list_append PySem.F.type_list_append mt_append (pv 12) (pa_cons (pv 14) pa_nil))))))))))
      (pss_one (ps_ret (pe_and (pe_call G__law_like (hr.mono (by first | decide | omega)) (by rfl) T.g__law_like T.F__law_like.kp T.b__law_like .nil pass0 (pa_cons (pe_listG (k := lv_Rays__climb) (pgen_meth (pv 10) T.K_Rays T.m_Rays__climb G_Rays__climb (hr.mono (by first | decide | omega)) T.b_Rays__climb .nil (pa_cons (pv 13) pa_nil)) passL noStop0 (hr.mono (by first | decide | omega)) (by rfl) T.z_list boot_list) (pa_cons (pv 12) pa_nil))) (pe_one (pe_cmpR (opEqK K hr.units) (pe_callB (call_reprO T.m_Rays____repr__ G_Rays____repr__ (hr.mono (by first | decide | omega)) T.b_Rays____repr__ pass0) (by rfl) T.z_repr (by first | exact PySem.boot_repr | exact boot_repr | decide +kernel) (pa_cons (pv 10) pa_nil)) (pe_op (opAddK K) (pe_op (opAddK K) pe_str (pv 2)) pe_str) (by first | exact nomark _ | rfl))))))))))))))))))), ?_⟩
  (try dsimp only [cxOf, L2H.cxH, gcxOf, Cx.nox, Cx.wish]); rw [show L2.start _ [(.ref a : V)] = [some (.ref a), none, none, none, none, none, none, none, none, none, none, none, none, none, none, none, none, none, none, none, none, none] from rfl]
  walk_at "rd"
  refine ⟨a, ns, rfl, hS, hl, fun b H1 nb B f => ?_⟩
  walk_at "rd"
  refine ⟨szb rfl, fun l nl => ?_⟩
  walk_at "rd"
  refine s_ofL (B.fr (Fr.new nl)) upd_same (by rintro rfl; obtain ⟨_, e⟩ := B.some; rw [e] at nl; cases nl) (by decide) fun v H2 hv B2 f2 => ?_
  obtain ⟨far, rfl, fo, fz⟩ := far_of hv
  walk_at "rd"
  refine lc_by walk_range0 (fun D i acc Hc => Rng i 0 5 acc ∧ Bag b Hc ∧ Fr (N1 b) H2 Hc) (by walk_at "wipe") (fun D hD => ⟨.nil, B2.fr (Fr.new hD), Fr.new hD⟩) (fun _ _ _ _ _ _ => trivial) ?_ ?_
  · rintro D i acc _ Hc _ hD hi hal ⟨r, Bc, fc⟩ hDl ⟨rfl, rfl⟩
    walk_at "rd"
    refine ⟨rfl, ?_⟩
    walk_at "rd"
    have nD : D ≠ b := fun e => by rw [e] at hD; obtain ⟨_, e⟩ := B2.some; rw [e] at hD; cases hD
    refine s_pull Bc (by decide) fun q H3 q0 q1 B3 f3 => ?_
    exact pvx_add (f3.keep _ _ hDl nD) hal (Nat.lt_of_lt_of_le hi (sz (by decide))) ⟨r.snoc q0 q1, bag_mut B2 hD (fc.trans f3) B3, (fc.trans f3).mut hD⟩
  rintro D acc H3 hD ⟨r, B3, f3⟩ hDl
  obtain ⟨x, y, z, rfl, _⟩ := Rng.three (show Rng 3 0 5 acc from r)
  walk_at "rd"
  refine s_tupleL (SqL.of hDl) fun q nq => ?_
  walk_at "rd"
  refine s_listT (SqT.of upd_same) fun l1 n1 => ?_
  have g0 := Fr.new (N := N0) (o := .tup [.int x, .int y, .int z]) nq
  have g1 := Fr.new (N := N0) (o := .lst [.int x, .int y, .int z]) n1
  walk_at "rd"
  refine s_listT (xs := [.int x, .int y, .int z]) (SqT.of (g1.keep _ _ upd_same id)) fun l2 n2 => ?_
  have g2 := Fr.new (N := N0) (o := .lst [.int x, .int y, .int z]) n2
  have B4 := (B3.fr (g0.trans g1)).fr g2
  have hne {c : Addr} {Hc : Hp} (B : Bag b Hc) (h : Hc c = none) : c ≠ b := fun e => by rw [e] at h; obtain ⟨_, e⟩ := B.some; rw [e] at h; cases h
  have nb1 : l1 ≠ b := hne (B3.fr g0) n1
  have nb2 : l2 ≠ b := hne (B3.fr (g0.trans g1)) n2
  have n12 : l2 ≠ l1 := fun e => by rw [e, upd_same] at n2; cases n2
  have Bq := B3.fr g0
  have nq2 : (upd H3 q (.tup [.int x, .int y, .int z])) l2 = none := by rw [upd_ne n12] at n2; exact n2
  walk_at "rd"
  refine for_by walk_range0 (fun i σ H' => ∃ (v6 : Option V) (hs gs : List Int), σ = [some (.ref a), some (.ref b), some (.str far), some (.ref q), some (.ref l1), some (.ref l2), v6, none, none, none, none, none, none, none, none, none, none, none, none, none, none, none] ∧ Bag b H' ∧ Fr (N1 b) (upd H3 q (.tup [.int x, .int y, .int z])) H' ∧ H' l1 = some (.lst (hs.map V.int)) ∧ H' l2 = some (.lst (gs.map V.int)) ∧ hs.length = 3 ∧ gs.length = 3) ⟨_, [x, y, z], [x, y, z], rfl, B4, (g1.trans g2).of0, g2.keep _ _ upd_same id, upd_same, rfl, rfl⟩ (fun _ _ _ _ _ => trivial) ?_ ?_
  · rintro i _ σ Ha Hb hi ⟨v6, hs, gs, rfl, B5, f5, e1, e2, lh, lg⟩ ⟨rfl, rfl⟩
    walk_at "rd"
    refine s_ixS (by rw [sizeLine_eq]; decide) (abc_at hi) ?_
    walk_at "rd"
    refine if_dec (fun hc => ?_) (fun hc => ?_)
    · walk_at "rd"
      refine ⟨szb rfl, fun p1 m1 => ?_⟩
      walk_at "rd"
      refine s_ofL (B5.fr (Fr.new m1)) upd_same (hne B5 m1) (by decide) fun v H6 hv B6 f6 => ?_
      obtain ⟨w1, rfl, w0, w2⟩ := tens_of hv
      walk_at "rd"
      refine s_pull B6 ⟨w0, w2⟩ fun r1 H7 _ _ B7 f7 => ?_
      walk_at "rd"
      have f57 := f5.trans ((Fr.new (N := N0) m1).of0.trans (f6.trans f7))
      have e1' := f7.keep _ _ (f6.keep _ _ ((Fr.new (N := N0) m1).keep _ _ e1 id) nb1) nb1
      have e2' := f7.keep _ _ (f6.keep _ _ ((Fr.new (N := N0) m1).keep _ _ e2 id) nb2) nb2
      refine s_setL e1' (ixN_at (by simpa [lh] using hi)) ?_
      walk_at "rd"
      have B8 : Bag b (upd H7 l1 (.lst ((hs.map V.int).set i (.int (10 + r1))))) := bag_mut Bq n1 f57 B7
      refine ⟨szb rfl, fun p2 m2 => ?_⟩
      walk_at "rd"
      refine s_ofL (B8.fr (Fr.new m2)) upd_same (hne B8 m2) (by decide) fun v H9 hv B9 f9 => ?_
      obtain ⟨w3, rfl, w4, w5⟩ := tens_of hv
      walk_at "rd"
      refine s_pull B9 ⟨w4, w5⟩ fun r2 H10 _ _ B10 f10 => ?_
      walk_at "rd"
      have f50 := (f57.mut n1).trans ((Fr.new (N := N0) m2).of0.trans (f9.trans f10))
      have e3 := f10.keep _ _ (f9.keep _ _ ((Fr.new (N := N0) m2).keep _ _ upd_same id) nb1) nb1
      have e4 := f10.keep _ _ (f9.keep _ _ ((Fr.new (N := N0) m2).keep _ _ (show upd H7 l1 _ l2 = _ by rw [upd_ne n12]; exact e2') id) nb2) nb2
      refine s_setL e4 (ixN_at (by simpa [lg] using hi)) ?_
      walk_at "rd"
      refine ⟨_, hs.set i (10 + r1), gs.set i (10 + r2), rfl, bag_mut Bq nq2 f50 B10, f50.mut nq2, ?_, ?_, by simpa using lh, by simpa using lg⟩
      · rw [upd_ne n12.symm, e3, List.map_set]
      · rw [upd_same, List.map_set]
    · walk_at "rd"
      exact ⟨_, hs, gs, rfl, B5, f5, e1, e2, lh, lg⟩
  · rintro σ H5 ⟨v6, hs, gs, rfl, B5, f5, e1, e2, lh, lg⟩
    walk_at "rd"
    refine ⟨szb rfl, fun p1 m1 => ?_⟩
    walk_at "rd"
    refine s_ofL (B5.fr (Fr.new m1)) upd_same (hne B5 m1) (by decide) fun v H6 hv B6 f6 => ?_
    obtain ⟨w1, rfl, w0, w2⟩ := sixes_of hv
    walk_at "rd"
    refine s_pull B6 ⟨w0, by omega⟩ fun r1 H7 r0 r2 B7 f7 => ?_
    walk_at "rd"
    have f57 := (Fr.new (N := N0) m1).of0.trans (f6.trans f7)
    have e1' := f57.keep _ _ e1 nb1
    have e2' := f57.keep _ _ e2 nb2
    clear e1 e2 B5 B6 f5
    refine s_tupleL (SqL.of e1') fun q1 nq1 => ?_
    walk_at "rd"
    have g3 := Fr.new (N := N0) (o := .tup (hs.map V.int)) nq1
    refine s_tupleL (SqL.of (g3.keep _ _ e2' id)) fun q2 nq2' => ?_
    have g4 := Fr.new (N := N0) (o := .tup (gs.map V.int)) nq2'
    have t1 : TupAt K _ q1 (hs.map V.int) := .inl (g4.keep _ _ upd_same id)
    have t2 : TupAt K (upd (upd H7 q1 (.tup (hs.map V.int))) q2 (.tup (gs.map V.int))) q2 (gs.map V.int) := .inl upd_same
    have B8 := (B7.fr g3).fr g4
    walk_at "rd"
    generalize hp : 1 + r1 = p
    have hp1 : 0 < p ∧ p < 1073741824 := by omega
    refine fun xr dx nx nd ne => ⟨xr, dx, .str "p", .str far, .int p, .ref q1, .ref q2, rfl, upd_same, rfl, ?_⟩
    rw [upd_upd]
    have g5 := Fr.obj (N := N0) (o := .ins T.c_Rays dx (raysF (.str "p") (.str far) (.int p) (.ref q1) (.ref q2))) nx nd ne
    have er : upd (upd (upd (upd H7 q1 (.tup (hs.map V.int))) q2 (.tup (gs.map V.int))) dx (.own xr)) xr (.ins T.c_Rays dx (raysF (.str "p") (.str far) (.int p) (.ref q1) (.ref q2))) xr = some (.ins T.c_Rays dx (raysF (.str "p") (.str far) (.int p) (.ref q1) (.ref q2))) := upd_same
    have t1 := t1.fr g5
    have t2 := t2.fr g5
    have B9 := B8.fr g5
    generalize upd (upd (upd (upd H7 q1 (.tup (hs.map V.int))) q2 (.tup (gs.map V.int))) dx (.own xr)) xr (.ins T.c_Rays dx (raysF (.str "p") (.str far) (.int p) (.ref q1) (.ref q2))) = H9 at er t1 t2 B9 ⊢
    walk_at "rd"
    refine s_fldV er T.K_Rays T.n_Rays_name rfl ?_
    walk_at "rd"
    refine s_fldV er T.K_Rays T.n_Rays_far rfl ?_
    walk_at "rd"
    refine s_fldV er T.K_Rays T.n_Rays_period rfl ?_
    walk_at "rd"
    refine s_fldV er T.K_Rays T.n_Rays_holding rfl ?_
    walk_at "rd"
    refine s_fldV er T.K_Rays T.n_Rays_failing rfl ?_
    walk_at "rd"
    refine ⟨szb rfl, fun k1 m1 => ?_⟩
    walk_at "rd"
    refine ⟨szb rfl, fun k2 m2 => ?_⟩
    walk_at "rd"
    have h1 := Fr.new (N := N0) (o := .lst [.str "p", .str far, .int p, .ref q1, .ref q2]) m1
    have h2 := Fr.new (N := N0) (o := .lst [.str "p", .str far, .int p, .ref q1, .ref q2]) m2
    have hd5 : ∀ {Hc : Hp}, TupAt K Hc q1 (hs.map V.int) → TupAt K Hc q2 (gs.map V.int) → HdL N0 K Hc [.str "p", .str far, .int p, .ref q1, .ref q2] [.str "p", .str far, .int p, .tuple (hs.map .int), .tuple (gs.map .int)] := fun u1 u2 => .cons (.str _) (.cons (.str _) (.cons (.int _) (.cons (.tup u1 (HdL.ints hs)) (.cons (.tup u2 (HdL.ints gs)) .nil))))
    refine s_like (Hd.lst (h2.keep _ _ upd_same id) id (hd5 (t1.fr (h1.trans h2)) (t2.fr (h1.trans h2)))) (Hd.lst upd_same id (hd5 (t1.fr (h1.trans h2)) (t2.fr (h1.trans h2)))) (by simp [plainD, plainL, plain_ints, lh, lg]) (by simp [deepD, deepL, deep_ints]) fun H10 f10 => ?_
    have f910 := (h1.trans h2).trans f10
    have er := f910.keep _ _ er id
    have t1 := t1.fr f910
    have t2 := t2.fr f910
    have B10 := B9.fr f910
    clear f910 f10 h1 h2 m1 m2 k1 k2 hd5 B9
    walk_at "rd"
    refine s_great B10 fun gr H11 gr0 gr1 B11 f11 => ?_
    have hxr : xr ≠ b := fun e => by obtain ⟨_, e2⟩ := B10.some; rw [← e, er] at e2; cases e2
    have er := f11.keep _ _ er hxr
    have t1 := t1.fr f11
    have t2 := t2.fr f11
    clear f11 B10
    walk_at "rd"
    refine ⟨szb rfl, fun l5 n5 => ?_⟩
    have g6 := Fr.new (N := N0) (o := .lst [.int 0, .int 1, .int gr]) n5
    have er := g6.keep _ _ er id
    have t1 := t1.fr g6
    have t2 := t2.fr g6
    have B11 := B11.fr g6
    have hl5 : upd H11 l5 (.lst [.int 0, .int 1, .int gr]) l5 = some (.lst [.int 0, .int 1, .int gr]) := upd_same
    generalize upd H11 l5 (.lst [.int 0, .int 1, .int gr]) = H12 at er t1 t2 B11 hl5 ⊢
    walk_at "rd"
    refine for_by (walk_list (xs := [V.int 0, V.int 1, V.int gr])) (fun i σ H' => ∃ (v11 v12 : Option V), σ = [some (.ref a), some (.ref b), some (.str far), some (.ref q), some (.ref l1), some (.ref l2), v6, some (.int p), some (.ref q1), some (.ref q2), some (.ref xr), v11, v12, none, none, none, none, none, none, none, none, none] ∧ Fr N0 H12 H') ⟨_, _, rfl, .refl⟩ (fun i σ H' _ ⟨_, _, _, f⟩ => SqL.of (f.keep _ _ hl5 id)) ?_ ?_
    · rintro i tv σ Hz Ha hi ⟨v11, v12, rfl, fa⟩ ⟨rfl, hv⟩
      obtain ⟨tn, rfl⟩ : ∃ tn : Int, tv = .int tn := by
        match i, hi with
        | 0, _ => cases hv; exact ⟨_, rfl⟩
        | 1, _ => cases hv; exact ⟨_, rfl⟩
        | 2, _ => cases hv; exact ⟨_, rfl⟩
      have er := fa.keep _ _ er id
      have t1 := t1.fr fa
      have t2 := t2.fr fa
      walk_at "rd"
      refine s_zipG (.t q1) (.s "abc") t1.sq rfl ?_
      walk_at "rd"
      refine lc_by (walk_zipG (xs := hs.map V.int) (ys := signs "abc") (n := 3) (by rw [List.length_map, lh]; rfl)) (fun D i acc H2 => acc = ((List.range i).map fun i => if inF far i then hs[i]! + tn * p else hs[i]!).map V.int ∧ Fr N0 Ha H2) (by walk_at "wipe") (fun D hD => ⟨rfl, Fr.new hD⟩) (fun D i acc H2 ⟨_, f2⟩ _ => ⟨(t1.fr f2).sq, rfl⟩) ?_ ?_
      · rintro D i acc z H2 H3 hD hi hl2 ⟨rfl, f2⟩ hDl ⟨tt, u, v, rfl, nt, rfl, gu, gv⟩
        dsimp only at gu gv
        rw [abc_sign hi] at gv
        rw [List.getElem?_map, List.getElem?_eq_getElem (by omega)] at gu
        cases gu
        cases gv
        have ht : upd H2 tt (.tup [.int hs[i], .str ⟨#[97 + i]⟩]) tt = some (.tup [.int hs[i], .str ⟨#[97 + i]⟩]) := upd_same
        have f3 := Fr.new (N := N0) (o := .tup [.int hs[i], .str ⟨#[97 + i]⟩]) nt
        walk_at "rd"
        refine ⟨rfl, ?_⟩
        walk_at "rd"
        refine if_dec (fun hc => ?_) (fun hc => ?_)
        case' refine_1 => have e2 : (if inF far i then hs[i]! + tn * p else hs[i]!) = hs[i] + tn * p := by rw [if_pos (show inF far i = true from decide_eq_true hc), getElem!_pos hs i (by omega)]
        case' refine_2 => have e2 : (if inF far i then hs[i]! + tn * p else hs[i]!) = hs[i] := by rw [if_neg (by rw [inF, decide_eq_false hc]; exact Bool.false_ne_true), getElem!_pos hs i (by omega)]
        all_goals
          walk_at "rd"
          refine pvx_add (f3.keep D _ hDl id) hl2 (Nat.lt_of_lt_of_le hi (by rw [sizeLine_eq]; omega)) ⟨?_, (f2.trans f3).mut hD⟩
          rw [List.range_succ, List.map_append, List.map_append, List.map_cons, List.map_cons, e2]
          rfl
      · rintro D acc H2 hD ⟨rfl, f2⟩ hDl
        walk_at "rd"
        refine s_tupleL (SqL.of hDl) fun q3 nq3 => ?_
        have f4 := Fr.new (N := N0) (o := .tup (((List.range 3).map fun i => if inF far i then hs[i]! + tn * p else hs[i]!).map V.int)) nq3
        have fb := f2.trans f4
        have t3 : TupAt K (upd H2 q3 (.tup ((shiftC far (tn * p) hs).map V.int))) q3 ((shiftC far (tn * p) hs).map V.int) := .inl upd_same
        walk_at "rd"
        refine s_methV (fb.keep _ _ er id) rfl ?_
        walk_at "rd"
        refine s_point (fb.keep _ _ er id) (t1.fr fb) lh hp1 fun q4 H5 f5 t4 => ?_
        walk_at "rd"
        refine s_like (Hd.tup t4 (HdL.ints _)) (Hd.tup (t3.fr f5) (HdL.ints _)) (plain_tupI (by rw [shift_len]; decide)).1 (by rw [(plain_tupI (by rw [shift_len]; decide)).2]; decide) fun H6 f6 => ?_
        walk_at "rd"
        exact ⟨_, _, rfl, fa.trans (fb.trans (f5.trans f6))⟩
    · rintro σ Ha ⟨v11, v12, rfl, fa⟩
      have er := fa.keep _ _ er id
      have t1 := t1.fr fa
      have t2 := t2.fr fa
      have B11 := B11.fr fa
      clear fa hl5
      walk_at "rd"
      refine s_pull B11 (by decide) fun m0 H13 m1 m2 B12 f13 => ?_
      have er := f13.keep _ _ er hxr
      have t1 := t1.fr f13
      have t2 := t2.fr f13
      obtain ⟨m, rfl⟩ := nat0 m1
      clear B11 f13
      walk_at "rd"
      refine ⟨szb rfl, fun L nL => ?_⟩
      walk_at "rd"
      refine ⟨szb rfl, fun p5 n5 => ?_⟩
      have hL5 : L ≠ p5 := fun e => by rw [← e, upd_same] at n5; cases n5
      have fL : Fr N0 H13 (upd (upd H13 L (.lst [])) p5 (.tup [.ref L, .ref q1])) := (Fr.new nL).trans (Fr.new n5)
      have eL : (upd (upd H13 L (.lst [])) p5 (.tup [.ref L, .ref q1])) L = some (.lst []) := by rw [upd_ne hL5, upd_same]
      have tL : TupAt K (upd (upd H13 L (.lst [])) p5 (.tup [.ref L, .ref q1])) q1 (hs.map V.int) := t1.fr fL
      walk_at "rd"
      generalize upd (upd H13 L (.lst [])) p5 (.tup [.ref L, .ref q1]) = H14 at fL eL tL ⊢
      rw [Int.toNat_natCast]
      have m8 : m < 8 := by omega
      have nLr : ∀ {Hc : Hp}, Fr N0 H13 Hc → ∀ {c : Addr}, Hc c = none → c ≠ L ∨ True := fun _ _ _ => .inr trivial
      refine for_by walk_range0 (fun i σ H' => ∃ (v11 v15 v16 v17 : Option V) (qh : Addr) (ys : List V), σ = [some (.ref a), some (.ref b), some (.str far), some (.ref q), some (.ref l1), some (.ref l2), v6, some (.int p), some (.ref q1), some (.ref q2), some (.ref xr), v11, some (.ref L), some (.int m), some (.ref qh), v15, v16, v17, none, none, none, none] ∧ Fr N0 H13 H' ∧ H' L = some (.lst ys) ∧ Tups K H' ys (climbC far p hs gs i) ∧ ys.length = 2 * i ∧ TupAt K H' qh ((nowC far p hs gs i).map V.int)) ⟨_, _, _, _, q1, [], rfl, fL, eL, .nil, rfl, tL⟩ (fun _ _ _ _ _ => trivial) ?_ ?_
      · rintro i _ σ Hz Ha hi ⟨v11, v15, v16, v17, qh, ys, rfl, fa, eLa, hy, yl, th⟩ ⟨rfl, rfl⟩
        walk_at "rd"
        refine ⟨szb rfl, fun p6 n6 => ?_⟩
        have g6 := Fr.new (N := N0) (o := .tup [.ref q1, .ref q2]) n6
        have h6 : TupAt K (upd Ha p6 (.tup [.ref q1, .ref q2])) p6 [.ref q1, .ref q2] := .inl upd_same
        have fa := fa.trans g6
        have eLa := g6.keep _ _ eLa id
        have hy := tups_any g6 hy
        have th := th.fr g6
        generalize upd Ha p6 (.tup [.ref q1, .ref q2]) = Hb at fa eLa hy th h6 ⊢
        walk_at "rd"
        refine for_by (walk_tup (xs := [V.ref q1, V.ref q2])) (fun j σ H' => ∃ (v11 v15 v16 v17 : Option V) (qh : Addr) (ys : List V), σ = [some (.ref a), some (.ref b), some (.str far), some (.ref q), some (.ref l1), some (.ref l2), v6, some (.int p), some (.ref q1), some (.ref q2), some (.ref xr), v11, some (.ref L), some (.int m), some (.ref qh), v15, v16, v17, none, none, none, none] ∧ Fr N0 H13 H' ∧ TupAt K H' p6 [.ref q1, .ref q2] ∧ H' L = some (.lst ys) ∧ Tups K H' ys (climbC far p hs gs i ++ (rowC far p hs gs i).take j) ∧ ys.length = 2 * i + j ∧ TupAt K H' qh ((hereC far p hs gs i j).map V.int)) ⟨_, _, _, _, qh, ys, rfl, fa, h6, eLa, by simpa using hy, yl, th⟩ (fun j σ H' _ ⟨_, _, _, _, _, _, _, _, h, _⟩ => h.sq) ?_ ?_
        · rintro j bv σ Hz Hc hj ⟨v11, v15, v16, v17, qh, ys, rfl, fc, h6c, eLc, hyc, ylc, thc⟩ ⟨rfl, hv⟩
          obtain ⟨bq, bg, rfl, tb, lbg, hstep, hrow⟩ : ∃ (bq : Addr) (bg : List Int), bv = .ref bq ∧ TupAt K H13 bq (bg.map V.int) ∧ bg.length = 3 ∧ hereC far p hs gs i (j + 1) = stepC far p (hereC far p hs gs i j) bg ∧ (rowC far p hs gs i)[j]? = some (hereC far p hs gs i (j + 1)) := by
            match j, hj with
            | 0, _ => cases hv; exact ⟨q1, hs, rfl, t1, lh, rfl, rfl⟩
            | 1, _ => cases hv; exact ⟨q2, gs, rfl, t2, lg, rfl, rfl⟩
          have lnow := here_len (far := far) (p := p) (gs := gs) (i := i) lh j
          generalize hereC far p hs gs i j = now at thc hstep lnow
          walk_at "rd"
          refine lc_by walk_str (fun D k acc H2 => acc = ((gapsC far now bg).take k).map V.int ∧ Fr N0 Hc H2) (by walk_at "wipe") (fun D hD => ⟨rfl, Fr.new hD⟩) (fun D k acc H2 _ _ => trivial) ?_ ?_
          · rintro D k acc z H2 H3 hD hk hl2 ⟨rfl, f2⟩ hDl ⟨rfl, c, hc, rfl⟩
            obtain ⟨c1, c2, c3⟩ := far_at fo hc
            walk_at "rd"
            refine ⟨rfl, ?_⟩
            walk_at "rd"
            refine s_lawValue (thc.fr f2) c1 (List.getElem?_eq_getElem (by omega)) ?_
            walk_at "rd"
            refine s_lawValue ((tb.fr fc).fr f2) c1 (List.getElem?_eq_getElem (by omega)) ?_
            walk_at "rd"
            refine pvx_add hDl hl2 (Nat.lt_of_lt_of_le hk (by rw [sizeLine_eq]; omega)) ⟨?_, f2.mut hD⟩
            have e : (gapsC far now bg)[k]? = some (now[c - 97] - bg[c - 97]) := by
              unfold gapsC
              rw [List.getElem?_map, c3]
              show some (now[c - 97]! - bg[c - 97]!) = _
              rw [getElem!_pos now (c - 97) (by omega), getElem!_pos bg (c - 97) (by omega)]
            rw [List.take_add_one, List.map_append, e]
            rfl
          rintro D acc H2 hD ⟨rfl, f2⟩ hDl
          have gl : (gapsC far now bg).length = far.cps.size := by simp [gapsC, farIx]
          rw [← gl, List.take_length] at hDl
          walk_at "rd"
          refine ⟨szb rfl, fun l6 n6' => ?_⟩
          have g7 := Fr.new (N := N0) (o := .lst [.int 0]) n6'
          have f7c := f2.trans g7
          have hDl := g7.keep _ _ hDl id
          have e6 : upd H2 l6 (.lst [.int 0]) l6 = some (.lst [.int 0]) := upd_same
          generalize upd H2 l6 (.lst [.int 0]) = H6 at f7c hDl e6 ⊢
          walk_at "rd"
          refine lc_by (walk_list (xs := (gapsC far now bg).map V.int)) (fun D2 k acc H3 => acc = (((gapsC far now bg).take k).map fun g => (g + p - 1) / p).map V.int ∧ Fr N0 H6 H3) (by walk_at "wipe") (fun D2 hD2 => ⟨rfl, Fr.new hD2⟩) (fun D2 k acc H3 ⟨_, f3⟩ _ => SqL.of (f3.keep _ _ hDl id)) ?_ ?_
          · rintro D2 k acc z H3 H4 hD2 hk hl2 ⟨rfl, f3⟩ hDl2 ⟨rfl, hz⟩
            have hk' : k < (gapsC far now bg).length := by simpa using hk
            rw [List.getElem?_map, List.getElem?_eq_getElem hk'] at hz
            cases hz
            walk_at "rd"
            refine ⟨rfl, ?_⟩
            walk_at "rd"
            refine pvx_add hDl2 hl2 (Nat.lt_of_lt_of_le hk' (by rw [sizeLine_eq]; omega)) ⟨?_, f3.mut hD2⟩
            rw [List.take_add_one, List.getElem?_eq_getElem hk', List.map_append, List.map_append]
            rfl
          rintro D2 acc H3 hD2 ⟨rfl, f3⟩ hDl2
          rw [List.length_map, List.take_length] at hDl2
          walk_at "rd"
          refine s_catL (f3.keep _ _ e6 id) hDl2 (by simp only [List.length_cons, List.length_nil, List.length_map]; omega) fun p7 n7 => ?_
          have g8 := Fr.new (N := N0) (o := .lst ([.int 0] ++ ((gapsC far now bg).map fun g => (g + p - 1) / p).map V.int)) n7
          have f8 := f7c.trans (f3.trans g8)
          have e7 : upd H3 p7 (.lst ([.int 0] ++ ((gapsC far now bg).map fun g => (g + p - 1) / p).map V.int)) p7 = some (.lst ((0 :: (gapsC far now bg).map fun g => (g + p - 1) / p).map V.int)) := upd_same
          generalize upd H3 p7 (.lst ([.int 0] ++ ((gapsC far now bg).map fun g => (g + p - 1) / p).map V.int)) = H7' at f8 e7 ⊢
          walk_at "rd"
          refine s_maxL (SqL.of e7) ?_
          rw [turns_eq hp1.1]
          have tb7 := (tb.fr fc).fr f8
          walk_at "rd"
          refine s_zipG (.t bq) (.s "abc") tb7.sq rfl ?_
          walk_at "rd"
          generalize htn : turnsC far p now bg = tn
          refine lc_by (walk_zipG (xs := bg.map V.int) (ys := signs "abc") (n := 3) (by rw [List.length_map, lbg]; rfl)) (fun D i acc H2 => acc = ((List.range i).map fun i => if inF far i then bg[i]! + tn * p else bg[i]!).map V.int ∧ Fr N0 H7' H2) (by walk_at "wipe") (fun D hD => ⟨rfl, Fr.new hD⟩) (fun D i acc H2 ⟨_, f2⟩ _ => ⟨(tb7.fr f2).sq, rfl⟩) ?_ ?_
          · rintro D i acc z H2 H3 hD hi hl2 ⟨rfl, f2⟩ hDl ⟨tt, u, v, rfl, nt, rfl, gu, gv⟩
            dsimp only at gu gv
            rw [abc_sign hi] at gv
            rw [List.getElem?_map, List.getElem?_eq_getElem (by omega)] at gu
            cases gu
            cases gv
            have ht : upd H2 tt (.tup [.int bg[i], .str ⟨#[97 + i]⟩]) tt = some (.tup [.int bg[i], .str ⟨#[97 + i]⟩]) := upd_same
            have f3 := Fr.new (N := N0) (o := .tup [.int bg[i], .str ⟨#[97 + i]⟩]) nt
            walk_at "rd"
            refine ⟨rfl, ?_⟩
            walk_at "rd"
            refine if_dec (fun hc => ?_) (fun hc => ?_)
            case' refine_1 => have e2 : (if inF far i then bg[i]! + tn * p else bg[i]!) = bg[i] + tn * p := by rw [if_pos (show inF far i = true from decide_eq_true hc), getElem!_pos bg i (by omega)]
            case' refine_2 => have e2 : (if inF far i then bg[i]! + tn * p else bg[i]!) = bg[i] := by rw [if_neg (by rw [inF, decide_eq_false hc]; exact Bool.false_ne_true), getElem!_pos bg i (by omega)]
            all_goals
              walk_at "rd"
              refine pvx_add (f3.keep D _ hDl id) hl2 (Nat.lt_of_lt_of_le hi (by rw [sizeLine_eq]; omega)) ⟨?_, (f2.trans f3).mut hD⟩
              rw [List.range_succ, List.map_append, List.map_append, List.map_cons, List.map_cons, e2]
              rfl
          rintro D3 acc H8 hD3 ⟨rfl, f9⟩ hDl3
          walk_at "rd"
          refine s_tupleL (SqL.of hDl3) fun q3 nq3 => ?_
          have g9 := Fr.new (N := N0) (o := .tup (((List.range 3).map fun i => if inF far i then bg[i]! + tn * p else bg[i]!).map V.int)) nq3
          have f10 := f8.trans (f9.trans g9)
          have t3 : TupAt K (upd H8 q3 (.tup (((List.range 3).map fun i => if inF far i then bg[i]! + tn * p else bg[i]!).map V.int))) q3 ((stepC far p now bg).map V.int) := by
            unfold stepC
            rw [htn]
            exact .inl upd_same
          generalize upd H8 q3 (.tup (((List.range 3).map fun i => if inF far i then bg[i]! + tn * p else bg[i]!).map V.int)) = H9' at f10 t3 ⊢
          rw [← hstep] at t3
          walk_at "rd"
          have eL9 := f10.keep _ _ eLc id
          have fw : Fr (N1 L) H9' (upd H9' L (.lst (ys ++ [.ref q3]))) := Fr.wr eL9 rfl (by rintro x r rfl; exact ⟨_, rfl⟩)
          refine ⟨.inl ⟨rfl, _, SqL.of eL9⟩, ?_⟩
          walk_at "rd"
          refine ⟨L, ys, .ref q3, rfl, rfl, eL9, by have hj2 : j < 2 := hj; rw [sizeLine_eq]; omega, v11, _, _, _, q3, ys ++ [.ref q3], rfl, (fc.trans f10).mut nL, (h6c.fr f10).fr fw, upd_same, ?_, by simp; omega, t3.fr fw⟩
          rw [List.take_add_one, hrow, ← List.append_assoc]
          exact tups_any fw (tups_app (tups_any f10 hyc) t3)
        · rintro σ Hd ⟨v11, v15, v16, v17, qh, ys, rfl, fc, h6c, eLc, hyc, ylc, thc⟩
          exact ⟨v11, v15, v16, v17, qh, ys, rfl, fc, eLc, by
            have e : climbC far p hs gs (i + 1) = climbC far p hs gs i ++ rowC far p hs gs i := by unfold climbC; rw [List.range_succ, List.flatMap_append]; simp
            rw [e]
            exact hyc, by rw [ylc]; simp; omega, thc⟩
      · rintro σ He ⟨v11, v15, v16, v17, qh, ys, rfl, fd, eLd, hyd, yld, thd⟩
        have erd := fd.keep _ _ er id
        walk_at "rd"
        refine s_listMG ?_
        walk_at "rd"
        refine ⟨xr, dx, _, rfl, erd, rfl, ?_⟩
        walk_at "rd"
        refine ⟨xr, dx, q1, q2, m, p, far, .str "p", hs, gs, rfl, erd, t1.fr fd, t2.fr fd, lh, lg, hp1, fo, fz, by omega, fun ys' H' f' hy' p8 n8 => ?_⟩
        have g8 := Fr.new (N := N0) (o := .lst ys') n8
        have hrows : ∀ xs ∈ climbC far p hs gs m, xs.length ≤ 1000 := by
          intro xs hx
          unfold climbC at hx
          obtain ⟨j, _, hj⟩ := List.mem_flatMap.mp hx
          have : xs.length = 3 := by
            unfold rowC at hj
            rcases List.mem_cons.mp hj with rfl | hj
            · exact step_len
            · rw [List.mem_singleton.mp hj]; exact now_len lh _
          omega
        have hcl : (climbC far p hs gs m).length ≤ 1000 := by
          have := hyd.len
          rw [List.length_map] at this
          omega
        walk_at "rd"
        refine s_like (d := .list ((climbC far p hs gs m).map fun xs : List Int => PyData.tuple (xs.map PyData.int))) (Hd.lst upd_same (fun h => h.elim) (tups_any g8 hy')) (Hd.lst (g8.keep _ _ (f'.keep _ _ eLd id) id) (fun h => h.elim) (tups_any g8 (tups_any f' hyd))) ?_ ?_ fun H9 f9 => ?_
        · simp only [plainD, (plain_tups hrows).1, Bool.and_true, decide_eq_true_eq, List.length_map]
          omega
        · have := (plain_tups hrows).2
          simp only [deepD]
          omega
        walk_at "rd"
        refine s_textO (f9.keep _ _ (g8.keep _ _ (f'.keep _ _ erd id) id) id) ?_
        have lf : far.length ≤ 3 := fz
        have l1 : (Str.ofString "Rays(p, ").length = 8 := rfl
        have l3 : (Str.ofString ")").length = 1 := rfl
        have l4 : (Str.ofString "p").length = 1 := rfl
        have lz := sizeLine_eq
        refine ⟨xr, dx, "p", far, .int p, .ref q1, .ref q2, rfl, f9.keep _ _ (g8.keep _ _ (f'.keep _ _ erd id) id) id, by have l5 : (OfNat.ofNat 0 = 0) := rfl; show (Str.ofString "p").length + far.length ≤ 1000; omega, _, rfl, ?_⟩
        walk_at "rd"
        refine s_addS (by omega) ?_
        walk_at "rd"
        refine s_addS (by simp only [Str.length_append]; omega) ?_
        walk_at "rd"
        have e9 : Str.ofString "Rays(" ++ Str.ofString "p" ++ Str.ofString ", " = Str.ofString "Rays(p, " := by decide +kernel
        rw [e9, decide_eq_true rfl]
        exact k _
end My
namespace My
open PySem PySem.Spec PyProof.Rows L2 RZ
open LamX (ExtN Tabs TabS TabB CodeO)
theorem all_mk {l : PySem.W.OpenLaw} {w : World} {K : PySem.W.Frag} {h : Heap} {mg : Str → Option Value} {fa : Addr} (X : K.In h) (G : h.Ns mainGlobals mg) (hfa : mg "law" = some (.ref fa))
    {CRays : Addr} {od0 an0 : Option Addr} {sl0 : Array (Option Value)} {oc0 kV0 dc0 pm0 ct0 : Value} {f0 : Addr} {cd0 : Value} {od1 an1 : Option Addr} {sl1 : Array (Option Value)} {oc1 kV1 dc1 pm1 ct1 : Value} {f1 : Addr} {cd1 : Value} {od2 an2 : Option Addr} {sl2 : Array (Option Value)} {oc2 kV2 dc2 pm2 ct2 : Value} {f2 : Addr} {cd2 : Value} {od3 an3 : Option Addr} {sl3 : Array (Option Value)} {oc3 kV3 dc3 pm3 ct3 : Value} {f3 : Addr} {cd3 : Value} {od4 an4 : Option Addr} {sl4 : Array (Option Value)} {oc4 kV4 dc4 pm4 ct4 : Value} {f4 : Addr} {cd4 : Value} {od5 an5 : Option Addr} {sl5 : Array (Option Value)} {oc5 kV5 dc5 pm5 ct5 : Value} {f5 : Addr} {cd5 : Value} {od6 an6 : Option Addr} {sl6 : Array (Option Value)} {oc6 kV6 dc6 pm6 ct6 : Value} {f6 : Addr} {cd6 : Value} {od7 an7 : Option Addr} {sl7 : Array (Option Value)} {oc7 kV7 dc7 pm7 ct7 : Value} {f7 : Addr} {cd7 : Value} {od8 an8 : Option Addr} {sl8 : Array (Option Value)} {oc8 kV8 dc8 pm8 ct8 : Value} {f8 : Addr} {cd8 : Value} {od9 an9 : Option Addr} {sl9 : Array (Option Value)} {oc9 kV9 dc9 pm9 ct9 : Value} {f9 : Addr} {cd9 : Value} {od10 an10 : Option Addr} {sl10 : Array (Option Value)} {oc10 kV10 dc10 pm10 ct10 : Value} {f10 : Addr} {cd10 : Value} {od11 an11 : Option Addr} {sl11 : Array (Option Value)} {oc11 kV11 dc11 pm11 ct11 : Value} {f11 : Addr} {cd11 : Value} {od12 an12 : Option Addr} {sl12 : Array (Option Value)} {oc12 kV12 dc12 pm12 ct12 : Value} {f12 : Addr} {cd12 : Value} {tk0 : Tok}
    (aRays : PySem.W.nsIn K mainGlobals "Rays" = some (some (.ref CRays)))
    (pgRays : PySem.W.plainGet K CRays Str.empty = true)
    (hdRays : PySem.W.hasDictIn K CRays = true)
    (poRays : PySem.W.plainOver K CRays = true)
    (saRays : PySem.W.findIn K (.ref CRays) "__setattr__" = some (some (.builtin "object.__setattr__")))
    (nRays_name : PySem.W.findIn K (.ref CRays) "name" = some none)
    (nRays_far : PySem.W.findIn K (.ref CRays) "far" = some none)
    (nRays_period : PySem.W.findIn K (.ref CRays) "period" = some none)
    (nRays_holding : PySem.W.findIn K (.ref CRays) "holding" = some none)
    (nRays_failing : PySem.W.findIn K (.ref CRays) "failing" = some none)
    (mkRays : PySem.W.makesIn K CRays = true)
    (kcRays : PySem.W.keepIn K (.ref CRays) = true)
    (a0 : PySem.W.findIn K (.ref CRays) "__init__" = some (some (.ref f0)))
    (fn0 : PySem.W.isFn K (.ref f0) = true)
    (l0 : K.lookup f0 = some ⟨oc0, od0, .func (PySem.W.fnOf "__init__" "Rays.__init__" (defArgs s_Rays____init__) (defBody s_Rays____init__) (defScope s_Rays____init__) .none kV0 dc0 pm0 an0 cd0 ct0), sl0⟩)
    (c0 : PySem.W.codeIn K cd0 "Rays.__init__" = true)
    (k0 : PySem.W.keepIn K (.ref f0) = true)
    (a1 : PySem.W.findIn K (.ref CRays) "point" = some (some (.ref f1)))
    (fn1 : PySem.W.isFn K (.ref f1) = true)
    (l1 : K.lookup f1 = some ⟨oc1, od1, .func (PySem.W.fnOf "point" "Rays.point" (defArgs s_Rays__point) (defBody s_Rays__point) (defScope s_Rays__point) .none kV1 dc1 pm1 an1 cd1 ct1), sl1⟩)
    (c1 : PySem.W.codeIn K cd1 "Rays.point" = true)
    (k1 : PySem.W.keepIn K (.ref f1) = true)
    (a2 : PySem.W.nsIn K mainGlobals "value_of" = some (some (.ref f2)))
    (l2 : K.lookup f2 = some ⟨oc2, od2, .func (PySem.W.fnOf "value_of" "value_of" (defArgs s_value_of) (defBody s_value_of) (defScope s_value_of) .none kV2 dc2 pm2 an2 cd2 ct2), sl2⟩)
    (c2 : PySem.W.codeIn K cd2 "value_of" = true)
    (k2 : PySem.W.keepIn K (.ref f2) = true)
    (a3 : PySem.W.findIn K (.ref CRays) "turns_to" = some (some (.ref f3)))
    (fn3 : PySem.W.isFn K (.ref f3) = true)
    (l3 : K.lookup f3 = some ⟨oc3, od3, .func (PySem.W.fnOf "turns_to" "Rays.turns_to" (defArgs s_Rays__turns_to) (defBody s_Rays__turns_to) (defScope s_Rays__turns_to) .none kV3 dc3 pm3 an3 cd3 ct3), sl3⟩)
    (c3 : PySem.W.codeIn K cd3 "Rays.turns_to" = true)
    (k3 : PySem.W.keepIn K (.ref f3) = true)
    (a4 : PySem.W.findIn K (.ref CRays) "climb" = some (some (.ref f4)))
    (fn4 : PySem.W.isFn K (.ref f4) = true)
    (l4 : K.lookup f4 = some ⟨oc4, od4, .func (PySem.W.fnOf "climb" "Rays.climb" (defArgs s_Rays__climb) (defBody s_Rays__climb) (defScope s_Rays__climb) .none kV4 dc4 pm4 an4 cd4 ct4), sl4⟩)
    (c4 : PySem.W.codeIn K cd4 "Rays.climb" = true)
    (k4 : PySem.W.keepIn K (.ref f4) = true)
    (a5 : PySem.W.findIn K (.ref CRays) "__repr__" = some (some (.ref f5)))
    (fn5 : PySem.W.isFn K (.ref f5) = true)
    (l5 : K.lookup f5 = some ⟨oc5, od5, .func (PySem.W.fnOf "__repr__" "Rays.__repr__" (defArgs s_Rays____repr__) (defBody s_Rays____repr__) (defScope s_Rays____repr__) .none kV5 dc5 pm5 an5 cd5 ct5), sl5⟩)
    (c5 : PySem.W.codeIn K cd5 "Rays.__repr__" = true)
    (k5 : PySem.W.keepIn K (.ref f5) = true)
    (a6 : PySem.W.nsIn K mainGlobals "_law_bag" = some (some (.ref f6)))
    (l6 : K.lookup f6 = some ⟨oc6, od6, .func (PySem.W.fnOf "_law_bag" "_law_bag" (defArgs s__law_bag) (defBody s__law_bag) (defScope s__law_bag) .none kV6 dc6 pm6 an6 cd6 ct6), sl6⟩)
    (c6 : PySem.W.codeIn K cd6 "_law_bag" = true)
    (k6 : PySem.W.keepIn K (.ref f6) = true)
    (a7 : PySem.W.nsIn K mainGlobals "_law_pull" = some (some (.ref f7)))
    (l7 : K.lookup f7 = some ⟨oc7, od7, .func (PySem.W.fnOf "_law_pull" "_law_pull" (defArgs s__law_pull) (defBody s__law_pull) (defScope s__law_pull) .none kV7 dc7 pm7 an7 cd7 ct7), sl7⟩)
    (c7 : PySem.W.codeIn K cd7 "_law_pull" = true)
    (k7 : PySem.W.keepIn K (.ref f7) = true)
    (a8 : PySem.W.nsIn K mainGlobals "_law_of" = some (some (.ref f8)))
    (l8 : K.lookup f8 = some ⟨oc8, od8, .func (PySem.W.fnOf "_law_of" "_law_of" (defArgs s__law_of) (defBody s__law_of) (defScope s__law_of) .none kV8 dc8 pm8 an8 cd8 ct8), sl8⟩)
    (c8 : PySem.W.codeIn K cd8 "_law_of" = true)
    (k8 : PySem.W.keepIn K (.ref f8) = true)
    (a9 : PySem.W.nsIn K mainGlobals "_law_great" = some (some (.ref f9)))
    (l9 : K.lookup f9 = some ⟨oc9, od9, .func (PySem.W.fnOf "_law_great" "_law_great" (defArgs s__law_great) (defBody s__law_great) (defScope s__law_great) .none kV9 dc9 pm9 an9 cd9 ct9), sl9⟩)
    (c9 : PySem.W.codeIn K cd9 "_law_great" = true)
    (k9 : PySem.W.keepIn K (.ref f9) = true)
    (a10 : PySem.W.nsIn K mainGlobals "_law_like" = some (some (.ref f10)))
    (l10 : K.lookup f10 = some ⟨oc10, od10, .func (PySem.W.fnOf "_law_like" "_law_like" (defArgs s__law_like) (defBody s__law_like) (defScope s__law_like) .none kV10 dc10 pm10 an10 cd10 ct10), sl10⟩)
    (c10 : PySem.W.codeIn K cd10 "_law_like" = true)
    (k10 : PySem.W.keepIn K (.ref f10) = true)
    (a11 : PySem.W.nsIn K mainGlobals "_law_value" = some (some (.ref f11)))
    (l11 : K.lookup f11 = some ⟨oc11, od11, .func (PySem.W.fnOf "_law_value" "_law_value" (defArgs s__law_value) (defBody s__law_value) (defScope s__law_value) .none kV11 dc11 pm11 an11 cd11 ct11), sl11⟩)
    (c11 : PySem.W.codeIn K cd11 "_law_value" = true)
    (k11 : PySem.W.keepIn K (.ref f11) = true)
    (a12 : PySem.W.nsIn K mainGlobals "law" = some (some (.ref f12)))
    (l12 : K.lookup f12 = some ⟨oc12, od12, .func (PySem.W.fnOf "law" "law" (defArgs s_law) (defBody s_law) (defScope s_law) .none kV12 dc12 pm12 an12 cd12 ct12), sl12⟩)
    (c12 : PySem.W.codeIn K cd12 "law" = true)
    (k12 : PySem.W.keepIn K (.ref f12) = true)
    (gk0 : PySem.W.nsIn K mainGlobals "COUNTS" = some (some (.str "abc" tk0)))
    (z0 : PySem.W.nsIn K mainGlobals "all" = some none)
    (z1 : PySem.W.nsIn K mainGlobals "bool" = some none)
    (z2 : PySem.W.nsIn K mainGlobals "dict" = some none)
    (z3 : PySem.W.nsIn K mainGlobals "int" = some none)
    (z4 : PySem.W.nsIn K mainGlobals "isinstance" = some none)
    (z5 : PySem.W.nsIn K mainGlobals "len" = some none)
    (z6 : PySem.W.nsIn K mainGlobals "list" = some none)
    (z7 : PySem.W.nsIn K mainGlobals "max" = some none)
    (z8 : PySem.W.nsIn K mainGlobals "range" = some none)
    (z9 : PySem.W.nsIn K mainGlobals "repr" = some none)
    (z10 : PySem.W.nsIn K mainGlobals "str" = some none)
    (z11 : PySem.W.nsIn K mainGlobals "tuple" = some none)
    (z12 : PySem.W.nsIn K mainGlobals "zip" = some none) :
    ∃ fd : FuncData, (∀ (s : Shared) (v : Value), BindsTo s fd ⟨[v], []⟩ [("_law_script", v)]) ∧ ∀ base : Heap, K.In base → base.Ns mainGlobals mg → FnOk l.prog w K mg base CX0 lv_law fa fd ["_law_script"] (sp_law K) := by
  have e := hfa.symm.trans (PySem.W.mg_of X G a12)
  cases e
  have F0 := fun_mk (st := s_Rays____init__) l0 c0 k0
  have b0 := F0.binds (ps := ["self", "name", "far", "period", "holding", "failing"]) fun _ _ _ _ _ _ us hl => match us, hl with | [_, _, _, _, _, _], _ => rfl
  have F1 := fun_mk (st := s_Rays__point) l1 c1 k1
  have b1 := F1.binds (ps := ["self", "begin", "turn"]) fun _ _ _ _ _ _ us hl => match us, hl with | [_, _, _], _ => rfl
  have F2 := fun_mk (st := s_value_of) l2 c2 k2
  have b2 := F2.binds (ps := ["situation", "count"]) fun _ _ _ _ _ _ us hl => match us, hl with | [_, _], _ => rfl
  have F3 := fun_mk (st := s_Rays__turns_to) l3 c3 k3
  have b3 := F3.binds (ps := ["self", "begin", "situation"]) fun _ _ _ _ _ _ us hl => match us, hl with | [_, _, _], _ => rfl
  have F4 := fun_mk (st := s_Rays__climb) l4 c4 k4
  have b4 := F4.binds (ps := ["self", "turns"]) fun _ _ _ _ _ _ us hl => match us, hl with | [_, _], _ => rfl
  have F5 := fun_mk (st := s_Rays____repr__) l5 c5 k5
  have b5 := F5.binds (ps := ["self"]) fun _ _ _ _ _ _ us hl => match us, hl with | [_], _ => rfl
  have F6 := fun_mk (st := s__law_bag) l6 c6 k6
  have b6 := F6.binds (ps := ["_law_script"]) fun _ _ _ _ _ _ us hl => match us, hl with | [_], _ => rfl
  have F7 := fun_mk (st := s__law_pull) l7 c7 k7
  have b7 := F7.binds (ps := ["_law_bag_here", "_law_many"]) fun _ _ _ _ _ _ us hl => match us, hl with | [_, _], _ => rfl
  have F8 := fun_mk (st := s__law_of) l8 c8 k8
  have b8 := F8.binds (ps := ["_law_bag_here", "_law_things"]) fun _ _ _ _ _ _ us hl => match us, hl with | [_, _], _ => rfl
  have F9 := fun_mk (st := s__law_great) l9 c9 k9
  have b9 := F9.binds (ps := ["_law_bag_here"]) fun _ _ _ _ _ _ us hl => match us, hl with | [_], _ => rfl
  have F10 := fun_mk (st := s__law_like) l10 c10 k10
  have b10 := F10.binds (ps := ["_law_found", "_law_due"]) fun _ _ _ _ _ _ us hl => match us, hl with | [_, _], _ => rfl
  have F11 := fun_mk (st := s__law_value) l11 c11 k11
  have b11 := F11.binds (ps := ["_law_s", "_law_count"]) fun _ _ _ _ _ _ us hl => match us, hl with | [_, _], _ => rfl
  have F12 := fun_mk (st := s_law) l12 c12 k12
  have b12 := F12.binds (ps := ["_law_script"]) fun _ _ _ _ _ _ us hl => match us, hl with | [_], _ => rfl
  let T : Txt K mg := { c_Rays := CRays, g_Rays := PySem.W.mg_of X G aRays, K_Rays := ⟨pgRays, hdRays, poRays, saRays⟩, n_Rays_name := nRays_name, n_Rays_far := nRays_far, n_Rays_period := nRays_period, n_Rays_holding := nRays_holding, n_Rays_failing := nRays_failing, Mk_Rays := ⟨mkRays, a0, fn0, kcRays⟩, m_Rays____repr__ := ⟨a5, fn5, k5⟩, m_Rays__climb := ⟨a4, fn4, k4⟩, m_Rays__point := ⟨a1, fn1, k1⟩, m_Rays__turns_to := ⟨a3, fn3, k3⟩, f_Rays____init__ := f0, fd_Rays____init__ := _, F_Rays____init__ := F0, b_Rays____init__ := b0, f_Rays__point := f1, fd_Rays__point := _, F_Rays__point := F1, b_Rays__point := b1, f_value_of := f2, fd_value_of := _, F_value_of := F2, b_value_of := b2, g_value_of := PySem.W.mg_of X G a2, f_Rays__turns_to := f3, fd_Rays__turns_to := _, F_Rays__turns_to := F3, b_Rays__turns_to := b3, f_Rays__climb := f4, fd_Rays__climb := _, F_Rays__climb := F4, b_Rays__climb := b4, f_Rays____repr__ := f5, fd_Rays____repr__ := _, F_Rays____repr__ := F5, b_Rays____repr__ := b5, f__law_bag := f6, fd__law_bag := _, F__law_bag := F6, b__law_bag := b6, g__law_bag := PySem.W.mg_of X G a6, f__law_pull := f7, fd__law_pull := _, F__law_pull := F7, b__law_pull := b7, g__law_pull := PySem.W.mg_of X G a7, f__law_of := f8, fd__law_of := _, F__law_of := F8, b__law_of := b8, g__law_of := PySem.W.mg_of X G a8, f__law_great := f9, fd__law_great := _, F__law_great := F9, b__law_great := b9, g__law_great := PySem.W.mg_of X G a9, f__law_like := f10, fd__law_like := _, F__law_like := F10, b__law_like := b10, g__law_like := PySem.W.mg_of X G a10, f__law_value := f11, fd__law_value := _, F__law_value := F11, b__law_value := b11, g__law_value := PySem.W.mg_of X G a11, f_law := fa, fd_law := _, F_law := F12, b_law := b12, g_law := PySem.W.mg_of X G a12, tk_COUNTS := tk0, g_COUNTS := PySem.W.mg_of X G gk0, z_all := PySem.W.mg_none_of X G z0, z_bool := PySem.W.mg_none_of X G z1, z_dict := PySem.W.mg_none_of X G z2, z_int := PySem.W.mg_none_of X G z3, z_isinstance := PySem.W.mg_none_of X G z4, z_len := PySem.W.mg_none_of X G z5, z_list := PySem.W.mg_none_of X G z6, z_max := PySem.W.mg_none_of X G z7, z_range := PySem.W.mg_none_of X G z8, z_repr := PySem.W.mg_none_of X G z9, z_str := PySem.W.mg_none_of X G z10, z_tuple := PySem.W.mg_none_of X G z11, z_zip := PySem.W.mg_none_of X G z12 }
  exact ⟨PySem.W.fnOf "law" "law" (defArgs s_law) (defBody s_law) (defScope s_law) .none kV12 dc12 pm12 an12 cd12 ct12, fun s v => .of_eq rfl, fun base _ _ => ok_law T⟩
end My
open PySem PySem.W PyProof.Rows
set_option maxRecDepth 100000 in
set_option maxHeartbeats 0 in
theorem PySem.Challenge.cw_sparenots_k17_rays_and_points_holds : PySem.Challenge.rw_sparenots_k17_rays_and_points.Holds := by
  w_on; o_law; k_head; (case hw => w_witness2)
  k_fill
  refine L2.walk_of (l := PySem.Challenge.rw_sparenots_k17_rays_and_points) (n := 63) (k := My.lv_law) (x := "_law_script") (CX := fun _ => L2.CX0) (sp := fun w => My.sp_law _) rfl (by decide) rfl ⟨rfl, by decide, by decide⟩ (fun w h Y => PySem.W.kIn_of Y) ?F (fun _ _ a ns hl _ hS => ⟨a, ns, rfl, hS, hl, fun _ => rfl⟩) (fun _ _ _ _ _ h => h)
  case F =>
    intro w mg fa h KX G hmg
    refine' My.all_mk KX G hmg ?aRays ?pgRays ?hdRays ?poRays ?saRays ?nRays_name ?nRays_far ?nRays_period ?nRays_holding ?nRays_failing ?mkRays ?kcRays ?a0 ?fn0 ?l0 ?c0 ?k0 ?a1 ?fn1 ?l1 ?c1 ?k1 ?a2 ?l2 ?c2 ?k2 ?a3 ?fn3 ?l3 ?c3 ?k3 ?a4 ?fn4 ?l4 ?c4 ?k4 ?a5 ?fn5 ?l5 ?c5 ?k5 ?a6 ?l6 ?c6 ?k6 ?a7 ?l7 ?c7 ?k7 ?a8 ?l8 ?c8 ?k8 ?a9 ?l9 ?c9 ?k9 ?a10 ?l10 ?c10 ?k10 ?a11 ?l11 ?c11 ?k11 ?a12 ?l12 ?c12 ?k12 ?gk0 ?z0 ?z1 ?z2 ?z3 ?z4 ?z5 ?z6 ?z7 ?z8 ?z9 ?z10 ?z11 ?z12
    (case aRays => k_is)
    (case pgRays => k_is)
    (case hdRays => k_is)
    (case poRays => k_is)
    (case saRays => k_is)
    (case nRays_name => k_is)
    (case nRays_far => k_is)
    (case nRays_period => k_is)
    (case nRays_holding => k_is)
    (case nRays_failing => k_is)
    (case mkRays => k_is)
    (case kcRays => k_is)
    (case a0 => k_is)
    (case fn0 => k_is)
    (case l0 => k_is)
    (case c0 => k_is)
    (case k0 => k_is)
    (case a1 => k_is)
    (case fn1 => k_is)
    (case l1 => k_is)
    (case c1 => k_is)
    (case k1 => k_is)
    (case a2 => k_is)
    (case l2 => k_is)
    (case c2 => k_is)
    (case k2 => k_is)
    (case a3 => k_is)
    (case fn3 => k_is)
    (case l3 => k_is)
    (case c3 => k_is)
    (case k3 => k_is)
    (case a4 => k_is)
    (case fn4 => k_is)
    (case l4 => k_is)
    (case c4 => k_is)
    (case k4 => k_is)
    (case a5 => k_is)
    (case fn5 => k_is)
    (case l5 => k_is)
    (case c5 => k_is)
    (case k5 => k_is)
    (case a6 => k_is)
    (case l6 => k_is)
    (case c6 => k_is)
    (case k6 => k_is)
    (case a7 => k_is)
    (case l7 => k_is)
    (case c7 => k_is)
    (case k7 => k_is)
    (case a8 => k_is)
    (case l8 => k_is)
    (case c8 => k_is)
    (case k8 => k_is)
    (case a9 => k_is)
    (case l9 => k_is)
    (case c9 => k_is)
    (case k9 => k_is)
    (case a10 => k_is)
    (case l10 => k_is)
    (case c10 => k_is)
    (case k10 => k_is)
    (case a11 => k_is)
    (case l11 => k_is)
    (case c11 => k_is)
    (case k11 => k_is)
    (case a12 => k_is)
    (case l12 => k_is)
    (case c12 => k_is)
    (case k12 => k_is)
    (case gk0 => k_is)
    (case z0 => k_is)
    (case z1 => k_is)
    (case z2 => k_is)
    (case z3 => k_is)
    (case z4 => k_is)
    (case z5 => k_is)
    (case z6 => k_is)
    (case z7 => k_is)
    (case z8 => k_is)
    (case z9 => k_is)
    (case z10 => k_is)
    (case z11 => k_is)
    (case z12 => k_is)
