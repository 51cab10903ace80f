import PyProof.Rows.All
import Wide.All
import OpenK.AllK
import Wide.FinOn
import HandS.ForMost
import HandS.ForExc
import HandS.Evl
import HandS.IsInst
import HandS.Wide
import HandS.WideBits
import HandS.TupAny
import HandS.Flow
import HandS.Walk
import HandS.Zip
import HandS.ExcInit
import HandS.ExcField
import HandS.TryMany
import HandS.HotCalls
import HandS.Lambda
import HandS.Nested
import HandS.EndOwn
import HandS.GenCall
import HandS.GenList
import HandS.FStr
import HandS.SortKw
import HandS.Replace
import HandS.TupMul
import KE.DatumOrd
import KE.GoesMore
import KE.GoesEnum
import KE.GoesZip
import KE.KOpsOwn
import KE.KCallOwn
import HandS.ClsMeth
import KE.KeyNested
import KE.SortData
import KE.KDictPairs
import HandS.Set
import HandS.SetTxt0
import HandS.SetBool
import KE.GoesSet
import HandS.Conv
import HandS.Iter
import HandS.DictComp
import KE.GoesRaise
import HandS.Defaults
import HandS.MakeKw
import HandS.MakeKwOnly
import HandS.Property
import HandS.OwnEq
import HandS.RaiseMore
import HandS.Style
import HandS.Star
import KE.SortKeyHeap
import HandS.Head0
import HandS.Head1
import HandS.Head2
import HandS.HeadEnd
import HandS.HeadWalk
import HandS.HeadHook1
import HandS.HeadHook2
import HandS.HeadHook4
import PySem.Challenge.RW_sparenots_k06_invalid_codes
set_option Elab.async false
set_option linter.all false
set_option maxRecDepth 100000
set_option maxHeartbeats 4000000
namespace My
open PySem PySem.Spec PyProof.Rows L2 RZ
abbrev St := L2.St
def rPar (i j : Nat) (σ : St) (nx : St → Hp → Prop) : List V → Hp → Prop := fun vs H => ∃ v w, vs = [v, w] ∧ nx ((σ.set i (some v)).set j (some w)) H
section steps
variable {σ σ' : St} {H H1 : Hp} {i j : Nat} {v x y z : V} {ta tb te tc : TE} {t u : TS} {c c' : TT} {b : Bool} {K : PySem.W.Frag} {a p : Addr} {Q : VK} {QT : Bool → Hp → Prop} {nx bk ct : St → Hp → Prop} {rt : VK} {tr : TA} {QA : List V → Hp → Prop}
theorem s_var (h : σ[i]? = some (some v)) (q : Q v H) : tVar i σ H Q := ⟨v, h, q⟩
theorem s_c (q : Q v H) : tC v σ H Q := q
theorem s_op {r : R2} (h : ta σ H fun x H1 => tb σ H1 fun y H2 => r x y H2 Q) : tOp r ta tb σ H Q := h
theorem s_un {r : V → Hp → VK → Prop} (h : ta σ H fun x H1 => r x H1 Q) : tUn r ta σ H Q := h
theorem s_rI0 {g : Int → Int → V} {m n : Int} (q : Q (g m n) H) : rI0 g (.int m) (.int n) H Q := ⟨m, n, rfl, rfl, q⟩
theorem s_rI {C : Int → Int → Prop} {g : Int → Int → V} {m n : Int} (hc : C m n) (q : Q (g m n) H) : rI C g (.int m) (.int n) H Q := ⟨m, n, rfl, rfl, hc, q⟩
theorem s_rU {g : Int → V} {m : Int} (q : Q (g m) H) : rU g (.int m) H Q := ⟨m, rfl, q⟩
theorem s_rEqI {m n : Int} (q : Q (.bl (decide (m = n))) H) : rEq (.int m) (.int n) H Q := ⟨rfl, by
  have e : decide (V.int m = V.int n) = decide (m = n) := decide_eq_decide.mpr ⟨fun h => V.int.inj h, fun h => by rw [h]⟩
  rw [e]; exact q⟩
theorem s_rNeI {m n : Int} (q : Q (.bl (!decide (m = n))) H) : rNe (.int m) (.int n) H Q := ⟨rfl, by
  have e : decide (V.int m = V.int n) = decide (m = n) := decide_eq_decide.mpr ⟨fun h => V.int.inj h, fun h => by rw [h]⟩
  rw [e]; exact q⟩
theorem s_rEqS {m n : Str} (q : Q (.bl (decide (m = n))) H) : rEq (.str m) (.str n) H Q := ⟨rfl, by
  have e : decide (V.str m = V.str n) = decide (m = n) := decide_eq_decide.mpr ⟨fun h => V.str.inj h, fun h => by rw [h]⟩
  rw [e]; exact q⟩
theorem s_rNeS {m n : Str} (q : Q (.bl (!decide (m = n))) H) : rNe (.str m) (.str n) H Q := ⟨rfl, by
  have e : decide (V.str m = V.str n) = decide (m = n) := decide_eq_decide.mpr ⟨fun h => V.str.inj h, fun h => by rw [h]⟩
  rw [e]; exact q⟩
theorem s_rEqB {m n : Bool} (q : Q (.bl (decide (m = n))) H) : rEq (.bl m) (.bl n) H Q := ⟨rfl, by
  have e : decide (V.bl m = V.bl n) = decide (m = n) := decide_eq_decide.mpr ⟨fun h => V.bl.inj h, fun h => by rw [h]⟩
  rw [e]; exact q⟩
theorem s_rNeB {m n : Bool} (q : Q (.bl (!decide (m = n))) H) : rNe (.bl m) (.bl n) H Q := ⟨rfl, by
  have e : decide (V.bl m = V.bl n) = decide (m = n) := decide_eq_decide.mpr ⟨fun h => V.bl.inj h, fun h => by rw [h]⟩
  rw [e]; exact q⟩
theorem s_test (h : te σ H fun x H' => ∃ k, x = .bl k ∧ QT k H') : tTest te σ H QT := h
theorem s_B (h : te σ H fun x H' => ∃ k, x = .bl k ∧ QT k H') : tB te σ H QT := h
theorem s_and (h : c σ H fun k H1 => if k = true then c' σ H1 QT else QT false H1) : tAnd c c' σ H QT := h
theorem s_or (h : c σ H fun k H1 => if k = true then QT true H1 else c' σ H1 QT) : tOr c c' σ H QT := h
theorem s_not (h : c σ H fun k H1 => QT (!k) H1) : tNot c σ H QT := h
theorem s_andV (h : ta σ H fun x H1 => ∃ k, x = .bl k ∧ if k = true then tb σ H1 Q else Q (.bl false) H1) : tAndV ta tb σ H Q := h
theorem s_orV (h : ta σ H fun x H1 => ∃ k, x = .bl k ∧ if k = true then Q (.bl true) H1 else tb σ H1 Q) : tOrV ta tb σ H Q := h
theorem s_notV (h : ta σ H fun x H1 => ∃ k, x = .bl k ∧ Q (.bl (!k)) H1) : tNotV ta σ H Q := h
theorem s_exbP {P : Bool → Prop} (q : P b) : ∃ k, V.bl b = .bl k ∧ P k := ⟨b, rfl, q⟩
theorem s_if (h : c σ H fun k H1 => if k = true then ta σ H1 Q else tb σ H1 Q) : tIf c ta tb σ H Q := h
theorem s_nil (q : QA [] H) : tNil σ H QA := q
theorem s_cons (h : ta σ H fun x H1 => tr σ H1 fun xs H2 => QA (x :: xs) H2) : tCons ta tr σ H QA := h
theorem s_tup (h : tr σ H fun xs H1 => xs.length ≤ sizeLine ∧ ∀ p, H1 p = none → Q (.ref p) (upd H1 p (.tup xs))) : tTup tr σ H Q := h
theorem s_lst (h : tr σ H fun xs H1 => xs.length ≤ sizeLine ∧ ∀ p, H1 p = none → Q (.ref p) (upd H1 p (.lst xs))) : tLst tr σ H Q := h
theorem s_CB {r : List V → Hp → VK → Prop} (h : tr σ H fun vs H1 => r vs H1 Q) : tCB r tr σ H Q := h
theorem s_BM {T : String} {r : V → List V → Hp → VK → Prop} (h : te σ H fun x H1 => tyV K T x H1 ∧ tr σ H1 fun xs H2 => r x xs H2 Q) : tBM K T r te tr σ H Q := h
theorem s_BM0 {T : String} {r : V → List V → Hp → VK → Prop} (h : te σ H fun x H1 => tyV K T x H1 ∧ r x [] H1 Q) : tBM0 K T r te σ H Q := h
theorem s_call {sp : Sp} {E : XK} (h : tr σ H fun vs H1 => sp vs H1 Q E) : tCall sp [] E tr σ H Q := by
  unfold tCall
  simpa only [List.append_nil] using h
theorem s_seq (h : t ⟨fun σ' H' => u ⟨nx, rt, bk, ct⟩ σ' H', rt, bk, ct⟩ σ H) : tSeq t u ⟨nx, rt, bk, ct⟩ σ H := h
theorem s_ret (h : te σ H rt) : tRet te ⟨nx, rt, bk, ct⟩ σ H := h
theorem s_retN (h : rt .non H) : tRetN ⟨nx, rt, bk, ct⟩ σ H := h
theorem s_next (h : nx σ H) : tNext ⟨nx, rt, bk, ct⟩ σ H := h
theorem s_break (h : bk σ H) : tBreak ⟨nx, rt, bk, ct⟩ σ H := h
theorem s_cont (h : ct σ H) : tCont ⟨nx, rt, bk, ct⟩ σ H := h
theorem s_asg {g : TG} (h : te σ H fun x H1 => g x σ H1 nx) : tAsg te g ⟨nx, rt, bk, ct⟩ σ H := h
theorem s_name (e : σ.set i (some v) = σ') (h : nx σ' H) : gName i v σ H nx := by unfold gName; rw [e]; exact h
theorem s_drop (h : te σ H fun _ H1 => nx σ H1) : tDrop te ⟨nx, rt, bk, ct⟩ σ H := h
theorem s_ifS (h : c σ H fun k H1 => if k = true then t ⟨nx, rt, bk, ct⟩ σ H1 else u ⟨nx, rt, bk, ct⟩ σ H1) : tIfS c t u ⟨nx, rt, bk, ct⟩ σ H := h
theorem s_par (h : tr σ H fun vs H1 => rPar i j σ nx vs H1) : tPar i j tr ⟨nx, rt, bk, ct⟩ σ H := h
theorem s_par2 (e : (σ.set i (some v)).set j (some x) = σ') (h : nx σ' H) : rPar i j σ nx [v, x] H := ⟨v, x, rfl, by rw [e]; exact h⟩
theorem s_sub {ti to : TE} {s : TSet} {w : V} (h : to σ H fun o H1 => ti σ H1 fun i H2 => s o i w H2 fun H3 => nx σ H3) : gSub to ti s w σ H nx := h
theorem s_setL {xs : List V} {k : Int} {n : Nat} {w : V} {R : Hp → Prop} (h : H p = some (.lst xs)) (e : ixN xs.length k = some n) (q : R (upd H p (.lst (xs.set n w)))) : rSetL (.ref p) (.int k) w H R := ⟨p, xs, k, n, rfl, rfl, h, e, q⟩
theorem s_ixL {xs : List V} {k : Int} (h : SqL K H p xs) (e : atI xs k = some v) (q : Q v H) : rIx K (.ref p) (.int k) H Q := .inl ⟨p, xs, k, v, rfl, rfl, h, e, q⟩
theorem s_ixT {xs : List V} {k : Int} (h : SqT K H p xs) (e : atI xs k = some v) (q : Q v H) : rIx K (.ref p) (.int k) H Q := .inr (.inl ⟨p, xs, k, v, rfl, rfl, h, e, q⟩)
theorem s_ixS {w : Str} {k : Int} {n : Nat} (h : w.length ≤ sizeLine) (e : atI w.cps.toList k = some n) (q : Q (.str ⟨#[n]⟩) H) : rIx K (.str w) (.int k) H Q := .inr (.inr ⟨w, k, n, rfl, rfl, h, e, q⟩)
end steps
theorem if_bl {b : Bool} {A B : Prop} (h1 : b = true → A) (h2 : b = false → B) : if b = true then A else B := by
  cases b
  · exact iteF (h2 rfl)
  · exact iteT (h1 rfl)
theorem ite_t {b : Bool} {A B : Prop} (e : b = true) (h : A) : if b = true then A else B := by rw [if_pos e]; exact h
theorem ite_f {b : Bool} {A B : Prop} (e : b = false) (h : B) : if b = true then A else B := by rw [if_neg (by rw [e]; exact Bool.false_ne_true)]; exact h
theorem ndec_t {p : Prop} [Decidable p] (h : ¬ p) : (!decide p) = true := by rw [decide_eq_false h]; rfl
theorem ndec_f {p : Prop} [Decidable p] (h : p) : (!decide p) = false := by rw [decide_eq_true h]; rfl
theorem szb {n : Nat} (h : Nat.ble n 1000 = true) : n ≤ sizeLine := Nat.le_trans (Nat.le_of_ble_eq_true h) (by decide)
theorem sz {n : Nat} (h : n ≤ 1000) : n ≤ sizeLine := Nat.le_trans h (by decide)
def rAddG (K : PySem.W.Frag) : R2 := fun x y H Q => rI0 (fun i j => .int (i + j)) x y H Q ∨ (∃ i j, x = .str i ∧ y = .str j ∧ i.length + j.length ≤ sizeLine ∧ Q (.str (i ++ j)) H) ∨ rCatA K x y H Q ∨ rCat x y H Q
theorem opAdd {X : Cx} : OpR X (binaryOp .Add) (rAddG X.K) := op_add.or (op_add_str.or (op_catA.or op_cat))
def rEqG' (K : PySem.W.Frag) : R2 := fun x y H Q => rEq x y H Q ∨ rEqD K x y H Q
def rNeG' (K : PySem.W.Frag) : R2 := fun x y H Q => rNe x y H Q ∨ rNeD K x y H Q
theorem opEq {X : Cx} (hu : X.A.units + 64 < cLine) : OpR X (compareOp .Eq) (rEqG' X.K) := op_eq.or (op_eqD hu)
theorem opNe {X : Cx} (hu : X.A.units + 64 < cLine) : OpR X (compareOp .NotEq) (rNeG' X.K) := op_ne.or (op_neD hu)
section
variable {K : PySem.W.Frag} {H : Hp} {Q : VK} {x y : V} {m n : Int} {s t : Str}
theorem s_addI (q : Q (.int (m + n)) H) : rAddG K (.int m) (.int n) H Q := .inl (s_rI0 q)
theorem s_addS (h : s.length + t.length ≤ sizeLine) (q : Q (.str (s ++ t)) H) : rAddG K (.str s) (.str t) H Q := .inr (.inl ⟨s, t, rfl, rfl, h, q⟩)
theorem s_eqI (q : Q (.bl (decide (m = n))) H) : rEqG' K (.int m) (.int n) H Q := .inl (s_rEqI q)
theorem s_neI (q : Q (.bl (!decide (m = n))) H) : rNeG' K (.int m) (.int n) H Q := .inl (s_rNeI q)
theorem s_eqS (q : Q (.bl (decide (s = t))) H) : rEqG' K (.str s) (.str t) H Q := .inl (s_rEqS q)
theorem s_neS (q : Q (.bl (!decide (s = t))) H) : rNeG' K (.str s) (.str t) H Q := .inl (s_rNeS q)
theorem s_eqB {b c : Bool} (q : Q (.bl (decide (b = c))) H) : rEqG' K (.bl b) (.bl c) H Q := .inl (s_rEqB q)
theorem s_neB {b c : Bool} (q : Q (.bl (!decide (b = c))) H) : rNeG' K (.bl b) (.bl c) H Q := .inl (s_rNeB q)
/-- int(x), len(x), list(x), by names -/
def rInt1 : List V → Hp → VK → Prop := fun xs H Q => (∃ i, xs = [.int i] ∧ Q (.int i) H) ∨ ∃ k, xs = [.bl k] ∧ Q (.int (if k then 1 else 0)) H
theorem callInt {X : Cx} : CallR X (.type "int") rInt1 := call_int1
theorem s_int1 (q : Q (.int m) H) : rInt1 [.int m] H Q := .inl ⟨m, rfl, q⟩
theorem s_int1b {b : Bool} (q : Q (.int (if b then 1 else 0)) H) : rInt1 [.bl b] H Q := .inr ⟨b, rfl, q⟩
def rLen (K : PySem.W.Frag) : List V → Hp → VK → Prop := fun xs H Q => (∃ p ys, xs = [.ref p] ∧ (SqL K H p ys ∨ SqT K H p ys) ∧ Q (.int ys.length) H) ∨ (∃ z, xs = [.str z] ∧ z.length ≤ sizeLine ∧ Q (.int z.length) H) ∨ ∃ a kvs, xs = [V.ref a] ∧ H a = some (.dK kvs) ∧ Q (.int kvs.length) H
theorem callLen {X : Cx} : CallR X (.builtin "len") (rLen X.K) := call_len_seq.or (call_len_str.or call_lenD)
theorem s_lenL {p : Addr} {xs : List V} (h : SqL K H p xs) (q : Q (.int xs.length) H) : rLen K [.ref p] H Q := .inl ⟨p, xs, rfl, .inl h, q⟩
theorem s_lenT {p : Addr} {xs : List V} (h : SqT K H p xs) (q : Q (.int xs.length) H) : rLen K [.ref p] H Q := .inl ⟨p, xs, rfl, .inr h, q⟩
theorem s_lenS {z : Str} (h : z.length ≤ sizeLine) (q : Q (.int z.length) H) : rLen K [.str z] H Q := .inr (.inl ⟨z, rfl, h, q⟩)
def rList (K : PySem.W.Frag) : List V → Hp → VK → Prop := fun xs H Q => ∃ p ys, xs = [.ref p] ∧ (SqL K H p ys ∨ SqT K H p ys) ∧ ∀ l, H l = none → Q (.ref l) (upd H l (.lst ys))
theorem callList {X : Cx} : CallR X (.type "list") (rList X.K) := call_list_of
theorem s_listL {p : Addr} {xs : List V} (h : SqL K H p xs) (q : ∀ l, H l = none → Q (.ref l) (upd H l (.lst xs))) : rList K [.ref p] H Q := ⟨p, xs, rfl, .inl h, q⟩
theorem s_listT {p : Addr} {xs : List V} (h : SqT K H p xs) (q : ∀ l, H l = none → Q (.ref l) (upd H l (.lst xs))) : rList K [.ref p] H Q := ⟨p, xs, rfl, .inr h, q⟩
def rTuple (K : PySem.W.Frag) : List V → Hp → VK → Prop := fun xs H Q => ∃ p ys, xs = [.ref p] ∧ ((SqL K H p ys ∧ ∀ l, H l = none → Q (.ref l) (upd H l (.tup ys))) ∨ (SqT K H p ys ∧ Q (.ref p) H))
theorem callTuple {X : Cx} : CallR X (.type "tuple") (rTuple X.K) := call_tuple_of
theorem s_tupleL {p : Addr} {xs : List V} (h : SqL K H p xs) (q : ∀ l, H l = none → Q (.ref l) (upd H l (.tup xs))) : rTuple K [.ref p] H Q := ⟨p, xs, rfl, .inl ⟨h, q⟩⟩
theorem s_tupleT {p : Addr} {xs : List V} (h : SqT K H p xs) (q : Q (.ref p) H) : rTuple K [.ref p] H Q := ⟨p, xs, rfl, .inr ⟨h, q⟩⟩
theorem s_mul (h : (-(2 ^ 64) < m ∧ m < 2 ^ 64) ∨ (-(2 ^ 64) < n ∧ n < 2 ^ 64)) (q : Q (.int (m * n)) H) : rI CMul (fun i j => .int (i * j)) (.int m) (.int n) H Q := s_rI (C := CMul) h q
theorem s_fdiv (h : 0 < n ∧ n < 1073741824) (q : Q (.int (m / n)) H) : rI CDiv (fun i j => .int (i / j)) (.int m) (.int n) H Q := s_rI (C := CDiv) h q
theorem s_mod (h : 0 < n) (q : Q (.int (m % n)) H) : rI (fun _ j => 0 < j) (fun i j => .int (i % j)) (.int m) (.int n) H Q := s_rI (C := fun _ j => 0 < j) h q
theorem s_pow (h : 0 ≤ n ∧ n ≤ 1000000 ∧ m.natAbs < 2 ^ 64) (q : Q (.int (m ^ n.toNat)) H) : rI CPow (fun i j => .int (i ^ j.toNat)) (.int m) (.int n) H Q := s_rI (C := CPow) h q
theorem s_pow9 (q : Q (.int 1000000000) H) : rI CPow (fun i j => .int (i ^ j.toNat)) (.int 10) (.int 9) H Q := s_pow ⟨by decide, by decide, by decide⟩ (by
  rw [show (10 : Int) ^ (9 : Int).toNat = 1000000000 by decide]; exact q)
theorem s_pow18 (q : Q (.int 1000000000000000000) H) : rI CPow (fun i j => .int (i ^ j.toNat)) (.int 10) (.int 18) H Q := s_pow ⟨by decide, by decide, by decide⟩ (by
  rw [show (10 : Int) ^ (18 : Int).toNat = 1000000000000000000 by decide]; exact q)
end
theorem s_isN {σ : St} {H : Hp} {Q : VK} {ta : TE} (h : ta σ H fun x H1 => Q (.bl (decide (x = .non))) H1) : tIsN ta σ H Q := h
theorem s_notN {σ : St} {H : Hp} {Q : VK} {ta : TE} (h : ta σ H fun x H1 => Q (.bl (!decide (x = .non))) H1) : tNotN ta σ H Q := h
abbrev opMul {X : Cx} := @op_mul X
abbrev opDiv {X : Cx} := @op_fdiv X
theorem at0 {α : Type} {x0 : α} {l : List α} : atI (x0 :: l) 0 = some x0 := atI_nat (j := 0) rfl
theorem ix0 {x0 : V} {l : List V} : ixN (x0 :: l).length 0 = some 0 := by
  have h : (0 : Int) < ((x0 :: l).length : Nat) := by simp only [List.length_cons]; omega
  unfold ixN
  rw [if_pos (by decide), if_pos h]
  rfl
theorem at1 {α : Type} {x0 x1 : α} {l : List α} : atI (x0 :: x1 :: l) 1 = some x1 := atI_nat (j := 1) rfl
theorem ix1 {x0 x1 : V} {l : List V} : ixN (x0 :: x1 :: l).length 1 = some 1 := by
  have h : (1 : Int) < ((x0 :: x1 :: l).length : Nat) := by simp only [List.length_cons]; omega
  unfold ixN
  rw [if_pos (by decide), if_pos h]
  rfl
theorem at2 {α : Type} {x0 x1 x2 : α} {l : List α} : atI (x0 :: x1 :: x2 :: l) 2 = some x2 := atI_nat (j := 2) rfl
theorem ix2 {x0 x1 x2 : V} {l : List V} : ixN (x0 :: x1 :: x2 :: l).length 2 = some 2 := by
  have h : (2 : Int) < ((x0 :: x1 :: x2 :: l).length : Nat) := by simp only [List.length_cons]; omega
  unfold ixN
  rw [if_pos (by decide), if_pos h]
  rfl
theorem at3 {α : Type} {x0 x1 x2 x3 : α} {l : List α} : atI (x0 :: x1 :: x2 :: x3 :: l) 3 = some x3 := atI_nat (j := 3) rfl
theorem ix3 {x0 x1 x2 x3 : V} {l : List V} : ixN (x0 :: x1 :: x2 :: x3 :: l).length 3 = some 3 := by
  have h : (3 : Int) < ((x0 :: x1 :: x2 :: x3 :: l).length : Nat) := by simp only [List.length_cons]; omega
  unfold ixN
  rw [if_pos (by decide), if_pos h]
  rfl
theorem at4 {α : Type} {x0 x1 x2 x3 x4 : α} {l : List α} : atI (x0 :: x1 :: x2 :: x3 :: x4 :: l) 4 = some x4 := atI_nat (j := 4) rfl
theorem ix4 {x0 x1 x2 x3 x4 : V} {l : List V} : ixN (x0 :: x1 :: x2 :: x3 :: x4 :: l).length 4 = some 4 := by
  have h : (4 : Int) < ((x0 :: x1 :: x2 :: x3 :: x4 :: l).length : Nat) := by simp only [List.length_cons]; omega
  unfold ixN
  rw [if_pos (by decide), if_pos h]
  rfl
theorem at5 {α : Type} {x0 x1 x2 x3 x4 x5 : α} {l : List α} : atI (x0 :: x1 :: x2 :: x3 :: x4 :: x5 :: l) 5 = some x5 := atI_nat (j := 5) rfl
theorem ix5 {x0 x1 x2 x3 x4 x5 : V} {l : List V} : ixN (x0 :: x1 :: x2 :: x3 :: x4 :: x5 :: l).length 5 = some 5 := by
  have h : (5 : Int) < ((x0 :: x1 :: x2 :: x3 :: x4 :: x5 :: l).length : Nat) := by simp only [List.length_cons]; omega
  unfold ixN
  rw [if_pos (by decide), if_pos h]
  rfl
theorem at6 {α : Type} {x0 x1 x2 x3 x4 x5 x6 : α} {l : List α} : atI (x0 :: x1 :: x2 :: x3 :: x4 :: x5 :: x6 :: l) 6 = some x6 := atI_nat (j := 6) rfl
theorem ix6 {x0 x1 x2 x3 x4 x5 x6 : V} {l : List V} : ixN (x0 :: x1 :: x2 :: x3 :: x4 :: x5 :: x6 :: l).length 6 = some 6 := by
  have h : (6 : Int) < ((x0 :: x1 :: x2 :: x3 :: x4 :: x5 :: x6 :: l).length : Nat) := by simp only [List.length_cons]; omega
  unfold ixN
  rw [if_pos (by decide), if_pos h]
  rfl
theorem at7 {α : Type} {x0 x1 x2 x3 x4 x5 x6 x7 : α} {l : List α} : atI (x0 :: x1 :: x2 :: x3 :: x4 :: x5 :: x6 :: x7 :: l) 7 = some x7 := atI_nat (j := 7) rfl
theorem ix7 {x0 x1 x2 x3 x4 x5 x6 x7 : V} {l : List V} : ixN (x0 :: x1 :: x2 :: x3 :: x4 :: x5 :: x6 :: x7 :: l).length 7 = some 7 := by
  have h : (7 : Int) < ((x0 :: x1 :: x2 :: x3 :: x4 :: x5 :: x6 :: x7 :: l).length : Nat) := by simp only [List.length_cons]; omega
  unfold ixN
  rw [if_pos (by decide), if_pos h]
  rfl
/-- a for over a walk -/
def ForGo (g : TG) (tb : TS) (nx : St → Hp → Prop) (rt : VK) (σ : St) : It → Hp → Prop := fun J H => ∃ W : Nat → Nat → St → Hp → Prop, (∃ m, W 0 m σ H) ∧ ∀ i m σ H, W i m σ H →
      (J.stop i H ∧ nx σ H) ∨ (J.go i H ∧ ∃ N : St → Hp → Prop, (∀ σ' H', N σ' H' → ∃ m', m' < m ∧ W (i + 1) m' σ' H') ∧ ∀ x H', J.yld i H x H' → g x σ H' fun σ2 H2 => tb ⟨N, rt, nx, N⟩ σ2 H2)
theorem walk_range0 {n : Nat} : Walk (Itr 0 n) n (fun _ => True) (YFn fun i => .int (i : Nat)) :=
  ⟨fun _ _ hi _ => hi, fun _ _ => Nat.le_refl _, fun i H x H' _ _ y => ⟨y.1, by rw [y.2, Int.zero_add]⟩⟩
def rRng1 : List V → Hp → (It → Hp → Prop) → Prop := fun vs H R => ∃ j : Int, vs = [.int j] ∧ -(2 ^ 62) ≤ j ∧ j < 2 ^ 62 ∧ R (Itr 0 j.toNat) H
def rRng2 : List V → Hp → (It → Hp → Prop) → Prop := fun vs H R => ∃ i j : Int, vs = [.int i, .int j] ∧ (-(2 ^ 62) ≤ i ∧ i < 2 ^ 62 ∧ -(2 ^ 62) ≤ j ∧ j < 2 ^ 62) ∧ R (Itr i (j - i).toNat) H
def rLst1 (K : PySem.W.Frag) : V → Hp → (It → Hp → Prop) → Prop := fun x H R => ∃ a, x = .ref a ∧ (∃ xs, SqL K H a xs) ∧ R (Itl K a) H
def rTup1 (K : PySem.W.Frag) : V → Hp → (It → Hp → Prop) → Prop := fun x H R => ∃ a, x = .ref a ∧ (∃ xs, SqT K H a xs) ∧ R (Itt K a) H
section
variable {σ : St} {H : Hp} {R : It → Hp → Prop} {ta : TA} {tl : TE} {K : PySem.W.Frag} {a : Addr} {xs : List V} {m n : Int}
theorem s_iRng1 (h : ta σ H fun vs H1 => rRng1 vs H1 R) : iRng1 ta σ H R := h
theorem s_iRng2 (h : ta σ H fun vs H1 => rRng2 vs H1 R) : iRng2 ta σ H R := h
theorem s_iList (h : tl σ H fun x H1 => rLst1 K x H1 R) : iList K tl σ H R := h
theorem s_iTup (h : tl σ H fun x H1 => rTup1 K x H1 R) : iTup K tl σ H R := h
theorem s_rng1 (h : -4611686018427387904 ≤ n ∧ n < 4611686018427387904) (q : R (Itr 0 n.toNat) H) : rRng1 [.int n] H R := ⟨n, rfl, h.1, h.2, q⟩
theorem s_rng2 (h : -4611686018427387904 ≤ m ∧ m < 4611686018427387904 ∧ -4611686018427387904 ≤ n ∧ n < 4611686018427387904) (q : R (Itr m (n - m).toNat) H) : rRng2 [.int m, .int n] H R := ⟨m, n, rfl, h, q⟩
theorem s_lst1 (h : SqL K H a xs) (q : R (Itl K a) H) : rLst1 K (.ref a) H R := ⟨a, rfl, ⟨xs, h⟩, q⟩
theorem s_tup1 (h : SqT K H a xs) (q : R (Itt K a) H) : rTup1 K (.ref a) H R := ⟨a, rfl, ⟨xs, h⟩, q⟩
end
theorem s_for {σ : St} {H : Hp} {nx bk ct : St → Hp → Prop} {rt : VK} {wi : TI} {g : TG} {tb : TS} (h : wi σ H (ForGo g tb nx rt σ)) : tFor wi g tb ⟨nx, rt, bk, ct⟩ σ H := h
def rSlG (K : PySem.W.Frag) : V → Option Int → Option Int → Hp → VK → Prop := fun x lo hi H Q => rSlL K x lo hi H Q ∨ rSlA K x lo hi H Q ∨ rSlS x lo hi H Q
theorem opSl {X : Cx} : SlR X (rSlG X.K) := sl_list.or (sl_tupA.or sl_str)
theorem s_slL {K : PySem.W.Frag} {H : Hp} {Q : VK} {p : Addr} {xs : List V} {lo hi : Option Int} (h : SqL K H p xs) (q : ∀ l, H l = none → Q (.ref l) (upd H l (.lst (cutV xs lo hi)))) : rSlG K (.ref p) lo hi H Q := .inl ⟨p, xs, rfl, h, q⟩
theorem s_slS {K : PySem.W.Frag} {H : Hp} {Q : VK} {z : Str} {lo hi : Option Int} (h : z.length ≤ sizeLine) (q : Q (.str (cutS z lo hi)) H) : rSlG K (.str z) lo hi H Q := .inr (.inr ⟨z, rfl, h, q⟩)
theorem s_sl {σ : St} {H : Hp} {Q : VK} {r : V → Option Int → Option Int → Hp → VK → Prop} {te : TE} {tl th : TO} (h : te σ H fun x H1 => tl σ H1 fun l H2 => th σ H2 fun u H3 => r x l u H3 Q) : tSl r te tl th σ H Q := h
theorem s_noPart {σ : St} {H : Hp} {Q : Option Int → Hp → Prop} (q : Q none H) : tNoPart σ H Q := q
theorem s_part {σ : St} {H : Hp} {Q : Option Int → Hp → Prop} {t : TE} (h : t σ H fun x H1 => ∃ i, x = .int i ∧ Q (some i) H1) : tPart t σ H Q := h
theorem s_exi {m : Int} {P : Int → Prop} (q : P m) : ∃ i, V.int m = .int i ∧ P i := ⟨m, rfl, q⟩
theorem s_bits {σ : St} {H : Hp} {Q : VK} {to : TE} (h : to σ H fun x H1 => ∃ i, x = .int i ∧ Q (.int (Builtin.Int.intBits i : Nat)) H1) : tBits to σ H Q := h
end My
namespace My
open PySem PySem.Spec PyProof.Rows L2 RZ
/-- all that was tracked outside N is as it was; tuples stay anyway -/
structure Fr (N : Addr → Prop) (H H' : Hp) : Prop where
  tup : ∀ a xs, H a = some (.tup xs) → H' a = some (.tup xs)
  keep : ∀ a o, H a = some o → ¬ N a → H' a = some o
  hd : ∀ a x r, H a = some (.lst (.ref x :: r)) → ∃ r', H' a = some (.lst (.ref x :: r'))
abbrev N0 : Addr → Prop := fun _ => False
theorem Fr.refl {N : Addr → Prop} {H : Hp} : Fr N H H := ⟨fun _ _ h => h, fun _ _ h _ => h, fun _ _ _ h => ⟨_, h⟩⟩
theorem Fr.trans {N : Addr → Prop} {H H1 H2 : Hp} (a : Fr N H H1) (b : Fr N H1 H2) : Fr N H H2 := ⟨fun c o h => b.tup c o (a.tup c o h), fun c o h n => b.keep c o (a.keep c o h n) n, fun c x r h => let ⟨_, h'⟩ := a.hd c x r h; b.hd c x _ h'⟩
theorem Fr.mono {N N' : Addr → Prop} {H H' : Hp} (a : Fr N H H') (h : ∀ x, N x → N' x) : Fr N' H H' := ⟨a.tup, fun c o e n => a.keep c o e fun z => n (h c z), a.hd⟩
theorem Fr.same {H H' : Hp} (a : Fr N0 H H') : Same H H' := fun b o e => a.keep b o e id
theorem Fr.ofSame {N : Addr → Prop} {H H' : Hp} (a : Same H H') : Fr N H H' := ⟨fun b xs e => a b _ e, fun b o e _ => a b o e, fun b x r e => ⟨_, a b _ e⟩⟩
theorem Fr.new {N : Addr → Prop} {H : Hp} {p : Addr} {o : HO} (h : H p = none) : Fr N H (upd H p o) := .ofSame fun b x e => by
  rw [upd_ne (ne_of_none e h)]
  exact e
theorem Fr.wr {N : Addr → Prop} {H : Hp} {p : Addr} {o : HO} {xs : List V} (h : H p = some (.lst xs)) (n : N p) (hh : ∀ x r, xs = .ref x :: r → ∃ r', o = .lst (.ref x :: r') := by (rintro _ _ ⟨⟩; exact ⟨_, rfl⟩)) : Fr N H (upd H p o) := ⟨fun b ys e => by
  rw [upd_ne (ne_of e h (by intro z; cases z))]
  exact e, fun b x e nb => by
  rw [upd_ne (fun z => nb (by rw [z]; exact n))]
  exact e, fun b x r e => by
  by_cases hb : b = p
  · rw [hb, h] at e
    obtain ⟨r', e'⟩ := hh x r (HO.lst.inj (Option.some.inj e))
    exact ⟨r', by rw [hb, upd_same, e']⟩
  · exact ⟨r, by rw [upd_ne hb]; exact e⟩⟩
/-- an object that H does not know may change -/
theorem Fr.mut {N : Addr → Prop} {H H' : Hp} {p : Addr} {o : HO} (f : Fr N H H') (h : H p = none) : Fr N H (upd H' p o) := ⟨fun a xs e => by
  rw [upd_ne (ne_of_none e h)]
  exact f.tup a xs e, fun a x e n => by
  rw [upd_ne (ne_of_none e h)]
  exact f.keep a x e n, fun a x r e => by
  rw [upd_ne (ne_of_none e h)]
  exact f.hd a x r e⟩
theorem Fr.free {N : Addr → Prop} {H H' : Hp} {p : Addr} (a : Fr N H H') (h : H' p = none) (n : ¬ N p) : H p = none := by
  cases q : H p with
  | none => rfl
  | some o => rw [a.keep p o q n] at h; cases h
theorem nat0 {p : Int} (h : 0 ≤ p) : ∃ j : Nat, p = (j : Int) := ⟨p.toNat, by omega⟩
/-- the bag of draws at b -/
structure Bag (b : Addr) (H : Hp) : Prop where
  ex : ∃ (c : Addr) (ns : List Int) (p cur seed : Int), H b = some (.lst [.ref c, .int p, .int cur, .int seed]) ∧ H c = some (.lst (ns.map V.int)) ∧ ns.length ≤ 63 ∧ 0 ≤ p ∧ 0 ≤ cur ∧ 0 ≤ seed ∧ seed < 2147483563
theorem Bag.some {b : Addr} {H : Hp} (B : Bag b H) : ∃ xs, H b = some (.lst xs) := let ⟨_, _, _, _, _, h, _⟩ := B.ex; ⟨_, h⟩
end My
namespace My
open PySem PySem.Spec PyProof.Rows L2 RZ
/-- a tuple at a: tracked, or of the written part -/
def TupAt (K : PySem.W.Frag) (H : Hp) (a : Addr) (xs : List V) : Prop :=
  H a = some (.tup xs) ∨ ∃ (o : Obj) (its : Array Value) (n : Nat), K.lookup a = some o ∧ o.cls = .type "tuple" ∧ o.data = .seq its n ∧ its.size ≤ sizeLine ∧ Vals xs its.toList
theorem TupAt.sq {K : PySem.W.Frag} {H : Hp} {a : Addr} {xs : List V} (h : TupAt K H a xs) : SqT K H a xs := by
  rcases h with h | h
  · exact .inl (.inl h)
  · exact .inr h
theorem TupAt.of {K : PySem.W.Frag} {H : Hp} {a : Addr} {xs : List V} (h : H a = some (.tup xs)) : TupAt K H a xs := .inl h
def keyD : Key → PyData
  | .inl i => .int i
  | .inr s => .str s
mutual
inductive Hd (N : Addr → Prop) (K : PySem.W.Frag) (H : Hp) : V → PyData → Prop
  | non : Hd N K H .non .none
  | bl (b : Bool) : Hd N K H (.bl b) (.bool b)
  | int (i : Int) : Hd N K H (.int i) (.int i)
  | str (x : Str) : Hd N K H (.str x) (.str x)
  | lst {a : Addr} {xs : List V} {ds : List PyData} : H a = some (.lst xs) → ¬ N a → HdL N K H xs ds → Hd N K H (.ref a) (.list ds)
  | tup {a : Addr} {xs : List V} {ds : List PyData} : TupAt K H a xs → HdL N K H xs ds → Hd N K H (.ref a) (.tuple ds)
  | dct {a : Addr} {kvs : List (Key × V)} {ds : List (PyData × PyData)} : H a = some (.dK kvs) → ¬ N a → HdK N K H kvs ds → Hd N K H (.ref a) (.dict ds)
inductive HdL (N : Addr → Prop) (K : PySem.W.Frag) (H : Hp) : List V → List PyData → Prop
  | nil : HdL N K H [] []
  | cons {v : V} {vs : List V} {d : PyData} {ds : List PyData} : Hd N K H v d → HdL N K H vs ds → HdL N K H (v :: vs) (d :: ds)
inductive HdK (N : Addr → Prop) (K : PySem.W.Frag) (H : Hp) : List (Key × V) → List (PyData × PyData) → Prop
  | nil : HdK N K H [] []
  | cons {k : Key} {v : V} {vs : List (Key × V)} {d : PyData} {ds : List (PyData × PyData)} : Hd N K H v d → HdK N K H vs ds → HdK N K H ((k, v) :: vs) ((keyD k, d) :: ds)
end
section
variable {N N' : Addr → Prop} {K : PySem.W.Frag} {H H' : Hp}
mutual
theorem Hd.sub (f : ∀ a, N' a → N a) : ∀ (d : PyData) (v : V), Hd N K H v d → Hd N' K H v d
  | .none, _, h => by cases h; exact .non
  | .bool b, _, h => by cases h; exact .bl b
  | .int i, _, h => by cases h; exact .int i
  | .str x, _, h => by cases h; exact .str x
  | .list ds, _, h => by
    cases h with
    | lst e n r => exact .lst e (fun z => n (f _ z)) (HdL.sub f ds _ r)
  | .tuple ds, _, h => by
    cases h with
    | tup e r => exact .tup e (HdL.sub f ds _ r)
  | .dict ds, _, h => by
    cases h with
    | dct e n r => exact .dct e (fun z => n (f _ z)) (HdK.sub f ds _ r)
theorem HdL.sub (f : ∀ a, N' a → N a) : ∀ (ds : List PyData) (vs : List V), HdL N K H vs ds → HdL N' K H vs ds
  | [], _, h => by cases h; exact .nil
  | d :: ds, _, h => by
    cases h with
    | cons a b => exact .cons (Hd.sub f d _ a) (HdL.sub f ds _ b)
theorem HdK.sub (f : ∀ a, N' a → N a) : ∀ (ds : List (PyData × PyData)) (vs : List (Key × V)), HdK N K H vs ds → HdK N' K H vs ds
  | [], _, h => by cases h; exact .nil
  | (_, d) :: ds, _, h => by
    cases h with
    | cons a b => exact .cons (Hd.sub f d _ a) (HdK.sub f ds _ b)
end
mutual
theorem Hd.dp : ∀ (d : PyData) (v : V), Hd N K H v d → d.canLay0 = true → Dp K H v d
  | .none, _, h, _ => by cases h; exact .non
  | .bool b, _, h, _ => by cases h; exact .bl b
  | .int i, _, h, _ => by cases h; exact .int i
  | .str x, _, h, _ => by cases h; exact .str x
  | .list ds, _, h, c => by
    cases h with
    | lst e n r => exact .lst (SqL.of e) (HdL.dp ds _ r (by simpa [PyData.canLay0] using c))
  | .tuple ds, _, h, c => by
    cases h with
    | tup e r => exact .tup e.sq (HdL.dp ds _ r (by simpa [PyData.canLay0] using c))
  | .dict ds, _, h, c => by simp [PyData.canLay0] at c
theorem HdL.dp : ∀ (ds : List PyData) (vs : List V), HdL N K H vs ds → PyData.canLayAll0 ds = true → DpAll K H vs ds
  | [], _, h, _ => by cases h; exact .nil
  | d :: ds, _, h, c => by
    cases h with
    | cons a b =>
      have c' : d.canLay0 = true ∧ PyData.canLayAll0 ds = true := by simpa [PyData.canLayAll0] using c
      exact .cons (Hd.dp d _ a c'.1) (HdL.dp ds _ b c'.2)
end
theorem HdL.len : ∀ {ds : List PyData} {vs : List V}, HdL N K H vs ds → vs.length = ds.length
  | [], _, h => by cases h; rfl
  | d :: ds, _, h => by
    cases h with
    | cons a b => rw [List.length_cons, List.length_cons, HdL.len b]
theorem HdL.get : ∀ {ds : List PyData} {vs : List V} {i : Nat} {v : V}, HdL N K H vs ds → vs[i]? = some v → ∃ d, ds[i]? = some d ∧ Hd N K H v d
  | [], _, _, _, h, e => by cases h; simp at e
  | d :: ds, _, 0, _, h, e => by
    cases h with
    | cons a b => simp at e; subst e; exact ⟨d, rfl, a⟩
  | d :: ds, _, i + 1, _, h, e => by
    cases h with
    | cons a b =>
      obtain ⟨d', e', r⟩ := HdL.get b (by simpa using e)
      exact ⟨d', by simpa using e', r⟩
theorem HdL.app : ∀ {ds es : List PyData} {vs us : List V}, HdL N K H vs ds → HdL N K H us es → HdL N K H (vs ++ us) (ds ++ es)
  | [], _, _, _, h, h' => by cases h; exact h'
  | d :: ds, _, _, _, h, h' => by
    cases h with
    | cons a b => exact .cons a (HdL.app b h')
end
end My
namespace My
open PySem PySem.Spec PyProof.Rows L2 RZ
def tyD : PyData → String
  | .none => "NoneType" | .bool _ => "bool" | .int _ => "int" | .str _ => "str" | .list _ => "list" | .tuple _ => "tuple" | .dict _ => "dict"
section
variable {N : Addr → Prop} {K : PySem.W.Frag} {H : Hp}
theorem TupAt.ty {a : Addr} {xs : List V} (h : TupAt K H a xs) : TyX K H (.ref a) (.type "tuple") := by
  rcases h with h | ⟨o, its, n, hk, hc, _⟩
  · exact .base (.tup h)
  · exact .kTuple hk hc
theorem Hd.ty : ∀ {d : PyData} {v : V}, Hd N K H v d → TyX K H v (.type (tyD d))
  | .none, _, h => by cases h; exact .base .non
  | .bool b, _, h => by cases h; exact .base (.bl b)
  | .int i, _, h => by cases h; exact .base (.int i)
  | .str x, _, h => by cases h; exact .base (.str x)
  | .list ds, _, h => by
    cases h with
    | lst e n r => exact .base (.lst e)
  | .tuple ds, _, h => by
    cases h with
    | tup e r => exact e.ty
  | .dict ds, _, h => by
    cases h with
    | dct e n r => exact .base (.dK e)
def isList : PyData → Bool | .list _ => true | _ => false
def isTup : PyData → Bool | .tuple _ => true | _ => false
def isDict : PyData → Bool | .dict _ => true | _ => false
def isBool : PyData → Bool | .bool _ => true | _ => false
def isInt : PyData → Bool | .bool _ => true | .int _ => true | _ => false
def isStr : PyData → Bool | .str _ => true | _ => false
theorem kit_list (d : PyData) : kitB (tyD d) "list" = some (isList d) := by cases d <;> simp only [tyD, isList, isTup, isDict, isBool, isInt, isStr] <;> decide +kernel
theorem kit_tuple (d : PyData) : kitB (tyD d) "tuple" = some (isTup d) := by cases d <;> simp only [tyD, isList, isTup, isDict, isBool, isInt, isStr] <;> decide +kernel
theorem kit_dict (d : PyData) : kitB (tyD d) "dict" = some (isDict d) := by cases d <;> simp only [tyD, isList, isTup, isDict, isBool, isInt, isStr] <;> decide +kernel
theorem kit_bool (d : PyData) : kitB (tyD d) "bool" = some (isBool d) := by cases d <;> simp only [tyD, isList, isTup, isDict, isBool, isInt, isStr] <;> decide +kernel
theorem kit_int (d : PyData) : kitB (tyD d) "int" = some (isInt d) := by cases d <;> simp only [tyD, isList, isTup, isDict, isBool, isInt, isStr] <;> decide +kernel
theorem kit_str (d : PyData) : kitB (tyD d) "str" = some (isStr d) := by cases d <;> simp only [tyD, isList, isTup, isDict, isBool, isInt, isStr] <;> decide +kernel
def rIsiG (K : PySem.W.Frag) : List V → Hp → VK → Prop := fun xs H Q => rIsi K xs H Q ∨ rIsiT K xs H Q
theorem callIsi {X : Cx} : CallR X (.builtin "isinstance") (rIsiG X.K) := call_isi.or call_isiT
variable {Q : VK} {x : V} {d : PyData}
theorem s_isi {n : String} {b : Bool} (h : Hd N K H x d) (e : kitB (tyD d) n = some b) (q : Q (.bl b) H) : rIsiG K [x, .ty n] H Q := .inl ⟨x, .ty n, _, _, b, rfl, .ty n, h.ty, kit_ty e, q⟩
theorem s_isi_list (h : Hd N K H x d) (q : Q (.bl (isList d)) H) : rIsiG K [x, .ty "list"] H Q := s_isi h (kit_list d) q
theorem s_isi_tuple (h : Hd N K H x d) (q : Q (.bl (isTup d)) H) : rIsiG K [x, .ty "tuple"] H Q := s_isi h (kit_tuple d) q
theorem s_isi_dict (h : Hd N K H x d) (q : Q (.bl (isDict d)) H) : rIsiG K [x, .ty "dict"] H Q := s_isi h (kit_dict d) q
theorem s_isi_bool (h : Hd N K H x d) (q : Q (.bl (isBool d)) H) : rIsiG K [x, .ty "bool"] H Q := s_isi h (kit_bool d) q
theorem s_isi_int (h : Hd N K H x d) (q : Q (.bl (isInt d)) H) : rIsiG K [x, .ty "int"] H Q := s_isi h (kit_int d) q
theorem s_isi_str (h : Hd N K H x d) (q : Q (.bl (isStr d)) H) : rIsiG K [x, .ty "str"] H Q := s_isi h (kit_str d) q
end
def LcGo (g : TG) (tt : TT) (te : TE) (vs : List Nat) (σ : St) (Q : VK) : It → Hp → Prop := fun J H1 => ∀ D, H1 D = none → ∃ W : Nat → Nat → Hp → Prop, (∃ m, W 0 m (upd H1 D (.lst []))) ∧ ∀ i m H, W i m H →
      (J.stop i H ∧ Q (.ref D) H) ∨ (J.go i H ∧ ∃ Nx : Hp → Prop, (∀ H', Nx H' → ∃ m', m' < m ∧ W (i + 1) m' H') ∧ ∀ x H', J.yld i H x H' → g x (wipe σ vs) H' fun σ2 H2 => wipe σ2 vs = wipe σ vs ∧ tt σ2 H2 fun b H3 =>
        if b = true then te σ2 H3 fun y H4 => ∃ acc, H4 D = some (.lst acc) ∧ acc.length < sizeLine ∧ Nx (upd H4 D (.lst (acc ++ [y]))) else Nx H3)
theorem s_lc {wi : TI} {g : TG} {tt : TT} {te : TE} {vs : List Nat} {σ : St} {H : Hp} {Q : VK} (h : wi σ H (LcGo g tt te vs σ Q)) : tLc wi g tt te vs σ H Q := h
def rZipA (K : PySem.W.Frag) : List V → Hp → (It → Hp → Prop) → Prop := fun vs H R => ∃ a b xs ys, vs = [.ref a, .ref b] ∧ ((SqL K H a xs ∧ SqL K H b ys ∧ R (Itz K a b) H) ∨ (SqT K H a xs ∧ SqT K H b ys ∧ R (ItzT K a b) H))
theorem s_zipA {σ : St} {H : Hp} {R : It → Hp → Prop} {ta : TA} {K : PySem.W.Frag} (h : ta σ H fun vs H1 => rZipA K vs H1 R) : iZipA K ta σ H R := h
theorem s_zipL {H : Hp} {R : It → Hp → Prop} {K : PySem.W.Frag} {a b : Addr} {xs ys : List V} (h1 : SqL K H a xs) (h2 : SqL K H b ys) (q : R (Itz K a b) H) : rZipA K [.ref a, .ref b] H R := ⟨a, b, xs, ys, rfl, .inl ⟨h1, h2, q⟩⟩
theorem s_zipT {H : Hp} {R : It → Hp → Prop} {K : PySem.W.Frag} {a b : Addr} {xs ys : List V} (h1 : SqT K H a xs) (h2 : SqT K H b ys) (q : R (ItzT K a b) H) : rZipA K [.ref a, .ref b] H R := ⟨a, b, xs, ys, rfl, .inr ⟨h1, h2, q⟩⟩
/-- a, b = a pair -/
theorem s_gTup {K : PySem.W.Frag} {n : Nat} {t : TGs} {a : Addr} {xs : List V} {σ : St} {H : Hp} {R : St → Hp → Prop} (h : SqT K H a xs) (e : xs.length = n) (q : t xs σ H R) : gTup K n t (.ref a) σ H R := ⟨a, xs, rfl, h, e, q⟩
theorem s_gCons {t : TG} {u : TGs} {x : V} {r : List V} {σ : St} {H : Hp} {R : St → Hp → Prop} (q : t x σ H fun σ' H' => u r σ' H' R) : gCons t u (x :: r) σ H R := ⟨x, r, rfl, q⟩
theorem s_gNil {σ : St} {H : Hp} {R : St → Hp → Prop} (q : R σ H) : gNil [] σ H R := ⟨rfl, q⟩
theorem s_yes {σ : St} {H : Hp} {Q : Bool → Hp → Prop} (q : Q true H) : tYes σ H Q := q
end My
theorem L2H.RoomH.units {k : Nat} {A : PySem.Around} (r : L2H.RoomH k A) : A.units + 64 < PySem.cLine := by
  have := r.un
  omega
namespace My
open PySem PySem.Spec PyProof.Rows L2 RZ
open LamX (ExtN Tabs TabS TabB CodeO)
def tXg (K : PySem.W.Frag) (a : Addr) (cls : Value) (d : Option Addr) (n : Str) (te : TE) : TE := fun σ H Q => te σ H fun x H1 => x = .ref a ∧ ∃ C, cls = .ref C ∧ XfC K C ∧ PySem.W.findIn K (.ref C) n = some none ∧
  ∃ (dd : Addr) (fs : List (Str × V)) (v : V), d = some dd ∧ H1 dd = some (.xd fs) ∧ fs.lookup n = some v ∧ Q v H1
section
variable {X : Cx} {a : Addr} {oe : Obj} {cls : Value} {d : Option Addr}
theorem pe_xg {e : Expr} {te : TE} {pos : Pos} {n : Str} (hm : (a, oe) ∈ X.pn) (hz : Zc cls d oe) (hf : ∃ vs, oe.data = .fields vs) (he : PE X e te) (hb : attributeBase e n X.env (eval e X.env) = eval e X.env := by rfl) :
    PE X (.Attribute e n pos) (tXg X.K a cls d n te) := by
  constructor
  intro pins s σ H Q I h
  refine attr_of hb (thn (he.run pins s σ H _ I h) ?_)
  rintro u s1 ⟨x, H1, I1, rx, rfl, C, rfl, T, hno, dd, fs, v, rfl, ea, l, q⟩
  obtain rfl : u = Value.ref a := rx
  have ha := (I1.pin (a, oe) (List.mem_append_left _ hm)).1
  obtain ⟨vs, hd⟩ := hf
  have ok1 := I1.hok dd _ ea
  obtain ⟨⟨mA, hns, hr⟩, _⟩ := (⟨ok1, trivial⟩ : (∃ mA, s1.heap.Ns1 dd mA ∧ ∀ f, RelO (fs.lookup f) (mA f)) ∧ True)
  obtain ⟨od, ho, hl⟩ := lookIn_ns hns
  have rn := hr n
  rw [l] at rn
  obtain ⟨u, hu, ru⟩ := RelO.some_of rn
  have hn : PySem.W.notCls oe = true := by
    unfold PySem.W.notCls
    rw [hd] <;> rfl
  have J : PySem.W.InstAt s1.heap a oe C (some od) := ⟨ha, hz.1, hn, by rw [hz.2]; exact ho⟩
  have hfd := PySem.W.findObj_own T.hdC hno rfl (by rw [hl, hu])
  exact HandSPX.exc_get I1.kIn J T.ga T.gg T.exC hfd (handed_of ru) ⟨v, H1, I1.tok _, ru, q⟩
end
structure FnP (P : Program) (w : World) (K : PySem.W.Frag) (mg : Str → Option Value) (base : Heap) (CX : CXT) (k : Nat) (f : Addr) (fd : FuncData) (ps : List Str) (sp : Addr → Value → Option Addr → Sp) : Prop where
  len : ∀ a c d vs H Q E, sp a c d vs H Q E → vs.length = ps.length
  run : ∀ (A : Around) (outer : List Env) (s : Shared) (H : Hp) (args : Args) (us : List Value) (vs : List V) (Q : VK) (E : XK) (p : Addr × Obj) (cls : Value) (d : Option Addr), L2H.RoomH k A → L2H.PinOk outer H s p → Zc cls d p.2 → (∃ vs, p.2.data = .fields vs) →
    Env0 P w K mg base A outer s H → BindsTo s fd args (ps.zip us) → Vals vs us → sp p.1 cls d vs H Q E → codeAny (model P w) A (.call (.ref f) args) (CR CX outer P w H s Q E) s
theorem fun_okP {P : Program} {w : World} {K : PySem.W.Frag} {mg : Str → Option Value} {base : Heap} {CX : CXT} {x qual : Str} {st : Stmt} {f : Addr} {fd : FuncData} {N ps : List Str} {k : Nat} {sp : Addr → Value → Option Addr → Sp} (F : Fun K x qual st f fd) (S : FnScope N ps (defScope st))
    (len : ∀ a c d vs H Q E, sp a c d vs H Q E → vs.length = ps.length)
    (hbody : ∀ (cdv : Value) (A : Around) (outer : List Env) (s : Shared) (H : Hp) (vs : List V) (Q : VK) (E : XK) (a : Addr) (oe : Obj) (cls : Value) (d : Option Addr), L2H.RoomH k (A.deeper (envOfC qual (defScope st) s.heap.objs.size f cdv)) → Zc cls d oe → (∃ vs, oe.data = .fields vs) → sp a cls d vs H Q E →
      ∃ t, PSs (L2H.cxH CX P w K mg base N qual (defScope st) f cdv A outer s H E (a, oe)) (defBody st) t ∧ t { nx := fun _ H' => Q .non H', rt := Q } (L2.start N vs) H) : FnP P w K mg base CX (k + 1) f fd ps sp := by
  obtain ⟨oc, od, kV, doc, pm, an, cdv, ct, osl, rfl, lk, hcd⟩ := F.ex
  constructor
  · exact len
  intro A outer s H args us vs Q E p cls d hr hpin hz hf e0 hb r hsp
  have hl := len _ _ _ _ _ _ _ hsp
  have KX := e0.mod.kin.keeps fun b o e => (e0.bs b o e).1
  have lim := e0.mod.nolimit.keeps fun b o e => (e0.bs b o e).1
  have kinds : ∀ y ∈ ps.zip us, (defScope st).names.lookup y.1 = some .local ∨ ((defScope st).names.lookup y.1 = some .cell ∧ ((cellsFrom (s.heap.objs.size + 1) (defScope st).names []).lookup y.1).isSome = true) := by
    rintro ⟨n, v⟩ hy
    exact (S.par n (List.of_mem_zip hy).1).imp id fun q => ⟨q, PySem.W.cellsFrom_some _ _ _ (.inl q)⟩
  refine codeAny_call_function hr.depth (KX _ _ lk) rfl S.co S.gen rfl (PySem.W.codeRec_of KX hcd) (hb _ _ _ _ (wpAny_newFunctionEnv_cells S.kind kinds ?_))
  rintro env rfl s1 x
  refine ⟨lim.keeps x.toInCall.keep, codeAny_func ?_⟩
  obtain ⟨a, oe⟩ := p
  obtain ⟨t, ht, hq⟩ := hbody cdv A outer s H vs Q E a oe cls d (hr.deeper _) hz hf hsp
  refine wpAny_mono (ht.run [] s1 (L2.start N vs) H _ (L2H.inv_startH S hpin e0 hl r x) hq) ?_ ?_
  · intro fl s' hs
    cases fl with
    | ret u =>
      obtain ⟨v, σ', H', J, rv, q⟩ := hs
      exact ⟨v, H', J.os, J.bare, J.base, J.hok, rv, q⟩
    | next =>
      obtain ⟨σ', H', J, q⟩ := hs
      exact ⟨V.non, H', J.os, J.bare, J.base, J.hok, rfl, q⟩
    | brk => exact hs.elim fun _ z => z.elim fun _ z => z.2.elim
    | cont => exact hs.elim fun _ z => z.elim fun _ z => z.2.elim
  · exact fun _ _ hs => hs
section
variable {X : Cx} {CX : CXT} {k : Nat} {f a : Addr} {oe : Obj} {cls : Value} {d : Option Addr} {fd : FuncData} {ps : List Str} {sp : Addr → Value → Option Addr → Sp} {E : XK} {x : Str} {q pos : Pos} {e : Expr} {es : List Expr} {t : TA}
/-- f(e, ..) where the exception at a is at hand -/
theorem pe_callP (F : FnP X.prog X.w X.K X.mg X.base CX k f fd ps sp) (hr : L2H.RoomH k X.A) (hpn : (a, oe) ∈ X.pn) (hz : Zc cls d oe) (hf : ∃ vs, oe.data = .fields vs) (hg : Gl X x) (hm : X.mg x = some (.ref f)) (hk : PySem.W.keepIn X.K (.ref f) = true) (hb : Binds X.K fd ps []) (hx : Passes CX X E) (ha : PA X (e :: es) t)
    (hdb : (x == ("__debug__" : Str)) = false := by decide) (he : starEach (e :: es) X.env = (false, eval e X.env) :: starEach es X.env := by rfl) (hpl : (backTo pos (starEach es X.env)).any (·.1) = false := by rfl) :
    PE X (.Call (.Name x q) (e :: es) [] pos) (tCall (sp a cls d) [] E t) := by
  constructor
  intro pins s σ H Q I h
  refine wpAny_Call_Name_kw (ld_glob I hg hm ?_ hdb)
  refine PySem.W.callWith_K (h₀ := X.base) I.ok.mod.kin hk (thn (ha.run pos pins s σ H _ I h) ?_) he hpl
  rintro us s1 ⟨vs, H1, I1, r, q1⟩
  refine ⟨I1.kIn, ?_⟩
  rw [List.append_nil] at q1
  have hl : us.length = ps.length := by rw [← r.length]; exact F.len _ _ _ _ _ _ _ q1
  have b := hb s1 us I1.kIn (by rw [List.append_nil]; exact hl)
  rw [List.append_nil] at b
  have P1 := I1.pin (a, oe) (List.mem_append_left _ hpn)
  have hpin : L2H.PinOk X.stack H1 s1 (a, oe) := by
    refine ⟨P1.1, P1.2.1, fun hm => ?_, P1.2.2.2.2⟩
    rcases List.mem_cons.mp (I1.stkSub a hm) with z | z
    · exact P1.2.2.1 z
    · exact P1.2.2.2.1 z
  refine wpAny_call (codeAny_mono (F.run X.A X.stack s1 H1 ⟨us, []⟩ us vs Q E (a, oe) cls d hr hpin hz hf I1.env0 b r q1) ?_)
  intro r s' hq
  rcases r with er | (_ | _ | _ | u)
  · exact hx pins σ H1 s1 er s' I1 hq
  · exact hq.elim
  · exact hq.elim
  · exact hq.elim
  · exact I1.after hq
end
section
/-- at s: sI where it was made, B what stood there -/
structure Fell (X : Cx) (B : Heap) (a : Addr) (cls : Value) (d : Option Addr) (pins : List (Addr × Obj)) (σ : St) (H : Hp) (sI s : Shared) : Prop where
  inv : Inv X pins σ H sI
  nb : ∀ b o, sI.heap.get? b = some o → b ∉ frs X.stack → B.get? b = some o
  up : sI.heap.UpToSlots s.heap
  fly : HandSPX.FlyingZ B (X.env :: X.outer) a (Zc cls d) s.heap
  na : H a = none
  os : s.os = sI.os
  bare : AllBare s.gens
section
variable {X : Cx} {B : Heap} {a : Addr} {cls c : Value} {d : Option Addr} {pins : List (Addr × Obj)} {σ : St} {H : Hp} {sI s : Shared} {Wout : WX}
theorem Fell.now (x : Fell X B a cls d pins σ H sI s) : Inv X pins σ H s := x.inv.landed x.nb x.fly.1 x.up x.os x.bare
theorem Fell.moved (x : Fell X B a cls d pins σ H sI s) {h : Heap} (fl : HandSPX.FlyingZ B (X.env :: X.outer) a (Zc cls d) h) (up : s.heap.UpToSlots h) : Fell X B a cls d pins σ H sI { s with heap := h } := ⟨x.inv, x.nb, x.up.trans up, fl, x.na, x.os, x.bare⟩
/-- an object more -/
theorem Fell.more (x : Fell X B a cls d pins σ H sI s) (o : Obj) : Fell X B a cls d pins σ H sI { s with heap := s.heap.push o } := by
  have old : ∀ {b : Addr} {u : Obj}, s.heap.get? b = some u → (s.heap.push o).get? b = some u := fun q => Heap.get?_push_of_some _ q
  obtain ⟨z1, z2, z3, oe, vs, t, ot, ts, y1, y2, y3, y4, y5, y6, y7, y8, y9⟩ := x.fly
  exact x.moved ⟨fun b u q => old (z1 b u q), z2, z3.of_keeps fun b u q _ => ⟨u, old q, rfl⟩, oe, vs, t, ot, ts, old y1, y2, y3, y4, y5, y6, old y7, y8, y9⟩ (Heap.UpToSlots.of_keeps fun b u q => old q)
/-- the object, and the context of a suite that is run for it -/
theorem Fell.suite (x : Fell X B a cls d pins σ H sI s) (hf : X.env.frame = some X.env.locals) : ∃ oe vs, s.heap.get? a = some oe ∧ Zc cls d oe ∧ oe.data = .fields vs ∧ Inv (X.suite a ((a, oe) :: (X.pn ++ pins))) [] σ H s := by
  obtain ⟨oe, vs, q1, q2, q3⟩ := x.fly.there
  have apart : ∀ {e : Env} {L : Addr}, e ∈ X.env :: X.outer → e.frame = some L → a ≠ L := fun {e L} m f z => by
    obtain ⟨_, o, r1, r2⟩ := x.fly.2.2.1.mem (List.mem_filterMap.mpr ⟨e, m, f⟩)
    rw [← z, q1] at r1
    cases r1
    exact r2 _ q3
  refine ⟨oe, vs, q1, q2, q3, x.now.suite q1 q3 x.na (apart List.mem_cons_self hf) fun m => ?_⟩
  obtain ⟨e, me, f⟩ := List.mem_filterMap.mp m
  exact apart (List.mem_cons_of_mem _ me) f rfl
/-- a clause asks for a class by its name -/
theorem Fell.name (x : Fell X B a cls d pins σ H sI s) (hf : X.env.frame = some X.env.locals) {n : Str} {p : Pos} (hc : Names X n c) {Q : Value → Shared → Prop} {E : Value → Shared → Prop} (q : Q c s) : wpAny (model X.prog X.w) (X.A.mark (some (.ref a))) (eval (.Name n p) X.env) Q E s := by
  obtain ⟨oe, vs, _, _, _, S⟩ := x.suite hf
  obtain ⟨g, dbg, m⟩ := hc
  rcases m with m | ⟨m1, m2, m3⟩
  · exact ld_glob S g m q dbg
  · exact ld_blt S g m1 m2 q m3 dbg
theorem Fell.looks (x : Fell X B a cls d pins σ H sI s) : PySem.W.Looks (model X.prog X.w) s.heap (typeOf (.ref a)) cls := by
  obtain ⟨oe, vs, q1, q2, _⟩ := x.fly.there
  exact fun A Q E s1 k q => wpAny_typeOf_ref (k _ _ q1) (by rw [q2.1]; exact q)
/-- no clause takes it -/
theorem Fell.on (x : Fell X B a cls d pins σ H sI s) (hs : X.stack = X.env :: X.outer) (hf : X.env.frame = some X.env.locals) (tk : Takes X Wout) (w : Wout cls d σ H) {Q : Flow → Shared → Prop} : wpAny (model X.prog X.w) X.A (handleBy (.ref a) X.env []) Q X.xe s := by
  obtain ⟨_, _, _, oe, vs, t, _, _, q1, _, q2, q3, _⟩ := id x.fly
  have some1 : (Value.ref t == Value.none) = false := rfl
  have go : ∀ {Q' : Unit → Shared → Prop}, wpAny (model X.prog X.w) X.A (setFlight (.ref a) X.env.frame >>= fun _ => (throw (.ref a) : Sem Unit)) Q' X.xe s := fun {Q'} => by
    rw [hf]
    refine wpAny_bind (HandSPX.setFlight_upZ x.fly fun h hh up => wpAny_throw (tk _ _ ⟨a, B, sI, pins, σ, H, cls, d, rfl, x.inv, x.nb, x.up.trans up, .inr (.inr ?_), x.na, x.os, x.bare, w⟩))
    rw [hs]
    exact hh
  refine wpAny_handleBy_nil ?_
  unfold PySem.passOn
  refine wpAny_bind (wpAny_field q1 q2 q3 ?_)
  rw [some1, if_neg Bool.false_ne_true]
  have go2 : ∀ {Q' : Flow → Shared → Prop}, wpAny (model X.prog X.w) X.A (setFlight (.ref a) X.env.frame >>= fun _ => (throw (.ref a) : Sem Flow)) Q' X.xe s := fun {Q'} => by
    rw [hf]
    refine wpAny_bind (HandSPX.setFlight_upZ x.fly fun h hh up => wpAny_throw (tk _ _ ⟨a, B, sI, pins, σ, H, cls, d, rfl, x.inv, x.nb, x.up.trans up, .inr (.inr ?_), x.na, x.os, x.bare, w⟩))
    rw [hs]
    exact hh
  first
    | exact go2
    | exact wpAny_bind (wpAny_pure go2)
end
section
variable {X : Cx} {body : List Stmt} {h₀ : ExceptHandler} {hds : List ExceptHandler} {pos : Pos} {tb : WX → TS} {Wc : Ends → WX}
/-- any clauses: they are asked for what the body lets fall -/
theorem ps_falls (hs : X.stack = X.env :: X.outer) (hf : X.env.frame = some X.env.locals) (hb : ∀ (W : WX) (pn : List (Addr × Obj)) (xe : Value → Shared → Prop), Takes (X.tr pn xe) W → PassesOwn (model X.prog X.w) X.A X.env xe → PSs (X.tr pn xe) body (tb W))
    (hc : ∀ D B a cls d pins σ H sI s, Fell X B a cls d pins σ H sI s → Wc D cls d σ H → wpAny (model X.prog X.w) X.A (handleBy (.ref a) X.env (h₀ :: hds)) (SP X pins D) X.xe s) : PS X (.Try body (h₀ :: hds) [] [] pos) fun D σ H => tb (Wc D) D σ H := by
  constructor
  intro pins s σ H D I h
  have ok := I.ok
  let caught : Value → Shared → Prop := fun e s1 => wpAny (model X.prog X.w) X.A (noteFrame e X.env) (fun _ s2 => wpAny (model X.prog X.w) X.A (setFlight e none) (fun _ s3 => wpAny (model X.prog X.w) X.A (handleBy e X.env (h₀ :: hds)) (SP X pins D) X.xe s3) X.xe s2) X.xe s1
  have tk : Takes (X.tr (X.pn ++ pins) caught) (Wc D) := by
    rintro u s1 ⟨a, B, sI, pins', σ', H', cls, d, rfl, J, nb, up, sky, na, os, bare, w⟩
    have sky : Sky B (X.env :: X.outer) a (Zc cls d) X.env.locals s1.heap := hs ▸ sky
    exact Sky.land Zc.steady (by rw [ok.frames, hs]) hf sky fun h3 fl3 up3 => hc D B a cls d pins σ' H' sI _ ⟨J.ofTry ok, nb, up.trans up3, fl3, na, os, bare⟩ w
  refine wpAny_Try_except (wpAny_mono ((hb (Wc D) (X.pn ++ pins) caught tk PassesOwn.looking).run [] s σ H D (I.toTry _) h) (fun f s1 q => ?_) fun _ _ z => z)
  cases f with
  | next => obtain ⟨σ1, H1, J, q⟩ := q; exact wpAny_execs_nil ⟨σ1, H1, J.ofTry ok, q⟩
  | brk => obtain ⟨σ1, H1, J, q⟩ := q; exact ⟨σ1, H1, J.ofTry ok, q⟩
  | cont => obtain ⟨σ1, H1, J, q⟩ := q; exact ⟨σ1, H1, J.ofTry ok, q⟩
  | ret u => obtain ⟨v, σ1, H1, J, r, q⟩ := q; exact ⟨v, σ1, H1, J.ofTry ok, r, q⟩
end
end
def endI (i : Nat) (D : Ends) : Ends := ⟨fun σ H => D.nx (σ.set i none) H, D.rt, fun σ H => D.bk (σ.set i none) H, fun σ H => D.ct (σ.set i none) H⟩
def wMA (K : PySem.W.Frag) (Wout : WX) (i : Nat) (D : Ends) : List (Value × (Addr → Value → Option Addr → TS)) → WX
  | [] => Wout
  | p :: r => fun cls d σ H => ∃ b, PySem.W.exmOne K cls p.1 = some b ∧ (b = true → ∀ a, H a = none → p.2 a cls d (endI i D) (σ.set i (some (.ref a))) H) ∧ (b = false → wMA K Wout i D r cls d σ H)
inductive HdsA (X : Cx) (n : Str) : List ExceptHandler → List (Value × (Addr → Value → Option Addr → TS)) → Prop
  | nil : HdsA X n [] []
  | cons {x : Str} {c : Value} {ts : Addr → Value → Option Addr → TS} {b₀ : Stmt} {suite : List Stmt} {np pos : Pos} {hds : List ExceptHandler} {l : List (Value × (Addr → Value → Option Addr → TS))} (hc : Names X x c)
      (hsu : ∀ (a : Addr) (oe : Obj) (cls : Value) (d : Option Addr) (pn : List (Addr × Obj)), Zc cls d oe → (∃ vs, oe.data = .fields vs) → PSs (X.suite a ((a, oe) :: pn)) (b₀ :: suite) (ts a cls d)) (r : HdsA X n hds l) :
      HdsA X n (.ExceptHandler (some (.Name x np)) (some n) (b₀ :: suite) pos :: hds) ((c, ts) :: l)
section
variable {X : Cx} {n : Str} {i : Nat} {body : List Stmt} {h₀ : ExceptHandler} {hds : List ExceptHandler} {l : List (Value × (Addr → Value → Option Addr → TS))} {pos : Pos} {tb : WX → TS} {Wout : WX}
/-- a suite's end where the exception bears a name: the name goes -/
theorem ends_unnamed (ok : X.Ok) (hN : X.N.Nodup) (hi : X.N[i]? = some n) (hl : X.env.kindOf n = some .local) {a : Addr} {oe : Obj} {pins : List (Addr × Obj)} {D : Ends} {f : Flow} {s : Shared} {p : Pos} (q : SP (X.suite a ((a, oe) :: (X.pn ++ pins))) [] (endI i D) f s) :
    wpAny (model X.prog X.w) X.A (do bindName X.env n .none; unbindBehindTheSuite X.env n p) (fun _ s' => SP X pins D f s') X.xe s := by
  cases f with
  | next => obtain ⟨σ1, H1, S, q⟩ := q; exact gone_ok (S.unsuite ok) hN hi hl fun s' J => ⟨_, _, J, q⟩
  | brk => obtain ⟨σ1, H1, S, q⟩ := q; exact gone_ok (S.unsuite ok) hN hi hl fun s' J => ⟨_, _, J, q⟩
  | cont => obtain ⟨σ1, H1, S, q⟩ := q; exact gone_ok (S.unsuite ok) hN hi hl fun s' J => ⟨_, _, J, q⟩
  | ret u => obtain ⟨v, σ1, H1, S, r, q⟩ := q; exact gone_ok (S.unsuite ok) hN hi hl fun s' J => ⟨v, _, _, J, r, q⟩
theorem clauses_as (hs : X.stack = X.env :: X.outer) (hf : X.env.frame = some X.env.locals) (hN : X.N.Nodup) (hi : X.N[i]? = some n) (hln : X.env.kindOf n = some .local) (tk : Takes X Wout) {D : Ends} {B : Heap} {a : Addr} {cls : Value} {d : Option Addr} {pins : List (Addr × Obj)} {σ : St} {H : Hp} {sI s : Shared} (x : Fell X B a cls d pins σ H sI s)
    {hds : List ExceptHandler} (hh : HdsA X n hds l) (w : wMA X.K Wout i D l cls d σ H) : wpAny (model X.prog X.w) X.A (handleBy (.ref a) X.env hds) (SP X pins D) X.xe s := by
  induction hh with
  | nil => exact x.on hs hf tk w
  | cons hc hsu r ih =>
    obtain ⟨b, e, yes, no⟩ := w
    refine wpAny_handleBy_cons (codeAny_handlers_test (x.name hf hc ((PySem.W.exm_one (M := model X.prog X.w) x.now.kIn x.looks e).here ?_))) fun z => nomatch z
    cases b with
    | false => exact ih (no rfl)
    | true =>
      refine codeAny_handlers_suite_as (HandSPX.lands_againZ x.fly fun h fl up => ?_)
      have y := x.moved fl up
      obtain ⟨oe, vs, _, z, dd, S⟩ := y.suite hf
      exact store_ok (X := X.suite a ((a, oe) :: (X.pn ++ pins))) (v := .ref a) S hN hi (.inl hln) rfl (fun s1 S1 => wpAny_mono ((hsu a oe cls d (X.pn ++ pins) z ⟨vs, dd⟩).run [] s1 _ H _ S1 (yes rfl a x.na)) (fun f s2 q => ends_unnamed x.inv.ok hN hi hln q) fun _ _ z => z.elim) (.inr hln)
theorem ps_try_manyA (hs : X.stack = X.env :: X.outer) (hf : X.env.frame = some X.env.locals) (hN : X.N.Nodup) (hi : X.N[i]? = some n) (hln : X.env.kindOf n = some .local) (tk : Takes X Wout) (hb : ∀ W pn xe, Takes (X.tr pn xe) W → PassesOwn (model X.prog X.w) X.A X.env xe → PSs (X.tr pn xe) body (tb W))
    (hh : HdsA X n (h₀ :: hds) l) : PS X (.Try body (h₀ :: hds) [] [] pos) (fun D σ H => tb (wMA X.K Wout i D l) D σ H) := ps_falls hs hf hb fun D B a cls d pins σ H sI s x w => clauses_as hs hf hN hi hln tk x hh w
end
end My
namespace My
open PySem PySem.Spec PyProof.Rows L2 RZ
open LamX (ExtN Tabs TabS TabB CodeO)
/-- the heap behind an exception's making -/
theorem exc_upd {H H2 : Hp} {a d : Addr} {o : HO} (ha : H a = none) (hda : d ≠ a) (h : ∀ b, b ≠ a → b ≠ d → H2 b = H b) : upd (del H2 a) d o = upd H d o := by
  funext b
  by_cases hd : b = d
  · rw [hd, upd_same, upd_same]
  · rw [upd_ne hd, upd_ne hd]
    by_cases hb : b = a
    · rw [hb, del_same, ha]
    · rw [del_ne hb, h b hb hd]
def spExc1 (C : Addr) (f w : Str) : Sp := fun vs H Q _ => ∃ (a : Addr) (v : V), vs = [.ref a, v] ∧ H a = some (exo a C none) ∧ ∀ d, H d = none → d ≠ a → Q .non (upd (upd (upd H d (exd d [(f, v)])) a (exo a C (some d))) d (exd d [("word", .str w), (f, v)]))
def rOst (K : PySem.W.Frag) (f : Str) (y : V) (nx : Hp → Prop) : V → Hp → Prop := fun x H2 => ∃ a C : Addr, x = .ref a ∧ OexC K C ∧ PySem.W.findIn K (.ref C) f = some none ∧
  ((H2 a = some (exo a C none) ∧ ∀ dx, H2 dx = none → dx ≠ a → nx (upd (upd H2 dx (exd dx [(f, y)])) a (exo a C (some dx)))) ∨
    ∃ (dx : Addr) (fs : List (Str × V)), H2 a = some (exo a C (some dx)) ∧ H2 dx = some (exd dx fs) ∧ fs.length ≤ 900 ∧ nx (upd H2 dx (exd dx ((f, y) :: fs))))
theorem s_ost {K : PySem.W.Frag} {f : Str} {to te : TE} {σ : L2.St} {H : Hp} {nx bk ct : L2.St → Hp → Prop} {rt : VK} (h : te σ H fun y H1 => to σ H1 (rOst K f y (nx σ))) : tOst K f to te ⟨nx, rt, bk, ct⟩ σ H := h
theorem s_ost1 {K : PySem.W.Frag} {C a : Addr} {f : Str} {y : V} {H : Hp} {nx : Hp → Prop} (T : OexC K C) (hno : PySem.W.findIn K (.ref C) f = some none) (ha : H a = some (exo a C none)) (k : ∀ dx, H dx = none → dx ≠ a → nx (upd (upd H dx (exd dx [(f, y)])) a (exo a C (some dx)))) : rOst K f y nx (.ref a) H := ⟨a, C, rfl, T, hno, .inl ⟨ha, k⟩⟩
theorem s_ost2 {K : PySem.W.Frag} {C a dx : Addr} {f : Str} {y : V} {fs : List (Str × V)} {H : Hp} {nx : Hp → Prop} (T : OexC K C) (hno : PySem.W.findIn K (.ref C) f = some none) (ha : H a = some (exo a C (some dx))) (hd : H dx = some (exd dx fs)) (hl : fs.length ≤ 900) (k : nx (upd H dx (exd dx ((f, y) :: fs)))) : rOst K f y nx (.ref a) H := ⟨a, C, rfl, T, hno, .inr ⟨dx, fs, ha, hd, hl, k⟩⟩
def rMkO (C : Addr) (sp : Sp) (Q : XK) : List V → Hp → Prop := fun vs H1 => vs.length ≤ 1000 ∧ ∀ a, H1 a = none → sp (.ref a :: (vs ++ [])) (upd H1 a (exo a C none))
  (fun v H2 => v = .non ∧ ∃ (d : Addr) (fs : List (Str × V)), H2 a = some (exo a C (some d)) ∧ H2 d = some (exd d fs) ∧ H1 d = none ∧ Q (.ref C) (some d) (upd (del H2 a) d (.xd fs))) (fun _ _ _ => False)
theorem s_mkO {C : Addr} {sp : Sp} {σ : L2.St} {H : Hp} {Q : XK} {ta : TA} (h : ta σ H (rMkO C sp Q)) : tMkO C sp [] ta σ H Q := h
theorem s_mk1 {C : Addr} {f w : Str} {v : V} {H : Hp} {Q : XK} (k : ∀ d, H d = none → Q (.ref C) (some d) (upd H d (.xd [("word", .str w), (f, v)]))) : rMkO C (spExc1 C f w) Q [v] H := by
  refine ⟨Nat.le_of_ble_eq_true rfl, fun a ha => ⟨a, v, rfl, upd_same, fun d hd hda => ⟨rfl, d, [("word", .str w), (f, v)], ?_, upd_same, ?_, ?_⟩⟩⟩
  · rw [upd_ne (Ne.symm hda), upd_same]
  · rw [upd_ne hda] at hd
    exact hd
  · rw [upd_ne hda] at hd
    rw [exc_upd ha hda fun b h1 h2 => by rw [upd_ne h2, upd_ne h1, upd_ne h2, upd_ne h1]]
    exact k d hd
theorem ExtN.tupAt {K : PySem.W.Frag} {H H' : Hp} {a : Addr} {xs : List V} (x : ExtN H H') (h : TupAt K H a xs) : TupAt K H' a xs := by
  rcases h with h | h
  · exact .inl (x _ _ h fun _ z => by cases z)
  · exact .inr h
section
variable {N : Addr → Prop} {K : PySem.W.Frag} {H H' : Hp}
mutual
theorem Hd.ext (x : ExtN H H') : ∀ (d : PyData) (v : V), Hd N K H v d → Hd N K H' v d
  | .none, _, h => by cases h; exact .non
  | .bool b, _, h => by cases h; exact .bl b
  | .int i, _, h => by cases h; exact .int i
  | .str z, _, h => by cases h; exact .str z
  | .list ds, _, h => by
    cases h with
    | lst e n r => exact .lst (x _ _ e fun _ z => by cases z) n (HdL.ext x ds _ r)
  | .tuple ds, _, h => by
    cases h with
    | tup e r => exact .tup (ExtN.tupAt x e) (HdL.ext x ds _ r)
  | .dict ds, _, h => by
    cases h with
    | dct e n r => exact .dct (x _ _ e fun _ z => by cases z) n (HdK.ext x ds _ r)
theorem HdL.ext (x : ExtN H H') : ∀ (ds : List PyData) (vs : List V), HdL N K H vs ds → HdL N K H' vs ds
  | [], _, h => by cases h; exact .nil
  | d :: ds, _, h => by
    cases h with
    | cons a b => exact .cons (Hd.ext x d _ a) (HdL.ext x ds _ b)
theorem HdK.ext (x : ExtN H H') : ∀ (ds : List (PyData × PyData)) (vs : List (Key × V)), HdK N K H vs ds → HdK N K H' vs ds
  | [], _, h => by cases h; exact .nil
  | (_, d) :: ds, _, h => by
    cases h with
    | cons a b => exact .cons (Hd.ext x d _ a) (HdK.ext x ds _ b)
end
end
/-- the field that the law reads of an exception with that word -/
def fldName (w : Str) : Option Str :=
  if inV (.str w) [.str "invalidsteps", .str "invalidcode", .str "invalidtext", .str "invalidcorner", .str "notquiet", .str "invaliddeed"] = true then some "position"
  else if inV (.str w) [.str "invalidcount", .str "invalidconstant", .str "invalidbudget"] = true then some "value"
  else if inV (.str w) [.str "invalidname", .str "duplicatename", .str "unknownname"] = true then some "name"
  else if inV (.str w) [.str "invalidfile", .str "invalidcommand"] = true then some "line"
  else if decide (w = "gateinuse") = true then none
  else if decide (w = "limitexceeded") = true then some "limit"
  else if decide (w = "invalidsize") = true then some "size"
  else if decide (w = "invalidneeded") = true then some "needed"
  else if decide (w = "budgetexceeded") = true then some "amount"
  else none
def isGate (w : Str) : Bool := decide (w = "gateinuse")
def fldVal (w : Str) (fs : List (Str × V)) : Option V := match fldName w with
  | some n => fs.lookup n
  | none => if isGate w = true then none else some .non
/-- what is told of the class of an exception with the word w -/
structure XOk (K : PySem.W.Frag) (C : Addr) (w : Str) : Prop where
  xf : XfC K C
  wd : PySem.W.findIn K (.ref C) "word" = some none
  fl : ∀ n, fldName w = some n → PySem.W.findIn K (.ref C) n = some none
  gt : isGate w = true → PySem.W.findIn K (.ref C) "name" = some none ∧ PySem.W.findIn K (.ref C) "users" = some none
/-- what the law tells of an exception's fields: one of them, None, or the two of a gate in use as a new pair -/
def Told (w : Str) (fs : List (Str × V)) (H : Hp) (Q : VK) : Prop :=
  (∃ v, fldVal w fs = some v ∧ ∀ H', Fr N0 H H' → Q v H') ∨
  (isGate w = true ∧ ∃ n u, fs.lookup ("name" : Str) = some n ∧ fs.lookup ("users" : Str) = some u ∧ ∀ H', Fr N0 H H' → ∀ p, H' p = none → Q (.ref p) (upd H' p (.tup [n, u])))
theorem Told.mono {w : Str} {fs : List (Str × V)} {H : Hp} {Q Q' : VK} (h : ∀ v H2, Q v H2 → Q' v H2) (t : Told w fs H Q) : Told w fs H Q' :=
  t.imp (fun ⟨v, e, k⟩ => ⟨v, e, fun H' f => h _ _ (k H' f)⟩) fun ⟨g, n, u, e1, e2, k⟩ => ⟨g, n, u, e1, e2, fun H' f p hp => h _ _ (k H' f p hp)⟩
def sp_field (K : PySem.W.Frag) (a : Addr) (cls : Value) (d : Option Addr) : Sp := fun vs H Q _ => vs = [.ref a] ∧ ∃ (C dd : Addr) (fs : List (Str × V)) (w : Str), cls = .ref C ∧ d = some dd ∧ XOk K C w ∧ H dd = some (.xd fs) ∧ fs.lookup ("word" : Str) = some (.str w) ∧ Told w fs H Q
/-- an exception let out of what was asked -/
def xCase (K : PySem.W.Frag) (CN CA : Addr) (cls : Value) (d : Option Addr) (H : Hp) (Q : VK) : Prop := ∃ (C dd : Addr) (fs : List (Str × V)) (w : Str), cls = .ref C ∧ d = some dd ∧ XOk K C w ∧ H dd = some (.xd fs) ∧ fs.lookup ("word" : Str) = some (.str w) ∧
  (PySem.W.exmOne K (.ref C) (.ref CN) = some true ∨ (PySem.W.exmOne K (.ref C) (.ref CN) = some false ∧ PySem.W.exmOne K (.ref C) (.ref CA) = some true)) ∧
  Told w fs H fun v H' => ∀ p, H' p = none → Q (.ref p) (upd H' p (.tup [.str w, v]))
/-- _law_tried(lambda: e) by e's reading -/
def TTt (K : PySem.W.Frag) (CN CA : Addr) : (XK → Hp → VK → Prop) → Hp → VK → Prop := fun tl H Q =>
  tl (fun cls d H' => xCase K CN CA cls d H' Q) H (fun v H1 => [V.str "", v].length ≤ sizeLine ∧ ∀ p, H1 p = none → Q (.ref p) (upd H1 p (.tup [.str "", v])))
theorem exm_self {K : PySem.W.Frag} {S C : Addr} {b : Bool} (h1 : PySem.W.subIn K (.ref S) (.type "BaseException") = some true) (h2 : PySem.W.isClsIn K S = true) (h3 : PySem.W.typeIn K (.ref S) = some (.type "type")) (h4 : PySem.W.subIn K (.ref C) (.ref S) = some b) :
    PySem.W.exmOne K (.ref C) (.ref S) = some b := by
  unfold PySem.W.exmOne PySem.W.kitCls
  have h2' : (PySem.W.clsIn K S).isSome = true := h2
  simp only [h1, h2', h3, h4, beq_self_eq_true, if_true, Bool.and_self]
theorem pss_len {X : Cx} {b : List Stmt} {t : TS} (n : Nat) (hn : X.N.length = n) (h : PSs X b t) : PSs X b (fun D σ H => σ.length = n → t D σ H) := ⟨fun pins s σ H D I q => h.run pins s σ H D I (q (I.len.trans hn))⟩
theorem HdsA.consL {X : Cx} {n : Str} {x : Str} {c : Value} {ts : Addr → Value → Option Addr → TS} {b₀ : Stmt} {suite : List Stmt} {np pos : Pos} {hds : List ExceptHandler} {l : List (Value × (Addr → Value → Option Addr → TS))} (m : Nat) (hm : X.N.length = m) (hc : Names X x c)
    (hsu : ∀ (a : Addr) (oe : Obj) (cls : Value) (d : Option Addr) (pn : List (Addr × Obj)), Zc cls d oe → (∃ vs, oe.data = .fields vs) → PSs (X.suite a ((a, oe) :: pn)) (b₀ :: suite) (ts a cls d)) (r : HdsA X n hds l) :
    HdsA X n (.ExceptHandler (some (.Name x np)) (some n) (b₀ :: suite) pos :: hds) ((c, fun a cls d D σ H => σ.length = m → ts a cls d D σ H) :: l) :=
  .cons hc (fun a oe cls d pn hz hf => pss_len m hm (hsu a oe cls d pn hz hf)) r
/-- the context of a def that got a lambda -/
abbrev cxG (X : Cx) (N : List Str) (x : Str) (sg : Scope) (g : Addr) (cdg : Value) (s : Shared) (H : Hp) : Cx := (cxOf C8.CX0 X.prog X.w X.K X.mg X.base N x sg g cdg X.A X.stack s H C8.E0).nox
theorem roomH_mk {k : Nat} {A : Around} (r : Room k A) (h : Option Value) : L2H.RoomH k (A.mark h) := ⟨r.dp, r.un⟩
section
variable {X : Cx}
theorem pe_lamF {T : List (Addr × Str)} {TT : (XK → Hp → VK → Prop) → Hp → VK → Prop} {x a : Str} {st : Stmt} {g c P : Addr} {fd : FuncData} {k : Nat} {Ng : List Str} {params : Arguments} {body : Expr} {scope : Scope} {t : XK → TE} {p lpos pos : Pos}
    (F : Fun X.K x x st g fd) (hb : Binds X.K fd [a] []) (Sg : FnScope Ng [a] (defScope st)) (hm : X.mg x = some (.ref g)) (hg : Gl X x) (hNg : Ng[0]? = some a) (hva : Vis (defScope st) a)
    (hG : ∀ cdv, LamX.GivesTo X Ng x (defScope st) g cdv (defBody st) a (X.env.qual ++ "<lambda>") TT) (hr : Room (k + 2) X.A) (TB : TabB X.base X.mg c P) (hT : T = [(P, X.env.qual ++ "<lambda>")]) (hcode : X.env.code = .ref c) (L : LamX.LamS X.env.scope scope) (hdef : defaultsOf params X.env = ([], []))
    (hbind : ∀ (q : Str) (cl : List (Str × Addr)) (pm cv ctv : Value), bindArgs (PySem.W.kla_fn "<lambda>" q params body scope cl pm cv ctv) ⟨[], []⟩ = pure [])
    (hbody : ∀ (A : Around) (outer : List Env) (s : Shared) (H : Hp) (E : XK) (f c' : Addr), Room k (A.deeper (LamX.lamEnv X scope s.heap.objs.size f c')) → PE (LamX.lamCx X A outer s H E scope f c') body (t E))
    (hdb : (x == ("__debug__" : Str)) = false := by decide) (hd : (a == ("__debug__" : Str)) = false := by decide) (hcd : (a == ("__classdict__" : Str)) = false := by decide) :
    PE X (.Call (.Name x p) [.Lambda params body scope lpos] [] pos) (LamX.tLam T TT t) := by
  obtain ⟨oc, od, kV, doc, pm, an, cdv, ct, osl, rfl, lk, hcg⟩ := F.ex
  subst hT
  exact LamX.pe_lamcall hg hm F.kp lk hcg hb Sg hNg hva (hG cdv) TB hcode (List.mem_singleton.mpr rfl) (fun q hq _ => by rw [List.mem_singleton.mp hq]) hr L hdef hbind hbody hdb hd hcd
end
def rXg (K : PySem.W.Frag) (a : Addr) (cls : Value) (d : Option Addr) (n : Str) (Q : VK) : V → Hp → Prop := fun x H1 => x = .ref a ∧ ∃ C, cls = .ref C ∧ XfC K C ∧ PySem.W.findIn K (.ref C) n = some none ∧
  ∃ (dd : Addr) (fs : List (Str × V)) (v : V), d = some dd ∧ H1 dd = some (.xd fs) ∧ fs.lookup n = some v ∧ Q v H1
theorem s_xgR {K : PySem.W.Frag} {a : Addr} {cls : Value} {d : Option Addr} {n : Str} {te : TE} {σ : L2.St} {H : Hp} {Q : VK} (h : te σ H (rXg K a cls d n Q)) : tXg K a cls d n te σ H Q := h
theorem s_xgV {K : PySem.W.Frag} {a C dd : Addr} {n : Str} {H : Hp} {Q : VK} {fs : List (Str × V)} {v : V} (T : XfC K C) (hno : PySem.W.findIn K (.ref C) n = some none) (hd : H dd = some (.xd fs)) (hv : fs.lookup n = some v) (q : Q v H) : rXg K a (.ref C) (some dd) n Q (.ref a) H := ⟨rfl, C, rfl, T, hno, dd, fs, v, rfl, hd, hv, q⟩
theorem s_inL {K : PySem.W.Frag} {p : Addr} {x : V} {xs : List V} {H : Hp} {Q : VK} (h : SqL K H p xs) (f1 : flatV x = true) (f2 : xs.all flatV = true) (q : Q (.bl (inV x xs)) H) : rIn K false x (.ref p) H Q := ⟨p, xs, rfl, .inl h, f1, f2, q⟩
theorem s_callS {sp : Sp} {E : L2.St → XK} {t : TA} {σ : L2.St} {H : Hp} {Q : VK} (h : t σ H fun vs H1 => sp vs H1 Q (E σ)) : tCallS sp E t σ H Q := h
end My
namespace My
open PySem PySem.Spec PyProof.Rows L2 RZ
section
variable {K : PySem.W.Frag} {H : Hp} {Q : VK} {a b : Addr} {xs ys : List V}
theorem cut_whole {lo hi : Option Int} (h : HT.sIx xs.length 0 lo = 0 ∧ HT.sIx xs.length xs.length hi = xs.length) : cutV xs lo hi = xs := by
  unfold cutV
  rw [h.1, h.2, List.drop_zero, Nat.sub_zero, List.take_length]
/-- a written tuple -/
theorem tupK {its : Array Value} {n : Nat} {d : Option Addr} {sl : Array (Option Value)} (e : K.lookup a = some ⟨.type "tuple", d, .seq its n, sl⟩) (hz : its.size ≤ 1000) (hv : Vals xs its.toList) (H : Hp) : TupAt K H a xs := .inr ⟨_, its, n, e, rfl, rfl, sz hz, hv⟩
end
end My
namespace My
open PySem PySem.Spec PyProof.Rows L2 RZ
section
variable (K : PySem.W.Frag) {X : Cx}
theorem opEqK (hu : X.A.units + 64 < cLine) (e : X.K = K := by rfl) : OpR X (compareOp .Eq) (rEqG' K) := e ▸ opEq hu
theorem opNeK (hu : X.A.units + 64 < cLine) (e : X.K = K := by rfl) : OpR X (compareOp .NotEq) (rNeG' K) := e ▸ opNe hu
theorem opInK (e : X.K = K := by rfl) : OpR X (compareOp .In) (rIn K false) := e ▸ op_in_seq
theorem callLenK (e : X.K = K := by rfl) : CallR X (.builtin "len") (rLen K) := e ▸ callLen
theorem callListK (e : X.K = K := by rfl) : CallR X (.type "list") (rList K) := e ▸ callList
theorem callTupleK (e : X.K = K := by rfl) : CallR X (.type "tuple") (rTuple K) := e ▸ callTuple
theorem ixK (e : X.K = K := by rfl) : IxR X (rIx K) := e ▸ ix_seq
end
end My
namespace My
open PySem PySem.Spec PyProof.Rows L2 RZ
open LamX (ExtN Tabs TabS TabB CodeO)
theorem ExtN.lst {H H' : Hp} {a : Addr} {xs : List V} (x : ExtN H H') (h : H a = some (.lst xs)) : H' a = some (.lst xs) := x _ _ h fun _ z => by cases z
theorem HdL.ints {N : Addr → Prop} {K : PySem.W.Frag} {H : Hp} : ∀ ns : List Int, HdL N K H (ns.map V.int) (ns.map PyData.int)
  | [] => .nil
  | _ :: ns => .cons (.int _) (HdL.ints ns)
end My
namespace My
open PySem PySem.Spec PyProof.Rows L2 RZ GenW
section
variable {X : Cx}
def tGFor (wi : TI) (g : TG) (tb : TGn) : TGn := fun D ys σ H => wi σ H fun J H1 => ∃ W : Nat → Nat → List V → L2.St → Hp → Prop, (∃ m, W 0 m ys σ H1) ∧ ∀ i m ys σ H, W i m ys σ H →
  (J.stop i H ∧ D.nx ys σ H) ∨ (J.go i H ∧ ∃ N : List V → L2.St → Hp → Prop, (∀ ys' σ' H', N ys' σ' H' → ∃ m', m' < m ∧ W (i + 1) m' ys' σ' H') ∧ ∀ x H', J.yld i H x H' → g x σ H' fun σ2 H2 => tb { D with nx := N, ct := N, bk := D.nx } ys σ2 H2)
end
def GForGo (g : TG) (tb : TGn) (D : GEnds) (ys : List V) (σ : L2.St) : It → Hp → Prop := fun J H1 => ∃ W : Nat → Nat → List V → L2.St → Hp → Prop, (∃ m, W 0 m ys σ H1) ∧ ∀ i m ys σ H, W i m ys σ H →
  (J.stop i H ∧ D.nx ys σ H) ∨ (J.go i H ∧ ∃ N : List V → L2.St → Hp → Prop, (∀ ys' σ' H', N ys' σ' H' → ∃ m', m' < m ∧ W (i + 1) m' ys' σ' H') ∧ ∀ x H', J.yld i H x H' → g x σ H' fun σ2 H2 => tb { D with nx := N, ct := N, bk := D.nx } ys σ2 H2)
section
variable {D : GEnds} {ys : List V} {σ : L2.St} {H : Hp}
theorem s_gfor {wi : TI} {g : TG} {tb : TGn} (h : wi σ H (GForGo g tb D ys σ)) : tGFor wi g tb D ys σ H := h
theorem s_gthen {t u : TGn} (h : t { D with nx := fun ys' σ' H' => u D ys' σ' H' } ys σ H) : tGThen t u D ys σ H := h
theorem s_g0 (h : D.nx ys σ H) : tG0 D ys σ H := h
theorem s_gplain {t : TS} (h : t ⟨D.nx ys, D.rt ys, D.bk ys, D.ct ys⟩ σ H) : tPlain t D ys σ H := h
end
def rOut (Q : VK) : List V → Hp → Prop := fun out H2 => ∀ p, H2 p = none → Q (.ref p) (upd H2 p (.lst out))
theorem s_listG {sp : SpG} {E : XK} {t : TA} {σ : L2.St} {H : Hp} {Q : VK} (h : t σ H fun vs H1 => sp vs H1 (rOut Q) E) : tListG (tCallG sp [] E t) σ H Q := by
  show t σ H fun vs H1 => sp (vs ++ []) H1 (rOut Q) E
  simpa only [List.append_nil] using h
def rMax2 : List V → Hp → VK → Prop := fun xs H Q => ∃ i j, xs = [.int i, .int j] ∧ Q (.int (if j > i then j else i)) H
def rMin2 : List V → Hp → VK → Prop := fun xs H Q => ∃ i j, xs = [.int i, .int j] ∧ Q (.int (if j < i then j else i)) H
theorem s_max2 {i j : Int} {H : Hp} {Q : VK} (q : Q (.int (if j > i then j else i)) H) : rMax2 [.int i, .int j] H Q := ⟨i, j, rfl, q⟩
theorem s_min2 {i j : Int} {H : Hp} {Q : VK} (q : Q (.int (if j < i then j else i)) H) : rMin2 [.int i, .int j] H Q := ⟨i, j, rfl, q⟩
end My
namespace My
open PySem PySem.Spec PyProof.Rows L2 RZ
end My
namespace My
open PySem PySem.Spec PyProof.Rows L2 RZ
end My
namespace My
open PySem PySem.Spec PyProof.Rows L2 RZ
/-- a source: a list, a tuple, a text -/
inductive Kv | l (a : Addr) | t (a : Addr) | s (z : Str)
def Kv.v : Kv → V | .l a => .ref a | .t a => .ref a | .s z => .str z
def signs (z : Str) : List V := z.cps.toList.map fun c => V.str ⟨#[c]⟩
def Kv.seq (K : PySem.W.Frag) (H : Hp) (xs : List V) : Kv → Prop
  | .l a => SqL K H a xs
  | .t a => SqT K H a xs
  | .s z => xs = signs z
def Kv.u (t : Tok) : Kv → Value | .l a => .ref a | .t a => .ref a | .s z => .str z t
def Kv.at (t : Tok) (h : Heap) (it : Addr) (i : Nat) : Kv → Prop
  | .l a => h.IsListIter it a i
  | .t a => h.IsTupleIter it a i
  | .s z => h.IsStrIter it (strIterType z) z t i
def Kv.own : Kv → List Addr | .l a => [a] | .t a => [a] | .s _ => []
def Kv.obj (t : Tok) : Kv → Obj
  | .l a => { cls := .type "list_iterator", data := .fields #[.ref a, .int 0 0] }
  | .t a => { cls := .type "tuple_iterator", data := .fields #[.ref a, .int 0 0] }
  | .s z => { cls := .type (strIterType z), data := .fields #[.str z t, .int 0 0] }
theorem Kv.u_of {k : Kv} {w : Value} (r : RelV k.v w) : ∃ t, w = k.u t := by
  cases k with
  | l a => exact ⟨0, r⟩
  | t a => exact ⟨0, r⟩
  | s z => exact r
theorem Kv.at_move {k : Kv} {t : Tok} {h h' : Heap} {it : Addr} {i : Nat} (x : k.at t h it i) (e : ∀ o, h.get? it = some o → h'.get? it = some o) : k.at t h' it i := by
  cases k with
  | l a => exact Heap.IsListIter.at x e
  | t a => exact Heap.IsTupleIter.at x e
  | s z => obtain ⟨o, ho, r⟩ := x; exact ⟨o, e o ho, r⟩
theorem Kv.at_obj {k : Kv} {t : Tok} {h : Heap} {it : Addr} {i : Nat} (x : k.at t h it i) : ∃ o, h.get? it = some o ∧ ∀ v, o.data ≠ .cell v := by
  cases k with
  | l a => obtain ⟨o, e, _, d⟩ := x; exact ⟨o, e, fun v z => by rw [d] at z; cases z⟩
  | t a => obtain ⟨o, e, _, d⟩ := x; exact ⟨o, e, fun v z => by rw [d] at z; cases z⟩
  | s z => obtain ⟨o, e, _, d⟩ := x; exact ⟨o, e, fun v z => by rw [d] at z; cases z⟩
section
variable {X : Cx} {pins : List (Addr × Obj)} {σ : L2.St} {H : Hp} {s : Shared}
theorem Kv.inj {k : Kv} {xs ys : List V} (I : Inv X pins σ H s) (h : k.seq X.K H xs) (h' : k.seq X.K H ys) : xs = ys := by
  cases k with
  | l a => exact I.list_inj h h'
  | t a => exact I.tuple_inj h h'
  | s z => exact Eq.trans h (Eq.symm h')
theorem Kv.live {k : Kv} {xs : List V} (I : Inv X pins σ H s) (q : k.seq X.K H xs) : ∀ b ∈ k.own, b < s.heap.objs.size := by
  intro b hb
  cases k with
  | l a =>
    obtain ⟨its, r, p, _⟩ := I.list q
    rw [List.mem_singleton.mp hb]
    exact p.lt
  | t a =>
    obtain ⟨its, r, ⟨o, ho, _⟩, _⟩ := I.tuple q
    rw [List.mem_singleton.mp hb]
    exact Heap.lt_size ho
  | s z => cases hb
/-- what its iterator draws -/
theorem Kv.draws {k : Kv} {xs : List V} (I : Inv X pins σ H s) (q : k.seq X.K H xs) (hc : X.calm = true) (t : Tok) (it : Addr) (hne : it ∉ k.own) :
    ∃ (P : Nat → Value → Prop) (St : Nat → Heap → Prop), Draws X.prog X.w X.A.in1 it (it :: k.own) xs.length P St ∧ (∀ i v, P i v → ∃ y, xs[i]? = some y ∧ RelV y v) ∧ (∀ i, k.at t s.heap it i → St i s.heap) ∧ ∀ i h, St i h → k.at t h it i := by
  have hd : X.A.in1.handled = none := I.ok.hd hc
  cases k with
  | l a =>
    obtain ⟨its, r, p, _⟩ := I.list q
    have e := r.length
    have D := Draws.list (prog := X.prog) (w := X.w) hd it a (fun z => hne (by rw [z]; exact List.mem_singleton.mpr rfl)) its.toArray
    rw [show its.toArray.size = xs.length by rw [List.size_toArray]; exact e.symm] at D
    refine ⟨_, _, D, fun i v hv => ?_, fun i h => ⟨h, p.isList⟩, fun i h st => st.1⟩
    have hv' : its[i]? = some v := by simpa using hv
    have hi : i < xs.length := by rw [e]; exact (List.getElem?_eq_some_iff.mp hv').1
    obtain ⟨u, hu, ru⟩ := r.get (List.getElem?_eq_getElem hi)
    rw [hv'] at hu
    cases hu
    exact ⟨_, List.getElem?_eq_getElem hi, ru⟩
  | t a =>
    obtain ⟨its, r, p, _⟩ := I.tuple q
    have e := r.length
    have D := Draws.tuple (prog := X.prog) (w := X.w) hd it a (fun z => hne (by rw [z]; exact List.mem_singleton.mpr rfl)) its.toArray
    rw [show its.toArray.size = xs.length by rw [List.size_toArray]; exact e.symm] at D
    refine ⟨_, _, D, fun i v hv => ?_, fun i h => ⟨h, p⟩, fun i h st => st.1⟩
    have hv' : its[i]? = some v := by simpa using hv
    have hi : i < xs.length := by rw [e]; exact (List.getElem?_eq_some_iff.mp hv').1
    obtain ⟨u, hu, ru⟩ := r.get (List.getElem?_eq_getElem hi)
    rw [hv'] at hu
    cases hu
    exact ⟨_, List.getElem?_eq_getElem hi, ru⟩
  | s z =>
    have q' : xs = signs z := q
    subst q'
    have D := Draws.text (prog := X.prog) (w := X.w) hd it z t
    rw [show z.cps.size = (signs z).length by simp [signs]] at D
    refine ⟨_, _, D, fun i v hv => ?_, fun i h => h, fun i h st => st⟩
    obtain ⟨c, u, hcx, rfl⟩ := hv
    refine ⟨.str ⟨#[c]⟩, ?_, ⟨u, rfl⟩⟩
    simp [signs, hcx]
theorem Kv.begins {k : Kv} {xs : List V} (I : Inv X pins σ H s) (q : k.seq X.K H xs) (t : Tok) : ∃ G : Heap → Prop, Begins (k.u t) (k.obj t) G ∧ G s.heap := by
  cases k with
  | l a =>
    obtain ⟨its, r, p, _⟩ := I.list q
    exact ⟨_, begins_list a its.toArray, p.isList⟩
  | t a =>
    obtain ⟨its, r, p, _⟩ := I.tuple q
    exact ⟨_, begins_tuple a its.toArray, p⟩
  | s z => exact ⟨_, begins_text z t, trivial⟩
theorem Kv.start {k : Kv} {t : Tok} {h : Heap} {it : Addr} (e : h.get? it = some (k.obj t)) : k.at t h it 0 := by
  cases k with
  | l a => exact ⟨_, e, rfl, rfl⟩
  | t a => exact ⟨_, e, rfl, rfl⟩
  | s z => exact ⟨_, e, rfl, rfl⟩
end
def ItzG (K : PySem.W.Frag) (k1 k2 : Kv) : It :=
  ⟨fun i H => ∃ (xs ys : List V) (x y : V), k1.seq K H xs ∧ k2.seq K H ys ∧ xs[i]? = some x ∧ ys[i]? = some y,
    fun i H v H' => ∃ T x y, v = .ref T ∧ H T = none ∧ H' = upd H T (.tup [x, y]) ∧ (∀ xs, k1.seq K H xs → xs[i]? = some x) ∧ ∀ ys, k2.seq K H ys → ys[i]? = some y,
    fun i H => ∃ xs ys : List V, k1.seq K H xs ∧ k2.seq K H ys ∧ i = min xs.length ys.length⟩
/-- what a walk over owned pairs gives, on our heap -/
theorem turn_of_walksT {P : Program} {w : World} {K : PySem.W.Frag} {elts : List Expr} {kk : Nat} {tpos : Pos} {J : It} {fp : List Addr} {it : Addr} {tn : Nat → Heap → Prop}
    (mem : it ∈ fp) (obj : ∀ i h, tn i h → ∀ b ∈ fp, ∃ o, h.get? b = some o ∧ ∀ v, o.data ≠ .cell v) (keep : ∀ i h h', tn i h → (∀ b ∈ fp, ∀ o, h.get? b = some o → h'.get? b = some o) → tn i h')
    (go : ∀ (X : Cx), X.prog = P → X.w = w → X.K = K → X.calm = true → ∀ (i : Nat) (pins : List (Addr × Obj)) (s : Shared) (σ : L2.St) (H : Hp), Inv X pins σ H s → tn i s.heap → J.go i H →
      ∃ (n : Nat) (fpw wr : List Addr) (Pt : Nat → Array Value → Prop) (St : Nat → Heap → Prop) (Mid : Nat → Addr → Heap → Prop), WalksT P w X.A it fpw wr n Pt St Mid ∧ i < n ∧ St i s.heap ∧ (∀ b ∈ wr, b ∈ fp) ∧ (∀ h, St (i + 1) h → tn (i + 1) h) ∧
        ∀ vals, Pt i vals → ∃ xs, Vals xs vals.toList ∧ xs.length ≤ sizeLine ∧ ∀ T, H T = none → J.yld i H (.ref T) (upd H T (.tup xs)))
    (stop : ∀ (X : Cx), X.prog = P → X.w = w → X.K = K → X.calm = true → ∀ (i : Nat) (pins : List (Addr × Obj)) (s : Shared) (σ : L2.St) (H : Hp), Inv X pins σ H s → tn i s.heap → J.stop i H →
      ∃ (n : Nat) (fpw wr : List Addr) (Pt : Nat → Array Value → Prop) (St : Nat → Heap → Prop) (Mid : Nat → Addr → Heap → Prop), WalksT P w X.A it fpw wr n Pt St Mid ∧ St n s.heap ∧ ∀ b ∈ wr, b ∈ fp)
    (self : ∀ (A : Around) (i : Nat) (s : Shared) (Q : Value → Shared → Prop) (E : Value → Shared → Prop), tn i s.heap → Q (.ref it) s → wpAny (model P w) A (pyIter (.ref it)) Q E s) :
    Turn P w K (.Tuple elts kk tpos) J fp it tn where
  mem := mem
  obj := obj
  keep := keep
  item := by
    intro X hP hw hK hc i pins s σ H E I hf st hg
    obtain ⟨n, fpw, wr, Pt, St, Mid, W, hi, st0, hwr, back, give⟩ := go X hP hw hK hc i pins s σ H I st hg
    subst hP hw hK
    refine W.item i s _ _ hi st0 fun T vals h' tk hPt hT hIsT hMid hk => ⟨_, rfl, ?_⟩
    obtain ⟨xs, rv, hz, y⟩ := give vals hPt
    refine W.go elts kk tpos i T { s with heap := h', toks := tk } _ _ hMid fun h'' st' hk2 => ?_
    have kk2 : ∀ b o, b ∉ wr → s.heap.get? b = some o → h''.get? b = some o := fun b o hb e => hk2 b o hb (hk b o hb e)
    have hT2 : h''.IsTuple T vals := by
      obtain ⟨o, e, r⟩ := hIsT
      exact ⟨o, hk2 T o (W.apart i T h' hMid) e, r⟩
    have hn : H T = none := I.hok.fresh hT
    have new : ObjOk X.prog X.w (upd H T (.tup xs)) h'' T (.tup xs) := ⟨hz, vals.toList, rv, by rw [Array.toArray_toList]; exact hT2⟩
    have I1 : Inv X pins σ (upd H T (.tup xs)) { s with heap := h'', toks := tk } :=
      I.turnedNew (t' := tk) (ch := fp) (fun b o hb e => kk2 b o (fun z => hb (hwr b z)) e) hf hT new
    refine ⟨.ref T, _, I1, rfl, y T hn, back _ st', fun b hb => ?_⟩
    obtain ⟨o, e, _⟩ := obj i s.heap st b hb
    rw [upd_ne (Nat.ne_of_lt (Nat.lt_of_lt_of_le (Heap.lt_size e) hT))]
    exact (hf b hb).1
  done := by
    intro X hP hw hK hc i pins s σ H E I hf st hg
    obtain ⟨n, fpw, wr, Pt, St, Mid, W, st0, hwr⟩ := stop X hP hw hK hc i pins s σ H I st hg
    subst hP hw hK
    exact W.done s _ _ st0 fun h' tk hk => ⟨rfl, I.turnedL (t' := tk) (ch := fp) (fun b o hb e => hk b o (fun z => hb (hwr b z)) e) hf⟩
  self := self
def iZipG (K : PySem.W.Frag) (ta : TA) : TI := fun σ H R => ta σ H fun vs H1 => ∃ (k1 k2 : Kv) (xs ys : List V), vs = [k1.v, k2.v] ∧ k1.seq K H1 xs ∧ k2.seq K H1 ys ∧ R (ItzG K k1 k2) H1
def IteG (K : PySem.W.Frag) (k : Kv) : It :=
  ⟨fun i H => ∃ (xs : List V) (x : V), k.seq K H xs ∧ xs[i]? = some x,
    fun i H v H' => ∃ T x, v = .ref T ∧ H T = none ∧ H' = upd H T (.tup [.int (i : Nat), x]) ∧ ∀ xs, k.seq K H xs → xs[i]? = some x,
    fun i H => ∃ xs : List V, k.seq K H xs ∧ i = xs.length⟩
theorem turn_enumG {P : Program} {w : World} {K : PySem.W.Frag} {elts : List Expr} {kk : Nat} {tpos : Pos} {k : Kv} {t : Tok} {e it : Addr} (hei : e ≠ it) (he : e ∉ k.own) (hi : it ∉ k.own) :
    Turn P w K (.Tuple elts kk tpos) (IteG K k) [e, it] e (fun i h => (∃ old, IsEnum h e it (0 + (i : Int)) old) ∧ k.at t h it i) := by
  have two : ∀ {b : Addr}, b ∈ [e, it] → b = e ∨ b = it := fun h => by simpa using h
  refine turn_of_walksT (by simp) ?_ ?_ ?_ ?_ ?_
  · intro i h st c hc
    obtain ⟨⟨old, ho⟩, h1⟩ := st
    rcases two hc with q | q
    · rw [q]; exact ⟨_, ho, fun v q => nomatch q⟩
    · rw [q]; exact Kv.at_obj h1
  · intro i h h' st k
    obtain ⟨⟨old, ho⟩, h1⟩ := st
    exact ⟨⟨old, k e (by simp) _ ho⟩, Kv.at_move h1 fun o q => k it (by simp) o q⟩
  · intro X hP hw hK hc i pins s σ H I st hg
    subst hP hw hK
    obtain ⟨ho, h1⟩ := st
    obtain ⟨xs, x, hx, gx⟩ := hg
    obtain ⟨P1, S1, D1, r1, e1, b1⟩ := Kv.draws I hx hc t it hi
    have l1 := (List.getElem?_eq_some_iff.mp gx).1
    refine ⟨_, _, _, _, _, _, WalksT.enumFrom 0 D1 e hei (fun z => ?_) (List.mem_cons_self ..), l1, ⟨ho, e1 i h1⟩, fun b hb => hb, fun h st => ⟨st.1, b1 _ _ st.2⟩, ?_⟩
    · rcases List.mem_cons.mp z with z | z
      · exact hei z
      · exact he z
    · rintro vals ⟨tk, x1, p1, rfl⟩
      obtain ⟨y1, g1, rv1⟩ := r1 i x1 p1
      exact ⟨[.int (i : Nat), y1], .cons ⟨tk, by rw [Int.zero_add]⟩ (.cons rv1 .nil), szb rfl, fun T hT => ⟨T, y1, rfl, hT, rfl, fun xs' h' => by rw [Kv.inj I h' hx]; exact g1⟩⟩
  · intro X hP hw hK hc i pins s σ H I st hg
    subst hP hw hK
    obtain ⟨ho, h1⟩ := st
    obtain ⟨xs, hx, rfl⟩ := hg
    obtain ⟨P1, S1, D1, r1, e1, b1⟩ := Kv.draws I hx hc t it hi
    refine ⟨_, _, _, _, _, _, WalksT.enumFrom 0 D1 e hei (fun z => ?_) (List.mem_cons_self ..), ⟨ho, e1 _ h1⟩, fun b hb => hb⟩
    rcases List.mem_cons.mp z with z | z
    · exact hei z
    · exact he z
  · exact fun A i s Q E st h => let ⟨⟨_, ho⟩, _⟩ := st; wpAny_pyIter_enum ho h
abbrev enObj (it : Addr) : Obj := { cls := .type "enumerate", data := .fields #[.none, .bool false, .ref it, rawInt 0, .none, .none] }
set_option maxHeartbeats 1000000 in
theorem meets_enum1 {v : Value} {o : Obj} {G : Heap → Prop} (B : Begins v o G) :
    Meets (Builtin.«enumerate.__new__» ⟨[.type "enumerate", v], []⟩) (fun _ R s => G s.heap ∧ R (.ok (.ret (.ref (s.heap.push o).objs.size))) { s with heap := (s.heap.push o).push (enObj s.heap.objs.size) }) :=
  .of_wp fun prog w A R s h => by
    obtain ⟨hp, g, d, tk, os⟩ := s
    obtain ⟨h1, h⟩ := h
    have hsub := sub_enumerate
    have q1 : ∀ {A' : Around} {E : Value → Shared → Prop} {Q : Value → Shared → Prop}, Q (.ref hp.objs.size) ⟨hp.push o, g, d, tk, os⟩ → wpAny (model prog w) A' (pyIter v) Q E ⟨hp, g, d, tk, os⟩ :=
      fun q => B.iter prog w _ _ ⟨hp, g, d, tk, os⟩ _ h1 q
    wp_walk using q1
    refine wpAny_stack_any fun st => wpAny_pure ?_
    split
    · rename_i c _ _ _ _ _
      cases (c == Value.type "enumerate") <;> (wp_walk using q1; exact ⟨_, rfl, h⟩)
    · wp_walk using q1
      exact ⟨_, rfl, h⟩
theorem enum1_begins {prog : Program} {w : World} {A : Around} {E : Value → Shared → Prop} {s : Shared} {v : Value} {o : Obj} {G : Heap → Prop} {Q : Value → Shared → Prop} (B : Begins v o G) (h1 : G s.heap)
    (h : ∀ h', IsEnum h' (s.heap.objs.size + 1) s.heap.objs.size (0 + ((0 : Nat) : Int)) .none → h'.get? s.heap.objs.size = some o → (∀ b o, s.heap.get? b = some o → h'.get? b = some o) → Q (.ref (s.heap.objs.size + 1)) { s with heap := h' }) :
    wpAny (model prog w) A (call (.type "enumerate") [v]) Q E s := by
  refine callType_new F.called_enumerate (by decide) (F.typeCall_enumerate_1 _) (F.newCall_enumerate_1 _) (fun obj => F.args_object_init_2 obj _) F.entry_enumerate_new (meets_enum1 B) ⟨h1, ?_⟩
  have hz : (s.heap.push o).objs.size = s.heap.objs.size + 1 := Heap.size_push ..
  show _ ∧ _
  rw [hz]
  have he : IsEnum ((s.heap.push o).push (enObj s.heap.objs.size)) (s.heap.objs.size + 1) s.heap.objs.size 0 .none := by
    have e := Heap.get?_push_size (s.heap.push o) (o := enObj s.heap.objs.size) rfl
    rw [hz] at e
    exact e
  exact ⟨⟨_, he, rfl⟩, h _ he (Heap.get?_push_of_some _ (Heap.get?_push_size _ B.free)) fun b o x => Heap.get?_push_of_some _ (Heap.get?_push_of_some _ x)⟩
def iEnumG (K : PySem.W.Frag) (ta : TA) : TI := fun σ H R => ta σ H fun vs H1 => ∃ (k : Kv) (xs : List V), vs = [k.v] ∧ k.seq K H1 xs ∧ R (IteG K k) H1
theorem pi_enumG (K : PySem.W.Frag) {X : Cx} {e : Expr} {ta : TA} {p pos tpos : Pos} {elts : List Expr} {kk : Nat} (hg : Gl X "enumerate") (hm : X.mg "enumerate" = none) (ha : PA X [e] ta) (eK : X.K = K := by rfl) (hs : starEach [e] X.env = [(false, eval e X.env)] := by rfl) :
    PI X (.Tuple elts kk tpos) (.Call (.Name "enumerate" p) [e] [] pos) (iEnumG K ta) := by
  subst eK
  constructor
  intro pins s σ H R I h
  refine Call_ (ld_blt I hg hm boot_enumerate (PyProof.Rows.callWith_type1 (thn (ha.run pos pins s σ H _ I h) ?_) hs rfl))
  rintro us s1 ⟨vs, H1, I1, r1, k, xs, rfl, hx, q⟩
  obtain ⟨w1, rfl, rw1⟩ := vals1 r1
  obtain ⟨t, rfl⟩ := Kv.u_of rw1
  obtain ⟨G, B, g⟩ := Kv.begins I1 hx t
  have lv := Kv.live I1 hx
  refine enum1_begins B g fun h' he o1 hk => wpAny_pyIter_enum he ?_
  have I2 : Inv X pins σ H1 { s1 with heap := h' } := I1.kept (t' := s1.toks) hk
  refine ⟨s1.heap.objs.size + 1, [s1.heap.objs.size + 1, s1.heap.objs.size], _, _, H1, rfl, I2, turn_enumG (t := t) (Nat.succ_ne_self _) (fun z => Nat.lt_irrefl _ (Nat.lt_of_succ_lt (lv _ z))) (fun z => Nat.lt_irrefl _ (lv _ z)), ⟨⟨_, he⟩, Kv.start o1⟩, fun c hcm => ?_, q⟩
  have hle : s1.heap.objs.size ≤ c := by
    have e' : c = s1.heap.objs.size + 1 ∨ c = s1.heap.objs.size := by simpa using hcm
    rcases e' with z | z <;> rw [z] <;> first | exact Nat.le_refl _ | exact Nat.le_add_right _ _
  exact I1.fpOk hle (I1.hok.fresh hle)
theorem walk_enumG {K : PySem.W.Frag} {k : Kv} {xs : List V} : Walk (IteG K k) xs.length (fun H => k.seq K H xs) (YPair (fun i => some (.int (i : Nat))) (fun i => xs[i]?)) := by
  refine ⟨fun i _ hi q => ⟨xs, xs[i], q, by simp [hi]⟩, fun _ q => ⟨xs, q, rfl⟩, fun i H v H' _ q y => ?_⟩
  obtain ⟨T, x, h1, h2, h3, h4⟩ := y
  exact ⟨T, .int (i : Nat), x, h1, h2, h3, rfl, h4 xs q⟩
section
variable {K : PySem.W.Frag} {σ : L2.St} {H : Hp} {R : It → Hp → Prop} {ta : TA}
def rZipG (K : PySem.W.Frag) : List V → Hp → (It → Hp → Prop) → Prop := fun vs H R => ∃ (k1 k2 : Kv) (xs ys : List V), vs = [k1.v, k2.v] ∧ k1.seq K H xs ∧ k2.seq K H ys ∧ R (ItzG K k1 k2) H
def rEnumG (K : PySem.W.Frag) : List V → Hp → (It → Hp → Prop) → Prop := fun vs H R => ∃ (k : Kv) (xs : List V), vs = [k.v] ∧ k.seq K H xs ∧ R (IteG K k) H
theorem s_izipG (h : ta σ H fun vs H1 => rZipG K vs H1 R) : iZipG K ta σ H R := h
theorem s_ienumG (h : ta σ H fun vs H1 => rEnumG K vs H1 R) : iEnumG K ta σ H R := h
end
end My
namespace My
open PySem PySem.Spec PyProof.Rows L2 RZ
section
variable {K : PySem.W.Frag} {σ : L2.St} {H : Hp} {Q : VK} {C a dx : Addr} {f : Str} {v : V} {fs : List (Str × V)} {te tv : TE} {t : TA} {sp : Sp} {dvs : List V} {E : XK} {nx bk ct : L2.St → Hp → Prop} {rt : VK}
def rFld (K : PySem.W.Frag) (f : Str) (Q : VK) : V → Hp → Prop := fun x H1 => ∃ a C dx fs v, x = .ref a ∧ H1 a = some (.ins C dx fs) ∧ Cls K C ∧ NoAttr K C f ∧ fs.lookup f = some v ∧ Q v H1
theorem s_fldR (h : te σ H (rFld K f Q)) : tFld K te f σ H Q := h
def rSto (K : PySem.W.Frag) (f : Str) (y : V) (nx : Hp → Prop) : V → Hp → Prop := fun x H2 => ∃ a C dx fs, x = .ref a ∧ H2 a = some (.ins C dx fs) ∧ Cls K C ∧ NoAttr K C f ∧ fs.length < 1000 ∧ nx (upd H2 a (.ins C dx (putF f y fs)))
theorem s_stoR (h : tv σ H fun y H1 => te σ H1 (rSto K f y (nx σ))) : sFld K te tv f ⟨nx, rt, bk, ct⟩ σ H := h
def rMake (C : Addr) (sp : Sp) (E : XK) (Q : VK) : List V → Hp → Prop := fun vs H1 => ∀ x dx, H1 x = none → H1 dx = none → dx ≠ x → sp (.ref x :: vs) (upd (upd H1 dx (.own x)) x (.ins C dx [])) (fun v H2 => v = .non ∧ Q (.ref x) H2) E
theorem s_makeR (h : t σ H (rMake C sp E Q)) : tMake C sp [] E t σ H Q := by
  unfold tMake
  simp only [List.append_nil]
  exact h
def rMeth (C : Addr) (m : Str) (sp : Sp) (E : XK) (t : TA) (σ : L2.St) (Q : VK) : V → Hp → Prop := fun x H1 => ∃ a dx fs, x = .ref a ∧ H1 a = some (.ins C dx fs) ∧ fs.lookup m = none ∧ t σ H1 fun vs H2 => sp (x :: vs) H2 Q E
theorem s_methR {m : Str} (h : te σ H (rMeth C m sp E t σ Q)) : tMeth C m sp [] E te t σ H Q := by
  unfold tMeth
  simp only [List.append_nil]
  exact h
end
/-- a new instance, its own dict: what was tracked stays -/
theorem Fr.obj {N : Addr → Prop} {H : Hp} {x dx : Addr} {o : HO} (h1 : H x = none) (h2 : H dx = none) (n : dx ≠ x) : Fr N H (upd (upd H dx (.own x)) x o) := (Fr.new h2).mut h1
/-- where the instance's fields are put: the instance is new to H -/
theorem Fr.put {N : Addr → Prop} {H H' : Hp} {x : Addr} {o : HO} (f : Fr N H H') (h : H x = none) : Fr N H (upd H' x o) := f.mut h
end My
namespace My
open PySem PySem.Spec PyProof.Rows L2 RZ
end My
namespace My
open PySem PySem.Spec PyProof.Rows L2 RZ
theorem s_ckw {r : List V → List V → Hp → VK → Prop} {t tk : TA} {σ : L2.St} {H : Hp} {Q : VK} (h : t σ H fun vs H1 => tk σ H1 fun zs H2 => r vs zs H2 Q) : tCKw r t tk σ H Q := h
def tJoined (ts : List TE) : TE := fun σ H Q => tJs ts Str.empty σ H fun out H1 => Q (.str out) H1
def rJ (ts : List TE) (acc : Str) (σ : L2.St) (Q : Str → Hp → Prop) : V → Hp → Prop := fun x H1 => ∃ y : Str, x = .str y ∧ (acc ++ y).length ≤ sizeLine ∧ tJs ts (acc ++ y) σ H1 Q
theorem s_joined {ts : List TE} {σ : L2.St} {H : Hp} {Q : VK} (h : tJs ts Str.empty σ H fun out H1 => Q (.str out) H1) : tJoined ts σ H Q := h
theorem s_js {t : TE} {ts : List TE} {acc : Str} {σ : L2.St} {H : Hp} {Q : Str → Hp → Prop} (h : t σ H (rJ ts acc σ Q)) : tJs (t :: ts) acc σ H Q := h
theorem s_js0 {acc : Str} {σ : L2.St} {H : Hp} {Q : Str → Hp → Prop} (h : Q acc H) : tJs [] acc σ H Q := h
def rFmt (Q : VK) : V → Hp → Prop := fun x H1 => (∃ y : Str, x = .str y ∧ y.length ≤ sizeLine ∧ Q (.str y) H1) ∨ ∃ i : Int, x = .int i ∧ i.natAbs.log2 < 1920 ∧ Q (.str (toString i)) H1
theorem s_fmt {te : TE} {σ : L2.St} {H : Hp} {Q : VK} (h : te σ H (rFmt Q)) : tFmt te σ H Q := h
end My
namespace My
open PySem PySem.Spec PyProof.Rows L2 RZ
end My
namespace My
open PySem PySem.Spec PyProof.Rows L2 RZ
def rStr1 (R : It → Hp → Prop) : V → Hp → Prop := fun v H1 => ∃ x, v = .str x ∧ R (Its x) H1
theorem s_iStr {te : TE} {σ : L2.St} {H : Hp} {R : It → Hp → Prop} (h : te σ H (rStr1 R)) : iStr te σ H R := h
theorem s_str1 {x : Str} {H : Hp} {R : It → Hp → Prop} (h : R (Its x) H) : rStr1 R (.str x) H := ⟨x, rfl, h⟩
def rInSign : V → V → Hp → VK → Prop := fun x y H Q => ∃ (c : Nat) (z : Str), x = .str ⟨#[c]⟩ ∧ y = .str z ∧ Q (.bl (decide (c ∈ z.cps.toList))) H
theorem s_inSign {c : Nat} {z : Str} {H : Hp} {Q : VK} (q : Q (.bl (decide (c ∈ z.cps.toList))) H) : rInSign (.str ⟨#[c]⟩) (.str z) H Q := ⟨c, z, rfl, rfl, q⟩
theorem s_ifx {tt : TT} {ta tb : TE} {σ : L2.St} {H : Hp} {Q : VK} (h : tt σ H fun b H1 => if b = true then ta σ H1 Q else tb σ H1 Q) : tIf tt ta tb σ H Q := h
end My
namespace My
open PySem PySem.Spec PyProof.Rows L2 RZ
/-- so many numbers, each within -/
def Rng (n : Nat) (lo hi : Int) (vs : List V) : Prop := ∃ ns : List Int, vs = ns.map V.int ∧ ns.length = n ∧ ∀ i ∈ ns, lo ≤ i ∧ i < hi
theorem Rng.nil {lo hi : Int} : Rng 0 lo hi [] := ⟨[], rfl, rfl, fun _ h => by cases h⟩
theorem Rng.snoc {n : Nat} {lo hi i : Int} {vs : List V} (h : Rng n lo hi vs) (h1 : lo ≤ i) (h2 : i < hi) : Rng (n + 1) lo hi (vs ++ [.int i]) := by
  obtain ⟨ns, rfl, rfl, a⟩ := h
  refine ⟨ns ++ [i], by simp, by simp, fun j hj => ?_⟩
  rcases List.mem_append.mp hj with hj | hj
  · exact a j hj
  · rw [List.mem_singleton.mp hj]
    exact ⟨h1, h2⟩
end My
namespace My
open PySem PySem.Spec PyProof.Rows L2 RZ
end My
namespace My
open PySem PySem.Spec PyProof.Rows L2 RZ
end My
namespace My
open PySem PySem.Spec PyProof.Rows L2 RZ
mutual
inductive KyV (K : PySem.W.Frag) (H : Hp) : NestedKey → V → Prop
  | non : KyV K H .none .non
  | bl (b : Bool) : KyV K H (.num (if b = true then 1 else 0)) (.bl b)
  | int (i : Int) : KyV K H (.num i) (.int i)
  | str (x : Str) : KyV K H (.text x) (.str x)
  | tup {a : Addr} {vs : List V} {ks : List NestedKey} : SqT K H a vs → KyL K H ks vs → KyV K H (.tup ks) (.ref a)
inductive KyL (K : PySem.W.Frag) (H : Hp) : List NestedKey → List V → Prop
  | nil : KyL K H [] []
  | cons {k : NestedKey} {ks : List NestedKey} {v : V} {vs : List V} : KyV K H k v → KyL K H ks vs → KyL K H (k :: ks) (v :: vs)
end
/-- the dict at D has these keys, in this order -/
def NKs (P : Program) (w : World) (D : Addr) (ks : List (NestedKey × Addr)) (h : Heap) : Prop :=
  (D == sysModules) = false ∧ ∃ (xs : List (NestedKey × Addr × Value)) (o : Obj) (es : Array DictEntry) (ep : Nat), xs.map (fun x => (x.1, x.2.1)) = ks ∧ h.get? D = some o ∧ o.ExactDict ∧ o.data = .dict es ep ∧ es.toList = xs.map (entryOfKey (nestedKind P w)) ∧ (xs.map (·.1)).Nodup
/-- the object at D is o: a thing that is never written again -/
def ObIs (D : Addr) (o : Obj) (h : Heap) : Prop := h.get? D = some o
def insK (ks : List (NestedKey × Addr)) (k : NestedKey) (a : Addr) : List (NestedKey × Addr) := if (ks.any fun p => decide (p.1 = k)) = true then ks else ks ++ [(k, a)]
/-- what is known of a dict that is never written -/
structure Keyed (D : Addr) (o : Obj) (vs : List V) : Prop where
  nm : (D == sysModules) = false
  ex : o.ExactDict
  dt : ∃ (es : Array DictEntry) (ep : Nat), o.data = .dict es ep ∧ Vals vs (es.toList.map (·.key)) ∧ es.size ≤ sizeLine
end My
namespace My
open PySem PySem.Spec PyProof.Rows L2 RZ
open PySem.W (EachIs dataLe AllAlike Sortable)
end My
namespace My
open PySem PySem.Spec PyProof.Rows L2 RZ
end My
namespace My
open PySem PySem.Spec PyProof.Rows L2 RZ
open PySem.Froz (SD sObj TxOk addTx tailTx is_str)
open PySem.W (EachIs dataLe AllAlike Sortable)
/-- the set at a holds the texts l, each once, in some order; it can be walked -/
def TxS (P : Program) (w : World) (a : Addr) (l : List Str) (h : Heap) : Prop :=
  ∃ D : SD, h.get? a = some (sObj "set" D) ∧ TxOk P w D l ∧ l.Nodup ∧ Ris D.2.2.place.toList ∧ (w.params.followText "set-order" = true ∨ D.2.2.led = true) ∧ l.length < scanBound
def insS (l : List Str) (k : Str) : List Str := if k ∈ l then l else k :: l
end My
namespace My
open PySem PySem.Spec PyProof.Rows L2 RZ
open PySem.Froz (SD sObj TxOk addTx tailTx is_str)
open PySem.W (EachIs dataLe AllAlike Sortable)
end My
namespace My
open PySem PySem.Spec PyProof.Rows L2 RZ
end My
namespace My
open PySem PySem.Spec PyProof.Rows L2 RZ
open PySem.Froz (SD sObj TxOk)
end My
namespace My
open PySem PySem.Spec PyProof.Rows L2 RZ
end My
namespace Wl
open PySem PySem.Spec PyProof.Rows L2 RZ
/-- data that no longer changes -/
inductive D where
  | non | bl (b : Bool) | int (i : Int) | str (x : Str) | ty (n : String) | fn (a : Addr)
  | tup (ds : List D) | lst (ds : List D) | dct (kvs : List (Key × D)) | dcT (kvs : List (List Key × D)) | ins (C : Addr) (fs : List (Str × D))
  | dx (ks : List D)
  | tupP (ds : List D)
/-- what a slot holds: data, or a thing of its own that may be written -/
inductive S where
  | d (x : D) | l (xs : List D) | m (kvs : List (Key × D)) | mT (kvs : List (List Key × D)) | o (C : Addr) (fs : List (Str × D))
  -- an instance with lists of its own, at known addresses
  | b (C : Addr) (fs : List (Str × D)) (ls : List (Addr × List D))
/-- what an expression gives: data, the thing of a slot, a new thing -/
inductive R where
  | d (x : D) | s (i : Nat) | own (s : S)
abbrev En := List (Option S)
abbrev St := L2.St
def S.owned : S → Bool
  | .d _ => false
  | _ => true
def S.fz : S → D
  | .d x => x
  | .l xs => .lst xs
  | .m kvs => .dct kvs
  | .mT kvs => .dcT kvs
  | .o C fs => .ins C fs
  | .b C fs _ => .ins C fs
/-- the addresses that a slot's thing has -/
def S.has : S → V → Addr → Prop
  | .d _, _, _ => False
  | .b _ _ ls, v, a => v = .ref a ∨ ∃ xs, (a, xs) ∈ ls
  | _, v, a => v = .ref a
theorem S.has_root {s : S} {a : Addr} (h : s.owned = true) : s.has (.ref a) a := by
  cases s with
  | d x => cases h
  | b C fs ls => exact .inl rfl
  | _ => rfl
def S.lone : S → Bool
  | .b _ _ _ => false
  | _ => true
theorem S.lone_has {s : S} {v : V} {a : Addr} (hl : s.lone = true) (h : s.has v a) : v = .ref a := by
  cases s with
  | d x => exact h.elim
  | b C fs ls => cases hl
  | _ => exact h
def TupAt (K : PySem.W.Frag) (H : Hp) (a : Addr) (xs : List V) : Prop :=
  H a = some (.tup xs) ∨ ∃ (o : Obj) (its : Array Value) (n : Nat), K.lookup a = some o ∧ o.cls = .type "tuple" ∧ o.data = .seq its n ∧ its.size ≤ sizeLine ∧ Vals xs its.toList
def KLst (K : PySem.W.Frag) (a : Addr) (xs : List V) : Prop :=
  ∃ (o : Obj) (its : Array Value) (n : Nat), K.lookup a = some o ∧ o.cls = .type "list" ∧ o.dict = none ∧ o.data = .seq its n ∧ its.size ≤ sizeLine ∧ Vals xs its.toList
mutual
inductive Hd (N : Addr → Prop) (K : PySem.W.Frag) (H : Hp) : V → D → Prop
  | non : Hd N K H .non .non
  | bl (b : Bool) : Hd N K H (.bl b) (.bl b)
  | int (i : Int) : Hd N K H (.int i) (.int i)
  | str (x : Str) : Hd N K H (.str x) (.str x)
  | ty (n : String) : Hd N K H (.ty n) (.ty n)
  | fn (a : Addr) : Hd N K H (.ref a) (.fn a)
  | lst {a : Addr} {xs : List V} {ds : List D} : (Rd H a (.lst xs) ∧ ¬ N a) ∨ KLst K a xs → HdL N K H xs ds → Hd N K H (.ref a) (.lst ds)
  | tup {a : Addr} {xs : List V} {ds : List D} : TupAt K H a xs → HdL N K H xs ds → Hd N K H (.ref a) (.tup ds)
  | dct {a : Addr} {ks : List (Key × V)} {kvs : List (Key × D)} : Rd H a (.dK ks) → ¬ N a → ks.map (·.1) = kvs.map (·.1) → HdL N K H (ks.map (·.2)) (kvs.map (·.2)) → Hd N K H (.ref a) (.dct kvs)
  | dcT {a : Addr} {ks : List (List Key × V)} {kvs : List (List Key × D)} : Rd H a (.dT ks) → ¬ N a → ks.map (·.1) = kvs.map (·.1) → HdL N K H (ks.map (·.2)) (kvs.map (·.2)) → Hd N K H (.ref a) (.dcT kvs)
  | ins {a C dx : Addr} {gs : List (Str × V)} {fs : List (Str × D)} : H a = some (.ins C dx gs) → ¬ N a → gs.map (·.1) = fs.map (·.1) → HdL N K H (gs.map (·.2)) (fs.map (·.2)) → Hd N K H (.ref a) (.ins C fs)
  | dx {a : Addr} {o : Obj} {vs : List V} {ks : List D} : H a = some (.ext (My.ObIs a o)) → My.Keyed a o vs → ¬ N a → HdL N K H vs ks → Hd N K H (.ref a) (.dx ks)
  | tupP {a : Addr} {o : Obj} {xs : List V} {ds : List D} : H a = some (.frz o (.tup xs)) → o.dict = none → ¬ N a → HdL N K H xs ds → Hd N K H (.ref a) (.tupP ds)
inductive HdL (N : Addr → Prop) (K : PySem.W.Frag) (H : Hp) : List V → List D → Prop
  | nil : HdL N K H [] []
  | cons {v : V} {vs : List V} {d : D} {ds : List D} : Hd N K H v d → HdL N K H vs ds → HdL N K H (v :: vs) (d :: ds)
end
def notTbl (o : HO) : Prop := ∀ ps, o ≠ .tbl ps
def Live (H : Hp) (a : Addr) : Prop := ∃ o, H a = some o ∧ notTbl o
theorem Live.ne {H : Hp} {a : Addr} (l : Live H a) (h : H a = none) : False := by
  obtain ⟨o, q, _⟩ := l
  rw [h] at q
  cases q
/-- the frozen stays -/
structure Tr (N : Addr → Prop) (H : Hp) (N' : Addr → Prop) (H' : Hp) : Prop where
  tup : ∀ a xs, H a = some (.tup xs) → H' a = some (.tup xs)
  keep : ∀ a o, H a = some o → ¬ N a → notTbl o → H' a = some o
  out : ∀ a, Live H a → ¬ N a → ¬ N' a
section
variable {N N' : Addr → Prop} {K : PySem.W.Frag} {H H' : Hp}
theorem Tr.rd (t : Tr N H N' H') {a : Addr} {u : HO} (h : Rd H a u) (n : ¬ N a) (hu : notTbl u) : Rd H' a u ∧ ¬ N' a := by
  rcases h with h | ⟨o, h⟩
  · exact ⟨.inl (t.keep a u h n hu), t.out a ⟨u, h, hu⟩ n⟩
  · exact ⟨.inr ⟨o, t.keep a _ h n (fun _ z => nomatch z)⟩, t.out a ⟨_, h, fun _ z => nomatch z⟩ n⟩
theorem TupAt.tr (t : Tr N H N' H') {a : Addr} {xs : List V} (h : TupAt K H a xs) : TupAt K H' a xs := h.imp (t.tup a xs) id
theorem TupAt.sq {a : Addr} {xs : List V} (h : TupAt K H a xs) : SqT K H a xs := by
  rcases h with h | h
  · exact .inl (.inl h)
  · exact .inr h
theorem Hd.tr (t : Tr N H N' H') {v : V} {d : D} (h : Hd N K H v d) : Hd N' K H' v d := by
  refine Hd.rec (motive_1 := fun v d _ => Hd N' K H' v d) (motive_2 := fun vs ds _ => HdL N' K H' vs ds) .non .bl .int .str .ty .fn ?_ ?_ ?_ ?_ ?_ ?_ ?_ .nil ?_ h
  · rintro a xs ds (⟨h, n⟩ | h) _ ih
    · exact .lst (.inl (t.rd h n (fun _ z => nomatch z))) ih
    · exact .lst (.inr h) ih
  · exact fun h _ ih => .tup (h.tr t) ih
  · exact fun h n e _ ih => let z := t.rd h n (fun _ z => nomatch z); .dct z.1 z.2 e ih
  · exact fun h n e _ ih => let z := t.rd h n (fun _ z => nomatch z); .dcT z.1 z.2 e ih
  · exact fun h n e _ ih => .ins (t.keep _ _ h n (fun _ z => nomatch z)) (t.out _ ⟨_, h, fun _ z => nomatch z⟩ n) e ih
  · exact fun h e n _ ih => .dx (t.keep _ _ h n (fun _ z => nomatch z)) e (t.out _ ⟨_, h, fun _ z => nomatch z⟩ n) ih
  · exact fun h e n _ ih => .tupP (t.keep _ _ h n (fun _ z => nomatch z)) e (t.out _ ⟨_, h, fun _ z => nomatch z⟩ n) ih
  · exact fun _ _ a b => .cons a b
theorem HdL.tr (t : Tr N H N' H') : ∀ {ds : List D} {vs : List V}, HdL N K H vs ds → HdL N' K H' vs ds
  | [], _, h => by cases h; exact .nil
  | d :: ds, _, h => by
    cases h with
    | cons a b => exact .cons (a.tr t) (HdL.tr t b)
theorem Tr.sub (h : ∀ a, N' a → N a) : Tr N H N' H := ⟨fun _ _ h => h, fun _ _ h _ _ => h, fun a _ n z => n (h a z)⟩
theorem Hd.sub (h : ∀ a, N' a → N a) {v : V} {d : D} (x : Hd N K H v d) : Hd N' K H v d := x.tr (.sub h)
theorem HdL.sub (h : ∀ a, N' a → N a) {vs : List V} {ds : List D} (x : HdL N K H vs ds) : HdL N' K H vs ds := x.tr (.sub h)
theorem HdL.len : ∀ {ds : List D} {vs : List V}, HdL N K H vs ds → vs.length = ds.length
  | [], _, h => by cases h; rfl
  | d :: ds, _, h => by
    cases h with
    | cons a b => rw [List.length_cons, List.length_cons, HdL.len b]
theorem HdL.get : ∀ {ds : List D} {vs : List V} {i : Nat} {d : D}, HdL N K H vs ds → ds[i]? = some d → ∃ v, vs[i]? = some v ∧ Hd N K H v d
  | [], _, _, _, h, e => by simp at e
  | d :: ds, _, 0, _, h, e => by
    cases h with
    | cons a b => simp at e; subst e; exact ⟨_, rfl, a⟩
  | d :: ds, _, i + 1, _, h, e => by
    cases h with
    | cons a b =>
      obtain ⟨d', e', r⟩ := HdL.get b (by simpa using e)
      exact ⟨d', by simpa using e', r⟩
theorem HdL.app : ∀ {ds es : List D} {vs us : List V}, HdL N K H vs ds → HdL N K H us es → HdL N K H (vs ++ us) (ds ++ es)
  | [], _, _, _, h, h' => by cases h; exact h'
  | d :: ds, _, _, _, h, h' => by
    cases h with
    | cons a b => exact .cons a (HdL.app b h')
theorem HdL.take : ∀ {ds : List D} {vs : List V} (n : Nat), HdL N K H vs ds → HdL N K H (vs.take n) (ds.take n)
  | _, _, 0, _ => .nil
  | [], _, n + 1, h => by cases h; exact .nil
  | d :: ds, _, n + 1, h => by
    cases h with
    | cons a b => exact .cons a (HdL.take n b)
theorem HdL.drop : ∀ {ds : List D} {vs : List V} (n : Nat), HdL N K H vs ds → HdL N K H (vs.drop n) (ds.drop n)
  | _, _, 0, h => h
  | [], _, n + 1, h => by cases h; exact .nil
  | d :: ds, _, n + 1, h => by
    cases h with
    | cons a b => exact HdL.drop n b
theorem HdL.set : ∀ {ds : List D} {vs : List V} (n : Nat) {v : V} {d : D}, Hd N K H v d → HdL N K H vs ds → HdL N K H (vs.set n v) (ds.set n d)
  | [], _, _, _, _, _, h => by cases h; exact .nil
  | d :: ds, _, 0, _, _, x, h => by
    cases h with
    | cons a b => exact .cons x b
  | d :: ds, _, n + 1, _, _, x, h => by
    cases h with
    | cons a b => exact .cons a (HdL.set n x b)
theorem HdL.ints : ∀ ns : List Int, HdL N K H (ns.map V.int) (ns.map D.int)
  | [] => .nil
  | _ :: ns => .cons (.int _) (HdL.ints ns)
end
/-- a value whose own object may be a thing, all beneath it frozen -/
def HdE (N : Addr → Prop) (K : PySem.W.Frag) (H : Hp) (v : V) : D → Prop
  | .lst ds => ∃ a xs, v = .ref a ∧ SqL K H a xs ∧ HdL N K H xs ds
  | .dct kvs => ∃ a ks, v = .ref a ∧ Rd H a (.dK ks) ∧ ks.map (·.1) = kvs.map (·.1) ∧ HdL N K H (ks.map (·.2)) (kvs.map (·.2))
  | .dcT kvs => ∃ a ks, v = .ref a ∧ Rd H a (.dT ks) ∧ ks.map (·.1) = kvs.map (·.1) ∧ HdL N K H (ks.map (·.2)) (kvs.map (·.2))
  | .ins C fs => ∃ a dx gs, v = .ref a ∧ H a = some (.ins C dx gs) ∧ gs.map (·.1) = fs.map (·.1) ∧ HdL N K H (gs.map (·.2)) (fs.map (·.2))
  | x => Hd N K H v x
/-- what a slot's value is -/
def RS (N : Addr → Prop) (K : PySem.W.Frag) (H : Hp) (v : V) : S → Prop
  | .d x => Hd N K H v x
  | .l ds => ∃ a xs, v = .ref a ∧ H a = some (.lst xs) ∧ HdL N K H xs ds
  | .m kvs => ∃ a ks, v = .ref a ∧ H a = some (.dK ks) ∧ ks.map (·.1) = kvs.map (·.1) ∧ HdL N K H (ks.map (·.2)) (kvs.map (·.2))
  | .mT kvs => ∃ a ks, v = .ref a ∧ H a = some (.dT ks) ∧ ks.map (·.1) = kvs.map (·.1) ∧ HdL N K H (ks.map (·.2)) (kvs.map (·.2))
  | .o C fs => ∃ a dx gs, v = .ref a ∧ H a = some (.ins C dx gs) ∧ gs.map (·.1) = fs.map (·.1) ∧ HdL N K H (gs.map (·.2)) (fs.map (·.2))
  | .b C fs ls => ∃ a dx gs, v = .ref a ∧ H a = some (.ins C dx gs) ∧ gs.map (·.1) = fs.map (·.1) ∧ HdL N K H (gs.map (·.2)) (fs.map (·.2)) ∧ (ls.map (·.1)).Nodup ∧ ∀ A xs, (A, xs) ∈ ls → ∃ ys, H A = some (.lst ys) ∧ HdL N K H ys xs
section
variable {N N' : Addr → Prop} {K : PySem.W.Frag} {H H' : Hp} {v : V}
theorem Hd.e {d : D} (h : Hd N K H v d) : HdE N K H v d := by
  cases h with
  | lst e r =>
    refine ⟨_, _, rfl, ?_, r⟩
    rcases e with e | e
    · exact .inl e.1
    · exact .inr e
  | dct e n k r => exact ⟨_, _, rfl, e, k, r⟩
  | dcT e n k r => exact ⟨_, _, rfl, e, k, r⟩
  | ins e n k r => exact ⟨_, _, _, rfl, e, k, r⟩
  | dx e k n r => exact .dx e k n r
  | tupP e k n r => exact .tupP e k n r
  | non => exact .non
  | bl b => exact .bl b
  | int i => exact .int i
  | str x => exact .str x
  | ty n => exact .ty n
  | fn a => exact .fn a
  | tup e r => exact .tup e r
theorem RS.e {s : S} (h : RS N K H v s) : HdE N K H v s.fz := by
  cases s with
  | d x => exact Hd.e h
  | l xs => obtain ⟨a, ys, e, h, r⟩ := h; exact ⟨a, ys, e, .inl (.inl h), r⟩
  | m kvs => obtain ⟨a, ys, e, h, r⟩ := h; exact ⟨a, ys, e, .inl h, r⟩
  | mT kvs => obtain ⟨a, ys, e, h, r⟩ := h; exact ⟨a, ys, e, .inl h, r⟩
  | o C fs => exact h
  | b C fs ls => obtain ⟨a, dx, gs, e, h, m, r, _⟩ := h; exact ⟨a, dx, gs, e, h, m, r⟩
/-- an owned slot's object -/
theorem RS.ow {s : S} (h : RS N K H v s) (ho : s.owned = true) : ∃ a o, v = .ref a ∧ H a = some o ∧ notTbl o ∧ (∀ xs, o ≠ .tup xs) ∧ Mut (some o) := by
  cases s with
  | d x => cases ho
  | l xs => obtain ⟨a, ys, e, h, r⟩ := h; exact ⟨a, _, e, h, (fun _ z => nomatch z), (fun _ z => nomatch z), trivial⟩
  | m kvs => obtain ⟨a, ys, e, h, r⟩ := h; exact ⟨a, _, e, h, (fun _ z => nomatch z), (fun _ z => nomatch z), trivial⟩
  | mT kvs => obtain ⟨a, ys, e, h, r⟩ := h; exact ⟨a, _, e, h, (fun _ z => nomatch z), (fun _ z => nomatch z), trivial⟩
  | o C fs => obtain ⟨a, dx, ys, e, h, r⟩ := h; exact ⟨a, _, e, h, (fun _ z => nomatch z), (fun _ z => nomatch z), trivial⟩
  | b C fs ls => obtain ⟨a, dx, ys, e, h, r⟩ := h; exact ⟨a, _, e, h, (fun _ z => nomatch z), (fun _ z => nomatch z), trivial⟩
/-- each of its objects -/
theorem RS.at {s : S} (h : RS N K H v s) {a : Addr} (ha : s.has v a) : ∃ o, H a = some o ∧ notTbl o ∧ (∀ xs, o ≠ .tup xs) ∧ Mut (some o) := by
  cases s with
  | d x => exact ha.elim
  | b C fs ls =>
    obtain ⟨a', dx, gs, e, h, m, r, nd, hl⟩ := h
    rcases ha with ha | ⟨xs, ha⟩
    · rw [ha] at e; cases e
      exact ⟨_, h, (fun _ z => nomatch z), (fun _ z => nomatch z), trivial⟩
    · obtain ⟨ys, q, _⟩ := hl a xs ha
      exact ⟨_, q, (fun _ z => nomatch z), (fun _ z => nomatch z), trivial⟩
  | _ =>
    obtain ⟨a', o, e, r⟩ := h.ow rfl
    rw [show v = .ref a from ha] at e; cases e
    exact ⟨o, r⟩
/-- an owned thing becomes data, when it is no longer among those that may change -/
theorem RS.fzD {s : S} (h : RS N K H v s) (hn : ∀ a, N' a → N a) (hv : ∀ a, v = .ref a → s.owned = true → ¬ N' a) : Hd N' K H v s.fz := by
  cases s with
  | d x => exact Hd.sub hn h
  | l xs => obtain ⟨a, ys, rfl, h, r⟩ := h; exact .lst (.inl ⟨.inl h, hv a rfl rfl⟩) (r.sub hn)
  | m kvs => obtain ⟨a, ys, rfl, h, e, r⟩ := h; exact .dct (.inl h) (hv a rfl rfl) e (r.sub hn)
  | mT kvs => obtain ⟨a, ys, rfl, h, e, r⟩ := h; exact .dcT (.inl h) (hv a rfl rfl) e (r.sub hn)
  | o C fs => obtain ⟨a, dx, ys, rfl, h, e, r⟩ := h; exact .ins h (hv a rfl rfl) e (r.sub hn)
  | b C fs ls => obtain ⟨a, dx, ys, rfl, h, e, r, _⟩ := h; exact .ins h (hv a rfl rfl) e (r.sub hn)
/-- a slot's value while its own object and the frozen stay -/
theorem RS.tr (t : Tr N H N' H') {s : S} (h : RS N K H v s) (ho : ∀ a o, s.has v a → s.owned = true → H a = some o → Mut (some o) → H' a = some o) : RS N' K H' v s := by
  cases s with
  | d x => exact Hd.tr t h
  | l xs => obtain ⟨a, ys, rfl, h, r⟩ := h; exact ⟨a, ys, rfl, ho _ _ rfl rfl h trivial, r.tr t⟩
  | m kvs => obtain ⟨a, ys, rfl, h, e, r⟩ := h; exact ⟨a, ys, rfl, ho _ _ rfl rfl h trivial, e, r.tr t⟩
  | mT kvs => obtain ⟨a, ys, rfl, h, e, r⟩ := h; exact ⟨a, ys, rfl, ho _ _ rfl rfl h trivial, e, r.tr t⟩
  | o C fs => obtain ⟨a, dx, ys, rfl, h, e, r⟩ := h; exact ⟨a, dx, ys, rfl, ho _ _ rfl rfl h trivial, e, r.tr t⟩
  | b C fs ls =>
    obtain ⟨a, dx, ys, rfl, h, e, r, nd, hl⟩ := h
    refine ⟨a, dx, ys, rfl, ho _ _ (.inl rfl) rfl h trivial, e, r.tr t, nd, fun A xs m => ?_⟩
    obtain ⟨zs, q, r2⟩ := hl A xs m
    exact ⟨zs, ho _ _ (.inr ⟨xs, m⟩) rfl q trivial, r2.tr t⟩
theorem RS.sub (hn : ∀ a, N' a → N a) {s : S} (h : RS N K H v s) : RS N' K H v s := h.tr (.sub hn) fun _ _ _ _ e _ => e
end
/-- tables that stand, addresses that a caller locked -/
abbrev Cxt := List (Addr × Str) × (Addr → Prop)
abbrev T0 : Cxt := ([], fun _ => False)
def Tbs (T : Cxt) (H : Hp) : Prop := LamX.Tabs T.1 H ∧ ∀ a, T.2 a → ∃ o u, H a = some (.frz o u)
theorem Tbs0 {H : Hp} : Tbs T0 H := ⟨fun _ h => (by cases h), fun _ h => h.elim⟩
theorem Tbs.ext {T : Cxt} {H H' : Hp} (t : Tbs T H) (e : ∀ b o, H b = some o → H' b = some o) : Tbs T H' := ⟨LamX.Tabs.ext t.1 e, fun a h => let ⟨o, u, q⟩ := t.2 a h; ⟨o, u, e _ _ q⟩⟩
theorem Tabs.keep {T : Cxt} {H H' : Hp} (t : Tbs T H) (e : ∀ b o, H b = some o → (∀ xs, o ≠ .lst xs) → (∀ xs, o ≠ .dK xs) → (∀ xs, o ≠ .dT xs) → (∀ C dx fs, o ≠ .ins C dx fs) → H' b = some o) : Tbs T H' := ⟨fun p hp => by
  obtain ⟨ps, h1, h2, h3⟩ := t.1 p hp
  refine ⟨ps, e _ _ h1 (fun _ z => nomatch z) (fun _ z => nomatch z) (fun _ z => nomatch z) (fun _ _ _ z => nomatch z), h2, fun pos cv hc => ?_⟩
  obtain ⟨c, e1, e2⟩ := h3 pos cv hc
  exact ⟨c, e1, e _ _ e2 (fun _ z => nomatch z) (fun _ z => nomatch z) (fun _ z => nomatch z) (fun _ _ _ z => nomatch z)⟩, fun a h => by
  obtain ⟨o, u, q⟩ := t.2 a h
  exact ⟨o, u, e _ _ q (fun _ z => nomatch z) (fun _ z => nomatch z) (fun _ z => nomatch z) (fun _ _ _ z => nomatch z)⟩⟩
/-- the addresses that the slots own; that a result owns -/
def HasA (o : Option (Option V)) (s : S) (a : Addr) : Prop := ∃ v, o = some (some v) ∧ s.has v a
def HasR (o : Option V) (s : S) (a : Addr) : Prop := ∃ v, o = some v ∧ s.has v a
def Own (σ : St) (e : En) : Addr → Prop := fun a => ∃ (i : Nat) (s : S), e[i]? = some (some s) ∧ s.owned = true ∧ HasA σ[i]? s a
def OwnR (vs : List V) (rs : List R) : Addr → Prop := fun a => ∃ (i : Nat) (s : S), rs[i]? = some (.own s) ∧ HasR vs[i]? s a
structure Rep (T : Cxt) (K : PySem.W.Frag) (M : Addr → Prop) (σ : St) (H : Hp) (e : En) : Prop where
  len : e.length = σ.length
  at_ : ∀ (i : Nat) (s : S), e[i]? = some (some s) → ∃ v, σ[i]? = some (some v) ∧ RS (fun a => M a ∨ Own σ e a) K H v s
  inj : ∀ (i j : Nat) (s t : S) (a : Addr), e[i]? = some (some s) → s.owned = true → e[j]? = some (some t) → t.owned = true → HasA σ[i]? s a → HasA σ[j]? t a → i = j
  apart : ∀ a, M a → ¬ Own σ e a
  dom : ∀ a, M a → Live H a
  tabs : Tbs T H
/-- what one result is -/
def RV (N : Addr → Prop) (K : PySem.W.Frag) (H : Hp) (σ : St) (e : En) (v : V) : R → Prop
  | .d x => Hd N K H v x
  | .s i => ∃ s : S, e[i]? = some (some s) ∧ σ[i]? = some (some v)
  | .own s => s.owned = true ∧ RS N K H v s
theorem RV.sub {N N' : Addr → Prop} {K : PySem.W.Frag} {H : Hp} {σ : St} {e : En} {v : V} {r : R} (h : ∀ a, N' a → N a) (q : RV N K H σ e v r) : RV N' K H σ e v r := by
  cases r with
  | d x => exact Hd.sub h q
  | s i => exact q
  | own s => exact ⟨q.1, q.2.sub h⟩
structure Reps (T : Cxt) (K : PySem.W.Frag) (M : Addr → Prop) (σ : St) (H : Hp) (e : En) (vs : List V) (rs : List R) : Prop where
  rep : Rep T K (fun a => M a ∨ OwnR vs rs a) σ H e
  len : vs.length = rs.length
  val : ∀ (i : Nat) (v : V) (r : R), vs[i]? = some v → rs[i]? = some r → RV (fun a => (M a ∨ OwnR vs rs a) ∨ Own σ e a) K H σ e v r
  inj : ∀ (i j : Nat) (s t : S) (a : Addr), rs[i]? = some (.own s) → rs[j]? = some (.own t) → HasR vs[i]? s a → HasR vs[j]? t a → i = j
  new : ∀ a, OwnR vs rs a → ¬ M a
/-- what a step keeps: all that is tracked outside of F -/
structure Keep (T : Cxt) (F : Addr → Prop) (H : Hp) (F' : Addr → Prop) (H' : Hp) : Prop where
  tup : ∀ a xs, H a = some (.tup xs) → H' a = some (.tup xs)
  keep : ∀ a o, H a = some o → ¬ F a → notTbl o → H' a = some o
  out : ∀ a, Live H a → ¬ F a → ¬ F' a
  tbl : T.1 = [] → ∀ a ps, H a = some (.tbl ps) → H' a = some (.tbl ps)
  dom : ∀ a, Live H a → Live H' a
section
variable {T : Cxt} {K : PySem.W.Frag} {M M' F F' F1 : Addr → Prop} {σ : St} {H H' H1 : Hp} {e e' : En} {vs : List V} {rs : List R}
theorem Keep.refl : Keep T F H F H := ⟨fun _ _ h => h, fun _ _ h _ _ => h, fun _ _ n => n, fun _ _ _ h => h, fun _ h => h⟩
theorem Keep.trans (a : Keep T F H F1 H1) (b : Keep T F1 H1 F' H') : Keep T F H F' H' :=
  ⟨fun c xs h => b.tup c xs (a.tup c xs h), fun c o h n t => b.keep c o (a.keep c o h n t) (a.out c ⟨o, h, t⟩ n) t,
   fun c h n => b.out c (a.dom c h) (a.out c h n), fun t c ps h => b.tbl t c ps (a.tbl t c ps h), fun c h => b.dom c (a.dom c h)⟩
theorem Keep.sub (a : Keep T F H F1 H1) (h : ∀ c, F' c → F1 c) : Keep T F H F' H1 := ⟨a.tup, a.keep, fun c x n z => a.out c x n (h c z), a.tbl, a.dom⟩
theorem Keep.sup (a : Keep T F H F1 H1) (h : ∀ c, F c → F' c) : Keep T F' H F1 H1 := ⟨a.tup, fun c o x n t => a.keep c o x (fun z => n (h c z)) t, fun c x n => a.out c x fun z => n (h c z), a.tbl, a.dom⟩
theorem Rep.tr (k : Keep T (Own σ e) H (Own σ e') H') (dm : ∀ a, M a → Live H a) : Tr (fun a => M a ∨ Own σ e a) H (fun a => M a ∨ Own σ e' a) H' :=
  ⟨k.tup, fun a o x n t => k.keep a o x (fun z => n (.inr z)) t, fun a x n z => z.elim (fun z => n (.inl z)) (k.out a x fun z => n (.inr z))⟩
end
theorem ownR_nil {a : Addr} : ¬ OwnR [] [] a := fun ⟨i, s, h, _⟩ => by simp at h
theorem ownR_cons {v : V} {r : R} {vs : List V} {rs : List R} {a : Addr} : OwnR (v :: vs) (r :: rs) a ↔ OwnR [v] [r] a ∨ OwnR vs rs a := by
  constructor
  · rintro ⟨i, s, h1, h2⟩
    cases i with
    | zero => exact .inl ⟨0, s, by simpa using h1, by simpa using h2⟩
    | succ i => exact .inr ⟨i, s, by simpa using h1, by simpa using h2⟩
  · rintro (⟨i, s, h1, h2⟩ | ⟨i, s, h1, h2⟩)
    · cases i with
      | zero => exact ⟨0, s, by simpa using h1, by simpa using h2⟩
      | succ i => simp at h1
    · exact ⟨i + 1, s, by simpa using h1, by simpa using h2⟩
theorem ownR_one {v : V} {r : R} {a : Addr} : OwnR [v] [r] a ↔ ∃ s, r = .own s ∧ s.has v a := by
  constructor
  · rintro ⟨i, s, h1, h2⟩
    cases i with
    | zero =>
      obtain ⟨w, e, h⟩ := h2
      simp only [List.getElem?_cons_zero, Option.some.injEq] at e h1
      subst e
      exact ⟨s, h1, h⟩
    | succ i => simp at h1
  · rintro ⟨s, rfl, h⟩
    exact ⟨0, s, rfl, v, rfl, h⟩
theorem ownR_d {v : V} {x : D} {a : Addr} : ¬ OwnR [v] [.d x] a := fun h => by obtain ⟨s, e, _⟩ := ownR_one.mp h; cases e
theorem ownR_s {v : V} {i : Nat} {a : Addr} : ¬ OwnR [v] [.s i] a := fun h => by obtain ⟨s, e, _⟩ := ownR_one.mp h; cases e
section
variable {T : Cxt} {K : PySem.W.Frag} {M M' F F' F1 : Addr → Prop} {σ : St} {H H' H1 : Hp} {e e' : En} {v : V} {r : R} {vs : List V} {rs : List R}
theorem Rep.sub (h : Rep T K M σ H e) (hM : ∀ a, M' a → M a) : Rep T K M' σ H e :=
  ⟨h.len, fun i s x => let ⟨v, e1, q⟩ := h.at_ i s x; ⟨v, e1, q.sub fun a z => z.imp (hM a) id⟩, h.inj, fun a z => h.apart a (hM a z), fun a z => h.dom a (hM a z), h.tabs⟩
theorem Rep.own_at (h : Rep T K M σ H e) {a : Addr} (ho : Own σ e a) : ∃ o, H a = some o ∧ notTbl o ∧ (∀ xs, o ≠ .tup xs) ∧ Mut (some o) := by
  obtain ⟨i, s, h1, h2, w, h3, hs⟩ := ho
  obtain ⟨v, e1, q⟩ := h.at_ i s h1
  rw [h3] at e1
  cases e1
  exact q.at hs
theorem Rep.own_some (h : Rep T K M σ H e) {a : Addr} (ho : Own σ e a) : ∃ o, H a = some o ∧ Mut (some o) := by
  obtain ⟨i, s, h1, h2, h3⟩ := ho
  obtain ⟨v, e1, q⟩ := h.at_ i s h1
  obtain ⟨w, e2, h3⟩ := h3
  rw [e2] at e1
  cases e1
  obtain ⟨o, e3, _, _, m⟩ := q.at h3
  exact ⟨o, e3, m⟩
theorem Rep.own_live (h : Rep T K M σ H e) {a : Addr} (ho : Own σ e a) : Live H a := by
  obtain ⟨o, q, m⟩ := h.own_some ho
  exact ⟨o, q, fun ps z => by rw [z] at m; exact m⟩
/-- slots stay assigned -/
def Stay (e e' : En) : Prop := ∀ (i : Nat) (s : S), e[i]? = some (some s) → ∃ s' : S, e'[i]? = some (some s')
theorem Stay.refl : Stay e e := fun _ s h => ⟨s, h⟩
theorem Stay.trans {e1 : En} (a : Stay e e1) (b : Stay e1 e') : Stay e e' := fun i s h => let ⟨_, h1⟩ := a i s h; b i _ h1
theorem Reps.nil (h : Rep T K M σ H e) : Reps T K M σ H e [] [] :=
  ⟨h.sub fun a z => z.elim id fun z => (ownR_nil z).elim, rfl, fun i v r h => by simp at h, fun i j s t a h => by simp at h, fun a z => (ownR_nil z).elim⟩
theorem Reps.toRep (h : Reps T K M σ H e vs rs) : Rep T K M σ H e := h.rep.sub fun _ z => .inl z
theorem Reps.cons (a : Reps T K M σ H e [v] [r]) (b : Reps T K (fun a => M a ∨ OwnR [v] [r] a) σ H' e' vs rs) (k : Keep T (Own σ e) H (fun a => Own σ e' a ∨ OwnR vs rs a) H') (st : Stay e e') : Reps T K M σ H' e' (v :: vs) (r :: rs) := by
  have eqv : (fun a => M a ∨ OwnR (v :: vs) (r :: rs) a) = fun a => (M a ∨ OwnR [v] [r] a) ∨ OwnR vs rs a := by
    funext a
    rw [ownR_cons]
    exact propext ⟨fun z => z.elim (fun z => .inl (.inl z)) fun z => z.elim (fun z => .inl (.inr z)) .inr, fun z => z.elim (fun z => z.elim .inl fun z => .inr (.inl z)) fun z => .inr (.inr z)⟩
  have tr : Tr (fun c => (M c ∨ OwnR [v] [r] c) ∨ Own σ e c) H (fun c => (M c ∨ OwnR (v :: vs) (r :: rs) c) ∨ Own σ e' c) H' := by
    refine ⟨k.tup, fun c o x n t => k.keep c o x (fun z => n (.inr z)) t, fun c x n z => ?_⟩
    have z2 := k.out c x (fun z => n (.inr z))
    rw [ownR_cons] at z
    rcases z with (z | z | z) | z
    · exact n (.inl (.inl z))
    · exact n (.inl (.inr z))
    · exact z2 (.inr z)
    · exact z2 (.inl z)
  refine ⟨by rw [eqv]; exact b.rep, by rw [List.length_cons, List.length_cons, b.len], fun i w t h1 h2 => ?_, fun i j s t c h1 h2 h3 h4 => ?_, fun c z => ?_⟩
  · cases i with
    | zero =>
      simp only [List.getElem?_cons_zero, Option.some.injEq] at h1 h2
      subst h1 h2
      have q := a.val 0 v r rfl rfl
      cases r with
      | d x => exact Hd.tr tr q
      | s j => obtain ⟨s, h1, h2⟩ := q; obtain ⟨s', h3⟩ := st j s h1; exact ⟨s', h3, h2⟩
      | own s =>
        refine ⟨q.1, q.2.tr tr fun c o e1 _ e2 mu => k.keep c o e2 (a.rep.apart c (.inr (ownR_one.mpr ⟨s, rfl, e1⟩))) fun ps z => ?_⟩
        rw [z] at mu
        exact mu
    | succ i =>
      have q := b.val i w t (by simpa using h1) (by simpa using h2)
      exact q.sub fun c z => z.imp (fun z => z.elim (fun z => .inl (.inl z)) fun z => (ownR_cons.mp z).imp .inr id |>.elim (fun z => .inl z) .inr) id
  · cases i with
    | zero =>
      cases j with
      | zero => rfl
      | succ j =>
        simp only [List.getElem?_cons_zero, Option.some.injEq] at h1 h3
        exact (b.new c ⟨j, t, by simpa using h2, by simpa using h4⟩ (.inr (ownR_one.mpr ⟨s, h1, let ⟨_, e, y⟩ := h3; by cases e; exact y⟩))).elim
    | succ i =>
      cases j with
      | zero =>
        simp only [List.getElem?_cons_zero, Option.some.injEq] at h2 h4
        exact (b.new c ⟨i, s, by simpa using h1, by simpa using h3⟩ (.inr (ownR_one.mpr ⟨t, h2, let ⟨_, e, y⟩ := h4; by cases e; exact y⟩))).elim
      | succ j => rw [b.inj i j s t c (by simpa using h1) (by simpa using h2) (by simpa using h3) (by simpa using h4)]
  · rcases ownR_cons.mp z with z | z
    · exact a.new c z
    · exact fun q => b.new c z (.inl q)
/-- what a result is, seen as data -/
def see (e : En) : R → Option D
  | .d x => some x
  | .own s => some s.fz
  | .s i => match e[i]? with
    | some (some s) => some s.fz
    | _ => none
def seeL (e : En) : List R → Option (List D)
  | [] => some []
  | r :: rs => match see e r, seeL e rs with
    | some x, some xs => some (x :: xs)
    | _, _ => none
inductive HdEs (N : Addr → Prop) (K : PySem.W.Frag) (H : Hp) : List V → List D → Prop
  | nil : HdEs N K H [] []
  | cons {v : V} {vs : List V} {d : D} {ds : List D} : HdE N K H v d → HdEs N K H vs ds → HdEs N K H (v :: vs) (d :: ds)
theorem Rep.see {N : Addr → Prop} (h : Rep T K M σ H e) (hN : ∀ a, N a → M a ∨ Own σ e a) {d : D} (q : RV N K H σ e v r) (es : see e r = some d) : HdE N K H v d := by
  cases r with
  | d x => cases es; exact Hd.e q
  | own s => cases es; exact q.2.e
  | s i =>
    obtain ⟨s, e1, e2⟩ := q
    unfold Wl.see at es
    simp only [e1, Option.some.injEq] at es
    subst es
    obtain ⟨v', e3, q⟩ := h.at_ i s e1
    rw [e2] at e3
    cases e3
    exact (q.sub hN).e
theorem sees {N : Addr → Prop} (h : Rep T K M σ H e) (hN : ∀ a, N a → M a ∨ Own σ e a) : ∀ {vs : List V} {rs : List R} {ds : List D}, vs.length = rs.length → (∀ (i : Nat) v r, vs[i]? = some v → rs[i]? = some r → RV N K H σ e v r) → seeL e rs = some ds → HdEs N K H vs ds
  | [], [], _, _, _, es => by cases es; exact .nil
  | v :: vs, r :: rs, ds, hl, hv, es => by
    unfold seeL at es
    split at es
    · rename_i x xs e1 e2
      cases es
      exact .cons (h.see hN (hv 0 v r rfl rfl) e1) (sees h hN (by simpa using hl) (fun i v r h1 h2 => hv (i + 1) v r (by simpa using h1) (by simpa using h2)) e2)
    · cases es
theorem Reps.see {ds : List D} (h : Reps T K M σ H e vs rs) (es : seeL e rs = some ds) : HdEs (fun a => (M a ∨ OwnR vs rs a) ∨ Own σ e a) K H vs ds :=
  sees h.rep (fun _ z => z) h.len h.val es
/-- a result that is data -/
theorem Rep.d {x : D} (h : Rep T K M σ H e) (q : Hd (fun a => M a ∨ Own σ e a) K H v x) : Reps T K M σ H e [v] [.d x] := by
  refine ⟨h.sub fun a z => z.elim id fun z => (ownR_d z).elim, rfl, fun i w t h1 h2 => ?_, fun i j s t c h1 => ?_, fun a z => (ownR_d z).elim⟩
  · cases i with
    | zero =>
      simp only [List.getElem?_cons_zero, Option.some.injEq] at h1 h2
      subst h1 h2
      exact Hd.sub (fun a z => z.elim (fun z => z.elim .inl fun z => (ownR_d z).elim) .inr) q
    | succ i => simp at h1
  · cases i <;> simp at h1
theorem keep_d {x : D} (h : Reps T K M σ H e vs rs) : Keep T (fun a => Own σ e a ∨ OwnR vs rs a) H (fun a => Own σ e a ∨ OwnR [v] [.d x] a) H :=
  Keep.refl.sub fun _ z => z.imp id fun z => (ownR_d z).elim
/-- a new thing is laid -/
theorem Rep.new {p : Addr} {o : HO} (h : Rep T K M σ H e) (hp : H p = none) : Rep T K M σ (upd H p o) e := by
  have st : ∀ b u, H b = some u → upd H p o b = some u := fun b u q => by rw [upd_ne (ne_of_none q hp)]; exact q
  refine ⟨h.len, fun i s x => ?_, h.inj, h.apart, fun a z => ?_, Tbs.ext h.tabs st⟩
  · obtain ⟨v, e1, q⟩ := h.at_ i s x
    exact ⟨v, e1, q.tr ⟨fun a xs q => st a _ q, fun a u q _ _ => st a u q, fun a _ n => n⟩ fun a u _ _ q _ => st a u q⟩
  · obtain ⟨u, q, n⟩ := h.dom a z
    exact ⟨u, st a u q, n⟩
theorem keep_new {p : Addr} {o : HO} (hp : H p = none) : Keep T F H F (upd H p o) := by
  have st : ∀ b u, H b = some u → upd H p o b = some u := fun b u q => by rw [upd_ne (ne_of_none q hp)]; exact q
  exact ⟨fun a xs q => st a _ q, fun a u q _ _ => st a u q, fun a _ n => n, fun _ a ps q => st a _ q, fun a ⟨u, q, n⟩ => ⟨u, st a u q, n⟩⟩
theorem Hd.new {N : Addr → Prop} {p : Addr} {o : HO} {d : D} (hp : H p = none) (q : Hd N K H v d) : Hd N K (upd H p o) v d :=
  q.tr ⟨fun a xs q => by rw [upd_ne (ne_of_none q hp)]; exact q, fun a u q _ _ => by rw [upd_ne (ne_of_none q hp)]; exact q, fun a _ n => n⟩
theorem HdL.new {N : Addr → Prop} {p : Addr} {o : HO} {d : List D} (hp : H p = none) (q : HdL N K H vs d) : HdL N K (upd H p o) vs d :=
  q.tr ⟨fun a xs q => by rw [upd_ne (ne_of_none q hp)]; exact q, fun a u q _ _ => by rw [upd_ne (ne_of_none q hp)]; exact q, fun a _ n => n⟩
theorem Rep.free (h : Rep T K M σ H e) {p : Addr} (hp : H p = none) : ¬ M p ∧ ¬ Own σ e p :=
  ⟨fun z => (h.dom p z).ne hp, fun z => by obtain ⟨o, q, _⟩ := h.own_some z; rw [hp] at q; cases q⟩
/-- a new thing as a result -/
theorem Rep.own {p : Addr} {o : HO} {s : S} (h : Rep T K M σ H e) (hp : H p = none) (hs : s.owned = true) (q : ∀ N', Tr (fun a => M a ∨ Own σ e a) H N' (upd H p o) → RS N' K (upd H p o) (.ref p) s) (hl : s.lone = true := by rfl) : Reps T K M σ (upd H p o) e [.ref p] [.own s] := by
  have f := h.free hp
  have on : ∀ {a : Addr}, OwnR [V.ref p] [.own s] a → a = p := fun z => by obtain ⟨_, z1, e⟩ := ownR_one.mp z; cases z1; have e := S.lone_has hl e; cases e; rfl
  have st : ∀ b u, H b = some u → upd H p o b = some u := fun b u q => by rw [upd_ne (ne_of_none q hp)]; exact q
  have avT : Tr (fun a => M a ∨ Own σ e a) H (fun a => (M a ∨ OwnR [V.ref p] [.own s] a) ∨ Own σ e a) (upd H p o) := ⟨fun a xs q => st a _ q, fun a u q _ _ => st a u q, fun a x n z => by
    rcases z with (z | z) | z
    · exact n (.inl z)
    · rw [on z] at x; exact x.ne hp
    · exact n (.inr z)⟩
  refine ⟨⟨h.len, fun i s x => ?_, h.inj, fun a z => z.elim (h.apart a) fun z => by rw [on z]; exact f.2, fun a z => ?_, Tbs.ext h.tabs st⟩, rfl, fun i w t h1 h2 => ?_, fun i j s t a h1 h2 h3 h4 => ?_, fun a z => by rw [on z]; exact f.1⟩
  · obtain ⟨v, e1, q⟩ := h.at_ i s x
    exact ⟨v, e1, q.tr avT fun a u _ _ q _ => st a u q⟩
  · rcases z with z | z
    · obtain ⟨u, q, n⟩ := h.dom a z
      exact ⟨u, st a u q, n⟩
    · rw [on z]
      obtain ⟨b, u, e, q, n, _⟩ := (q _ avT).ow hs
      cases e
      exact ⟨u, q, n⟩
  · cases i with
    | zero =>
      simp only [List.getElem?_cons_zero, Option.some.injEq] at h1 h2
      subst h1 h2
      exact ⟨hs, q _ avT⟩
    | succ i => simp at h1
  · cases i with
    | zero =>
      cases j with
      | zero => rfl
      | succ j => simp at h2
    | succ i => simp at h1
theorem keep_own {p : Addr} {o : HO} {s : S} (h : Reps T K M σ H e vs rs) (hp : H p = none) (hl : s.lone = true := by rfl) : Keep T (fun a => Own σ e a ∨ OwnR vs rs a) H (fun a => Own σ e a ∨ OwnR [V.ref p] [.own s] a) (upd H p o) := by
  have st : ∀ b u, H b = some u → upd H p o b = some u := fun b u q => by rw [upd_ne (ne_of_none q hp)]; exact q
  refine ⟨fun a xs q => st a _ q, fun a u q _ _ => st a u q, fun a x n z => ?_, fun _ a ps q => st a _ q, fun a z => ?_⟩
  · rcases z with z | z
    · exact n (.inl z)
    · obtain ⟨_, z1, e⟩ := ownR_one.mp z
      cases z1
      have e := S.lone_has hl e
      cases e
      exact x.ne hp
  · obtain ⟨u, q, n⟩ := z
    exact ⟨u, st a u q, n⟩
end
end Wl
namespace Wl
open PySem PySem.Spec PyProof.Rows L2 RZ
abbrev Kx := Addr → List (Str × D) → En → Prop
abbrev WE := En → (R → En → Prop) → Kx → Prop
abbrev WA := En → (List R → En → Prop) → Kx → Prop
abbrev WT := En → (Bool → En → Prop) → Kx → Prop
/-- what an exception that leaves finds -/
def ExOk (T : Cxt) (K : PySem.W.Frag) (M : Addr → Prop) (σ : St) (H : Hp) (e : En) (W : WX) (kx : Kx) : Prop :=
  ∀ C fs e', kx C fs e' → ∀ dd gs H', Rep T K M σ H' e' → H' dd = some (.xd gs) → gs.map (·.1) = fs.map (·.1) → HdL (fun a => M a ∨ Own σ e' a) K H' (gs.map (·.2)) (fs.map (·.2)) → Keep T (Own σ e) H (Own σ e') H' → W (.ref C) (some dd) σ H'
def lift (T : Cxt) (K : PySem.W.Frag) (W : WX) (f : WE) : TE := fun σ H Q => ∃ M e k kx, Rep T K M σ H e ∧ f e k kx ∧
  (∀ r e', k r e' → ∀ v H', Reps T K M σ H' e' [v] [r] → Keep T (Own σ e) H (fun a => Own σ e' a ∨ OwnR [v] [r] a) H' → Stay e e' → Q v H') ∧ ExOk T K M σ H e W kx
def liftA (T : Cxt) (K : PySem.W.Frag) (W : WX) (f : WA) : TA := fun σ H Q => ∃ M e k kx, Rep T K M σ H e ∧ f e k kx ∧
  (∀ rs e', k rs e' → ∀ vs H', Reps T K M σ H' e' vs rs → Keep T (Own σ e) H (fun a => Own σ e' a ∨ OwnR vs rs a) H' → Stay e e' → Q vs H') ∧ ExOk T K M σ H e W kx
def liftT (T : Cxt) (K : PySem.W.Frag) (W : WX) (f : WT) : TT := fun σ H Q => ∃ M e k kx, Rep T K M σ H e ∧ f e k kx ∧
  (∀ b e', k b e' → ∀ H', Rep T K M σ H' e' → Keep T (Own σ e) H (Own σ e') H' → Stay e e' → Q b H') ∧ ExOk T K M σ H e W kx
def wNil : WA := fun e k _ => k [] e
def wCons (f : WE) (g : WA) : WA := fun e k kx => f e (fun r e1 => g e1 (fun rs e2 => k (r :: rs) e2) kx) kx
section
variable {T : Cxt} {K : PySem.W.Frag} {W : WX} {σ : St} {H : Hp}
theorem ExOk.step {M M1 : Addr → Prop} {H1 : Hp} {e e1 : En} {kx : Kx} (x : ExOk T K M σ H e W kx) (hM : ∀ a, M a → M1 a) (k : Keep T (Own σ e) H (Own σ e1) H1) : ExOk T K M1 σ H1 e1 W kx :=
  fun C fs e' hk dd gs H' r hd hn hl kk => x C fs e' hk dd gs H' (r.sub hM) hd hn (hl.sub fun _ z => z.imp (hM _) id) (k.trans kk)
theorem keep_cons {e e1 e2 : En} {H1 H2 : Hp} {v : V} {r : R} {vs : List V} {rs : List R} (a : Keep T (Own σ e) H (fun a => Own σ e1 a ∨ OwnR [v] [r] a) H1) (b : Keep T (Own σ e1) H1 (fun a => Own σ e2 a ∨ OwnR vs rs a) H2) :
    Keep T (Own σ e) H (fun a => Own σ e2 a ∨ OwnR (v :: vs) (r :: rs) a) H2 := by
  have a' := a.sub (F' := Own σ e1) fun _ => .inl
  have c := a'.trans b
  refine ⟨c.tup, c.keep, fun c h n z => ?_, c.tbl, c.dom⟩
  rw [ownR_cons] at z
  have n1 := a.out c h n
  have n2 := b.out c (a.dom c h) fun z => n1 (.inl z)
  rcases z with z | z | z
  · exact n2 (.inl z)
  · exact n1 (.inr z)
  · exact n2 (.inr z)
theorem liftA_nil {Q : List V → Hp → Prop} (h : liftA T K W wNil σ H Q) : Q [] H := by
  obtain ⟨M, e, k, kx, r, f, q, _⟩ := h
  exact q [] e f [] H (Reps.nil r) (Keep.refl.sub fun _ z => z.elim id fun z => (ownR_nil z).elim) .refl
theorem liftA_cons {f : WE} {g : WA} {Q : List V → Hp → Prop} (h : liftA T K W (wCons f g) σ H Q) : lift T K W f σ H fun v H1 => liftA T K W g σ H1 fun vs H2 => Q (v :: vs) H2 := by
  obtain ⟨M, e, k, kx, rp, hf, q, x⟩ := h
  refine ⟨M, e, _, kx, rp, hf, fun r e1 hg v H1 p1 k1 s1 => ?_, x⟩
  refine ⟨_, e1, _, kx, p1.rep, hg, fun rs e2 hk vs H2 p2 k2 s2 => ?_, x.step (fun _ => .inl) (k1.sub fun _ => .inl)⟩
  exact q _ _ hk _ _ (p1.cons p2 k2 s2) (keep_cons k1 k2) (s1.trans s2)
/-- what an operation by values asks, by what its operands are seen as -/
def OpSpec (K : PySem.W.Frag) (r : List V → Hp → VK → Prop) (g : List D → (R → Prop) → Prop) : Prop :=
  ∀ (T : Cxt) (M : Addr → Prop) (σ : St) (H : Hp) (e : En) (vs : List V) (rs : List R) (ds : List D) (k : R → Prop) (Q : VK), Reps T K M σ H e vs rs → HdEs (fun a => (M a ∨ OwnR vs rs a) ∨ Own σ e a) K H vs ds → g ds k →
    (∀ r, k r → ∀ v H', Reps T K M σ H' e [v] [r] → Keep T (fun a => Own σ e a ∨ OwnR vs rs a) H (fun a => Own σ e a ∨ OwnR [v] [r] a) H' → Q v H') → r vs H Q
def wOp (g : List D → (R → Prop) → Prop) (fr : WA) : WE := fun e k kx => fr e (fun rs e1 => ∃ ds, seeL e1 rs = some ds ∧ g ds fun r => k r e1) kx
theorem lift_op {r : List V → Hp → VK → Prop} {g : List D → (R → Prop) → Prop} {fr : WA} {Q : VK} (o : OpSpec K r g) (h : lift T K W (wOp g fr) σ H Q) : liftA T K W fr σ H fun vs H1 => r vs H1 Q := by
  obtain ⟨M, e, k, kx, rp, hf, q, x⟩ := h
  refine ⟨M, e, _, kx, rp, hf, fun rs e1 ⟨ds, hs, hg⟩ vs H1 p1 k1 s1 => ?_, x⟩
  exact o T M σ H1 e1 vs rs ds _ Q p1 (p1.see hs) hg fun r hk v H' p' kk => q r e1 hk v H' p' (k1.trans kk) s1
/-- an operation that only reads -/
theorem OpSpec.read {r : List V → Hp → VK → Prop} {g : List D → (R → Prop) → Prop} (h : ∀ (N : Addr → Prop) (H : Hp) (vs : List V) (ds : List D) (k : R → Prop) (Q : VK), HdEs N K H vs ds → g ds k → (∀ x, k (.d x) → ∀ v, Hd N K H v x → Q v H) → r vs H Q) : OpSpec K r g :=
  fun T M σ H e vs rs ds k Q p hd hg q => h _ H vs ds _ Q hd hg fun x hk v hv => q _ hk v H ((p.toRep).d (hv.sub fun _ z => z.imp .inl id)) (keep_d p)
/-- a new tuple -/
theorem OpSpec.tup {r : List V → Hp → VK → Prop} {g : List D → (R → Prop) → Prop} (h : ∀ (N : Addr → Prop) (H : Hp) (vs : List V) (ds : List D) (k : R → Prop) (Q : VK), HdEs N K H vs ds → g ds k → (∀ x, k (.d x) → ∀ v, Hd N K H v x → Q v H) → (∀ xs, k (.d (.tup xs)) → ∀ ys, HdL N K H ys xs → ∀ p, H p = none → Q (.ref p) (upd H p (.tup ys))) → r vs H Q) : OpSpec K r g :=
  fun T M σ H e vs rs ds k Q p hd hg q => h _ H vs ds _ Q hd hg (fun x hk v hv => q _ hk v H ((p.toRep).d (hv.sub fun _ z => z.imp .inl id)) (keep_d p)) fun xs hk ys hy a ha => q _ hk _ _ (((p.toRep).new ha).d (.tup (.inl upd_same) ((HdL.new ha hy).sub fun _ z => z.imp .inl id))) ((keep_d p).trans (keep_new ha))
/-- a new list -/
theorem OpSpec.lst {r : List V → Hp → VK → Prop} {g : List D → (R → Prop) → Prop} (h : ∀ (N : Addr → Prop) (H : Hp) (vs : List V) (ds : List D) (k : R → Prop) (Q : VK), HdEs N K H vs ds → g ds k → (∀ xs, k (.own (.l xs)) → ∀ ys, HdL N K H ys xs → ∀ p, H p = none → Q (.ref p) (upd H p (.lst ys))) → r vs H Q) : OpSpec K r g :=
  fun T M σ H e vs rs ds k Q p hd hg q => h _ H vs ds _ Q hd hg fun xs hk ys hy a ha => q _ hk _ _ ((p.toRep).own ha rfl fun N' t => ⟨a, ys, rfl, upd_same, (hy.sub fun _ z => z.imp .inl id).tr t⟩) (keep_own p ha)
/-- any of these -/
theorem OpSpec.any {r : List V → Hp → VK → Prop} {g : List D → (R → Prop) → Prop} (h : ∀ (N : Addr → Prop) (H : Hp) (vs : List V) (ds : List D) (k : R → Prop) (Q : VK), HdEs N K H vs ds → g ds k → (∀ x, k (.d x) → ∀ v, Hd N K H v x → Q v H) → (∀ xs, k (.d (.tup xs)) → ∀ ys, HdL N K H ys xs → ∀ p, H p = none → Q (.ref p) (upd H p (.tup ys))) →
    (∀ xs, k (.own (.l xs)) → ∀ ys, HdL N K H ys xs → ∀ p, H p = none → Q (.ref p) (upd H p (.lst ys))) → r vs H Q) : OpSpec K r g :=
  fun T M σ H e vs rs ds k Q p hd hg q => h _ H vs ds _ Q hd hg (fun x hk v hv => q _ hk v H ((p.toRep).d (hv.sub fun _ z => z.imp .inl id)) (keep_d p)) (fun xs hk ys hy a ha => q _ hk _ _ (((p.toRep).new ha).d (.tup (.inl upd_same) ((HdL.new ha hy).sub fun _ z => z.imp .inl id))) ((keep_d p).trans (keep_new ha)))
    fun xs hk ys hy a ha => q _ hk _ _ ((p.toRep).own ha rfl fun N' t => ⟨a, ys, rfl, upd_same, (hy.sub fun _ z => z.imp .inl id).tr t⟩) (keep_own p ha)
end
end Wl
namespace Wl
open PySem PySem.Spec PyProof.Rows L2 RZ
theorem PE.weak {X : Cx} {e : Expr} {t t' : TE} (h : PE X e t) (i : ∀ σ H Q, t' σ H Q → t σ H Q) : PE X e t' := ⟨fun pins s σ H Q I q => h.run pins s σ H Q I (i σ H Q q)⟩
theorem PT.weak {X : Cx} {e : Expr} {t t' : TT} (h : PT X e t) (i : ∀ σ H Q, t' σ H Q → t σ H Q) : PT X e t' := ⟨fun pins s σ H Q I q => h.run pins s σ H Q I (i σ H Q q)⟩
theorem PW.weak {X : Cx} {e : Expr} {t t' : TT} (h : PW X e t) (i : ∀ σ H Q, t' σ H Q → t σ H Q) : PW X e t' := ⟨fun w pins s σ H Q I q => h.run w pins s σ H Q I (i σ H Q q)⟩
theorem PA.weak {X : Cx} {e : List Expr} {t t' : TA} (h : PA X e t) (i : ∀ σ H Q, t' σ H Q → t σ H Q) : PA X e t' := ⟨fun p pins s σ H Q I q => h.run p pins s σ H Q I (i σ H Q q)⟩
def wVar (i : Nat) : WE := fun e k _ => match e[i]? with
  | some (some (.d x)) => k (.d x) e
  | some (some _) => k (.s i) e
  | _ => False
def wC (d : D) : WE := fun e k _ => k (.d d) e
/-- constants by their value -/
inductive Cn : V → D → Prop
  | non : Cn .non .non
  | bl (b) : Cn (.bl b) (.bl b)
  | int (i) : Cn (.int i) (.int i)
  | str (x) : Cn (.str x) (.str x)
  | ty (n) : Cn (.ty n) (.ty n)
  | fn (a) : Cn (.ref a) (.fn a)
section
variable {T : Cxt} {K : PySem.W.Frag} {W : WX} {σ : St} {H : Hp}
theorem Cn.hd {v : V} {d : D} {N : Addr → Prop} (c : Cn v d) : Hd N K H v d := by
  cases c with
  | non => exact .non
  | bl b => exact .bl b
  | int i => exact .int i
  | str x => exact .str x
  | ty n => exact .ty n
  | fn a => exact .fn a
theorem lift_var {i : Nat} {Q : VK} (h : lift T K W (wVar i) σ H Q) : tVar i σ H Q := by
  obtain ⟨M, e, k, kx, r, f, q, _⟩ := h
  unfold wVar at f
  split at f
  · rename_i x e1
    obtain ⟨v, e2, hv⟩ := r.at_ i _ e1
    exact ⟨v, e2, q _ e f v H (r.d hv) (Keep.refl.sub fun _ z => z.elim id fun z => (ownR_d z).elim) .refl⟩
  · rename_i s hs e1
    obtain ⟨v, e2, hv⟩ := r.at_ i _ e1
    refine ⟨v, e2, q _ e f v H ⟨r.sub fun a z => z.elim id fun z => (ownR_s z).elim, rfl, fun j w t h1 h2 => ?_, fun j l s t c h1 => ?_, fun a z => (ownR_s z).elim⟩ (Keep.refl.sub fun _ z => z.elim id fun z => (ownR_s z).elim) .refl⟩
    · cases j with
      | zero =>
        simp only [List.getElem?_cons_zero, Option.some.injEq] at h1 h2
        subst h1 h2
        exact ⟨_, e1, e2⟩
      | succ j => simp at h1
    · cases j <;> simp at h1
  · exact f.elim
theorem lift_c {v : V} {d : D} {Q : VK} (c : ∀ N H, Hd N K H v d) (h : lift T K W (wC d) σ H Q) : tC v σ H Q := by
  obtain ⟨M, e, k, kx, r, f, q, _⟩ := h
  exact q _ e f v H (r.d (c _ _)) (Keep.refl.sub fun _ z => z.elim id fun z => (ownR_d z).elim) .refl
end
section
variable {X : Cx} {T : Cxt} {K : PySem.W.Frag} {W : WX}
theorem w_v (i : Nat) {x : Str} {pos : Pos} (hN : X.N[i]? = some x := by rfl) (hv : Vis X.env.scope x := by first | exact Or.inl rfl | exact Or.inr (Or.inl rfl) | exact Or.inr (Or.inr rfl)) (hd : (x == ("__debug__" : Str)) = false := by decide)
    (hcd : (x == ("__classdict__" : Str)) = false := by decide) : PE X (.Name x pos) (lift T K W (wVar i)) := PE.weak (pe_var hN hv hd hcd) fun _ _ _ => lift_var
theorem w_int {i j pos} : PE X (.Constant (.int i) j pos) (lift T K W (wC (.int i))) := PE.weak pe_int fun _ _ _ => lift_c fun _ _ => .int i
theorem w_bl {b j pos} : PE X (.Constant (.bool b) j pos) (lift T K W (wC (.bl b))) := PE.weak pe_bl fun _ _ _ => lift_c fun _ _ => .bl b
theorem w_non {j pos} : PE X (.Constant .none j pos) (lift T K W (wC .non)) := PE.weak pe_non fun _ _ _ => lift_c fun _ _ => .non
theorem w_str {x j pos} : PE X (.Constant (.str x) j pos) (lift T K W (wC (.str x))) := PE.weak pe_str fun _ _ _ => lift_c fun _ _ => .str x
/-- a module's constant, a def, a class -/
theorem w_glob {x : Str} {v : V} {d : D} {u : Value} {pos : Pos} (hg : Gl X x) (hm : X.mg x = some u) (c : ∀ N H, Hd N K H v d) (r : RelV v u) (hd : (x == ("__debug__" : Str)) = false := by decide) : PE X (.Name x pos) (lift T K W (wC d)) := PE.weak (pe_glob hg hm r hd) fun _ _ _ => lift_c c
theorem w_bltn {x : Str} {n : String} {pos : Pos} (hg : Gl X x) (hm : X.mg x = none) (hv : bootBuiltins x = some (.type n)) (hn : x ≠ "__name__" := by decide) (hd : (x == ("__debug__" : Str)) = false := by decide) : PE X (.Name x pos) (lift T K W (wC (.ty n))) :=
  PE.weak (pe_bltn (v := .ty n) hg hm hv rfl hn hd) fun _ _ _ => lift_c fun _ _ => .ty n
theorem wa_nil : PA X [] (liftA T K W wNil) := PA.weak pa_nil fun _ _ _ => liftA_nil
variable {e a b c : Expr} {es : List Expr} {f fa fb fc : WE} {g : WA} {pos : Pos}
theorem wa_cons (ha : PE X e (lift T K W f)) (hr : PA X es (liftA T K W g)) (hs : starEach (e :: es) X.env = (false, eval e X.env) :: starEach es X.env := by rfl) : PA X (e :: es) (liftA T K W (wCons f g)) := PA.weak (pa_cons ha hr hs) fun _ _ _ => liftA_cons
abbrev w2 (f g : WE) : WA := wCons f (wCons g wNil)
abbrev w1 (f : WE) : WA := wCons f wNil
def r2L (r : R2) : List V → Hp → VK → Prop := fun vs H Q => ∀ x y, vs = [x, y] → r x y H Q
def r1L (r : V → Hp → VK → Prop) : List V → Hp → VK → Prop := fun vs H Q => ∀ x, vs = [x] → r x H Q
theorem lift_op2 {r : R2} {g : List D → (R → Prop) → Prop} {σ : St} {H : Hp} {Q : VK} (o : OpSpec K (r2L r) g) (h : lift T K W (wOp g (w2 fa fb)) σ H Q) : tOp r (lift T K W fa) (lift T K W fb) σ H Q := by
  have z := liftA_cons (lift_op o h)
  obtain ⟨M, e, k, kx, r1, f, q, x⟩ := z
  refine ⟨M, e, k, kx, r1, f, fun r e1 hk v H1 p kk s => ?_, x⟩
  obtain ⟨M, e, k, kx, r1, f, q, x⟩ := liftA_cons (q r e1 hk v H1 p kk s)
  exact ⟨M, e, k, kx, r1, f, fun r e1 hk v H1 p kk s => liftA_nil (q r e1 hk v H1 p kk s) _ _ rfl, x⟩
theorem lift_op1 {r : V → Hp → VK → Prop} {g : List D → (R → Prop) → Prop} {σ : St} {H : Hp} {Q : VK} (o : OpSpec K (r1L r) g) (h : lift T K W (wOp g (w1 fa)) σ H Q) : tUn r (lift T K W fa) σ H Q := by
  obtain ⟨M, e, k, kx, r1, f, q, x⟩ := liftA_cons (lift_op o h)
  exact ⟨M, e, k, kx, r1, f, fun r e1 hk v H1 p kk s => liftA_nil (q r e1 hk v H1 p kk s) _ rfl, x⟩
theorem w_op {op : Operator} {r : R2} {g : List D → (R → Prop) → Prop} (ho : OpR X (binaryOp op) r) (o : OpSpec K (r2L r) g) (ha : PE X a (lift T K W fa)) (hb : PE X b (lift T K W fb)) : PE X (.BinOp a op b pos) (lift T K W (wOp g (w2 fa fb))) := PE.weak (pe_op ho ha hb) fun _ _ _ => lift_op2 o
theorem w_un {op : UnaryOp} {r : V → Hp → VK → Prop} {g : List D → (R → Prop) → Prop} (ho : UnR X (unaryOp op) r) (o : OpSpec K (r1L r) g) (ha : PE X a (lift T K W fa)) : PE X (.UnaryOp op a pos) (lift T K W (wOp g (w1 fa))) := PE.weak (pe_un ho ha) fun _ _ _ => lift_op1 o
theorem w_cmp {op : CmpOp} {r : R2} {g : List D → (R → Prop) → Prop} (ho : OpR X (compareOp op) r) (o : OpSpec K (r2L r) g) (ha : PE X a (lift T K W fa)) (hb : PE X b (lift T K W fb)) (hm : behindInMarks op b = false := by first | exact nomark _ | rfl) : PE X (.Compare a [op] [b] pos) (lift T K W (wOp g (w2 fa fb))) := PE.weak (pe_cmpR ho ha hb hm) fun _ _ _ => lift_op2 o
theorem w_ix {r : R2} {g : List D → (R → Prop) → Prop} (ho : IxR X r) (o : OpSpec K (r2L r) g) (ha : PE X a (lift T K W fa)) (hb : PE X b (lift T K W fb)) (hs : PlainIx b := by exact fun _ _ => rfl) : PE X (.Subscript a b pos) (lift T K W (wOp g (w2 fa fb))) := PE.weak (pe_ix ho ha hb hs) fun _ _ _ => lift_op2 o
theorem w_callB {id : String} {r : List V → Hp → VK → Prop} {gg : List D → (R → Prop) → Prop} {nm : Str} {p : Pos} (hc : CallR X (.builtin id) r) (o : OpSpec K r gg) (hg : Gl X nm) (hm : X.mg nm = none) (hv : bootBuiltins nm = some (.builtin id)) (ha : PA X (e :: es) (liftA T K W g)) (hn : nm ≠ "__name__" := by decide) (hdb : (nm == ("__debug__" : Str)) = false := by decide)
    (he : starEach (e :: es) X.env = (false, eval e X.env) :: starEach es X.env := by rfl) (hpl : (backTo pos (starEach es X.env)).any (·.1) = false := by rfl) : PE X (.Call (.Name nm p) (e :: es) [] pos) (lift T K W (wOp gg g)) := PE.weak (pe_callB hc hg hm hv ha hn hdb he hpl) fun _ _ _ => lift_op o
theorem w_callTy {id : String} {r : List V → Hp → VK → Prop} {gg : List D → (R → Prop) → Prop} {nm : Str} {p : Pos} (hc : CallR X (.type id) r) (o : OpSpec K r gg) (hg : Gl X nm) (hm : X.mg nm = none) (hv : bootBuiltins nm = some (.type id)) (ha : PA X (e :: es) (liftA T K W g)) (hn : nm ≠ "__name__" := by decide) (hdb : (nm == ("__debug__" : Str)) = false := by decide)
    (he : starEach (e :: es) X.env = (false, eval e X.env) :: starEach es X.env := by rfl) (hpl : (backTo pos (starEach es X.env)).any (·.1) = false := by rfl) : PE X (.Call (.Name nm p) (e :: es) [] pos) (lift T K W (wOp gg g)) := PE.weak (pe_callTy hc hg hm hv ha hn hdb he hpl) fun _ _ _ => lift_op o
def wTest (f : WE) : WT := fun e k kx => f e (fun r e1 => ∃ b, see e1 r = some (.bl b) ∧ k b e1) kx
def wAnd (f g : WT) : WT := fun e k kx => f e (fun b e1 => if b = true then g e1 k kx else k false e1) kx
def wOr (f g : WT) : WT := fun e k kx => f e (fun b e1 => if b = true then k true e1 else g e1 k kx) kx
def wNot (f : WT) : WT := fun e k kx => f e (fun b e1 => k (!b) e1) kx
def wIf (f : WT) (g h : WE) : WE := fun e k kx => f e (fun b e1 => if b = true then g e1 k kx else h e1 k kx) kx
section
variable {σ : St} {H : Hp} {Q : VK} {QT : Bool → Hp → Prop}
theorem keep_toRep {e e' : En} {H' : Hp} {v : V} {r : R} (k : Keep T (Own σ e) H (fun a => Own σ e' a ∨ OwnR [v] [r] a) H') : Keep T (Own σ e) H (Own σ e') H' := k.sub fun _ => .inl
theorem see_bl {N : Addr → Prop} {H : Hp} {v : V} {b : Bool} (h : HdE N K H v (.bl b)) : v = .bl b := by
  have h' : Hd N K H v (.bl b) := h
  cases h'
  rfl
theorem see_int {N : Addr → Prop} {H : Hp} {v : V} {b : Int} (h : HdE N K H v (.int b)) : v = .int b := by
  have h' : Hd N K H v (.int b) := h
  cases h'
  rfl
theorem see_str {N : Addr → Prop} {H : Hp} {v : V} {b : Str} (h : HdE N K H v (.str b)) : v = .str b := by
  have h' : Hd N K H v (.str b) := h
  cases h'
  rfl
theorem Reps.see1 {M : Addr → Prop} {e : En} {v : V} {r : R} {d : D} (p : Reps T K M σ H e [v] [r]) (h : Wl.see e r = some d) : HdE (fun a => (M a ∨ OwnR [v] [r] a) ∨ Own σ e a) K H v d :=
  p.rep.see (fun _ z => z) (p.val 0 v r rfl rfl) h
theorem lift_test {f : WE} (h : liftT T K W (wTest f) σ H QT) : lift T K W f σ H fun x H' => ∃ c, x = .bl c ∧ QT c H' := by
  obtain ⟨M, e, k, kx, r, hf, q, x⟩ := h
  refine ⟨M, e, _, kx, r, hf, fun r e1 ⟨b, hs, hk⟩ v H1 p kk s => ?_, x⟩
  exact ⟨b, see_bl (p.see1 hs), q b e1 hk H1 p.toRep (keep_toRep kk) s⟩
theorem liftT_and {f g : WT} (h : liftT T K W (wAnd f g) σ H QT) : tAnd (liftT T K W f) (liftT T K W g) σ H QT := by
  obtain ⟨M, e, k, kx, r, hf, q, x⟩ := h
  refine ⟨M, e, _, kx, r, hf, fun b e1 hk H1 p kk s => ?_, x⟩
  cases b with
  | true => exact iteT ⟨M, e1, k, kx, p, by simpa using hk, fun b e2 hk H2 p2 kk2 s2 => q b e2 hk H2 p2 (kk.trans kk2) (s.trans s2), x.step (fun _ z => z) kk⟩
  | false => exact iteF (q false e1 (by simpa using hk) H1 p kk s)
theorem liftT_or {f g : WT} (h : liftT T K W (wOr f g) σ H QT) : tOr (liftT T K W f) (liftT T K W g) σ H QT := by
  obtain ⟨M, e, k, kx, r, hf, q, x⟩ := h
  refine ⟨M, e, _, kx, r, hf, fun b e1 hk H1 p kk s => ?_, x⟩
  cases b with
  | false => exact iteF ⟨M, e1, k, kx, p, by simpa using hk, fun b e2 hk H2 p2 kk2 s2 => q b e2 hk H2 p2 (kk.trans kk2) (s.trans s2), x.step (fun _ z => z) kk⟩
  | true => exact iteT (q true e1 (by simpa using hk) H1 p kk s)
theorem liftT_not {f : WT} (h : liftT T K W (wNot f) σ H QT) : tNot (liftT T K W f) σ H QT := by
  obtain ⟨M, e, k, kx, r, hf, q, x⟩ := h
  exact ⟨M, e, _, kx, r, hf, fun b e1 hk H1 p kk s => q _ e1 hk H1 p kk s, x⟩
theorem lift_if {f : WT} {g h : WE} (hh : lift T K W (wIf f g h) σ H Q) : tIf (liftT T K W f) (lift T K W g) (lift T K W h) σ H Q := by
  obtain ⟨M, e, k, kx, r, hf, q, x⟩ := hh
  refine ⟨M, e, _, kx, r, hf, fun b e1 hk H1 p kk s => ?_, x⟩
  cases b with
  | true => exact iteT ⟨M, e1, k, kx, p, by simpa using hk, fun b e2 hk v H2 p2 kk2 s2 => q b e2 hk v H2 p2 (kk.trans kk2) (s.trans s2), x.step (fun _ z => z) kk⟩
  | false => exact iteF ⟨M, e1, k, kx, p, by simpa using hk, fun b e2 hk v H2 p2 kk2 s2 => q b e2 hk v H2 p2 (kk.trans kk2) (s.trans s2), x.step (fun _ z => z) kk⟩
end
variable {ft gt : WT} {rest : List Expr}
theorem wt_cmp {op : CmpOp} {r : R2} {g : List D → (R → Prop) → Prop} (ho : OpR X (compareOp op) r) (o : OpSpec K (r2L r) g) (ha : PE X a (lift T K W fa)) (hb : PE X b (lift T K W fb)) (hm : behindInMarks op b = false := by first | exact nomark _ | rfl) : PT X (.Compare a [op] [b] pos) (liftT T K W (wTest (wOp g (w2 fa fb)))) := PT.weak (pt_cmpR ho ha hb hm) fun _ _ _ h => lift_op2 o (lift_test h)
theorem wt_val {f : WE} (h : PE X e (lift T K W f)) (he : ∀ whole, isTrue e X.env whole = (do let v ← whole; standAt e.pos; holding [v] (truthy v)) := by intro _; rfl) : PT X e (liftT T K W (wTest f)) := PT.weak (pt_val h he) fun _ _ _ => lift_test
theorem wt_not (ha : PT X a (liftT T K W ft)) : PT X (.UnaryOp .Not a pos) (liftT T K W (wNot ft)) := PT.weak (pt_not ha) fun _ _ _ => liftT_not
theorem wt_and1 (ha : PT X a (liftT T K W ft)) : PW X (.BoolOp .And [a] pos) (liftT T K W ft) := pw_and1 ha
theorem wt_or1 (ha : PT X a (liftT T K W ft)) : PW X (.BoolOp .Or [a] pos) (liftT T K W ft) := pw_or1 ha
theorem wt_and (ha : PT X a (liftT T K W ft)) (hb : PW X (.BoolOp .And (b :: rest) pos) (liftT T K W gt)) : PW X (.BoolOp .And (a :: b :: rest) pos) (liftT T K W (wAnd ft gt)) := PW.weak (pw_and ha hb) fun _ _ _ => liftT_and
theorem wt_or (ha : PT X a (liftT T K W ft)) (hb : PW X (.BoolOp .Or (b :: rest) pos) (liftT T K W gt)) : PW X (.BoolOp .Or (a :: b :: rest) pos) (liftT T K W (wOr ft gt)) := PW.weak (pw_or ha hb) fun _ _ _ => liftT_or
theorem w_if {c : Expr} (hc : PT X c (liftT T K W ft)) (ha : PE X a (lift T K W fa)) (hb : PE X b (lift T K W fb)) : PE X (.IfExp c a b pos) (lift T K W (wIf ft fa fb)) := PE.weak (pe_ifExp hc ha hb) fun _ _ _ => lift_if
def wAndV (f g : WE) : WE := fun e k kx => f e (fun r e1 => ∃ b, see e1 r = some (.bl b) ∧ if b = true then g e1 k kx else k (.d (.bl false)) e1) kx
def wOrV (f g : WE) : WE := fun e k kx => f e (fun r e1 => ∃ b, see e1 r = some (.bl b) ∧ if b = true then k (.d (.bl true)) e1 else g e1 k kx) kx
def wNotV (f : WE) : WE := fun e k kx => f e (fun r e1 => ∃ b, see e1 r = some (.bl b) ∧ k (.d (.bl (!b))) e1) kx
section
variable {σ : St} {H : Hp} {Q : VK}
theorem keep_dd {e e' : En} {H' : Hp} {v w : V} {r : R} {x : D} (k : Keep T (Own σ e) H (fun a => Own σ e' a ∨ OwnR [v] [r] a) H') : Keep T (Own σ e) H (fun a => Own σ e' a ∨ OwnR [w] [.d x] a) H' := k.sub fun _ z => z.elim .inl fun z => (ownR_d z).elim
theorem lift_andV (h : lift T K W (wAndV fa fb) σ H Q) : tAndV (lift T K W fa) (lift T K W fb) σ H Q := by
  obtain ⟨M, e, k, kx, r, hf, q, x⟩ := h
  refine ⟨M, e, _, kx, r, hf, fun r e1 ⟨b, hs, hk⟩ v H1 p kk s => ⟨b, see_bl (p.see1 hs), ?_⟩, x⟩
  cases b with
  | true => exact iteT ⟨M, e1, k, kx, p.toRep, by simpa using hk, fun r e2 hk v H2 p2 kk2 s2 => q r e2 hk v H2 p2 ((keep_toRep kk).trans kk2) (s.trans s2), x.step (fun _ z => z) (keep_toRep kk)⟩
  | false => exact iteF (q _ e1 (by simpa using hk) _ H1 (p.toRep.d (.bl false)) (keep_dd kk) s)
theorem lift_orV (h : lift T K W (wOrV fa fb) σ H Q) : tOrV (lift T K W fa) (lift T K W fb) σ H Q := by
  obtain ⟨M, e, k, kx, r, hf, q, x⟩ := h
  refine ⟨M, e, _, kx, r, hf, fun r e1 ⟨b, hs, hk⟩ v H1 p kk s => ⟨b, see_bl (p.see1 hs), ?_⟩, x⟩
  cases b with
  | false => exact iteF ⟨M, e1, k, kx, p.toRep, by simpa using hk, fun r e2 hk v H2 p2 kk2 s2 => q r e2 hk v H2 p2 ((keep_toRep kk).trans kk2) (s.trans s2), x.step (fun _ z => z) (keep_toRep kk)⟩
  | true => exact iteT (q _ e1 (by simpa using hk) _ H1 (p.toRep.d (.bl true)) (keep_dd kk) s)
theorem lift_notV (h : lift T K W (wNotV fa) σ H Q) : tNotV (lift T K W fa) σ H Q := by
  obtain ⟨M, e, k, kx, r, hf, q, x⟩ := h
  exact ⟨M, e, _, kx, r, hf, fun r e1 ⟨b, hs, hk⟩ v H1 p kk s => ⟨b, see_bl (p.see1 hs), q _ e1 hk _ H1 (p.toRep.d (.bl _)) (keep_dd kk) s⟩, x⟩
end
theorem w_one {op} (h : PE X a (lift T K W fa)) : PE X (.BoolOp op [a] pos) (lift T K W fa) := pe_one h
theorem w_and (ha : PE X a (lift T K W fa)) (hb : PE X (.BoolOp .And (b :: rest) pos) (lift T K W fb)) : PE X (.BoolOp .And (a :: b :: rest) pos) (lift T K W (wAndV fa fb)) := PE.weak (pe_and ha hb) fun _ _ _ => lift_andV
theorem w_or (ha : PE X a (lift T K W fa)) (hb : PE X (.BoolOp .Or (b :: rest) pos) (lift T K W fb)) : PE X (.BoolOp .Or (a :: b :: rest) pos) (lift T K W (wOrV fa fb)) := PE.weak (pe_or ha hb) fun _ _ _ => lift_orV
theorem w_not (ha : PE X a (lift T K W fa)) : PE X (.UnaryOp .Not a pos) (lift T K W (wNotV fa)) := PE.weak (pe_not ha) fun _ _ _ => lift_notV
def wChain (p p' : Int → Int → Bool) (fa fb fc : WE) : WE := fun e k kx => fa e (fun r1 e1 => fb e1 (fun r2 e2 => ∃ i j, r1 = .d (.int i) ∧ r2 = .d (.int j) ∧ if p i j = true then fc e2 (fun r3 e3 => ∃ l, r3 = .d (.int l) ∧ k (.d (.bl (p' j l))) e3) kx else k (.d (.bl false)) e2) kx) kx
theorem Reps.int {M : Addr → Prop} {σ : St} {H : Hp} {e : En} {v : V} {i : Int} (p : Reps T K M σ H e [v] [.d (.int i)]) : v = .int i := by
  have q : Hd _ K H v (.int i) := p.val 0 v _ rfl rfl
  cases q
  rfl
theorem lift_chain {p p' : Int → Int → Bool} {σ : St} {H : Hp} {Q : VK} {r r' : R2} (h1 : ∀ i j H Q, Q (.bl (p i j)) H → r (.int i) (.int j) H Q) (h2 : ∀ i j H Q, Q (.bl (p' i j)) H → r' (.int i) (.int j) H Q) (h : lift T K W (wChain p p' fa fb fc) σ H Q) : tChain r r' (lift T K W fa) (lift T K W fb) (lift T K W fc) σ H Q := by
  obtain ⟨M, e, k, kx, rp, hf, q, x⟩ := h
  refine ⟨M, e, _, kx, rp, hf, fun r1 e1 hg v H1 pp k1 s1 => ?_, x⟩
  refine ⟨M, e1, _, kx, pp.toRep, hg, fun r2 e2 ⟨i, j, e3, e4, hk⟩ w H2 p2 k2 s2 => ?_, x.step (fun _ z => z) (keep_toRep k1)⟩
  subst e3 e4
  cases pp.int
  cases p2.int
  refine h1 _ _ _ _ ⟨p i j, rfl, ?_⟩
  have k12 := (keep_toRep k1).trans (keep_toRep k2)
  by_cases c : p i j = true
  · rw [if_pos c] at hk ⊢
    refine ⟨M, e2, _, kx, p2.toRep, hk, fun r3 e3 ⟨l, e4, hk⟩ u H3 p3 k3 s3 => ?_, x.step (fun _ z => z) k12⟩
    subst e4
    cases p3.int
    exact h2 _ _ _ _ (q _ e3 hk _ H3 (p3.toRep.d (.bl _)) (keep_dd (k12.trans k3)) ((s1.trans s2).trans s3))
  · rw [if_neg c] at hk ⊢
    exact q _ e2 hk _ H2 (p2.toRep.d (.bl _)) (k12.sub fun _ z => z.elim id fun z => (ownR_d z).elim) (s1.trans s2)
theorem w_chain {op op' : CmpOp} {r r' : R2} {p p' : Int → Int → Bool} (ho : OpR X (compareOp op) r) (ho' : OpR X (compareOp op') r') (h1 : ∀ i j H Q, Q (.bl (p i j)) H → r (.int i) (.int j) H Q) (h2 : ∀ i j H Q, Q (.bl (p' i j)) H → r' (.int i) (.int j) H Q)
    (ha : PE X a (lift T K W fa)) (hb : PE X b (lift T K W fb)) (hc : PE X c (lift T K W fc)) (hm : lastMarks [op, op'] [b, c] = false := by with_unfolding_all rfl) : PE X (.Compare a [op, op'] [b, c] pos) (lift T K W (wChain p p' fa fb fc)) := PE.weak (pe_chain ho ho' ha hb hc hm) fun _ _ _ => lift_chain h1 h2
theorem wt_chain {op op' : CmpOp} {r r' : R2} {p p' : Int → Int → Bool} (ho : OpR X (compareOp op) r) (ho' : OpR X (compareOp op') r') (h1 : ∀ i j H Q, Q (.bl (p i j)) H → r (.int i) (.int j) H Q) (h2 : ∀ i j H Q, Q (.bl (p' i j)) H → r' (.int i) (.int j) H Q)
    (ha : PE X a (lift T K W fa)) (hb : PE X b (lift T K W fb)) (hc : PE X c (lift T K W fc)) (hm : lastMarks [op, op'] [b, c] = false := by with_unfolding_all rfl) : PT X (.Compare a [op, op'] [b, c] pos) (liftT T K W (wTest (wChain p p' fa fb fc))) := PT.weak (pt_chain ho ho' ha hb hc hm) fun _ _ _ h => lift_chain h1 h2 (lift_test h)
end
end Wl
namespace Wl
open PySem PySem.Spec PyProof.Rows L2 RZ
/-- a result taken as data -/
def frz (r : R) (e : En) : Option (D × En) := match r with
  | .d x => some (x, e)
  | .own s => some (s.fz, e)
  | .s j => match e[j]? with
    | some (some (.d x)) => some (x, e)
    | some (some s) => some (s.fz, e.set j (some (.d s.fz)))
    | _ => none
def asg (i : Nat) (r : R) (e : En) : En := match r with
  | .d x => e.set i (some (.d x))
  | .own s => e.set i (some s)
  | .s j => match frz (.s j) e with
    | some (x, e') => e'.set i (some (.d x))
    | none => e
section
variable {T : Cxt} {K : PySem.W.Frag} {M F : Addr → Prop} {σ : St} {H H' : Hp} {e e' : En} {v : V} {r : R}
theorem own_set_d {j : Nat} {x : D} {a : Addr} (h : Own σ (e.set j (some (.d x))) a) : Own σ e a := by
  obtain ⟨i, s, h1, h2, h3⟩ := h
  by_cases c : j = i
  · subst c
    rw [List.getElem?_set] at h1
    simp only [if_true] at h1
    split at h1
    · cases h1; cases h2
    · cases h1
  · rw [List.getElem?_set_ne c] at h1
    exact ⟨i, s, h1, h2, h3⟩
theorem set_some {α : Type} {l : List α} {i j : Nat} {a b : α} (h : (l.set i a)[j]? = some b) : (i = j ∧ b = a) ∨ (i ≠ j ∧ l[j]? = some b) := by
  by_cases c : i = j
  · subst c
    rw [List.getElem?_set] at h
    simp only [if_true] at h
    split at h
    · cases h; exact .inl ⟨rfl, rfl⟩
    · cases h
  · rw [List.getElem?_set_ne c] at h
    exact .inr ⟨c, h⟩
/-- the thing of slot j becomes data -/
theorem Rep.frz (h : Rep T K M σ H e) {j : Nat} {s : S} (hj : e[j]? = some (some s)) (ho : s.owned = true) (hv : σ[j]? = some (some v)) :
    Rep T K M σ H (e.set j (some (.d s.fz))) ∧ Hd (fun a => M a ∨ Own σ (e.set j (some (.d s.fz))) a) K H v s.fz := by
  obtain ⟨v', e1, q⟩ := h.at_ j s hj
  rw [hv] at e1
  cases e1
  have hd : Hd (fun a => M a ∨ Own σ (e.set j (some (.d s.fz))) a) K H v s.fz := by
    refine q.fzD (fun a z => z.imp id own_set_d) fun a e1 _ z => ?_
    subst e1
    rcases z with z | z
    · exact h.apart a z ⟨j, s, hj, ho, _, hv, S.has_root ho⟩
    · obtain ⟨i, t, h1, h2, h3⟩ := z
      rcases set_some h1 with ⟨_, e⟩ | ⟨c, h1⟩
      · cases e; cases h2
      · exact c (h.inj j i s t a hj ho h1 h2 ⟨_, hv, S.has_root ho⟩ h3)
  refine ⟨⟨by rw [List.length_set]; exact h.len, fun i t h1 => ?_, fun i i' t t' a h1 h2 h3 h4 h5 h6 => ?_, fun a z y => h.apart a z (own_set_d y), h.dom, h.tabs⟩, hd⟩
  · rcases set_some h1 with ⟨rfl, e⟩ | ⟨c, h1⟩
    · cases e
      exact ⟨v, hv, hd⟩
    · obtain ⟨w, e2, q⟩ := h.at_ i t h1
      exact ⟨w, e2, q.sub fun a z => z.imp id own_set_d⟩
  · rcases set_some h1 with ⟨_, e⟩ | ⟨c, h1⟩
    · cases e; cases h2
    · rcases set_some h3 with ⟨_, e⟩ | ⟨c', h3⟩
      · cases e; cases h4
      · exact h.inj i i' t t' a h1 h2 h3 h4 h5 h6
theorem stay_set {j : Nat} {s : S} : Stay e (e.set j (some s)) := fun i t h => by
  by_cases c : j = i
  · subst c
    refine ⟨s, ?_⟩
    rw [List.getElem?_set]
    have : j < e.length := (List.getElem?_eq_some_iff.mp h).1
    simp [this]
  · exact ⟨t, by rw [List.getElem?_set_ne c]; exact h⟩
/-- the result as data -/
theorem Reps.frz (p : Reps T K M σ H e [v] [r]) {x : D} (h : frz r e = some (x, e')) : Reps T K M σ H e' [v] [.d x] ∧ (∀ a, Own σ e' a → Own σ e a) ∧ Stay e e' := by
  cases r with
  | d y =>
    cases h
    exact ⟨p, fun _ z => z, .refl⟩
  | own s =>
    cases h
    have q := p.val 0 v _ rfl rfl
    refine ⟨p.toRep.d (q.2.fzD (fun a z => z.imp .inl id) fun a e1 _ z => ?_), fun _ z => z, .refl⟩
    have ho : OwnR [v] [.own s] a := ownR_one.mpr ⟨s, rfl, by rw [e1]; exact S.has_root q.1⟩
    rcases z with z | z
    · exact p.new a ho z
    · exact p.rep.apart a (.inr ho) z
  | s j =>
    obtain ⟨s, e1, e2⟩ := p.val 0 v _ rfl rfl
    unfold Wl.frz at h
    simp only [e1] at h
    cases s with
    | d y =>
      cases h
      obtain ⟨w, e3, q⟩ := p.toRep.at_ j _ e1
      rw [e2] at e3
      cases e3
      exact ⟨p.toRep.d q, fun _ z => z, .refl⟩
    | l xs => cases h; have z := p.toRep.frz e1 rfl e2; exact ⟨z.1.d z.2, fun _ => own_set_d, stay_set⟩
    | m xs => cases h; have z := p.toRep.frz e1 rfl e2; exact ⟨z.1.d z.2, fun _ => own_set_d, stay_set⟩
    | mT xs => cases h; have z := p.toRep.frz e1 rfl e2; exact ⟨z.1.d z.2, fun _ => own_set_d, stay_set⟩
    | o C xs => cases h; have z := p.toRep.frz e1 rfl e2; exact ⟨z.1.d z.2, fun _ => own_set_d, stay_set⟩
    | b C xs ls => cases h; have z := p.toRep.frz e1 rfl e2; exact ⟨z.1.d z.2, fun _ => own_set_d, stay_set⟩
def wFz (f : WE) : WE := fun e k kx => f e (fun r e1 => ∃ x e2, frz r e1 = some (x, e2) ∧ k (.d x) e2) kx
theorem lift_fz {W : WX} {f : WE} {Q : VK} (h : lift T K W (wFz f) σ H Q) : lift T K W f σ H Q := by
  obtain ⟨M, e, k, kx, r, hf, q, x⟩ := h
  refine ⟨M, e, _, kx, r, hf, fun r e1 ⟨y, e2, hz, hk⟩ v H1 p kk s => ?_, x⟩
  obtain ⟨p2, o2, s2⟩ := p.frz hz
  exact q _ e2 hk v H1 p2 (kk.sub fun _ z => z.elim (fun z => .inl (o2 _ z)) fun z => (ownR_d z).elim) (s.trans s2)
/-- a slot's new content, data -/
theorem Rep.setD {i : Nat} {x : D} (h : Rep T K M σ H e) (q : Hd (fun a => M a ∨ Own σ e a) K H v x) (hi : i < e.length) : Rep T K M (σ.set i (some v)) H (e.set i (some (.d x))) ∧ ∀ a, Own (σ.set i (some v)) (e.set i (some (.d x))) a → Own σ e a := by
  have ow : ∀ a, Own (σ.set i (some v)) (e.set i (some (.d x))) a → Own σ e a := fun a z => by
    obtain ⟨j, s, h1, h2, h3⟩ := z
    rcases set_some h1 with ⟨_, e⟩ | ⟨c, h1⟩
    · cases e; cases h2
    · rw [List.getElem?_set_ne c] at h3
      exact ⟨j, s, h1, h2, h3⟩
  refine ⟨⟨by rw [List.length_set, List.length_set]; exact h.len, fun j s h1 => ?_, fun j j' t t' a h1 h2 h3 h4 h5 h6 => ?_, fun a z y => h.apart a z (ow a y), h.dom, h.tabs⟩, ow⟩
  · rcases set_some h1 with ⟨rfl, e1⟩ | ⟨c, h1⟩
    · cases e1
      refine ⟨v, ?_, Hd.sub (fun a z => z.imp id (ow a)) q⟩
      rw [List.getElem?_set]
      simp [h.len ▸ hi]
    · obtain ⟨w, e2, q⟩ := h.at_ j s h1
      exact ⟨w, by rw [List.getElem?_set_ne c]; exact e2, q.sub fun a z => z.imp id (ow a)⟩
  · rcases set_some h1 with ⟨_, e⟩ | ⟨c, h1⟩
    · cases e; cases h2
    · rcases set_some h3 with ⟨_, e⟩ | ⟨c', h3⟩
      · cases e; cases h4
      · rw [List.getElem?_set_ne c] at h5
        rw [List.getElem?_set_ne c'] at h6
        exact h.inj j j' t t' a h1 h2 h3 h4 h5 h6
theorem Reps.asg {i : Nat} (p : Reps T K M σ H e [v] [r]) (hi : i < e.length) (hf : r ≠ .s i) : Rep T K M (σ.set i (some v)) H (asg i r e) ∧ ∀ a, Own (σ.set i (some v)) (asg i r e) a → Own σ e a ∨ OwnR [v] [r] a := by
  cases r with
  | d x =>
    have q : Hd _ K H v x := p.val 0 v _ rfl rfl
    have z := p.toRep.setD (i := i) (q.sub fun a z => z.imp .inl id) hi
    exact ⟨z.1, fun a y => .inl (z.2 a y)⟩
  | s j =>
    obtain ⟨s, e1, e2⟩ := p.val 0 v _ rfl rfl
    have hz : ∃ x e', Wl.frz (.s j) e = some (x, e') := by
      unfold Wl.frz
      cases s <;> simp only [e1] <;> exact ⟨_, _, rfl⟩
    obtain ⟨x, e', hz⟩ := hz
    obtain ⟨p2, o2, _⟩ := p.frz hz
    have q : Hd _ K H v x := p2.val 0 v _ rfl rfl
    have hl : i < e'.length := by rw [p2.toRep.len, ← p.toRep.len]; exact hi
    have z := p2.toRep.setD (i := i) (q.sub fun a z => z.imp .inl id) hl
    unfold Wl.asg
    simp only [hz]
    exact ⟨z.1, fun a y => .inl (o2 a (z.2 a y))⟩
  | own s =>
    have q := p.val 0 v _ rfl rfl
    show Rep T K M (σ.set i (some v)) H (e.set i (some s)) ∧ ∀ a, Own (σ.set i (some v)) (e.set i (some s)) a → _
    have ow : ∀ a, Own (σ.set i (some v)) (e.set i (some s)) a → Own σ e a ∨ OwnR [v] [.own s] a := fun a z => by
      obtain ⟨j, t, h1, h2, h3⟩ := z
      rcases set_some h1 with ⟨c, e1⟩ | ⟨c, h1⟩
      · cases e1
        obtain ⟨w, x3, hs⟩ := h3
        rcases set_some x3 with ⟨_, e1⟩ | ⟨c', _⟩
        · cases e1; exact .inr (ownR_one.mpr ⟨s, rfl, hs⟩)
        · exact (c' c).elim
      · rw [List.getElem?_set_ne c] at h3
        exact .inl ⟨j, t, h1, h2, h3⟩
    have r := p.rep
    refine ⟨⟨by rw [List.length_set, List.length_set]; exact r.len, fun j t h1 => ?_, fun j j' t t' a h1 h2 h3 h4 h5 h6 => ?_, fun a z y => ?_, fun a z => r.dom a (.inl z), r.tabs⟩, ow⟩
    · rcases set_some h1 with ⟨rfl, e1⟩ | ⟨c, h1⟩
      · cases e1
        refine ⟨v, ?_, q.2.sub fun a z => ?_⟩
        · rw [List.getElem?_set]
          simp [r.len ▸ hi]
        · rcases z with z | z
          · exact .inl (.inl z)
          · rcases ow a z with z | z
            · exact .inr z
            · exact .inl (.inr z)
      · obtain ⟨w, e2, q⟩ := r.at_ j t h1
        refine ⟨w, by rw [List.getElem?_set_ne c]; exact e2, q.sub fun a z => ?_⟩
        rcases z with z | z
        · exact .inl (.inl z)
        · rcases ow a z with z | z
          · exact .inr z
          · exact .inl (.inr z)
    · have mm : ∀ {l : Nat} {u : S}, (e.set i (some s))[l]? = some (some u) → u.owned = true → HasA (σ.set i (some v))[l]? u a → (i = l ∧ s.has v a) ∨ (i ≠ l ∧ e[l]? = some (some u) ∧ HasA σ[l]? u a) := by
        intro l u x1 x2 x3
        rcases set_some x1 with ⟨c, eu⟩ | ⟨c, x1⟩
        · obtain ⟨w, x3, hs⟩ := x3
          rcases set_some x3 with ⟨_, e1⟩ | ⟨c', _⟩
          · cases e1; cases eu; exact .inl ⟨c, hs⟩
          · exact (c' c).elim
        · rw [List.getElem?_set_ne c] at x3
          exact .inr ⟨c, x1, x3⟩
      rcases mm h1 h2 h5 with ⟨c1, g1⟩ | ⟨c1, g1, g2⟩
      · rcases mm h3 h4 h6 with ⟨c2, _⟩ | ⟨c2, g3, g4⟩
        · exact c1.symm.trans c2
        · exact (r.apart a (.inr (ownR_one.mpr ⟨s, rfl, g1⟩)) ⟨j', t', g3, h4, g4⟩).elim
      · rcases mm h3 h4 h6 with ⟨c2, g3⟩ | ⟨c2, g3, g4⟩
        · exact (r.apart a (.inr (ownR_one.mpr ⟨s, rfl, g3⟩)) ⟨j, t, g1, h2, g2⟩).elim
        · exact r.inj j j' t t' a g1 h2 g3 h4 g2 g4
    · rcases ow a y with y | y
      · exact r.apart a (.inl z) y
      · exact p.new a y z
/-- the thing of slot i is written -/
theorem Rep.write {i : Nat} {a : Addr} {s s' : S} {o' : HO} (h : Rep T K M σ H e) (hi : e[i]? = some (some s)) (ho : s.owned = true) (hv : σ[i]? = some (some (.ref a))) (ho' : s'.owned = true)
    (q : ∀ N', Tr (fun a => M a ∨ Own σ e a) H N' (upd H a o') → RS N' K (upd H a o') (.ref a) s') (sb : ∀ v c, s'.has v c → s.has v c := by exact fun _ _ z => z) : Rep T K M σ (upd H a o') (e.set i (some s')) ∧ Keep T (Own σ e) H (Own σ (e.set i (some s'))) (upd H a o') := by
  obtain ⟨w, e1, q0⟩ := h.at_ i s hi
  rw [hv] at e1
  cases e1
  obtain ⟨b, o, e2, e3, n1, n2, mu⟩ := q0.ow ho
  cases e2
  have oa : Own σ e a := ⟨i, s, hi, ho, _, hv, S.has_root ho⟩
  have ow : ∀ c, Own σ (e.set i (some s')) c → Own σ e c := fun c z => by
    obtain ⟨j, t, h1, h2, h3⟩ := z
    rcases set_some h1 with ⟨e1, ez⟩ | ⟨_, h1⟩
    · subst e1
      cases ez
      exact ⟨i, s, hi, ho, let ⟨w, x, y⟩ := h3; ⟨w, x, sb _ _ y⟩⟩
    · exact ⟨j, t, h1, h2, h3⟩
  have tr : Tr (fun a => M a ∨ Own σ e a) H (fun c => M c ∨ Own σ (e.set i (some s')) c) (upd H a o') := by
    refine ⟨fun c xs x => ?_, fun c u x n t => ?_, fun c x n z => n (z.imp id (ow c))⟩
    · rw [upd_ne fun z => by subst z; rw [e3] at x; exact n2 xs (Option.some.inj x)]
      exact x
    · rw [upd_ne fun z => n (.inr (by rw [z]; exact oa))]
      exact x
  refine ⟨⟨by rw [List.length_set]; exact h.len, fun j t h1 => ?_, fun j j' t t' c h1 h2 h3 h4 h5 h6 => ?_, fun c z y => h.apart c z (ow c y), fun c z => ?_, Tabs.keep h.tabs fun c u x m1 m2 m3 m4 => ?_⟩,
    ⟨tr.tup, fun c u x n t => ?_, fun c x n z => n (ow c z), fun _ c ps x => ?_, fun c z => ?_⟩⟩
  · rcases set_some h1 with ⟨rfl, e1⟩ | ⟨c, h1⟩
    · cases e1
      exact ⟨_, hv, q _ tr⟩
    · obtain ⟨w, e4, q4⟩ := h.at_ j t h1
      refine ⟨w, e4, q4.tr tr fun c' u e5 e6 e7 _ => ?_⟩
      rw [upd_ne fun z => c (h.inj i j s t a hi ho h1 e6 ⟨_, hv, S.has_root ho⟩ ⟨w, e4, by rw [← z]; exact e5⟩)]
      exact e7
  · have mm : ∀ {l : Nat} {u : S}, (e.set i (some s'))[l]? = some (some u) → u.owned = true → HasA σ[l]? u c → ∃ u', e[l]? = some (some u') ∧ u'.owned = true ∧ HasA σ[l]? u' c := by
      intro l u x1 x2 x3
      rcases set_some x1 with ⟨rfl, ez⟩ | ⟨_, x1⟩
      · cases ez
        exact ⟨s, hi, ho, let ⟨w, x, y⟩ := x3; ⟨w, x, sb _ _ y⟩⟩
      · exact ⟨u, x1, x2, x3⟩
    obtain ⟨u1, g1, g2, g5⟩ := mm h1 h2 h5
    obtain ⟨u2, g3, g4, g6⟩ := mm h3 h4 h6
    exact h.inj j j' u1 u2 c g1 g2 g3 g4 g5 g6
  · obtain ⟨u, q, n⟩ := h.dom c z
    exact ⟨u, by rw [upd_ne fun y => h.apart c z (by rw [y]; exact oa)]; exact q, n⟩
  · rw [upd_ne fun z => ?_]
    · exact x
    · subst z
      rw [e3] at x
      cases x
      cases s with
      | d x => cases ho
      | l xs => obtain ⟨a', ys, e0, g, _⟩ := q0; cases e0; cases e3.symm.trans g; exact m1 _ rfl
      | m xs => obtain ⟨a', ys, e0, g, _⟩ := q0; cases e0; cases e3.symm.trans g; exact m2 _ rfl
      | mT xs => obtain ⟨a', ys, e0, g, _⟩ := q0; cases e0; cases e3.symm.trans g; exact m3 _ rfl
      | o C xs => obtain ⟨a', dx, ys, e0, g, _⟩ := q0; cases e0; cases e3.symm.trans g; exact m4 _ _ _ rfl
      | b C xs ls => obtain ⟨a', dx, ys, e0, g, _⟩ := q0; cases e0; cases e3.symm.trans g; exact m4 _ _ _ rfl
  · rw [upd_ne fun z => n (by rw [z]; exact oa)]
    exact x
  · rw [upd_ne fun z => by subst z; rw [e3] at x; exact n1 ps (Option.some.inj x)]
    exact x
  · obtain ⟨u, qq, n⟩ := z
    by_cases y : c = a
    · obtain ⟨b, u', e, q', n', _⟩ := (q _ tr).ow ho'
      cases e
      exact ⟨u', by rw [y]; exact q', n'⟩
    · exact ⟨u, by rw [upd_ne y]; exact qq, n⟩
end
end Wl
namespace Wl
open PySem PySem.Spec PyProof.Rows L2 RZ
def allD : List R → Option (List D)
  | [] => some []
  | .d x :: rs => match allD rs with
    | some xs => some (x :: xs)
    | none => none
  | _ :: _ => none
theorem allD_map : ∀ {rs : List R} {ds : List D}, allD rs = some ds → rs = ds.map R.d
  | [], _, h => by cases h; rfl
  | .d x :: rs, ds, h => by
    unfold allD at h
    split at h
    · rename_i xs e
      cases h
      rw [allD_map e]
      rfl
    · cases h
  | .s i :: rs, ds, h => by cases h
  | .own s :: rs, ds, h => by cases h
section
variable {T : Cxt} {K : PySem.W.Frag} {M : Addr → Prop} {W : WX} {σ : St} {H : Hp} {e : En}
theorem hdL_of : ∀ {vs : List V} {ds : List D} {N : Addr → Prop}, vs.length = ds.length → (∀ (i : Nat) v d, vs[i]? = some v → ds[i]? = some d → Hd N K H v d) → HdL N K H vs ds
  | [], [], _, _, _ => .nil
  | v :: vs, d :: ds, _, hl, h => .cons (h 0 v d rfl rfl) (hdL_of (by simpa using hl) fun i v d h1 h2 => h (i + 1) v d (by simpa using h1) (by simpa using h2))
theorem Reps.hdL {vs : List V} {ds : List D} (p : Reps T K M σ H e vs (ds.map R.d)) : HdL (fun a => M a ∨ Own σ e a) K H vs ds :=
  hdL_of (by rw [p.len, List.length_map]) fun i v d h1 h2 => (show Hd _ K H v d from p.val i v (.d d) h1 (by rw [List.getElem?_map, h2]; rfl)).sub fun a z => z.imp .inl id
def OpSpecD (K : PySem.W.Frag) (r : List V → Hp → VK → Prop) (g : List D → (R → Prop) → Prop) : Prop :=
  ∀ (T : Cxt) (M : Addr → Prop) (σ : St) (H : Hp) (e : En) (vs : List V) (ds : List D) (k : R → Prop) (Q : VK), Rep T K M σ H e → HdL (fun a => M a ∨ Own σ e a) K H vs ds → g ds k →
    (∀ r, k r → ∀ v H', Reps T K M σ H' e [v] [r] → Keep T (Own σ e) H (fun a => Own σ e a ∨ OwnR [v] [r] a) H' → Q v H') → r vs H Q
def wOpD (g : List D → (R → Prop) → Prop) (fr : WA) : WE := fun e k kx => fr e (fun rs e1 => ∃ ds, allD rs = some ds ∧ g ds fun r => k r e1) kx
theorem lift_opD {r : List V → Hp → VK → Prop} {g : List D → (R → Prop) → Prop} {fr : WA} {Q : VK} (o : OpSpecD K r g) (h : lift T K W (wOpD g fr) σ H Q) : liftA T K W fr σ H fun vs H1 => r vs H1 Q := by
  obtain ⟨M, e, k, kx, rp, hf, q, x⟩ := h
  refine ⟨M, e, _, kx, rp, hf, fun rs e1 ⟨ds, hs, hg⟩ vs H1 p1 k1 s1 => ?_, x⟩
  have z := allD_map hs
  subst z
  exact o T M σ H1 e1 vs ds _ Q p1.toRep p1.hdL hg fun r hk v H' p' kk => q r e1 hk v H' p' ((k1.sub fun _ => .inl).trans kk) s1
theorem keep_lay {p : Addr} {o : HO} {s : S} (h : Rep T K M σ H e) (hp : H p = none) (hl : s.lone = true := by rfl) : Keep T (Own σ e) H (fun a => Own σ e a ∨ OwnR [V.ref p] [.own s] a) (upd H p o) :=
  (keep_own (s := s) (o := o) (Reps.nil h) hp hl).sup fun _ z => z.elim id fun z => (ownR_nil z).elim
theorem sz8 {n : Nat} (h : n ≤ 1000000) : n ≤ sizeLine := Nat.le_trans h (by decide)
theorem specTup : OpSpecD K (fun xs H1 Q => xs.length ≤ sizeLine ∧ ∀ p, H1 p = none → Q (.ref p) (upd H1 p (.tup xs))) fun ds k => ds.length ≤ 1000000 ∧ k (.d (.tup ds)) :=
  fun T M σ H e vs ds k Q rp hd hg q => ⟨sz8 (by rw [hd.len]; exact hg.1), fun p hp => q _ hg.2 _ _ ((rp.new hp).d (.tup (.inl upd_same) (HdL.new hp hd))) ((keep_new hp).sub fun _ z => z.elim id fun z => (ownR_d z).elim)⟩
theorem specLst : OpSpecD K (fun xs H1 Q => xs.length ≤ sizeLine ∧ ∀ p, H1 p = none → Q (.ref p) (upd H1 p (.lst xs))) fun ds k => ds.length ≤ 1000000 ∧ k (.own (.l ds)) :=
  fun T M σ H e vs ds k Q rp hd hg q => ⟨sz8 (by rw [hd.len]; exact hg.1), fun p hp => q _ hg.2 _ _ (rp.own hp rfl fun N' t => ⟨p, vs, rfl, upd_same, hd.tr t⟩) (keep_lay rp hp)⟩
end
section
variable {X : Cx} {T : Cxt} {K : PySem.W.Frag} {W : WX} {e o i : Expr} {es : List Expr} {f : WE} {fr : WA} {pos : Pos}
theorem w_fz (h : PE X e (lift T K W f)) : PE X e (lift T K W (wFz f)) := PE.weak h fun _ _ _ => lift_fz
def gTupD (ds : List D) (k : R → Prop) : Prop := ds.length ≤ 1000000 ∧ k (.d (.tup ds))
def gLstD (ds : List D) (k : R → Prop) : Prop := ds.length ≤ 1000000 ∧ k (.own (.l ds))
theorem w_tup {x1} (h : PA X es (liftA T K W fr)) : PE X (.Tuple es x1 pos) (lift T K W (wOpD gTupD fr)) := PE.weak (pe_tup h) fun _ _ _ => lift_opD specTup
theorem w_lst (h : PA X es (liftA T K W fr)) : PE X (.List es pos) (lift T K W (wOpD gLstD fr)) := PE.weak (pe_lst h) fun _ _ _ => lift_opD specLst
def gFld (P : Addr → Prop) (f : Str) (ds : List D) (k : R → Prop) : Prop := match ds with
  | [.ins C fs] => P C ∧ ∃ x, fs.lookup f = some x ∧ k (.d x)
  | _ => False
theorem lookup_hd {N : Addr → Prop} {H : Hp} {f : Str} : ∀ {gs : List (Str × V)} {fs : List (Str × D)} {x : D}, gs.map (·.1) = fs.map (·.1) → HdL N K H (gs.map (·.2)) (fs.map (·.2)) → fs.lookup f = some x → ∃ v, gs.lookup f = some v ∧ Hd N K H v x
  | [], [], _, _, _, h => by simp at h
  | (a, u) :: gs, (b, y) :: fs, x, e, hd, h => by
    simp only [List.map_cons, List.cons.injEq] at e hd
    obtain ⟨e1, e2⟩ := e
    subst e1
    cases hd with
    | cons h1 h2 =>
      rw [List.lookup_cons] at h ⊢
      split at h <;> rename_i c
      · cases h
        exact ⟨u, rfl, h1⟩
      · obtain ⟨v, g1, g2⟩ := lookup_hd e2 h2 h
        exact ⟨v, g1, g2⟩
  | [], _ :: _, _, e, _, _ => by simp at e
  | _ :: _, [], _, e, _, _ => by simp at e
def wApp (i : Nat) (f : WE) : WE := fun e k kx => (∃ xs, e[i]? = some (some (.l xs))) ∧ f e (fun r e1 => ∃ x e2 xs, frz r e1 = some (x, e2) ∧ e2[i]? = some (some (.l xs)) ∧ xs.length < 1000000 ∧ k (.d .non) (e2.set i (some (.l (xs ++ [x]))))) kx
def wPop (i : Nat) : WE := fun e k _ => ∃ xs x, e[i]? = some (some (.l xs)) ∧ xs[xs.length - 1]? = some x ∧ k (.d x) (e.set i (some (.l xs.dropLast)))
section
variable {M : Addr → Prop} {σ : St} {H : Hp} {Q : VK}
theorem Rep.lstAt {e : En} {i : Nat} {xs : List D} (h : Rep T K M σ H e) (hi : e[i]? = some (some (.l xs))) : ∃ a ys, σ[i]? = some (some (.ref a)) ∧ H a = some (.lst ys) ∧ HdL (fun a => M a ∨ Own σ e a) K H ys xs := by
  obtain ⟨v, e1, a, ys, rfl, h1, h2⟩ := h.at_ i _ hi
  exact ⟨a, ys, e1, h1, h2⟩
theorem Rep.putL {e : En} {i : Nat} {xs xs' : List D} {a : Addr} {ys : List V} (h : Rep T K M σ H e) (hi : e[i]? = some (some (.l xs))) (hv : σ[i]? = some (some (.ref a))) (hd : HdL (fun a => M a ∨ Own σ e a) K H ys xs') :
    Rep T K M σ (upd H a (.lst ys)) (e.set i (some (.l xs'))) ∧ Keep T (Own σ e) H (Own σ (e.set i (some (.l xs')))) (upd H a (.lst ys)) := h.write hi rfl hv rfl fun N' t => ⟨a, ys, rfl, upd_same, hd.tr t⟩
end
end
end Wl
namespace Wl
open PySem PySem.Spec PyProof.Rows L2 RZ
structure WEnds where
  nx : En → Prop
  rt : R → En → Prop
  bk : En → Prop
  ct : En → Prop
  ex : Kx
abbrev WS := En → WEnds → Prop
abbrev WG := D → En → (En → Prop) → Prop
abbrev WI := En → (List D → En → Prop) → Kx → Prop
def FixOk (F : Nat → Option V) (σ : St) : Prop := ∀ j v, F j = some v → σ[j]? = some (some v)
structure SOk (T : Cxt) (K : PySem.W.Frag) (W : WX) (F : Nat → Option V) (M : Addr → Prop) (σ : St) (H : Hp) (e : En) (k : WEnds) (D : Ends) : Prop where
  nx : ∀ e', k.nx e' → ∀ σ' H', FixOk F σ' → Rep T K M σ' H' e' → Keep T (Own σ e) H (Own σ' e') H' → D.nx σ' H'
  bk : ∀ e', k.bk e' → ∀ σ' H', FixOk F σ' → Rep T K M σ' H' e' → Keep T (Own σ e) H (Own σ' e') H' → D.bk σ' H'
  ct : ∀ e', k.ct e' → ∀ σ' H', FixOk F σ' → Rep T K M σ' H' e' → Keep T (Own σ e) H (Own σ' e') H' → D.ct σ' H'
  rt : ∀ r e', k.rt r e' → ∀ v σ' H', FixOk F σ' → Reps T K M σ' H' e' [v] [r] → Keep T (Own σ e) H (fun a => Own σ' e' a ∨ OwnR [v] [r] a) H' → D.rt v H'
  ex : ∀ C fs e', k.ex C fs e' → ∀ dd gs σ' H', FixOk F σ' → Rep T K M σ' H' e' → H' dd = some (.xd gs) → gs.map (·.1) = fs.map (·.1) → HdL (fun a => M a ∨ Own σ' e' a) K H' (gs.map (·.2)) (fs.map (·.2)) → Keep T (Own σ e) H (Own σ' e') H' → W (.ref C) (some dd) σ' H'
def liftS (T : Cxt) (K : PySem.W.Frag) (W : WX) (L : Nat → Bool) (f : WS) : TS := fun D σ H => ∃ M F e k, (∀ j v, F j = some v → L j = true) ∧ FixOk F σ ∧ Rep T K M σ H e ∧ f e k ∧ SOk T K W F M σ H e k D
def liftG (T : Cxt) (K : PySem.W.Frag) (L : Nat → Bool) (is : List Nat) (g : WG) : TG := fun v σ H Q => ∃ M F e x k, (∀ j v, F j = some v → L j = true) ∧ FixOk F σ ∧ Rep T K M σ H e ∧ Hd (fun a => M a ∨ Own σ e a) K H v x ∧ g x e k ∧
  ∀ e', k e' → ∀ σ', FixOk F σ' → Rep T K M σ' H e' → (∀ a, Own σ' e' a → Own σ e a) → (∀ vs, (∀ i ∈ is, i ∈ vs) → wipe σ' vs = wipe σ vs) ∧ Stay e e' → Q σ' H
/-- what a walk gives, as data -/
def Lay (H H' : Hp) : Prop := H' = H ∨ ∃ p o, H p = none ∧ H' = upd H p o
def WkD (T : Cxt) (K : PySem.W.Frag) (M F0 : Addr → Prop) (H0 : Hp) (J : It) (xs : List D) : Prop := ∃ (G : Hp → Prop) (Y : Nat → Hp → V → Hp → Prop), Walk J xs.length G Y ∧ (∀ F H, Keep T F0 H0 F H → G H) ∧
  ∀ F H i v H', i < xs.length → Keep T F0 H0 F H → Y i H v H' → ∃ x, xs[i]? = some x ∧ Lay H H' ∧ Hd (fun a => M a ∨ F a) K H' v x
/-- a dict that is locked while it is walked -/
def isDct (u : HO) : Prop := (∃ kvs, u = .dK kvs) ∨ ∃ kvs, u = .dT kvs
abbrev Lk := Option (Addr × Obj × HO)
def unl (lk : Lk) (H : Hp) : Hp := match lk with
  | none => H
  | some (d, _, u) => upd H d u
def lkd (M F : Addr → Prop) (lk : Lk) (H : Hp) : Prop := match lk with
  | none => True
  | some (d, od, u) => H d = some (.frz od u) ∧ isDct u ∧ ¬ M d ∧ ¬ F d
/-- what is wanted of an exception, whether a dict is locked or not -/
def UnlW (T : Cxt) (W : WX) : Prop := ∀ cls dd σ H d od u, W cls dd σ (upd H d u) → H d = some (.frz od u) → isDct u → ¬ T.2 d → W cls dd σ H
def liftI (T : Cxt) (K : PySem.W.Frag) (W : WX) (f : WI) : TI := fun σ H R => ∃ M e k kx, Rep T K M σ H e ∧ f e k kx ∧
  (∀ xs e', k xs e' → ∀ J H' lk, Rep T K M σ H' e' → lkd M (Own σ e') lk H' → Keep T (Own σ e) H (Own σ e') (unl lk H') → Stay e e' → WkD T K M (Own σ e') H' J xs → R J H') ∧ ExOk T K M σ H e W kx
theorem PS.weak {X : Cx} {s : Stmt} {t t' : TS} (h : PS X s t) (i : ∀ D σ H, t' D σ H → t D σ H) : PS X s t' := ⟨fun pins s σ H D I q => h.run pins s σ H D I (i D σ H q)⟩
theorem PSs.weak {X : Cx} {s : List Stmt} {t t' : TS} (h : PSs X s t) (i : ∀ D σ H, t' D σ H → t D σ H) : PSs X s t' := ⟨fun pins s σ H D I q => h.run pins s σ H D I (i D σ H q)⟩
theorem PG.weak {X : Cx} {tg : Expr} {t t' : TG} (h : PG X tg t) (i : ∀ v σ H Q, t' v σ H Q → t v σ H Q) : PG X tg t' := ⟨fun pins s σ H v u Q I r q => h.run pins s σ H v u Q I r (i v σ H Q q)⟩
theorem PI.weak {X : Cx} {tg it : Expr} {t t' : TI} (h : PI X tg it t) (i : ∀ σ H Q, t' σ H Q → t σ H Q) : PI X tg it t' := ⟨fun pins s σ H R I q => h.run pins s σ H R I (i σ H R q)⟩
def wNext : WS := fun e k => k.nx e
def wBreak : WS := fun e k => k.bk e
def wCont : WS := fun e k => k.ct e
def wSeq (f g : WS) : WS := fun e k => f e { k with nx := fun e1 => g e1 k }
def wExpr (f : WE) : WS := fun e k => f e (fun _ e1 => k.nx e1) k.ex
def wRet (f : WE) : WS := fun e k => f e (fun r e1 => k.rt r e1) k.ex
def wRetN : WS := fun e k => k.rt (.d .non) e
def wIfS (c : WT) (f g : WS) : WS := fun e k => c e (fun b e1 => if b = true then f e1 k else g e1 k) k.ex
def wAsg (i : Nat) (f : WE) : WS := fun e k => f e (fun r e1 => r ≠ .s i ∧ k.nx (asg i r e1)) k.ex
def wAug (i : Nat) (g : D → D → (D → Prop) → Prop) (f : WE) : WS := fun e k => ∃ x, e[i]? = some (some (.d x)) ∧ f e (fun r e1 => ∃ y, r = .d y ∧ g x y fun z => k.nx (e1.set i (some (.d z)))) k.ex
def wgN (i : Nat) : WG := fun x e k => k (e.set i (some (.d x)))
def setAll : List Nat → List D → En → En
  | i :: is, x :: xs, e => setAll is xs (e.set i (some (.d x)))
  | _, _, e => e
def wgT (is : List Nat) : WG := fun x e k => ∃ xs, x = .tup xs ∧ xs.length = is.length ∧ k (setAll is xs e)
def wUnp (g : WG) (f : WE) : WS := fun e k => f e (fun r e1 => ∃ x e2, frz r e1 = some (x, e2) ∧ g x e2 k.nx) k.ex
def wForL (g : WG) (body : WS) : List D → En → WEnds → Prop
  | [], e, k => k.nx e
  | x :: xs, e, k => g x e fun e1 => body e1 { k with nx := fun e2 => wForL g body xs e2 k, ct := fun e2 => wForL g body xs e2 k, bk := k.nx }
def wFor (it : WI) (g : WG) (body : WS) : WS := fun e k => it e (fun xs e1 => wForL g body xs e1 k) k.ex
section
variable {T : Cxt} {K : PySem.W.Frag} {W : WX} {L : Nat → Bool} {F : Nat → Option V} {M : Addr → Prop} {σ : St} {H : Hp} {e : En} {k : WEnds} {D : Ends}
theorem SOk.step (s : SOk T K W F M σ H e k D) {σ1 : St} {H1 : Hp} {e1 : En} (kk : Keep T (Own σ e) H (Own σ1 e1) H1) : SOk T K W F M σ1 H1 e1 k D :=
  ⟨fun e' h σ' H' x r q => s.nx e' h σ' H' x r (kk.trans q), fun e' h σ' H' x r q => s.bk e' h σ' H' x r (kk.trans q), fun e' h σ' H' x r q => s.ct e' h σ' H' x r (kk.trans q), fun r e' h v σ' H' x p q => s.rt r e' h v σ' H' x p (kk.trans q), fun C fs e' h dd gs σ' H' x r a b c q => s.ex C fs e' h dd gs σ' H' x r a b c (kk.trans q)⟩
theorem SOk.xk (s : SOk T K W F M σ H e k D) (x : FixOk F σ) : ExOk T K M σ H e W k.ex := fun C fs e' h dd gs H' r a b c q => s.ex C fs e' h dd gs σ H' x r a b c q
theorem liftS_next (h : liftS T K W L wNext D σ H) : tNext D σ H := by
  obtain ⟨M, F, e, k, lf, fx, rp, hf, s⟩ := h
  exact s.nx e hf σ H fx rp .refl
theorem liftS_seq {f g : WS} (h : liftS T K W L (wSeq f g) D σ H) : tSeq (liftS T K W L f) (liftS T K W L g) D σ H := by
  obtain ⟨M, F, e, k, lf, fx, rp, hf, s⟩ := h
  exact ⟨M, F, e, _, lf, fx, rp, hf, fun e' h σ' H' x r q => ⟨M, F, e', k, lf, x, r, h, s.step q⟩, s.bk, s.ct, s.rt, s.ex⟩
theorem liftS_expr {f : WE} (h : liftS T K W L (wExpr f) D σ H) : tDrop (lift T K W f) D σ H := by
  obtain ⟨M, F, e, k, lf, fx, rp, hf, s⟩ := h
  exact ⟨M, e, _, _, rp, hf, fun r e' h v H' p q _ => s.nx e' h σ H' fx p.toRep (keep_toRep q), s.xk fx⟩
theorem liftS_ret {f : WE} (h : liftS T K W L (wRet f) D σ H) : tRet (lift T K W f) D σ H := by
  obtain ⟨M, F, e, k, lf, fx, rp, hf, s⟩ := h
  exact ⟨M, e, _, _, rp, hf, fun r e' h v H' p q _ => s.rt r e' h v σ H' fx p q, s.xk fx⟩
theorem liftS_if {c : WT} {f g : WS} (h : liftS T K W L (wIfS c f g) D σ H) : tIfS (liftT T K W c) (liftS T K W L f) (liftS T K W L g) D σ H := by
  obtain ⟨M, F, e, k, lf, fx, rp, hf, s⟩ := h
  refine ⟨M, e, _, _, rp, hf, fun b e' h H' p q _ => ?_, s.xk fx⟩
  cases b with
  | true => exact iteT ⟨M, F, e', k, lf, fx, p, by simpa using h, s.step q⟩
  | false => exact iteF ⟨M, F, e', k, lf, fx, p, by simpa using h, s.step q⟩
theorem fix_set {i : Nat} {v : V} (lf : ∀ j v, F j = some v → L j = true) (hL : L i = false) (fx : FixOk F σ) : FixOk F (σ.set i (some v)) := fun j w h => by
  rw [List.getElem?_set_ne fun z => by subst z; rw [lf _ _ h] at hL; cases hL]
  exact fx j w h
theorem Reps.asg' {i : Nat} {v : V} {r : R} (p : Reps T K M σ H e [v] [r]) (hr : r ≠ .s i) : Rep T K M (σ.set i (some v)) H (Wl.asg i r e) ∧ ∀ a, Own (σ.set i (some v)) (Wl.asg i r e) a → Own σ e a ∨ OwnR [v] [r] a := by
  by_cases hi : i < e.length
  · exact p.asg hi hr
  · have hl := p.toRep.len
    have e1 : σ.set i (some v) = σ := List.set_eq_of_length_le (by omega)
    rw [e1]
    cases r with
    | d x =>
      unfold Wl.asg
      simp only [List.set_eq_of_length_le (show e.length ≤ i by omega)]
      exact ⟨p.toRep, fun a z => .inl z⟩
    | own s =>
      unfold Wl.asg
      simp only [List.set_eq_of_length_le (show e.length ≤ i by omega)]
      exact ⟨p.toRep, fun a z => .inl z⟩
    | s j =>
      unfold Wl.asg
      cases q : Wl.frz (.s j) e with
      | none => simp only [q]; exact ⟨p.toRep, fun a z => .inl z⟩
      | some xe =>
        obtain ⟨x, e'⟩ := xe
        obtain ⟨p2, o2, _⟩ := p.frz q
        have hl2 := p2.toRep.len
        simp only [q, List.set_eq_of_length_le (show e'.length ≤ i by omega)]
        exact ⟨p2.toRep, fun a z => .inl (o2 a z)⟩
theorem liftS_asg {i : Nat} {f : WE} (hL : L i = false) (h : liftS T K W L (wAsg i f) D σ H) : tAsg (lift T K W f) (gName i) D σ H := by
  obtain ⟨M, F, e, k, lf, fx, rp, hf, s⟩ := h
  refine ⟨M, e, _, _, rp, hf, fun r e' ⟨hr, h⟩ v H' p q _ => ?_, s.xk fx⟩
  obtain ⟨p2, o2⟩ := p.asg' hr
  exact s.nx _ h _ H' (fix_set lf hL fx) p2 (q.sub o2)
theorem Rep.setD' {i : Nat} {v : V} {x : Wl.D} (h : Rep T K M σ H e) (q : Hd (fun a => M a ∨ Own σ e a) K H v x) : Rep T K M (σ.set i (some v)) H (e.set i (some (.d x))) ∧ ∀ a, Own (σ.set i (some v)) (e.set i (some (.d x))) a → Own σ e a := by
  by_cases hi : i < e.length
  · exact h.setD q hi
  · have hl := h.len
    rw [List.set_eq_of_length_le (show σ.length ≤ i by omega), List.set_eq_of_length_le (show e.length ≤ i by omega)]
    exact ⟨h, fun _ z => z⟩
theorem wipe_get {σ : St} : ∀ {vs : List Nat} {j : Nat}, (wipe σ vs)[j]? = if j ∈ vs then (σ[j]?).map (fun _ => none) else σ[j]?
  | [], j => by simp [wipe]
  | v :: vs, j => by
    unfold wipe
    by_cases c : v = j
    · subst c
      rw [List.getElem?_set]
      simp only [if_true, List.mem_cons, true_or, wipe_length]
      by_cases hl : v < σ.length
      · rw [if_pos hl, List.getElem?_eq_getElem hl]; rfl
      · rw [if_neg hl, List.getElem?_eq_none (by omega)]; rfl
    · rw [List.getElem?_set_ne c, wipe_get]
      simp only [List.mem_cons, Ne.symm c, false_or]
theorem wipe_set {σ : St} {vs : List Nat} {i : Nat} {v : Option V} (h : i ∈ vs) : wipe (σ.set i v) vs = wipe σ vs := by
  apply List.ext_getElem?
  intro j
  rw [wipe_get, wipe_get]
  by_cases c : i = j
  · subst c
    rw [if_pos h, if_pos h, List.getElem?_set]
    simp only [if_true]
    by_cases hl : i < σ.length
    · rw [if_pos hl, List.getElem?_eq_getElem hl]; rfl
    · rw [if_neg hl, List.getElem?_eq_none (by omega)]
  · rw [List.getElem?_set_ne c]
theorem liftG_n {i : Nat} {v : V} {Q : St → Hp → Prop} (hL : L i = false) (h : liftG T K L [i] (wgN i) v σ H Q) : gName i v σ H Q := by
  obtain ⟨M, F, e, x, k, lf, fx, rp, hd, hk, q⟩ := h
  obtain ⟨p2, o2⟩ := rp.setD' (i := i) hd
  exact q _ hk _ (fix_set lf hL fx) p2 o2 ⟨fun vs h => wipe_set (h i List.mem_cons_self), stay_set⟩
/-- several names, one after another -/
def gNames : List Nat → TGs
  | [] => gNil
  | i :: is => gCons (gName i) (gNames is)
theorem names_ok : ∀ {is : List Nat} {vs : List V} {xs : List Wl.D} {σ : St} {e : En} {Q : St → Hp → Prop}, (∀ i ∈ is, L i = false) → (∀ j v, F j = some v → L j = true) → FixOk F σ → Rep T K M σ H e → HdL (fun a => M a ∨ Own σ e a) K H vs xs → xs.length = is.length →
    (∀ σ', FixOk F σ' → Rep T K M σ' H (setAll is xs e) → (∀ a, Own σ' (setAll is xs e) a → Own σ e a) → (∀ vs, (∀ i ∈ is, i ∈ vs) → wipe σ' vs = wipe σ vs) ∧ Stay e (setAll is xs e) → Q σ' H) → gNames is vs σ H Q
  | [], _, [], σ, e, Q, _, _, fx, rp, hd, _, q => by
    cases hd
    exact ⟨rfl, q σ fx rp (fun _ z => z) ⟨fun _ _ => rfl, .refl⟩⟩
  | i :: is, _, x :: xs, σ, e, Q, hL, lf, fx, rp, hd, hl, q => by
    cases hd with
    | @cons v vs _ _ h1 h2 =>
    obtain ⟨p2, o2⟩ := rp.setD' (i := i) h1
    exact ⟨v, vs, rfl, names_ok (fun j hj => hL j (List.mem_cons_of_mem _ hj)) lf (fix_set lf (hL i List.mem_cons_self) fx) p2 (h2.sub fun a z => z.imp id (o2 a)) (by simpa using hl) fun σ' x' r' o' w' => q σ' x' r' (fun a z => o2 a (o' a z)) ⟨fun us hu => (w'.1 us fun j hj => hu j (List.mem_cons_of_mem _ hj)).trans (wipe_set (hu i List.mem_cons_self)), stay_set.trans w'.2⟩⟩
  | [], _, _ :: _, _, _, _, _, _, _, _, _, hl, _ => by simp at hl
  | _ :: _, _, [], _, _, _, _, _, _, _, _, hl, _ => by simp at hl
theorem liftG_t {is : List Nat} {v : V} {Q : St → Hp → Prop} (hL : ∀ i ∈ is, L i = false) (h : liftG T K L is (wgT is) v σ H Q) : gTup K is.length (gNames is) v σ H Q := by
  obtain ⟨M, F, e, x, k, lf, fx, rp, hd, ⟨xs, hx, hl, hk⟩, q⟩ := h
  subst hx
  cases hd with
  | tup ha hr => exact ⟨_, _, rfl, ha.sq, by rw [hr.len, hl], names_ok hL lf fx rp hr hl fun σ' x' r' o' w' => q _ hk σ' x' r' o' w'⟩
theorem Lay.rep {H' : Hp} (l : Lay H H') (r : Rep T K M σ H e) : Rep T K M σ H' e ∧ Keep T (Own σ e) H (Own σ e) H' := by
  rcases l with rfl | ⟨p, o, hp, rfl⟩
  · exact ⟨r, .refl⟩
  · exact ⟨r.new hp, keep_new hp⟩
/-- the same but for a lock -/
structure Eqv (H H' : Hp) : Prop where
  tup : ∀ a xs, H a = some (.tup xs) → H' a = some (.tup xs)
  lst : ∀ a xs, Rd H a (.lst xs) → Rd H' a (.lst xs)
  dK : ∀ a xs, Rd H a (.dK xs) → Rd H' a (.dK xs)
  dT : ∀ a xs, Rd H a (.dT xs) → Rd H' a (.dT xs)
  ins : ∀ a C dx gs, H a = some (.ins C dx gs) → H' a = some (.ins C dx gs)
  ext : ∀ a φ, H a = some (.ext φ) → H' a = some (.ext φ)
  ftup : ∀ a o xs, H a = some (.frz o (.tup xs)) → H' a = some (.frz o (.tup xs))
theorem Hd.eqv {N : Addr → Prop} {H H' : Hp} (t : Eqv H H') {v : V} {d : Wl.D} (h : Hd N K H v d) : Hd N K H' v d := by
  refine Hd.rec (motive_1 := fun v d _ => Hd N K H' v d) (motive_2 := fun vs ds _ => HdL N K H' vs ds) .non .bl .int .str .ty .fn ?_ ?_ ?_ ?_ ?_ ?_ ?_ .nil ?_ h
  · rintro a xs ds (⟨h, n⟩ | h) _ ih
    · exact .lst (.inl ⟨t.lst _ _ h, n⟩) ih
    · exact .lst (.inr h) ih
  · exact fun h _ ih => .tup (h.imp (t.tup _ _) id) ih
  · exact fun h n e _ ih => .dct (t.dK _ _ h) n e ih
  · exact fun h n e _ ih => .dcT (t.dT _ _ h) n e ih
  · exact fun h n e _ ih => .ins (t.ins _ _ _ _ h) n e ih
  · exact fun h e n _ ih => .dx (t.ext _ _ h) e n ih
  · exact fun h e n _ ih => .tupP (t.ftup _ _ _ h) e n ih
  · exact fun _ _ a b => .cons a b
theorem HdL.eqv {N : Addr → Prop} {H H' : Hp} (t : Eqv H H') : ∀ {ds : List Wl.D} {vs : List V}, HdL N K H vs ds → HdL N K H' vs ds
  | [], _, h => by cases h; exact .nil
  | d :: ds, _, h => by
    cases h with
    | cons a b => exact .cons (a.eqv t) (HdL.eqv t b)
theorem eqv_unl {H : Hp} {d : Addr} {od : Obj} {u : HO} (h : H d = some (.frz od u)) (hu : isDct u) : Eqv H (upd H d u) := by
  have ne : ∀ a o, H a = some o → (∀ o' u', o ≠ .frz o' u') → a ≠ d := fun a o q n z => by subst z; rw [h] at q; cases q; exact n _ _ rfl
  have rd : ∀ a v, (∀ o' u', v ≠ .frz o' u') → Rd H a v → Rd (upd H d u) a v := fun a v hv q => by
    by_cases c : a = d
    · subst c
      rcases q with q | ⟨o, q⟩
      · rw [h] at q
        exact (hv _ _ (Option.some.inj q).symm).elim
      · rw [h] at q
        cases q
        exact .inl upd_same
    · rcases q with q | ⟨o, q⟩
      · exact .inl (by rw [upd_ne c]; exact q)
      · exact .inr ⟨o, by rw [upd_ne c]; exact q⟩
  exact ⟨fun a xs q => by rw [upd_ne (ne a _ q fun _ _ z => nomatch z)]; exact q, fun a xs => rd a _ fun _ _ z => (nomatch z), fun a xs => rd a _ fun _ _ z => (nomatch z), fun a xs => rd a _ fun _ _ z => (nomatch z), fun a C dx gs q => by rw [upd_ne (ne a _ q fun _ _ z => nomatch z)]; exact q, fun a φ q => by rw [upd_ne (ne a _ q fun _ _ z => nomatch z)]; exact q, fun a o xs q => by
    rw [upd_ne fun z => by subst z; rw [h] at q; cases q; rcases hu with ⟨_, e⟩ | ⟨_, e⟩ <;> cases e]
    exact q⟩
theorem RS.eqv {N : Addr → Prop} {H H' : Hp} (t : Eqv H H') {v : V} {s : S} (h : RS N K H v s) (ho : ∀ a o, s.has v a → s.owned = true → H a = some o → Mut (some o) → H' a = some o) : RS N K H' v s := by
  cases s with
  | d x => exact Hd.eqv t h
  | l xs => obtain ⟨a, ys, rfl, h, r⟩ := h; exact ⟨a, ys, rfl, ho _ _ rfl rfl h trivial, r.eqv t⟩
  | m kvs => obtain ⟨a, ys, rfl, h, e, r⟩ := h; exact ⟨a, ys, rfl, ho _ _ rfl rfl h trivial, e, r.eqv t⟩
  | mT kvs => obtain ⟨a, ys, rfl, h, e, r⟩ := h; exact ⟨a, ys, rfl, ho _ _ rfl rfl h trivial, e, r.eqv t⟩
  | o C fs => obtain ⟨a, dx, ys, rfl, h, e, r⟩ := h; exact ⟨a, dx, ys, rfl, ho _ _ rfl rfl h trivial, e, r.eqv t⟩
  | b C fs ls =>
    obtain ⟨a, dx, ys, rfl, h, e, r, nd, hl⟩ := h
    refine ⟨a, dx, ys, rfl, ho _ _ (.inl rfl) rfl h trivial, e, r.eqv t, nd, fun A xs m => ?_⟩
    obtain ⟨zs, q, r2⟩ := hl A xs m
    exact ⟨zs, ho _ _ (.inr ⟨xs, m⟩) rfl q trivial, r2.eqv t⟩
theorem Tabs.ne {T : List (Addr × Str)} {H H' : Hp} (t : LamX.Tabs T H) (e : ∀ b o, H b = some o → (∀ o' u', o ≠ .frz o' u') → (∀ xs, o ≠ .dK xs) → (∀ xs, o ≠ .dT xs) → H' b = some o) : LamX.Tabs T H' := fun p hp => by
  obtain ⟨ps, h1, h2, h3⟩ := t p hp
  refine ⟨ps, e _ _ h1 (fun _ _ z => nomatch z) (fun _ z => nomatch z) (fun _ z => nomatch z), h2, fun pos cv hc => ?_⟩
  obtain ⟨c, e1, e2⟩ := h3 pos cv hc
  exact ⟨c, e1, e _ _ e2 (fun _ _ z => nomatch z) (fun _ z => nomatch z) (fun _ z => nomatch z)⟩
theorem Rep.unl {lk : Lk} (h : Rep T K M σ H e) (hl : lkd M (Own σ e) lk H) (nt : ∀ d od u, lk = some (d, od, u) → ¬ T.2 d) : Rep T K M σ (Wl.unl lk H) e := by
  cases lk with
  | none => exact h
  | some x =>
    obtain ⟨d, od, u⟩ := x
    obtain ⟨h1, h2, h3, h4⟩ := hl
    show Rep T K M σ (upd H d u) e
    refine ⟨h.len, fun i s x => ?_, h.inj, h.apart, fun a z => let ⟨o, q, n⟩ := h.dom a z; ⟨o, by rw [upd_ne fun y => h3 (by rw [← y]; exact z)]; exact q, n⟩, ⟨Tabs.ne h.tabs.1 fun b o q n _ _ => ?_, fun a z => ?_⟩⟩
    · obtain ⟨v, e1, q⟩ := h.at_ i s x
      refine ⟨v, e1, q.eqv (eqv_unl h1 h2) fun a o y1 y2 y3 _ => ?_⟩
      rw [upd_ne fun y => h4 (by rw [← y]; exact ⟨i, s, x, y2, _, e1, y1⟩)]
      exact y3
    · rw [upd_ne fun y => by subst y; rw [h1] at q; cases q; exact n _ _ rfl]
      exact q
    · obtain ⟨o, w, q⟩ := h.tabs.2 a z
      exact ⟨o, w, by rw [upd_ne fun y => nt d od u rfl (by rw [← y]; exact z)]; exact q⟩
/-- a lock and what is kept -/
theorem Keep.unl {F F' : Addr → Prop} {H1 : Hp} {lk : Lk} (k : Keep T F H F' H1) (h : lkd M F lk H) : Keep T F (Wl.unl lk H) F' (Wl.unl lk H1) := by
  cases lk with
  | none => exact k
  | some x =>
    obtain ⟨d, od, u⟩ := x
    obtain ⟨h1, h2, h3, h4⟩ := h
    show Keep T F (upd H d u) F' (upd H1 d u)
    have dd : Live H d := ⟨_, h1, fun _ z => nomatch z⟩
    have nt : notTbl u := by rcases h2 with ⟨_, e⟩ | ⟨_, e⟩ <;> (rw [e]; exact fun _ z => nomatch z)
    refine ⟨fun a xs q => ?_, fun a o q n t => ?_, fun a q n => ?_, fun t a ps q => ?_, fun a q => ?_⟩
    all_goals by_cases c : a = d
    · subst c; rw [upd_same] at q ⊢; exact q
    · rw [upd_ne c] at q ⊢; exact k.tup a xs q
    · subst c; rw [upd_same] at q ⊢; exact q
    · rw [upd_ne c] at q ⊢; exact k.keep a o q n t
    · subst c; exact k.out a dd n
    · obtain ⟨w, q, n'⟩ := q
      rw [upd_ne c] at q
      exact k.out a ⟨w, q, n'⟩ n
    · subst c; rw [upd_same] at q ⊢; exact q
    · rw [upd_ne c] at q ⊢; exact k.tbl t a ps q
    · subst c; exact ⟨u, upd_same, nt⟩
    · obtain ⟨w, q, n'⟩ := q
      rw [upd_ne c] at q
      obtain ⟨w2, q2, n2⟩ := k.dom a ⟨w, q, n'⟩
      exact ⟨w2, by rw [upd_ne c]; exact q2, n2⟩
theorem lkd.keep {F F' : Addr → Prop} {H1 : Hp} {lk : Lk} (k : Keep T F H F' H1) (h : lkd M F lk H) : lkd M F' lk H1 := by
  cases lk with
  | none => trivial
  | some x =>
    obtain ⟨d, od, u⟩ := x
    obtain ⟨h1, h2, h3, h4⟩ := h
    exact ⟨k.keep d _ h1 h4 (fun _ z => nomatch z), h2, h3, k.out d ⟨_, h1, fun _ z => nomatch z⟩ h4⟩
/-- the locked dict was free ahead of the statement -/
theorem lk_free {F : Addr → Prop} {H1 : Hp} {d : Addr} {od : Obj} {u : HO} (r : Rep T K M σ H e) (k : Keep T (Own σ e) H F (Wl.unl (some (d, od, u)) H1)) (hu : isDct u) : (∀ o u', H d ≠ some (.frz o u')) ∧ ¬ T.2 d := by
  have n : ∀ o u', H d ≠ some (.frz o u') := fun o u' q => by
    have z := k.keep d _ q (fun z => by obtain ⟨o', q', m⟩ := r.own_some z; rw [q] at q'; cases q'; exact m) (fun _ z => nomatch z)
    have z' : upd H1 d u d = some (.frz o u') := z
    rw [upd_same] at z'
    cases z'
    rcases hu with ⟨_, e⟩ | ⟨_, e⟩ <;> cases e
  exact ⟨n, fun z => by obtain ⟨o, w, q⟩ := r.tabs.2 d z; exact n _ _ q⟩
/-- behind a statement locks are taken off -/
def Un1 (H H' : Hp) (Q : Hp → Prop) : Prop := Q H' ∨ ∃ d od u, (∀ o u', H d ≠ some (.frz o u')) ∧ H' d = some (.frz od u) ∧ Q (upd H' d u)
theorem Un1.of {F F' F2 : Addr → Prop} {H1 H2 : Hp} {lk : Lk} {Q : Hp → Prop} (r : Rep T K M σ H e) (k : Keep T (Own σ e) H F (Wl.unl lk H1)) (h1 : lkd M F' lk H1) (h : lkd M F2 lk H2) (q : Q (Wl.unl lk H2)) : Un1 H H2 Q := by
  cases lk with
  | none => exact .inl q
  | some x =>
    obtain ⟨d, od, u⟩ := x
    exact .inr ⟨d, od, u, (lk_free r k h.2.1).1, h.1, q⟩
def unlE (H : Hp) (D : Ends) : Ends := ⟨fun σ' H' => Un1 H H' (D.nx σ'), fun v H' => Un1 H H' (D.rt v), fun σ' H' => Un1 H H' (D.bk σ'), fun σ' H' => Un1 H H' (D.ct σ')⟩
theorem liftS_for {is : List Nat} {it : WI} {g : WG} {body : WS} (hW : UnlW T W) (h : liftS T K W L (wFor it g body) D σ H) : tFor (liftI T K W it) (liftG T K L is g) (liftS T K W L body) (unlE H D) σ H := by
  obtain ⟨M, F, e, k, lf, fx, rp, hf, s⟩ := h
  refine ⟨M, e, _, _, rp, hf, fun xs e1 h J H1 lk r1 l1 k1 _ wk => ?_, s.xk fx⟩
  obtain ⟨G, Y, w, hG, hY⟩ := wk
  have nt : ∀ d od u, lk = some (d, od, u) → ¬ T.2 d := fun d od u e => by subst e; exact (lk_free rp k1 l1.2.1).2
  -- what is kept from ahead of the statement, unlocked
  have kU : ∀ {H' : Hp} {F' : Addr → Prop}, Keep T (Own σ e1) H1 F' H' → Keep T (Own σ e) H F' (Wl.unl lk H') := fun q => k1.trans (q.unl l1)
  have fin : ∀ {σ' : St} {H' : Hp} {e' : En}, Rep T K M σ' H' e' → Keep T (Own σ e1) H1 (Own σ' e') H' → lkd M (Own σ' e') lk H' ∧ Rep T K M σ' (Wl.unl lk H') e' := fun r q => ⟨l1.keep q, r.unl (l1.keep q) nt⟩
  refine for_it w (fun i σ' H' => ∃ e', FixOk F σ' ∧ Rep T K M σ' H' e' ∧ Keep T (Own σ e1) H1 (Own σ' e') H' ∧ wForL g body (xs.drop i) e' k) ⟨e1, fx, r1, .refl, by simpa using h⟩ (fun i σ' H' _ ⟨e', _, _, q, _⟩ => hG _ _ q) (fun i v σ' H' H2 hi ⟨e', x', r', q', h'⟩ y => ?_) fun σ' H' ⟨e', x', r', q', h'⟩ => ?_
  · obtain ⟨x, hx, ly, hd⟩ := hY _ _ i v H2 hi q' y
    have ed : xs.drop i = x :: xs.drop (i + 1) := by
      obtain ⟨h1, h2⟩ := List.getElem?_eq_some_iff.mp hx
      rw [List.drop_eq_getElem_cons hi, h2]
    rw [ed] at h'
    obtain ⟨r2, k2⟩ := ly.rep r'
    refine ⟨M, F, e', x, _, lf, x', r2, hd, h', fun e3 hk σ3 x3 r3 o3 _ => ?_⟩
    have kk := (q'.trans k2).sub o3
    refine ⟨M, F, e3, _, lf, x3, r3, hk, fun e4 h4 σ4 H4 x4 r4 q4 => ⟨e4, x4, r4, kk.trans q4, h4⟩, fun e4 h4 σ4 H4 x4 r4 q4 => ?_, fun e4 h4 σ4 H4 x4 r4 q4 => ⟨e4, x4, r4, kk.trans q4, h4⟩, fun r e4 h4 v4 σ4 H4 x4 p4 q4 => ?_, fun C fs e4 h4 dd gs σ4 H4 x4 r4 hd4 hn4 hl4 q4 => ?_⟩
    · have q5 := kk.trans q4
      obtain ⟨l5, r5⟩ := fin r4 q5
      exact Un1.of rp k1 l1 l5 (s.nx e4 h4 σ4 _ x4 r5 (kU q5))
    · have q5 := kk.trans q4
      have l5 := l1.keep q5
      refine Un1.of rp k1 l1 l5 (s.rt r e4 h4 v4 σ4 _ x4 ?_ (kU q5))
      cases lk with
      | none => exact p4
      | some z =>
        obtain ⟨d, od, u⟩ := z
        obtain ⟨y1, y2, y3, y4⟩ := l5
        have rr : Rep T K (fun a => M a ∨ OwnR [v4] [r] a) σ4 (Wl.unl (some (d, od, u)) H4) e4 := p4.rep.unl (lk := some (d, od, u)) ⟨y1, y2, fun z => z.elim y3 fun z => y4 (.inr z), fun z => y4 (.inl z)⟩ nt
        refine ⟨rr, p4.len, fun i w t g1 g2 => ?_, p4.inj, p4.new⟩
        have z := p4.val i w t g1 g2
        cases t with
        | d x => exact Hd.eqv (eqv_unl y1 y2) z
        | s j => exact z
        | own s =>
          refine ⟨z.1, z.2.eqv (eqv_unl y1 y2) fun a o w1 w2 w3 _ => ?_⟩
          rw [upd_ne fun y => y4 (.inr ⟨i, s, g2, _, g1, by rw [← y]; exact w1⟩)]
          exact w3
    · have q5 := kk.trans q4
      obtain ⟨l5, r5⟩ := fin r4 q5
      cases lk with
      | none => exact s.ex C fs e4 h4 dd gs σ4 H4 x4 r4 hd4 hn4 hl4 (kU q5)
      | some z =>
        obtain ⟨d, od, u⟩ := z
        obtain ⟨y1, y2, y3, y4⟩ := l5
        have z := s.ex C fs e4 h4 dd gs σ4 _ x4 r5 (show upd H4 d u dd = _ by rw [upd_ne fun y => by rw [y, y1] at hd4; cases hd4]; exact hd4) hn4 (hl4.eqv (eqv_unl y1 y2)) (kU q5)
        exact hW _ _ _ _ d od u z y1 y2 (nt d od u rfl)
  · rw [List.drop_length] at h'
    obtain ⟨l5, r5⟩ := fin r' q'
    exact Un1.of rp k1 l1 l5 (s.nx e' h' σ' _ x' r5 (kU q'))
end
section
variable {X : Cx} {T : Cxt} {K : PySem.W.Frag} {W : WX} {L : Nat → Bool} {pos : Pos} {st : Stmt} {rest : List Stmt} {f g : WS} {e : Expr} {fe : WE}
theorem ws_nil : PSs X [] (liftS T K W L wNext) := PSs.weak pss_nil fun _ _ _ => liftS_next
theorem ws_cons (h1 : PS X st (liftS T K W L f)) (h2 : PSs X rest (liftS T K W L g)) : PSs X (st :: rest) (liftS T K W L (wSeq f g)) := PSs.weak (pss_cons h1 h2) fun _ _ _ => liftS_seq
theorem ws_one (h1 : PS X st (liftS T K W L f)) : PSs X [st] (liftS T K W L f) := pss_one h1
theorem w_expr (he : PE X e (lift T K W fe)) (hs : swapsWith e none pos.line X.env = pure false := by rfl) : PS X (.Expr e pos) (liftS T K W L (wExpr fe)) := PS.weak (ps_expr he hs) fun _ _ _ => liftS_expr
theorem w_ret (he : PE X e (lift T K W fe)) : PS X (.Return (some e) pos) (liftS T K W L (wRet fe)) := PS.weak (ps_ret he) fun _ _ _ => liftS_ret
theorem w_ifS {c : Expr} {a b : List Stmt} {fc : WT} (hc : PT X c (liftT T K W fc)) (ha : PSs X a (liftS T K W L f)) (hb : PSs X b (liftS T K W L g)) : PS X (.If c a b pos) (liftS T K W L (wIfS fc f g)) := PS.weak (ps_if hc ha hb) fun _ _ _ => liftS_if
theorem w_set {i : Nat} {x : Str} {pos' : Pos} (hL : L i = false) (hN : X.N.Nodup) (hi : X.N[i]? = some x) (hx : Loc X.env.scope x) (he : PE X e (lift T K W fe)) (hs : swapsWith e (some (.Name x pos')) pos.line X.env = pure false := by rfl) (hf : X.fn x = true ∨ X.env.scope.names.lookup x = some .local := by first | exact .inl rfl | exact .inr rfl | assumption) :
    PS X (.Assign [.Name x pos'] e pos) (liftS T K W L (wAsg i fe)) := PS.weak (ps_set hN hi hx he hs hf) fun _ _ _ => liftS_asg hL
theorem w_gN {i : Nat} {x : Str} (hL : L i = false) (hN : X.N.Nodup) (hi : X.N[i]? = some x) (hx : Loc X.env.scope x) (hf : X.fn x = true ∨ X.env.scope.names.lookup x = some .local := by first | exact .inl rfl | exact .inr rfl | assumption) : PG X (.Name x pos) (liftG T K L [i] (wgN i)) := PG.weak (pg_name hN hi hx hf) fun _ _ _ _ => liftG_n hL
theorem w_gT {es : List Expr} {k : Nat} {is : List Nat} (eK : X.K = K) (hL : ∀ i ∈ is, L i = false) (hc : X.calm = true) (h : PGs X es (gNames is)) (hn : (assignEach es X.env).length = is.length := by rfl) (hst : (assignEach es X.env).findIdx? (·.1) = none := by rfl) : PG X (.Tuple es k pos) (liftG T K L is (wgT is)) := by
  subst eK
  exact PG.weak (pg_tup hc h hn hst) fun _ _ _ _ => liftG_t hL
theorem Inv.un1 {pins : List (Addr × Obj)} {σ σ' : St} {H H' : Hp} {s s' : Shared} {Q : Hp → Prop} (I : Inv X pins σ H s) (I' : Inv X pins σ' H' s') (h : Un1 H H' Q) : ∃ H2, Inv X pins σ' H2 s' ∧ Q H2 := by
  rcases h with h | ⟨d, od, u, h1, h2, h3⟩
  · exact ⟨H', I', h⟩
  · exact ⟨_, I'.unlock h2 fun o' u' e => h1 o' u' (I.base.frzs d o' u' e), h3⟩
theorem PS.unl {t : TS} (h : PS X st t) : PS X st fun D σ H => t (unlE H D) σ H := by
  refine ⟨fun pins s σ H D I hw => thn (h.run pins s σ H _ I hw) fun f s1 q => ?_⟩
  cases f with
  | next => obtain ⟨σ', H', I', q⟩ := q; obtain ⟨H2, I2, q⟩ := Inv.un1 I I' q; exact ⟨σ', H2, I2, q⟩
  | brk => obtain ⟨σ', H', I', q⟩ := q; obtain ⟨H2, I2, q⟩ := Inv.un1 I I' q; exact ⟨σ', H2, I2, q⟩
  | cont => obtain ⟨σ', H', I', q⟩ := q; obtain ⟨H2, I2, q⟩ := Inv.un1 I I' q; exact ⟨σ', H2, I2, q⟩
  | ret v => obtain ⟨x, σ', H', I', r, q⟩ := q; obtain ⟨H2, I2, q⟩ := Inv.un1 I I' q; exact ⟨x, σ', H2, I2, r, q⟩
theorem PE.unl {t : TE} (h : PE X e t) : PE X e fun σ H Q => t σ H fun v H' => Un1 H H' (Q v) :=
  ⟨fun pins s σ H Q I hw => thn (h.run pins s σ H _ I hw) fun f s1 ⟨v, H', I', r, q⟩ => let ⟨H2, I2, q⟩ := Inv.un1 I I' q; ⟨v, H2, I2, r, q⟩⟩
theorem w_for {tg iter : Expr} {body : List Stmt} {is : List Nat} {it : WI} {g : WG} {fb : WS} (hW : UnlW T W) (hp : PassesOwn (model X.prog X.w) X.A X.env X.xe) (hc : X.calm = true) (hi : PI X tg iter (liftI T K W it)) (hg : PG X tg (liftG T K L is g)) (hb : PSs X body (liftS T K W L fb))
    (hs : ∀ x, foldedSetIterable iter X.env x = pure x := by intro _; rfl) : PS X (.For tg iter body [] pos) (liftS T K W L (wFor it g fb)) := PS.weak (PS.unl (ps_for hp hc hi hg hb hs)) fun _ _ _ => liftS_for hW
end
end Wl
namespace Wl
open PySem PySem.Spec PyProof.Rows L2 RZ
abbrev SK := R → List S → Prop
abbrev SX := Addr → List (Str × D) → List S → Prop
abbrev WSp := List S → SK → SX → Prop
def noS (r : R) : Prop := ∀ i, r ≠ .s i
/-- no locks, tables -/
abbrev TN (Tt : List (Addr × Str)) : Cxt := (Tt, fun _ => False)
/-- a promise: its caller says which tables stand, those of N among them -/
def lowerN (N : List (Addr × Str)) (K : PySem.W.Frag) (sp : WSp) : Sp := fun vs H Q E => ∃ Tt M as k kx, (∀ p ∈ N, p ∈ Tt) ∧ Rep (TN Tt) K M (vs.map some) H (as.map some) ∧ sp as k kx ∧
  (∀ r as', k r as' → ∀ v H', as'.length = as.length → Reps (TN Tt) K M (vs.map some) H' (as'.map some) [v] [r] → noS r → Keep (TN Tt) (Own (vs.map some) (as.map some)) H (fun a => Own (vs.map some) (as'.map some) a ∨ OwnR [v] [r] a) H' → Q v H') ∧
  (∀ C fs as', kx C fs as' → ∀ dd gs H', as'.length = as.length → Rep (TN Tt) K M (vs.map some) H' (as'.map some) → H' dd = some (.xd gs) → gs.map (·.1) = fs.map (·.1) → HdL (fun a => M a ∨ Own (vs.map some) (as'.map some) a) K H' (gs.map (·.2)) (fs.map (·.2)) →
    Keep (TN Tt) (Own (vs.map some) (as.map some)) H (Own (vs.map some) (as'.map some)) H' → E (.ref C) (some dd) H')
abbrev lower (K : PySem.W.Frag) (sp : WSp) : Sp := lowerN [] K sp
def argS (e : En) : List R → Option (List S)
  | [] => some []
  | .d x :: rs => match argS e rs with
    | some ss => some (.d x :: ss)
    | none => none
  | .own s :: rs => match argS e rs with
    | some ss => some (s :: ss)
    | none => none
  | .s i :: rs => match e[i]?, argS e rs with
    | some (some s), some ss => some (s :: ss)
    | _, _ => none
def putS : List R → List S → En → En
  | .s i :: rs, s :: ss, e => putS rs ss (e.set i (some s))
  | _ :: rs, _ :: ss, e => putS rs ss e
  | _, _, e => e
def slotOf : R → Option Nat
  | .s i => some i
  | _ => none
def slotsOf (rs : List R) : List Nat := rs.filterMap slotOf
theorem argS_get {e : En} : ∀ {rs : List R} {as : List S} {i : Nat} {r : R}, argS e rs = some as → rs[i]? = some r → ∃ s, as[i]? = some s ∧ (r = .d s.fz ∧ s = .d s.fz ∨ r = .own s ∨ ∃ j, r = .s j ∧ e[j]? = some (some s))
  | [], _, _, _, _, h => by simp at h
  | .d x :: rs, as, i, r, h, hr => by
    unfold argS at h
    split at h
    · rename_i ss q
      cases h
      cases i with
      | zero => simp at hr; subst hr; exact ⟨.d x, rfl, .inl ⟨rfl, rfl⟩⟩
      | succ i => simpa using argS_get q (by simpa using hr)
    · cases h
  | .own s :: rs, as, i, r, h, hr => by
    unfold argS at h
    split at h
    · rename_i ss q
      cases h
      cases i with
      | zero => simp at hr; subst hr; exact ⟨s, rfl, .inr (.inl rfl)⟩
      | succ i => simpa using argS_get q (by simpa using hr)
    · cases h
  | .s j :: rs, as, i, r, h, hr => by
    unfold argS at h
    split at h
    · rename_i s ss q0 q
      cases h
      cases i with
      | zero => simp at hr; subst hr; exact ⟨s, rfl, .inr (.inr ⟨j, rfl, q0⟩)⟩
      | succ i => simpa using argS_get q (by simpa using hr)
    · cases h
theorem argS_len {e : En} : ∀ {rs : List R} {as : List S}, argS e rs = some as → as.length = rs.length
  | [], _, h => by cases h; rfl
  | .d x :: rs, as, h => by
    unfold argS at h
    split at h
    · rename_i ss q; cases h; rw [List.length_cons, List.length_cons, argS_len q]
    · cases h
  | .own x :: rs, as, h => by
    unfold argS at h
    split at h
    · rename_i ss q; cases h; rw [List.length_cons, List.length_cons, argS_len q]
    · cases h
  | .s x :: rs, as, h => by
    unfold argS at h
    split at h
    · rename_i s ss q0 q; cases h; rw [List.length_cons, List.length_cons, argS_len q]
    · cases h
theorem putS_len : ∀ {rs : List R} {ss : List S} {e : En}, (putS rs ss e).length = e.length
  | [], _, _ => by unfold putS; rfl
  | _ :: _, [], _ => by unfold putS; split <;> first | rfl | (rename_i h; cases h) | skip
  | .s i :: rs, s :: ss, e => by unfold putS; rw [putS_len, List.length_set]
  | .d i :: rs, s :: ss, e => by unfold putS; exact putS_len
  | .own i :: rs, s :: ss, e => by unfold putS; exact putS_len
theorem putS_out : ∀ {rs : List R} {ss : List S} {e : En} {j : Nat}, j ∉ slotsOf rs → (putS rs ss e)[j]? = e[j]?
  | [], _, _, _, _ => by unfold putS; rfl
  | _ :: _, [], _, _, _ => by unfold putS; split <;> first | rfl | (rename_i h; cases h) | skip
  | .s i :: rs, s :: ss, e, j, h => by
    unfold putS
    have h' : j ≠ i ∧ j ∉ slotsOf rs := by simpa [slotsOf, slotOf] using h
    rw [putS_out h'.2, List.getElem?_set_ne (Ne.symm h'.1)]
  | .d i :: rs, s :: ss, e, j, h => by unfold putS; exact putS_out (by simpa [slotsOf, slotOf] using h)
  | .own i :: rs, s :: ss, e, j, h => by unfold putS; exact putS_out (by simpa [slotsOf, slotOf] using h)
theorem putS_in : ∀ {rs : List R} {ss : List S} {e : En} {i j : Nat} {s : S}, (slotsOf rs).Nodup → rs[i]? = some (.s j) → ss[i]? = some s → j < e.length → (putS rs ss e)[j]? = some (some s)
  | [], _, _, _, _, _, _, h, _, _ => by simp at h
  | _ :: _, [], _, _, _, _, _, _, h, _ => by simp at h
  | .s i0 :: rs, s0 :: ss, e, i, j, s, nd, h1, h2, hl => by
    unfold putS
    have nd' : i0 ∉ slotsOf rs ∧ (slotsOf rs).Nodup := by simpa [slotsOf, slotOf] using nd
    cases i with
    | zero =>
      simp at h1 h2
      subst h1 h2
      rw [putS_out nd'.1, List.getElem?_set]
      simp [hl]
    | succ i => exact putS_in nd'.2 (by simpa using h1) (by simpa using h2) (by rw [List.length_set]; exact hl)
  | .d x :: rs, s0 :: ss, e, i, j, s, nd, h1, h2, hl => by
    unfold putS
    cases i with
    | zero => simp at h1
    | succ i => exact putS_in (show (slotsOf rs).Nodup from nd) (by simpa using h1) (by simpa using h2) hl
  | .own x :: rs, s0 :: ss, e, i, j, s, nd, h1, h2, hl => by
    unfold putS
    cases i with
    | zero => simp at h1
    | succ i => exact putS_in (show (slotsOf rs).Nodup from nd) (by simpa using h1) (by simpa using h2) hl
theorem slots_mem : ∀ {rs : List R} {j : Nat}, j ∈ slotsOf rs → ∃ i : Nat, rs[i]? = some (.s j)
  | [], _, h => by simp [slotsOf] at h
  | r :: rs, j, h => by
    by_cases c : slotOf r = some j
    · cases r with
      | s i => cases c; exact ⟨0, rfl⟩
      | d x => cases c
      | own x => cases c
    · obtain ⟨i, e⟩ := slots_mem (rs := rs) (j := j) (by
        unfold slotsOf at h ⊢
        rw [List.filterMap_cons] at h
        split at h
        · exact h
        · rename_i b e
          rcases List.mem_cons.mp h with h | h
          · rw [← h] at e; exact absurd e c
          · exact h)
      exact ⟨i + 1, by simpa using e⟩
theorem slots_inj : ∀ {rs : List R} {i i' j : Nat}, (slotsOf rs).Nodup → rs[i]? = some (.s j) → rs[i']? = some (.s j) → i = i'
  | [], _, _, _, _, h, _ => by simp at h
  | r :: rs, i, i', j, nd, h1, h2 => by
    have mem : ∀ {n : Nat}, rs[n]? = some (.s j) → j ∈ slotsOf rs := fun {n} h => by
      unfold slotsOf
      exact List.mem_filterMap.mpr ⟨_, List.mem_of_getElem? h, rfl⟩
    cases i with
    | zero =>
      cases i' with
      | zero => rfl
      | succ i' =>
        simp at h1 h2
        subst h1
        have nd' : j ∉ slotsOf rs ∧ (slotsOf rs).Nodup := by simpa [slotsOf, slotOf] using nd
        exact (nd'.1 (mem h2)).elim
    | succ i =>
      cases i' with
      | zero =>
        simp at h1 h2
        subst h2
        have nd' : j ∉ slotsOf rs ∧ (slotsOf rs).Nodup := by simpa [slotsOf, slotOf] using nd
        exact (nd'.1 (mem h1)).elim
      | succ i' =>
        have nd' : (slotsOf rs).Nodup := by
          cases r with
          | s x => exact (show x ∉ slotsOf rs ∧ (slotsOf rs).Nodup by simpa [slotsOf, slotOf] using nd).2
          | d x => exact nd
          | own x => exact nd
        rw [slots_inj (i := i) (i' := i') nd' (by simpa using h1) (by simpa using h2)]
theorem mapS {α : Type} {l : List α} {i : Nat} {a : α} : (l.map some)[i]? = some (some a) ↔ l[i]? = some a := by
  rw [List.getElem?_map]
  cases l[i]? <;> simp
section
variable {T : Cxt} {K : PySem.W.Frag} {M : Addr → Prop} {σ : St} {H H' : Hp} {e : En} {vs ws : List V} {rs ts : List R} {as as' : List S}
/-- the caller's things that the callee does not get -/
def Mc (M : Addr → Prop) (σ : St) (e : En) (vs : List V) (as : List S) : Addr → Prop := fun a => (M a ∨ Own σ e a) ∧ ¬ Own (vs.map some) (as.map some) a
theorem own_args (p : Reps T K M σ H e vs rs) (ha : argS e rs = some as) {a : Addr} (h : Own (vs.map some) (as.map some) a) : OwnR vs rs a ∨ Own σ e a := by
  obtain ⟨i, s, h1, h2, w, h3, hs⟩ := h
  have h1 := mapS.mp h1
  have h3 := mapS.mp h3
  have hl : i < rs.length := by rw [← argS_len ha]; exact (List.getElem?_eq_some_iff.mp h1).1
  obtain ⟨s', e1, q⟩ := argS_get ha (List.getElem?_eq_getElem hl)
  rw [h1] at e1
  cases e1
  rcases q with ⟨_, q⟩ | q | ⟨j, q, e2⟩
  · rw [q] at h2; cases h2
  · exact .inl ⟨i, s, by rw [List.getElem?_eq_getElem hl, q], w, h3, hs⟩
  · obtain ⟨t, g1, g2⟩ := p.val i _ _ h3 (by rw [List.getElem?_eq_getElem hl, q])
    rw [e2] at g1
    cases g1
    exact .inr ⟨j, s, e2, h2, w, g2, hs⟩
theorem Rep.callee (p : Reps T K M σ H e vs rs) (ha : argS e rs = some as) (nd : (slotsOf rs).Nodup) : Rep (TN T.1) K (Mc M σ e vs as) (vs.map some) H (as.map some) := by
  have sub : ∀ a, Mc M σ e vs as a ∨ Own (vs.map some) (as.map some) a → (M a ∨ OwnR vs rs a) ∨ Own σ e a := fun a z => by
    rcases z with ⟨z, _⟩ | z
    · exact z.imp .inl id
    · rcases own_args p ha z with z | z
      · exact .inl (.inr z)
      · exact .inr z
  refine ⟨by rw [List.length_map, List.length_map, argS_len ha, p.len], fun i s h => ?_, fun i j s t a h1 h2 h3 h4 h5 h6 => ?_, fun a z => z.2, fun a z => ?_, p.rep.tabs.1, fun _ h => h.elim⟩
  · have h := mapS.mp h
    have hl : i < rs.length := by rw [← argS_len ha]; exact (List.getElem?_eq_some_iff.mp h).1
    have hv : i < vs.length := by rw [p.len]; exact hl
    have e3 := List.getElem?_eq_getElem hv
    obtain ⟨s', e1, q⟩ := argS_get ha (List.getElem?_eq_getElem hl)
    rw [h] at e1
    cases e1
    refine ⟨vs[i], mapS.mpr e3, ?_⟩
    have z := p.val i _ _ e3 (List.getElem?_eq_getElem hl)
    rcases q with ⟨q, q2⟩ | q | ⟨j, q, e2⟩
    · rw [q] at z
      rw [q2]
      exact Hd.sub sub z
    · rw [q] at z
      exact z.2.sub sub
    · rw [q] at z
      obtain ⟨t, g1, g2⟩ := z
      rw [e2] at g1
      cases g1
      obtain ⟨w, g3, g4⟩ := p.rep.at_ j s e2
      rw [g2] at g3
      cases g3
      exact g4.sub sub
  · have h1 := mapS.mp h1
    have h3 := mapS.mp h3
    obtain ⟨v5, h5, hs5⟩ := h5
    obtain ⟨v6, h6, hs6⟩ := h6
    have h5 := mapS.mp h5
    have h6 := mapS.mp h6
    have li : i < rs.length := by rw [← argS_len ha]; exact (List.getElem?_eq_some_iff.mp h1).1
    have lj : j < rs.length := by rw [← argS_len ha]; exact (List.getElem?_eq_some_iff.mp h3).1
    have gi := List.getElem?_eq_getElem li
    have gj := List.getElem?_eq_getElem lj
    obtain ⟨s', e1, q⟩ := argS_get ha gi
    rw [h1] at e1
    cases e1
    obtain ⟨t', e2, q2⟩ := argS_get ha gj
    rw [h3] at e2
    cases e2
    rcases q with ⟨_, q⟩ | q | ⟨n, q, e3⟩
    · rw [q] at h2; cases h2
    · rw [q] at gi
      rcases q2 with ⟨_, q2⟩ | q2 | ⟨m, q2, e4⟩
      · rw [q2] at h4; cases h4
      · rw [q2] at gj
        exact p.inj i j s t a gi gj ⟨_, h5, hs5⟩ ⟨_, h6, hs6⟩
      · rw [q2] at gj
        obtain ⟨_, _, g2⟩ := p.val j _ _ h6 gj
        exact (p.rep.apart a (.inr ⟨i, s, gi, _, h5, hs5⟩) ⟨m, t, e4, h4, _, g2, hs6⟩).elim
    · rw [q] at gi
      obtain ⟨_, _, g1⟩ := p.val i _ _ h5 gi
      rcases q2 with ⟨_, q2⟩ | q2 | ⟨m, q2, e4⟩
      · rw [q2] at h4; cases h4
      · rw [q2] at gj
        exact (p.rep.apart a (.inr ⟨j, t, gj, _, h6, hs6⟩) ⟨n, s, e3, h2, _, g1, hs5⟩).elim
      · rw [q2] at gj
        obtain ⟨_, _, g2⟩ := p.val j _ _ h6 gj
        have z := p.rep.inj n m s t a e3 h2 e4 h4 ⟨_, g1, hs5⟩ ⟨_, g2, hs6⟩
        subst z
        exact slots_inj nd gi gj
  · rcases z.1 with z | z
    · exact p.rep.dom a (.inl z)
    · exact p.rep.own_live z
/-- back in the caller -/
theorem Reps.back (p : Reps T K M σ H e vs rs) (ha : argS e rs = some as) (nd : (slotsOf rs).Nodup) (hl : as'.length = as.length) (q : Reps (TN T.1) K (Mc M σ e vs as) (vs.map some) H' (as'.map some) ws ts) (hn : ∀ r ∈ ts, noS r)
    (k : Keep (TN T.1) (Own (vs.map some) (as.map some)) H (fun a => Own (vs.map some) (as'.map some) a ∨ OwnR ws ts a) H') :
    Reps T K M σ H' (putS rs as' e) ws ts ∧ Keep T (fun a => Own σ e a ∨ OwnR vs rs a) H (fun a => Own σ (putS rs as' e) a ∨ OwnR ws ts a) H' ∧ Stay e (putS rs as' e) ∧ (∀ a, M a ∨ Own σ (putS rs as' e) a → Mc M σ e vs as a ∨ Own (vs.map some) (as'.map some) a) ∧
    (∀ (j : Nat) (s : S), (putS rs as' e)[j]? = some (some s) → ∃ v, σ[j]? = some (some v) ∧ RS (fun a => (Mc M σ e vs as a ∨ OwnR ws ts a) ∨ Own (vs.map some) (as'.map some) a) K H' v s) ∧
    (∀ (i : Nat) (v : V) (s : S) a, vs[i]? = some v → s.has v a → (∀ j, rs[i]? ≠ some (.s j)) → as'[i]? = some s → s.owned = true → ¬ Own σ (putS rs as' e) a) := by
  have lr := argS_len ha
  -- a slot of the caller behind the call
  have slot : ∀ {j : Nat} {s : S}, (putS rs as' e)[j]? = some (some s) → (∃ (i : Nat) (v : V), rs[i]? = some (R.s j) ∧ as'[i]? = some s ∧ vs[i]? = some v ∧ σ[j]? = some (some v)) ∨ (j ∉ slotsOf rs ∧ e[j]? = some (some s)) := by
    intro j s h
    by_cases c : j ∈ slotsOf rs
    · obtain ⟨i, g⟩ := slots_mem c
      have li : i < rs.length := (List.getElem?_eq_some_iff.mp g).1
      have gv := List.getElem?_eq_getElem (l := vs) (i := i) (by rw [p.len]; exact li)
      obtain ⟨t, g1, g2⟩ := p.val i _ _ gv g
      have ga := List.getElem?_eq_getElem (l := as') (i := i) (by rw [hl, lr]; exact li)
      rw [putS_in nd g ga (List.getElem?_eq_some_iff.mp g1).1] at h
      cases h
      exact .inl ⟨i, _, g, ga, gv, g2⟩
    · rw [putS_out c] at h
      exact .inr ⟨c, h⟩
  have mM : ∀ a, M a → Mc M σ e vs as a := fun a z => ⟨.inl z, fun y => (own_args p ha y).elim (fun y => p.new a y z) fun y => p.rep.apart a (.inl z) y⟩
  -- an owned slot that the callee did not get
  have away : ∀ {j : Nat} {s : S} {a : Addr}, j ∉ slotsOf rs → e[j]? = some (some s) → s.owned = true → HasA σ[j]? s a → Mc M σ e vs as a := by
    intro j s a c h1 h2 h3
    have ho : Own σ e a := ⟨j, s, h1, h2, h3⟩
    refine ⟨.inr ho, fun y => ?_⟩
    obtain ⟨i, t, y1, y2, v3, y3, ys⟩ := y
    have y1 := mapS.mp y1
    have y3 := mapS.mp y3
    have li : i < rs.length := by rw [← lr]; exact (List.getElem?_eq_some_iff.mp y1).1
    have gi := List.getElem?_eq_getElem li
    obtain ⟨t', e1, x⟩ := argS_get ha gi
    rw [y1] at e1
    cases e1
    rcases x with ⟨_, x⟩ | x | ⟨n, x, e3⟩
    · rw [x] at y2; cases y2
    · rw [x] at gi
      exact p.rep.apart a (.inr ⟨i, t, gi, _, y3, ys⟩) ho
    · rw [x] at gi
      obtain ⟨_, _, g1⟩ := p.val i _ _ y3 gi
      have z := p.rep.inj j n s t a h1 h2 e3 y2 h3 ⟨_, g1, ys⟩
      subst z
      exact c (by unfold slotsOf; exact List.mem_filterMap.mpr ⟨_, List.mem_of_getElem? gi, rfl⟩)
  have ow : ∀ {a : Addr}, Own σ (putS rs as' e) a → Own (vs.map some) (as'.map some) a ∨ (Mc M σ e vs as a ∧ Own σ e a) := by
    rintro a ⟨j, s, h1, h2, h3⟩
    rcases slot h1 with ⟨i, v, g, ga, gv, g2⟩ | ⟨c, h⟩
    · obtain ⟨w, h3, hs⟩ := h3
      rw [h3] at g2
      cases g2
      exact .inl ⟨i, s, mapS.mpr ga, h2, _, mapS.mpr gv, hs⟩
    · exact .inr ⟨away c h h2 h3, j, s, h, h2, h3⟩
  have sub : ∀ a, (M a ∨ OwnR ws ts a) ∨ Own σ (putS rs as' e) a → (Mc M σ e vs as a ∨ OwnR ws ts a) ∨ Own (vs.map some) (as'.map some) a := fun a z => by
    rcases z with (z | z) | z
    · exact .inl (.inl (mM a z))
    · exact .inl (.inr z)
    · rcases ow z with z | z
      · exact .inr z
      · exact .inl (.inl z.1)
  have inN : ∀ {a : Addr}, Own (vs.map some) (as.map some) a → (M a ∨ OwnR vs rs a) ∨ Own σ e a := fun z => (own_args p ha z).elim (fun z => .inl (.inr z)) .inr
  have tr : Tr (fun a => (M a ∨ OwnR vs rs a) ∨ Own σ e a) H (fun a => (Mc M σ e vs as a ∨ OwnR ws ts a) ∨ Own (vs.map some) (as'.map some) a) H' := by
    refine ⟨k.tup, fun a o x n t => k.keep a o x (fun z => n (inN z)) t, fun a x n z => ?_⟩
    have z2 := k.out a x fun z => n (inN z)
    rcases z with (z | z) | z
    · rcases z.1 with z | z
      · exact n (.inl (.inl z))
      · exact n (.inr z)
    · exact z2 (.inr z)
    · exact z2 (.inl z)
  have atS : ∀ (j : Nat) (s : S), (putS rs as' e)[j]? = some (some s) → ∃ v, σ[j]? = some (some v) ∧ RS (fun a => (Mc M σ e vs as a ∨ OwnR ws ts a) ∨ Own (vs.map some) (as'.map some) a) K H' v s := fun j s h => by
    rcases slot h with ⟨i, v, g, ga, gv, g2⟩ | ⟨c, h⟩
    · obtain ⟨w, x1, x2⟩ := q.rep.at_ i s (mapS.mpr ga)
      have x1 := mapS.mp x1
      rw [gv] at x1
      cases x1
      exact ⟨v, g2, x2⟩
    · obtain ⟨w, x1, x2⟩ := p.rep.at_ j s h
      refine ⟨w, x1, x2.tr tr fun a o y1 y2 y3 y4 => ?_⟩
      exact k.keep a o y3 (away c h y2 ⟨w, x1, y1⟩).2 fun ps z => by rw [z] at y4; exact y4
  have st : Stay e (putS rs as' e) := fun j s h => by
    by_cases c : j ∈ slotsOf rs
    · obtain ⟨i, g⟩ := slots_mem c
      have li : i < rs.length := (List.getElem?_eq_some_iff.mp g).1
      have ga := List.getElem?_eq_getElem (l := as') (i := i) (by rw [hl, lr]; exact li)
      exact ⟨_, putS_in nd g ga (List.getElem?_eq_some_iff.mp h).1⟩
    · exact ⟨s, by rw [putS_out c]; exact h⟩
  refine ⟨⟨⟨by rw [putS_len]; exact p.rep.len, fun j s h => ?_, fun j j' s t a h1 h2 h3 h4 h5 h6 => ?_, fun a z y => ?_, fun a z => ?_, ?_⟩, q.len, fun i v r h1 h2 => ?_, q.inj, fun a z y => q.new a z (mM a y)⟩, ⟨k.tup, fun a o x n t => ?_, fun a x n z => ?_, fun ht a ps x => k.tbl ht a ps x, k.dom⟩, st, fun a z => z.elim (fun z => .inl (mM a z)) fun z => (ow z).elim .inr fun z => .inl z.1, atS, fun i v t a hv he hn t1 t2 z => ?_⟩
  · obtain ⟨v, x1, x2⟩ := atS j s h
    exact ⟨v, x1, x2.sub sub⟩
  · rcases slot h1 with ⟨i, v, g, ga, gv, g2⟩ | ⟨c, h⟩
    · obtain ⟨v5, h5, hs5⟩ := h5
      rw [h5] at g2
      cases g2
      rcases slot h3 with ⟨i', v', g', ga', gv', g2'⟩ | ⟨c', h'⟩
      · obtain ⟨v6, h6, hs6⟩ := h6
        rw [h6] at g2'
        cases g2'
        have z := q.rep.inj i i' s t a (mapS.mpr ga) h2 (mapS.mpr ga') h4 ⟨_, mapS.mpr gv, hs5⟩ ⟨_, mapS.mpr gv', hs6⟩
        subst z
        rw [g] at g'
        cases g'
        rfl
      · exact (q.rep.apart a (.inl (away c' h' h4 h6)) ⟨i, s, mapS.mpr ga, h2, _, mapS.mpr gv, hs5⟩).elim
    · rcases slot h3 with ⟨i', v', g', ga', gv', g2'⟩ | ⟨c', h'⟩
      · obtain ⟨v6, h6, hs6⟩ := h6
        rw [h6] at g2'
        cases g2'
        exact (q.rep.apart a (.inl (away c h h2 h5)) ⟨i', t, mapS.mpr ga', h4, _, mapS.mpr gv', hs6⟩).elim
      · exact p.rep.inj j j' s t a h h2 h' h4 h5 h6
  · rcases ow y with y | y
    · exact q.rep.apart a (z.imp (mM a) id) y
    · rcases z with z | z
      · exact p.rep.apart a (.inl z) y.2
      · exact q.new a z y.1
  · rcases z with z | z
    · obtain ⟨o, q, n⟩ := p.rep.dom a (.inl z)
      exact ⟨o, k.keep a o q (mM a z).2 n, n⟩
    · exact q.rep.dom a (.inr z)
  · refine ⟨q.rep.tabs.1, fun b hb => ?_⟩
    obtain ⟨o, u, x⟩ := p.rep.tabs.2 b hb
    refine ⟨o, u, k.keep b _ x (fun c => ?_) fun _ z => nomatch z⟩
    obtain ⟨o2, g, _, _, mu⟩ := (Rep.callee p ha nd).own_at c
    cases x.symm.trans g
    exact mu
  · have z := q.val i v r h1 h2
    cases r with
    | d x => exact Hd.sub sub z
    | s j => exact (hn _ (List.mem_of_getElem? h2) j rfl).elim
    | own s => exact ⟨z.1, z.2.sub sub⟩
  · refine k.keep a o x (fun z => ?_) t
    rcases own_args p ha z with z | z
    · exact n (.inr z)
    · exact n (.inl z)
  · have z2 := k.out a x fun z => (own_args p ha z).elim (fun z => n (.inr z)) fun z => n (.inl z)
    rcases z with z | z
    · rcases ow z with z | z
      · exact z2 (.inl z)
      · exact n (.inl z.2)
    · exact z2 (.inr z)
  · obtain ⟨j, s, h1, h2, h3⟩ := z
    rcases slot h1 with ⟨i', v', g, ga, gv, g2⟩ | ⟨c, h⟩
    · obtain ⟨w, h3, hs⟩ := h3
      rw [h3] at g2
      cases g2
      have z := q.rep.inj i i' t s a (mapS.mpr t1) t2 (mapS.mpr ga) h2 ⟨_, mapS.mpr hv, he⟩ ⟨_, mapS.mpr gv, hs⟩
      subst z
      exact hn _ g
    · exact q.rep.apart a (.inl (away c h h2 h3)) ⟨i, t, mapS.mpr t1, t2, _, mapS.mpr hv, he⟩
def wCall (sp : WSp) (fr : WA) : WE := fun e k kx => fr e (fun rs e1 => ∃ as, argS e1 rs = some as ∧ (slotsOf rs).Nodup ∧ sp as (fun r as' => k r (putS rs as' e1)) (fun C fs as' => kx C fs (putS rs as' e1))) kx
/-- a call's promise out of its arguments -/
theorem call_coreN {N : List (Addr × Str)} {sp : WSp} {Q : VK} {E : XK} {k : R → En → Prop} {kx : Kx} (hN : ∀ p ∈ N, p ∈ T.1) (p : Reps T K M σ H e vs rs) (ha : argS e rs = some as) (nd : (slotsOf rs).Nodup) (hs : sp as (fun r as' => k r (putS rs as' e)) (fun C fs as' => kx C fs (putS rs as' e)))
    (q : ∀ r e', k r e' → ∀ v H', Reps T K M σ H' e' [v] [r] → Keep T (fun a => Own σ e a ∨ OwnR vs rs a) H (fun a => Own σ e' a ∨ OwnR [v] [r] a) H' → Stay e e' → Q v H')
    (x : ∀ C fs e', kx C fs e' → ∀ dd gs H', Rep T K M σ H' e' → H' dd = some (.xd gs) → gs.map (·.1) = fs.map (·.1) → HdL (fun a => M a ∨ Own σ e' a) K H' (gs.map (·.2)) (fs.map (·.2)) → Keep T (fun a => Own σ e a ∨ OwnR vs rs a) H (Own σ e') H' → E (.ref C) (some dd) H') : lowerN N K sp vs H Q E := by
  refine ⟨T.1, Mc M σ e vs as, as, _, _, hN, Rep.callee p ha nd, hs, fun r as' hk v H' hl p' hn kk => ?_, fun C fs as' hk dd gs H' hl p' hd he hh kk => ?_⟩
  · obtain ⟨p2, k2, s2, _⟩ := p.back ha nd hl p' (fun t ht => by rw [List.mem_singleton.mp ht]; exact hn) kk
    exact q r _ hk v H' p2 k2 s2
  · have nl : Reps (TN T.1) K (Mc M σ e vs as) (vs.map some) H' (as'.map some) [] [] := Reps.nil p'
    obtain ⟨p2, k2, s2, sb, _⟩ := p.back (ws := []) (ts := []) ha nd hl nl (fun t ht => nomatch ht) (kk.sub fun _ z => z.elim id fun z => (ownR_nil z).elim)
    exact x C fs _ hk dd gs H' p2.toRep hd he (hh.sub sb) (k2.sub fun _ => .inl)
theorem call_core {sp : WSp} {Q : VK} {E : XK} {k : R → En → Prop} {kx : Kx} (p : Reps T K M σ H e vs rs) (ha : argS e rs = some as) (nd : (slotsOf rs).Nodup) (hs : sp as (fun r as' => k r (putS rs as' e)) (fun C fs as' => kx C fs (putS rs as' e)))
    (q : ∀ r e', k r e' → ∀ v H', Reps T K M σ H' e' [v] [r] → Keep T (fun a => Own σ e a ∨ OwnR vs rs a) H (fun a => Own σ e' a ∨ OwnR [v] [r] a) H' → Stay e e' → Q v H')
    (x : ∀ C fs e', kx C fs e' → ∀ dd gs H', Rep T K M σ H' e' → H' dd = some (.xd gs) → gs.map (·.1) = fs.map (·.1) → HdL (fun a => M a ∨ Own σ e' a) K H' (gs.map (·.2)) (fs.map (·.2)) → Keep T (fun a => Own σ e a ∨ OwnR vs rs a) H (Own σ e') H' → E (.ref C) (some dd) H') : lower K sp vs H Q E := call_coreN (fun _ h => nomatch h) p ha nd hs q x
theorem lift_call {W : WX} {sp : WSp} {fr : WA} {Q : VK} (h : lift T K W (wCall sp fr) σ H Q) : tCallS (lower K sp) (fun σ cls d H => W cls d σ H) (liftA T K W fr) σ H Q := by
  obtain ⟨M, e, k, kx, rp, hf, q, x⟩ := h
  refine ⟨M, e, _, kx, rp, hf, fun rs e1 ⟨as, ha, nd, hs⟩ vs H1 p k1 s1 => ?_, x⟩
  exact call_core p ha nd hs (fun r e' hk v H' p2 k2 s2 => q r e' hk v H' p2 (k1.trans k2) (s1.trans s2)) fun C fs e' hk dd gs H' r hd he hh k2 => x C fs e' hk dd gs H' r hd he hh (k1.trans k2)
end
end Wl
namespace Wl
open PySem PySem.Spec PyProof.Rows L2 RZ
/-- what the parameters hold behind a def's end: data stays, a thing is what its slot says -/
def outA : List S → En → Option (List S)
  | [], _ => some []
  | .d x :: as, e => match outA as e.tail with
    | some ss => some (.d x :: ss)
    | none => none
  | _ :: as, some s :: e => match outA as e with
    | some ss => some (s :: ss)
    | none => none
  | _, _ => none
def withA (as : List S) (e : En) (k : List S → Prop) : Prop := ∃ as', outA as e = some as' ∧ k as'
/-- the def's answer: a slot's thing leaves with it (a parameter's becomes data) -/
def retR (as : List S) (r : R) (e : En) (k : SK) : Prop := match r with
  | .d x => withA as e (k (.d x))
  | .own s => withA as e (k (.own s))
  | .s i => match e[i]? with
    | some (some (.d x)) => withA as e (k (.d x))
    | some (some s) => if i < as.length then withA as (e.set i (some (.d s.fz))) (k (.d s.fz)) else withA as (e.set i none) (k (.own s))
    | _ => False
def endsOf (as : List S) (k : SK) (kx : SX) : WEnds := ⟨fun e => withA as e (k (.d .non)), fun r e => retR as r e k, fun _ => False, fun _ => False, fun C fs e => withA as e (kx C fs)⟩
/-- the slots at a def's start -/
def startE (n : Nat) (as : List S) : En := as.map some ++ List.replicate (n - as.length) none
/-- owned parameters are never stored anew -/
def okL (L : Nat → Bool) : Nat → List S → Bool
  | _, [] => true
  | i, .d _ :: as => okL L (i + 1) as
  | i, _ :: as => L i && okL L (i + 1) as
theorem okL_get {L : Nat → Bool} : ∀ {as : List S} {i j : Nat} {s : S}, okL L i as = true → as[j]? = some s → s.owned = true → L (i + j) = true
  | [], _, _, _, _, h, _ => by simp at h
  | a :: as, i, 0, s, h, e, ho => by
    simp at e
    subst e
    cases a with
    | d x => cases ho
    | _ => unfold okL at h; exact (Bool.and_eq_true _ _ ▸ h : _ ∧ _).1
  | a :: as, i, j + 1, s, h, e, ho => by
    have h' : okL L (i + 1) as = true := by
      cases a with
      | d x => exact h
      | _ => unfold okL at h; exact (Bool.and_eq_true _ _ ▸ h : _ ∧ _).2
    have z := okL_get (j := j) h' (by simpa using e) ho
    rw [show i + (j + 1) = i + 1 + j by omega]
    exact z
theorem noS_d {x : D} : noS (.d x) := fun _ z => nomatch z
theorem noS_own {x : S} : noS (.own x) := fun _ z => nomatch z
theorem outA_d {x : D} {as : List S} {e : En} {ss : List S} (h : outA (.d x :: as) e = some ss) : ∃ s2, outA as e.tail = some s2 ∧ ss = .d x :: s2 := by
  unfold outA at h
  split at h
  · rename_i s2 q; cases h; exact ⟨s2, q, rfl⟩
  · cases h
theorem outA_o {a : S} {as : List S} {e : En} {ss : List S} (ha : a.owned = true) (h : outA (a :: as) e = some ss) : ∃ s e2 s2, e = some s :: e2 ∧ outA as e2 = some s2 ∧ ss = s :: s2 := by
  cases e with
  | nil => cases a <;> first | (cases ha; done) | (unfold outA at h; cases h)
  | cons o e =>
    cases o with
    | none => cases a <;> first | (cases ha; done) | (unfold outA at h; cases h)
    | some s =>
      have h' : (match outA as e with | some ss => some (s :: ss) | none => none) = some ss := by cases a <;> first | (cases ha; done) | (unfold outA at h; exact h)
      split at h'
      · rename_i s2 q; cases h'; exact ⟨s, e, s2, rfl, q, rfl⟩
      · cases h'
theorem outA_len : ∀ {as : List S} {e : En} {ss : List S}, outA as e = some ss → ss.length = as.length
  | [], _, _, h => by unfold outA at h; cases h; rfl
  | a :: as, e, ss, h => by
    by_cases c : a.owned = true
    · obtain ⟨s, e2, s2, _, h2, rfl⟩ := outA_o c h
      rw [List.length_cons, List.length_cons, outA_len h2]
    · cases a with
      | d x =>
        obtain ⟨s2, h2, rfl⟩ := outA_d h
        rw [List.length_cons, List.length_cons, outA_len h2]
      | _ => exact (c rfl).elim
theorem outA_get : ∀ {as : List S} {e : En} {ss : List S} {i : Nat} {s : S}, outA as e = some ss → ss[i]? = some s → ∃ a, as[i]? = some a ∧ ((a.owned = false ∧ s = a) ∨ (a.owned = true ∧ e[i]? = some (some s)))
  | [], _, _, _, _, h, h2 => by unfold outA at h; cases h; simp at h2
  | a :: as, e, ss, i, s, h, h2 => by
    by_cases c : a.owned = true
    · obtain ⟨t, e2, s2, rfl, g, rfl⟩ := outA_o c h
      cases i with
      | zero => simp at h2; subst h2; exact ⟨a, rfl, .inr ⟨c, rfl⟩⟩
      | succ i => simpa using outA_get (i := i) g (by simpa using h2)
    · cases a with
      | d x =>
        obtain ⟨s2, g, rfl⟩ := outA_d h
        cases i with
        | zero => simp at h2; subst h2; exact ⟨.d x, rfl, .inl ⟨rfl, rfl⟩⟩
        | succ i =>
          obtain ⟨a, h3, h4⟩ := outA_get (i := i) g (by simpa using h2)
          refine ⟨a, by simpa using h3, h4.imp id fun ⟨x1, x2⟩ => ⟨x1, ?_⟩⟩
          rw [← x2]
          cases e <;> simp
      | _ => exact (c rfl).elim
section
variable {T : Cxt} {K : PySem.W.Frag} {M : Addr → Prop} {σ σ' : St} {H H' : Hp} {e e' : En} {vs ws : List V} {rs ts : List R} {as as' : List S}
/-- the thing of a slot leaves as a result -/
theorem Rep.take {i : Nat} {s : S} {v : V} (h : Rep T K M σ H e) (hi : e[i]? = some (some s)) (ho : s.owned = true) (hv : σ[i]? = some (some v)) : Reps T K M σ H (e.set i none) [v] [.own s] ∧ ∀ a, Own σ (e.set i none) a ∨ OwnR [v] [.own s] a → Own σ e a := by
  have ow : ∀ a, Own σ (e.set i none) a → Own σ e a ∧ ¬ s.has v a := fun a z => by
    obtain ⟨j, t, h1, h2, h3⟩ := z
    rcases set_some h1 with ⟨_, e1⟩ | ⟨c, h1⟩
    · cases e1
    · exact ⟨⟨j, t, h1, h2, h3⟩, fun z => c (h.inj i j s t a hi ho h1 h2 ⟨v, hv, z⟩ h3)⟩
  have on : ∀ a, OwnR [v] [.own s] a → s.has v a := fun a z => by obtain ⟨_, e1, e⟩ := ownR_one.mp z; cases e1; exact e
  have oe : ∀ a, OwnR [v] [.own s] a → Own σ e a := fun a z => ⟨i, s, hi, ho, v, hv, on a z⟩
  obtain ⟨w, g1, g2⟩ := h.at_ i s hi
  rw [hv] at g1
  cases g1
  have sub : ∀ a, (M a ∨ OwnR [v] [.own s] a) ∨ Own σ (e.set i none) a → M a ∨ Own σ e a := fun a z => by
    rcases z with (z | z) | z
    · exact .inl z
    · exact .inr (oe a z)
    · exact .inr (ow a z).1
  refine ⟨⟨⟨by rw [List.length_set]; exact h.len, fun j t h1 => ?_, fun j j' t t' a h1 h2 h3 h4 h5 h6 => ?_, fun a z y => ?_, fun a z => ?_, h.tabs⟩, rfl, fun j w r h1 h2 => ?_, fun j j' t t' a h1 h2 h3 h4 => ?_, fun a z y => h.apart a y (oe a z)⟩, fun a z => z.elim (fun z => (ow a z).1) (oe a)⟩
  · rcases set_some h1 with ⟨_, e1⟩ | ⟨c, h1⟩
    · cases e1
    · obtain ⟨w, e4, q4⟩ := h.at_ j t h1
      exact ⟨w, e4, q4.sub sub⟩
  · rcases set_some h1 with ⟨_, e1⟩ | ⟨c, h1⟩
    · cases e1
    · rcases set_some h3 with ⟨_, e1⟩ | ⟨c', h3⟩
      · cases e1
      · exact h.inj j j' t t' a h1 h2 h3 h4 h5 h6
  · rcases z with z | z
    · exact h.apart a z (ow a y).1
    · exact (ow a y).2 (on a z)
  · rcases z with z | z
    · exact h.dom a z
    · exact h.own_live (oe a z)
  · cases j with
    | zero =>
      simp only [List.getElem?_cons_zero, Option.some.injEq] at h1 h2
      subst h1 h2
      exact ⟨ho, g2.sub sub⟩
    | succ j => simp at h1
  · cases j with
    | zero =>
      cases j' with
      | zero => rfl
      | succ j' => simp at h2
    | succ j => simp at h1
/-- the owned parameters' values -/
def fixA (as : List S) (vs : List V) : Nat → Option V := fun j => match as[j]? with
  | some a => if a.owned = true then vs[j]? else none
  | none => none
theorem fixA_some {j : Nat} {v : V} (h : fixA as vs j = some v) : ∃ a, as[j]? = some a ∧ a.owned = true ∧ vs[j]? = some v := by
  unfold fixA at h
  split at h
  · rename_i a q
    split at h
    · rename_i c; exact ⟨a, q, c, h⟩
    · cases h
  · cases h
theorem Reps.out (r0 : Rep (TN T.1) K M (vs.map some) H (as.map some)) (p : Reps T K M σ' H' e' ws ts) (fx : FixOk (fixA as vs) σ') (ho : outA as e' = some as') (hn : ∀ r ∈ ts, noS r)
    (k' : Keep T (Own (vs.map some) (as.map some)) H (fun a => Own σ' e' a ∨ OwnR ws ts a) H') :
    Reps (TN T.1) K M (vs.map some) H' (as'.map some) ws ts ∧ Keep (TN T.1) (Own (vs.map some) (as.map some)) H (fun a => Own (vs.map some) (as'.map some) a ∨ OwnR ws ts a) H' ∧ ∀ a, Own (vs.map some) (as'.map some) a → Own σ' e' a := by
  have ll : vs.length = as.length := by have := r0.len; simp only [List.length_map] at this; exact this.symm
  have k : Keep (TN T.1) (Own (vs.map some) (as.map some)) H (fun a => Own σ' e' a ∨ OwnR ws ts a) H' := ⟨k'.tup, k'.keep, k'.out, fun ht => k'.tbl ht, k'.dom⟩
  have fix : ∀ {i : Nat} {a : S} {v : V}, as[i]? = some a → a.owned = true → vs[i]? = some v → σ'[i]? = some (some v) := fun {i a v} h1 h2 h3 => fx i v (by unfold fixA; rw [h1]; simp only [h2, if_true]; exact h3)
  have ow : ∀ a, Own (vs.map some) (as'.map some) a → Own σ' e' a := fun a ⟨i, s, h1, h2, w, h3, hs⟩ => by
    have h1 := mapS.mp h1
    have h3 := mapS.mp h3
    obtain ⟨b, g1, g⟩ := outA_get ho h1
    rcases g with ⟨g2, g3⟩ | ⟨g2, g3⟩
    · rw [g3] at h2; rw [h2] at g2; cases g2
    · exact ⟨i, s, g3, h2, w, fix g1 g2 h3, hs⟩
  have own' : ∀ {i : Nat} {s : S}, as'[i]? = some s → s.owned = true → ∃ v, vs[i]? = some v ∧ e'[i]? = some (some s) ∧ σ'[i]? = some (some v) := fun {i s} h1 h2 => by
    obtain ⟨b, g1, g⟩ := outA_get ho h1
    have lv : i < vs.length := by rw [ll]; exact (List.getElem?_eq_some_iff.mp g1).1
    have gv := List.getElem?_eq_getElem lv
    rcases g with ⟨g2, g3⟩ | ⟨g2, g3⟩
    · rw [g3] at h2; rw [h2] at g2; cases g2
    · exact ⟨_, gv, g3, fix g1 g2 gv⟩
  have sub : ∀ a, (M a ∨ OwnR ws ts a) ∨ Own (vs.map some) (as'.map some) a → (M a ∨ OwnR ws ts a) ∨ Own σ' e' a := fun a z => z.imp id (ow a)
  refine ⟨⟨⟨by rw [List.length_map, List.length_map, outA_len ho, ll], fun i s h => ?_, fun i j s t a h1 h2 h3 h4 h5 h6 => ?_, fun a z y => p.rep.apart a z (ow a y), p.rep.dom, p.rep.tabs.1, fun _ h => h.elim⟩, p.len, fun i v r h1 h2 => ?_, p.inj, p.new⟩, k.sub fun a z => z.imp (ow a) id, ow⟩
  · have h := mapS.mp h
    obtain ⟨b, g1, g⟩ := outA_get ho h
    have lv : i < vs.length := by rw [ll]; exact (List.getElem?_eq_some_iff.mp g1).1
    have gv := List.getElem?_eq_getElem lv
    refine ⟨_, mapS.mpr gv, ?_⟩
    rcases g with ⟨g2, g3⟩ | ⟨g2, g3⟩
    · subst g3
      obtain ⟨w, x1, x2⟩ := r0.at_ i s (mapS.mpr g1)
      have x1 := mapS.mp x1
      rw [gv] at x1
      cases x1
      refine x2.tr ⟨k.tup, fun a o x n t => k.keep a o x (fun z => n (.inr z)) t, fun a x n z => ?_⟩ fun a o _ y _ _ => by rw [y] at g2; cases g2
      have z2 := k.out a x fun z => n (.inr z)
      rcases sub a z with (z | z) | z
      · exact n (.inl z)
      · exact z2 (.inr z)
      · exact z2 (.inl z)
    · obtain ⟨w, x1, x2⟩ := p.rep.at_ i s g3
      rw [fix g1 g2 gv] at x1
      cases x1
      exact x2.sub sub
  · obtain ⟨v, g1, g2, g3⟩ := own' (mapS.mp h1) h2
    obtain ⟨v', g1', g2', g3'⟩ := own' (mapS.mp h3) h4
    obtain ⟨v5, h5, hs5⟩ := h5
    obtain ⟨v6, h6, hs6⟩ := h6
    rw [mapS.mp h5] at g1
    rw [mapS.mp h6] at g1'
    cases g1
    cases g1'
    exact p.rep.inj i j s t a g2 h2 g2' h4 ⟨_, g3, hs5⟩ ⟨_, g3', hs6⟩
  · have z := p.val i v r h1 h2
    cases r with
    | d x => exact Hd.sub sub z
    | s j => exact (hn _ (List.mem_of_getElem? h2) j rfl).elim
    | own s => exact ⟨z.1, z.2.sub sub⟩
end
section
variable {P : Program} {w : World} {K : PySem.W.Frag} {mg : Str → Option Value} {base : Heap}
/-- the start of a def over its slots -/
theorem Rep.start {T : Cxt} {M : Addr → Prop} {H : Hp} {vs : List V} {as : List S} {n : Nat} (r : Rep T K M (vs.map some) H (as.map some)) (hn : as.length ≤ n) :
    Rep T K M (vs.map some ++ List.replicate (n - vs.length) none) H (startE n as) ∧ ∀ a, Own (vs.map some ++ List.replicate (n - vs.length) none) (startE n as) a ↔ Own (vs.map some) (as.map some) a := by
  have ll : vs.length = as.length := by have := r.len; simp only [List.length_map] at this; exact this.symm
  have at1 : ∀ {i : Nat} {s : S}, (startE n as)[i]? = some (some s) → as[i]? = some s ∧ i < as.length := by
    intro i s h
    unfold startE at h
    by_cases c : i < as.length
    · rw [List.getElem?_append_left (by rw [List.length_map]; exact c)] at h
      exact ⟨mapS.mp h, c⟩
    · rw [List.getElem?_append_right (by rw [List.length_map]; omega), List.getElem?_replicate] at h
      split at h <;> cases h
  have at2 : ∀ {i : Nat}, i < as.length → (vs.map some ++ List.replicate (n - vs.length) none)[i]? = (vs.map some)[i]? := fun {i} h => List.getElem?_append_left (by rw [List.length_map, ll]; exact h)
  have ow : ∀ a, Own (vs.map some ++ List.replicate (n - vs.length) none) (startE n as) a ↔ Own (vs.map some) (as.map some) a := fun a => by
    constructor
    · rintro ⟨i, s, h1, h2, h3⟩
      obtain ⟨g1, g2⟩ := at1 h1
      rw [at2 g2] at h3
      exact ⟨i, s, mapS.mpr g1, h2, h3⟩
    · rintro ⟨i, s, h1, h2, h3⟩
      have g := mapS.mp h1
      have c := (List.getElem?_eq_some_iff.mp g).1
      refine ⟨i, s, ?_, h2, by rw [at2 c]; exact h3⟩
      unfold startE
      rw [List.getElem?_append_left (by rw [List.length_map]; exact c)]
      exact h1
  refine ⟨⟨?_, fun i s h => ?_, fun i j s t a h1 h2 h3 h4 h5 h6 => ?_, fun a z y => r.apart a z ((ow a).mp y), r.dom, r.tabs⟩, ow⟩
  · unfold startE
    simp only [List.length_append, List.length_map, List.length_replicate]
    omega
  · obtain ⟨g1, g2⟩ := at1 h
    obtain ⟨v, x1, x2⟩ := r.at_ i s (mapS.mpr g1)
    exact ⟨v, by rw [at2 g2]; exact x1, x2.sub fun a z => z.imp id (ow a).mp⟩
  · obtain ⟨g1, g2⟩ := at1 h1
    obtain ⟨g3, g4⟩ := at1 h3
    rw [at2 g2] at h5
    rw [at2 g4] at h6
    exact r.inj i j s t a (mapS.mpr g1) h2 (mapS.mpr g3) h4 h5 h6
/-- the end of a def over its slots -/
theorem ends_ok {T : Cxt} {W : WX} {M : Addr → Prop} {H : Hp} {vs : List V} {as : List S} {n : Nat} {kk : SK} {kx : SX} {Q : VK} {E : XK} (r : Rep (TN T.1) K M (vs.map some) H (as.map some)) (hn : as.length ≤ n)
    (hk : ∀ r as', kk r as' → ∀ v H', as'.length = as.length → Reps (TN T.1) K M (vs.map some) H' (as'.map some) [v] [r] → noS r → Keep (TN T.1) (Own (vs.map some) (as.map some)) H (fun a => Own (vs.map some) (as'.map some) a ∨ OwnR [v] [r] a) H' → Q v H')
    (hx : ∀ C fs as', kx C fs as' → ∀ dd gs H', as'.length = as.length → Rep (TN T.1) K M (vs.map some) H' (as'.map some) → H' dd = some (.xd gs) → gs.map (·.1) = fs.map (·.1) → HdL (fun a => M a ∨ Own (vs.map some) (as'.map some) a) K H' (gs.map (·.2)) (fs.map (·.2)) →
      Keep (TN T.1) (Own (vs.map some) (as.map some)) H (Own (vs.map some) (as'.map some)) H' → E (.ref C) (some dd) H') :
    (hW : ∀ cls d σ H, E cls d H → W cls d σ H) → SOk T K W (fixA as vs) M (vs.map some ++ List.replicate (n - vs.length) none) H (startE n as) (endsOf as kk kx) { nx := fun _ H' => Q .non H', rt := Q } := by
  intro hW
  obtain ⟨_, ow⟩ := r.start hn
  have kp : ∀ {F' : Addr → Prop} {H' : Hp}, Keep T (Own (vs.map some ++ List.replicate (n - vs.length) none) (startE n as)) H F' H' → Keep T (Own (vs.map some) (as.map some)) H F' H' := fun k => k.sup fun a z => (ow a).mp z
  have fin : ∀ {v : V} {x : R} {σ' : St} {e' : En} {H' : Hp}, noS x → withA as e' (kk x) → FixOk (fixA as vs) σ' → Reps T K M σ' H' e' [v] [x] → Keep T (Own (vs.map some) (as.map some)) H (fun a => Own σ' e' a ∨ OwnR [v] [x] a) H' → Q v H' := by
    rintro v x σ' e' H' hs ⟨as', ho, hq⟩ fx p k
    obtain ⟨p2, k2, _⟩ := Reps.out r p fx ho (fun t ht => by rw [List.mem_singleton.mp ht]; exact hs) k
    exact hk x as' hq v H' (outA_len ho) p2 hs k2
  refine ⟨fun e' h σ' H' fx r' k => ?_, fun _ h => h.elim, fun _ h => h.elim, fun x e' h v σ' H' fx p k => ?_, fun C fs e' h dd gs σ' H' fx r' hd he hh k => ?_⟩
  · exact fin noS_d h fx (r'.d .non) ((kp k).sub fun _ z => z.elim id fun z => (ownR_d z).elim)
  · have k := kp k
    cases x with
    | d x => exact fin noS_d h fx p k
    | own s => exact fin noS_own h fx p k
    | s i =>
      obtain ⟨s, g1, g2⟩ := p.val 0 v _ rfl rfl
      have h' : match e'[i]? with
        | some (some (.d x)) => withA as e' (kk (.d x))
        | some (some s) => if i < as.length then withA as (e'.set i (some (.d s.fz))) (kk (.d s.fz)) else withA as (e'.set i none) (kk (.own s))
        | _ => False := h
      simp only [g1] at h'
      have ks : Keep T (Own (vs.map some) (as.map some)) H (Own σ' e') H' := k.sub fun _ => .inl
      have fz : ∀ (ho : s.owned = true), (if i < as.length then withA as (e'.set i (some (.d s.fz))) (kk (.d s.fz)) else withA as (e'.set i none) (kk (.own s))) → Q v H' := fun ho h' => by
        by_cases c : i < as.length
        · rw [if_pos c] at h'
          obtain ⟨z1, z2⟩ := p.toRep.frz g1 ho g2
          exact fin noS_d h' fx (z1.d z2) (ks.sub fun a z => z.elim own_set_d fun z => (ownR_d z).elim)
        · rw [if_neg c] at h'
          obtain ⟨z1, z2⟩ := p.toRep.take g1 ho g2
          exact fin noS_own h' fx z1 (ks.sub z2)
      cases s with
      | d x =>
        have z := (Reps.frz p (x := x) (e' := e') (by unfold Wl.frz; simp only [g1])).1
        exact fin noS_d h' fx z (ks.sub fun a z => z.elim id fun z => (ownR_d z).elim)
      | l xs => exact fz rfl h'
      | m xs => exact fz rfl h'
      | mT xs => exact fz rfl h'
      | o C xs => exact fz rfl h'
      | b C xs ls => exact fz rfl h'
  · obtain ⟨as', ho, hq⟩ := h
    have nl : Reps T K M σ' H' e' [] [] := Reps.nil r'
    obtain ⟨p2, k2, ow2⟩ := Reps.out r nl fx ho (fun t ht => nomatch ht) ((kp k).sub fun _ z => z.elim id fun z => (ownR_nil z).elim)
    exact hW _ _ _ _ <| hx C fs as' hq dd gs H' (outA_len ho) p2.toRep hd he (hh.sub fun a z => z.imp id (ow2 a)) (k2.sub fun _ => .inl)
theorem fix_start {as : List S} {vs : List V} {n : Nat} : FixOk (fixA as vs) (vs.map some ++ List.replicate n none) := fun j v h => by
  obtain ⟨_, _, _, hv⟩ := fixA_some h
  have c := (List.getElem?_eq_some_iff.mp hv).1
  rw [List.getElem?_append_left (by rw [List.length_map]; exact c)]
  exact mapS.mpr hv
/-- the wish of a def, locks taken off -/
inductive EU (Z : Addr → Prop) (E : XK) : XK
  | of {cls d H} : E cls d H → EU Z E cls d H
  | un {cls dd H d od u} : EU Z E cls dd (upd H d u) → H d = some (.frz od u) → isDct u → ¬ Z d → EU Z E cls dd H
def Zof (H : Hp) : Addr → Prop := fun a => ∃ o u, H a = some (.frz o u)
theorem unlW {T : Cxt} {E : XK} : UnlW T (fun cls d _ H => EU T.2 E cls d H) := fun cls dd σ H d od u h1 h2 h3 h4 => .un h1 h2 h3 h4
theorem takesU {X : Cx} {E : XK} (tk : Takes X (fun cls d _ H => E cls d H)) : Takes X (fun cls d _ H => EU (Zof X.H_0) E cls d H) := by
  rintro u s' ⟨a, B, sI, pins, σ, H, cls, d, e, I, nb, up, sky, na, os, ag, w⟩
  have go : ∀ {H : Hp} {cls : Value} {d : Option Addr}, EU (Zof X.H_0) E cls d H → ∀ {sI : Shared} {B : Heap}, u = .ref a → Inv X pins σ H sI → (∀ b o, sI.heap.get? b = some o → b ∉ frs X.stack → B.get? b = some o) → sI.heap.UpToSlots s'.heap →
      Sky B X.stack a (Zc cls d) X.env.locals s'.heap → H a = none → s'.os = sI.os → X.xe u s' := by
    intro H cls d w
    induction w with
    | of h => exact fun e I nb up sky na os => tk u s' ⟨a, _, _, pins, σ, _, _, _, e, I, nb, up, sky, na, os, ag, h⟩
    | @un cls dd H d od w _ h2 h3 h4 ih =>
      intro sI B e I nb up sky na os
      refine ih e (I.unlock h2 fun o' u' q => h4 ⟨o', u', q⟩) nb up sky ?_ os
      rw [upd_ne fun z => by rw [z, h2] at na; cases na]
      exact na
  exact go w e I nb up sky na os
/-- THE RULE for a def -/
theorem fn_wN {x qual : Str} {st : Stmt} {f : Addr} {fd : FuncData} {N ps : List Str} {k : Nat} {Nd : List (Addr × Str)} {sp : WSp} (F : Fun K x qual st f fd) (S : FnScope N ps (defScope st)) (L : Nat → Bool) (hN : ps.length ≤ N.length) (len : ∀ as kk kx, sp as kk kx → as.length = ps.length ∧ okL L 0 as = true)
    (hbody : ∀ (cdv : Value) (A : Around) (outer : List Env) (s : Shared) (H : Hp) (E : XK), Room k (A.deeper (envOfC qual (defScope st) s.heap.objs.size f cdv)) → ∀ Tt : List (Addr × Str), (∀ p ∈ Nd, p ∈ Tt) → ∀ as kk kx, sp as kk kx →
      Takes (cxOf (L2.CX P w) P w K mg base N qual (defScope st) f cdv A outer s H E) (fun cls d _ H' => EU (Zof H) E cls d H') → UnlW (Tt, Zof H) (fun cls d _ H' => EU (Zof H) E cls d H') →
      ∃ g, PSs (cxOf (L2.CX P w) P w K mg base N qual (defScope st) f cdv A outer s H E) (defBody st) (liftS (Tt, Zof H) K (fun cls d _ H' => EU (Zof H) E cls d H') L g) ∧ g (startE N.length as) (endsOf as kk kx)) : FnOk P w K mg base (L2.CX P w) (k + 1) f fd ps (lowerN Nd K sp) := by
  refine F.okX S (fun vs H Q E h => ?_) fun cdv A outer s H vs Q E hr h => ?_
  · obtain ⟨Tt, M, as, kk, kx, _, r, hs, _⟩ := h
    rw [← (len as kk kx hs).1]
    have := r.len
    simp only [List.length_map] at this
    exact this.symm
  · obtain ⟨Tt, M, as, kk, kx, hNd, r, hs, hk, hx⟩ := h
    obtain ⟨g, hp, hg⟩ := hbody cdv A outer s H E hr Tt hNd as kk kx hs (takesU (X := cxOf (L2.CX P w) P w K mg base N qual (defScope st) f cdv A outer s H E) (takes_of rfl rfl rfl rfl)) (unlW (T := (Tt, Zof H)))
    obtain ⟨hl, hL⟩ := len as kk kx hs
    have hn : as.length ≤ N.length := by rw [hl]; exact hN
    have r1 := (r.start hn).1
    have r2 : Rep (Tt, Zof H) K M (vs.map some ++ List.replicate (N.length - vs.length) none) H (startE N.length as) := ⟨r1.len, r1.at_, r1.inj, r1.apart, r1.dom, r.tabs.1, fun _ h => h⟩
    refine ⟨_, hp, M, fixA as vs, startE N.length as, endsOf as kk kx, fun j v h => ?_, fix_start, r2, hg, ends_ok (T := (Tt, Zof H)) r hn hk hx fun _ _ _ _ h => .of h⟩
    obtain ⟨a, h1, h2, _⟩ := fixA_some h
    have z := okL_get hL h1 h2
    rwa [Nat.zero_add] at z
theorem fn_w {x qual : Str} {st : Stmt} {f : Addr} {fd : FuncData} {N ps : List Str} {k : Nat} {sp : WSp} (F : Fun K x qual st f fd) (S : FnScope N ps (defScope st)) (L : Nat → Bool) (hN : ps.length ≤ N.length) (len : ∀ as kk kx, sp as kk kx → as.length = ps.length ∧ okL L 0 as = true)
    (hbody : ∀ (cdv : Value) (A : Around) (outer : List Env) (s : Shared) (H : Hp) (E : XK), Room k (A.deeper (envOfC qual (defScope st) s.heap.objs.size f cdv)) → ∀ (Tt : List (Addr × Str)) as kk kx, sp as kk kx →
      Takes (cxOf (L2.CX P w) P w K mg base N qual (defScope st) f cdv A outer s H E) (fun cls d _ H' => EU (Zof H) E cls d H') → UnlW (Tt, Zof H) (fun cls d _ H' => EU (Zof H) E cls d H') →
      ∃ g, PSs (cxOf (L2.CX P w) P w K mg base N qual (defScope st) f cdv A outer s H E) (defBody st) (liftS (Tt, Zof H) K (fun cls d _ H' => EU (Zof H) E cls d H') L g) ∧ g (startE N.length as) (endsOf as kk kx)) : FnOk P w K mg base (L2.CX P w) (k + 1) f fd ps (lower K sp) := fn_wN F S L hN len fun cdv A outer s H E hr Tt _ as kk kx hs => hbody cdv A outer s H E hr Tt as kk kx hs
end
end Wl
namespace Wl
open PySem PySem.Spec PyProof.Rows L2 RZ
/-- no exception is taken -/
abbrev WF : WX := fun _ _ _ _ => False
theorem takesF {X : Cx} : Takes X WF := fun u s' ⟨a, B, sI, pins, σ, H, cls, d, e, I, nb, up, sky, na, os, ag, w⟩ => w.elim
section
variable {T : Cxt} {K : PySem.W.Frag} {M : Addr → Prop} {W : WX} {σ : St} {H H' : Hp} {e : En} {vs : List V} {rs : List R} {v : V} {r : R}
theorem Reps.new1 {p : Addr} {o : HO} (h : Reps T K M σ H e vs rs) (hp : H p = none) : Reps T K M σ (upd H p o) e vs rs := by
  have st : ∀ b u, H b = some u → upd H p o b = some u := fun b u q => by rw [upd_ne (ne_of_none q hp)]; exact q
  refine ⟨h.rep.new hp, h.len, fun i w t h1 h2 => ?_, h.inj, h.new⟩
  have z := h.val i w t h1 h2
  cases t with
  | d x => exact Hd.new hp z
  | s j => exact z
  | own s => exact ⟨z.1, z.2.tr ⟨fun a xs q => st a _ q, fun a u q _ _ => st a u q, fun a _ n => n⟩ fun a u _ _ q _ => st a u q⟩
/-- a new thing ahead of other results -/
theorem Reps.push {p : Addr} {o : HO} {s : S} (h : Reps T K M σ H e vs rs) (hp : H p = none) (hs : s.owned = true) (q : ∀ N', RS N' K (upd H p o) (.ref p) s) (hl : s.lone = true := by rfl) : Reps T K M σ (upd H p o) e (.ref p :: vs) (.own s :: rs) := by
  have st : ∀ b u, H b = some u → upd H p o b = some u := fun b u q => by rw [upd_ne (ne_of_none q hp)]; exact q
  have fM : ¬ M p := fun z => (h.rep.dom p (.inl z)).ne hp
  have fO : ¬ Own σ e p := (h.rep.free hp).2
  have fR : ¬ OwnR vs rs p := fun z => (h.rep.dom p (.inr z)).ne hp
  have on : ∀ a, OwnR (V.ref p :: vs) (.own s :: rs) a ↔ a = p ∨ OwnR vs rs a := fun a => by
    rw [ownR_cons, ownR_one]
    exact ⟨fun z => z.imp (fun ⟨_, e1, e⟩ => by cases e1; have e := S.lone_has hl e; cases e; rfl) id, fun z => z.imp (fun e => ⟨s, rfl, by rw [e]; exact S.has_root hs⟩) id⟩
  have avT : Tr (fun a => (M a ∨ OwnR vs rs a) ∨ Own σ e a) H (fun a => (M a ∨ OwnR (V.ref p :: vs) (.own s :: rs) a) ∨ Own σ e a) (upd H p o) := ⟨fun a xs q => st a _ q, fun a u q _ _ => st a u q, fun a x n z => by
    rw [on] at z
    rcases z with (z | z | z) | z
    · exact n (.inl (.inl z))
    · rw [z] at x; exact x.ne hp
    · exact n (.inl (.inr z))
    · exact n (.inr z)⟩
  refine ⟨⟨h.rep.len, fun i t x => ?_, h.rep.inj, fun a z => ?_, fun a z => ?_, Tbs.ext h.rep.tabs st⟩, by rw [List.length_cons, List.length_cons, h.len], fun i w t h1 h2 => ?_, fun i j t u a h1 h2 h3 h4 => ?_, fun a z => ?_⟩
  · obtain ⟨v, e1, q⟩ := h.rep.at_ i t x
    exact ⟨v, e1, q.tr avT fun a u _ _ q _ => st a u q⟩
  · rw [on] at z
    rcases z with z | z | z
    · exact h.rep.apart a (.inl z)
    · rw [z]; exact fO
    · exact h.rep.apart a (.inr z)
  · rw [on] at z
    have f : Live H a → Live (upd H p o) a := fun ⟨u, q, n⟩ => ⟨u, st a u q, n⟩
    rcases z with z | z | z
    · exact f (h.rep.dom a (.inl z))
    · rw [z]
      obtain ⟨b, u, e, q, n, _⟩ := (q fun _ => False).ow hs
      cases e
      exact ⟨u, q, n⟩
    · exact f (h.rep.dom a (.inr z))
  · cases i with
    | zero =>
      simp only [List.getElem?_cons_zero, Option.some.injEq] at h1 h2
      subst h1 h2
      exact ⟨hs, q _⟩
    | succ i =>
      have z := h.val i w t (by simpa using h1) (by simpa using h2)
      cases t with
      | d x => exact Hd.tr avT z
      | s j => exact z
      | own u => exact ⟨z.1, z.2.tr avT fun a u _ _ q _ => st a u q⟩
  · cases i with
    | zero =>
      cases j with
      | zero => rfl
      | succ j =>
        simp only [List.getElem?_cons_zero, Option.some.injEq] at h1 h3
        cases h3 with
        | intro w h3 =>
          obtain ⟨e3, h3⟩ := h3
          cases e3
          cases h1
          have e3 := S.lone_has hl h3
          cases e3
          exact (fR ⟨j, u, by simpa using h2, by simpa using h4⟩).elim
    | succ i =>
      cases j with
      | zero =>
        simp only [List.getElem?_cons_zero, Option.some.injEq] at h2 h4
        cases h4 with
        | intro w h4 =>
          obtain ⟨e4, h4⟩ := h4
          cases e4
          cases h2
          have e4 := S.lone_has hl h4
          cases e4
          exact (fR ⟨i, t, by simpa using h1, by simpa using h3⟩).elim
      | succ j => rw [h.inj i j t u a (by simpa using h1) (by simpa using h2) (by simpa using h3) (by simpa using h4)]
  · rw [on] at z
    rcases z with z | z
    · rw [z]; exact fM
    · exact h.new a z
/-- a thing that was handed over new and stays the caller's -/
theorem Reps.backO {as as' : List S} {x : Addr} {s0 s : S} {ws : List V} {ts : List R} (p : Reps T K M σ H e (.ref x :: vs) (.own s0 :: rs)) (ha : argS e (.own s0 :: rs) = some as) (nd : (slotsOf (.own s0 :: rs)).Nodup) (hl : as'.length = as.length) (q : Reps (TN T.1) K (Mc M σ e (.ref x :: vs) as) ((V.ref x :: vs).map some) H' (as'.map some) ws ts) (hn : ∀ r ∈ ts, noS r)
    (k : Keep (TN T.1) (Own ((V.ref x :: vs).map some) (as.map some)) H (fun a => Own ((V.ref x :: vs).map some) (as'.map some) a ∨ OwnR ws ts a) H') (h0 : as'[0]? = some s) (ho : s.owned = true) :
    Reps T K M σ H' (putS (.own s0 :: rs) as' e) [.ref x] [.own s] ∧ Keep T (fun a => Own σ e a ∨ OwnR (.ref x :: vs) (.own s0 :: rs) a) H (fun a => Own σ (putS (.own s0 :: rs) as' e) a ∨ OwnR [.ref x] [.own s] a) H' ∧ Stay e (putS (.own s0 :: rs) as' e) := by
  obtain ⟨b1, b2, b3, b4, b5, b6⟩ := p.back ha nd hl q hn k
  have ox' : ∀ a, s.has (.ref x) a → Own ((V.ref x :: vs).map some) (as'.map some) a := fun a z => ⟨0, s, mapS.mpr h0, ho, _, rfl, z⟩
  have nx : ∀ a, s.has (.ref x) a → ¬ Own σ (putS (.own s0 :: rs) as' e) a := fun a z => b6 0 _ s a rfl z (fun j z => by simp at z) h0 ho
  have on : ∀ a, OwnR [V.ref x] [.own s] a → s.has (.ref x) a := fun a z => by obtain ⟨_, e1, e⟩ := ownR_one.mp z; cases e1; exact e
  have sub : ∀ a, (M a ∨ OwnR [V.ref x] [.own s] a) ∨ Own σ (putS (.own s0 :: rs) as' e) a → (Mc M σ e (.ref x :: vs) as a ∨ OwnR ws ts a) ∨ Own ((V.ref x :: vs).map some) (as'.map some) a := fun a z => by
    rcases z with (z | z) | z
    · rcases b4 a (.inl z) with z | z
      · exact .inl (.inl z)
      · exact .inr z
    · exact .inr (ox' a (on a z))
    · rcases b4 a (.inr z) with z | z
      · exact .inl (.inl z)
      · exact .inr z
  have mx : ∀ a, s.has (.ref x) a → ¬ M a := fun a z y => q.rep.apart a (.inl ⟨.inl y, fun w => (own_args p ha w).elim (fun w => p.new a w y) fun w => p.rep.apart a (.inl y) w⟩) (ox' a z)
  refine ⟨⟨⟨b1.rep.len, fun j t h => ?_, b1.rep.inj, fun a z => z.elim (fun z => b1.rep.apart a (.inl z)) fun z => nx a (on a z), fun a z => ?_, b1.rep.tabs⟩, rfl, fun i w t h1 h2 => ?_, fun i j t u a h1 h2 h3 h4 => ?_, fun a z => mx a (on a z)⟩, ?_, b3⟩
  · obtain ⟨v, x1, x2⟩ := b5 j t h
    exact ⟨v, x1, x2.sub sub⟩
  · rcases z with z | z
    · exact b1.rep.dom a (.inl z)
    · exact q.rep.own_live (ox' a (on a z))
  · cases i with
    | zero =>
      simp only [List.getElem?_cons_zero, Option.some.injEq] at h1 h2
      subst h1 h2
      obtain ⟨v, x1, x2⟩ := q.rep.at_ 0 s (mapS.mpr h0)
      cases x1
      exact ⟨ho, x2.sub sub⟩
    | succ i => simp at h1
  · cases i with
    | zero =>
      cases j with
      | zero => rfl
      | succ j => simp at h2
    | succ i => simp at h1
  · refine ⟨b2.tup, b2.keep, fun a h n z => ?_, b2.tbl, b2.dom⟩
    rcases z with z | z
    · exact b2.out a h n (.inl z)
    · exact k.out a h (fun w => n ((own_args p ha w).elim .inr .inl)) (.inl (ox' a (on a z)))
def wMeth (C : Addr) (m : Str) (sp : WSp) (fo : WE) (fr : WA) : WE := fun e k kx => fo e (fun r e1 => (∃ fs, see e1 r = some (.ins C fs) ∧ fs.lookup m = none) ∧ fr e1 (fun rs e2 => ∃ as, argS e2 (r :: rs) = some as ∧ (slotsOf (r :: rs)).Nodup ∧ sp as (fun r' as' => k r' (putS (r :: rs) as' e2)) (fun C fs as' => kx C fs (putS (r :: rs) as' e2))) kx) kx
/-- C(..): the new instance, then what __init__ makes of it -/
def wMake (C : Addr) (sp : WSp) (fr : WA) : WE := fun e k kx => fr e (fun rs e1 => ∃ as, argS e1 (.own (.o C []) :: rs) = some as ∧ (slotsOf (.own (.o C []) :: rs)).Nodup ∧
  sp as (fun r as' => r = .d .non ∧ ∃ s, as'[0]? = some s ∧ s.owned = true ∧ k (.own s) (putS (.own (.o C []) :: rs) as' e1)) (fun C' fs as' => kx C' fs (putS (.own (.o C []) :: rs) as' e1))) kx
theorem lift_make {C : Addr} {sp : WSp} {fr : WA} {Q : VK} (h : lift T K W (wMake C sp fr) σ H Q) : liftA T K W fr σ H fun vs H1 => ∀ x dx, H1 x = none → H1 dx = none → dx ≠ x → lower K sp (.ref x :: vs) (upd (upd H1 dx (.own x)) x (.ins C dx [])) (fun v H2 => v = .non ∧ Q (.ref x) H2) (fun cls d H => W cls d σ H) := by
  obtain ⟨M, e, k, kx, rp, hf, q, x⟩ := h
  refine ⟨M, e, _, kx, rp, hf, fun rs e1 ⟨as, ha, nd, hs⟩ vs H1 p k1 s1 => ?_, x⟩
  intro y dx hy hdx hne
  have hy2 : upd H1 dx (.own y) y = none := by rw [upd_ne hne.symm]; exact hy
  have p' : Reps T K M σ (upd (upd H1 dx (.own y)) y (.ins C dx [])) e1 (.ref y :: vs) (.own (.o C []) :: rs) := (p.new1 hdx).push hy2 rfl fun N' => ⟨y, dx, [], rfl, upd_same, rfl, .nil⟩
  have kn : Keep T (fun a => Own σ e1 a ∨ OwnR vs rs a) H1 (fun a => Own σ e1 a ∨ OwnR (.ref y :: vs) (.own (.o C []) :: rs) a) (upd (upd H1 dx (.own y)) y (.ins C dx [])) := by
    have z := (keep_new (T := T) (F := fun a => Own σ e1 a ∨ OwnR vs rs a) (o := .own y) hdx).trans (keep_new (o := .ins C dx []) hy2)
    refine ⟨z.tup, z.keep, fun a h n y' => ?_, z.tbl, z.dom⟩
    rw [ownR_cons] at y'
    rcases y' with y' | y' | y'
    · exact n (.inl y')
    · obtain ⟨_, eo, e⟩ := ownR_one.mp y'; cases eo
      cases e
      exact h.ne hy
    · exact n (.inr y')
  refine ⟨T.1, Mc M σ e1 (.ref y :: vs) as, as, _, _, (fun _ h => nomatch h), Rep.callee p' ha nd, hs, fun r as' ⟨hr, s, h0, ho, hk⟩ v H' hl q' hn kk => ?_, fun C' fs as' hk dd gs H' hl q' hd he hh kk => ?_⟩
  · subst hr
    have hv : v = .non := by
      have z : Hd _ K H' v .non := q'.val 0 v _ rfl rfl
      cases z
      rfl
    obtain ⟨p2, k2, s2⟩ := p'.backO ha nd hl q' (fun t ht => by rw [List.mem_singleton.mp ht]; exact hn) kk h0 ho
    exact ⟨hv, q _ _ hk _ H' p2 ((k1.trans kn).trans k2) (s1.trans s2)⟩
  · have nl := Reps.nil q'
    obtain ⟨p2, k2, s2, sb, _⟩ := p'.back (ws := []) (ts := []) ha nd hl nl (fun t ht => nomatch ht) (kk.sub fun _ z => z.elim id fun z => (ownR_nil z).elim)
    exact x C' fs _ hk dd gs H' p2.toRep hd he (hh.sub sb) (((k1.trans kn).trans k2).sub fun _ => .inl)
end
section
variable {X : Cx} {T : Cxt} {K : PySem.W.Frag} {W : WX} {k : Nat} {f C : Addr} {fd : FuncData} {ps : List Str} {sp : WSp} {x m : Str} {p pos apos : Pos} {e o : Expr} {es : List Expr} {fr : WA} {fo : WE}
theorem w_call (F : FnOk X.prog X.w X.K X.mg X.base (L2.CX X.prog X.w) k f fd ps (lower K sp)) (hr : Room k X.A) (hg : Gl X x) (hm : X.mg x = some (.ref f)) (hk : PySem.W.keepIn X.K (.ref f) = true) (hb : Binds X.K fd ps []) (tk : Takes X W)
    (ha : PA X (e :: es) (liftA T K W fr)) (hdb : (x == ("__debug__" : Str)) = false := by decide) (he : starEach (e :: es) X.env = (false, eval e X.env) :: starEach es X.env := by rfl) (hpl : (backTo pos (starEach es X.env)).any (·.1) = false := by rfl) :
    PE X (.Call (.Name x p) (e :: es) [] pos) (lift T K W (wCall sp fr)) := PE.weak (pe_callS F hr hg hm hk hb (fun σ => passAt tk σ) ha hdb he hpl) fun _ _ _ => lift_call
theorem w_make {E : XK} (hW : W = fun cls d _ H => E cls d H) (Mk : Mk X.K C f) (F : FnOk X.prog X.w X.K X.mg X.base (L2.CX X.prog X.w) k f fd ps (lower K sp)) (hr : Room (k + 1) X.A) (hg : Gl X x) (hm : X.mg x = some (.ref C)) (hb : Binds X.K fd ps []) (tk : Takes X W)
    (ha : PA X (e :: es) (liftA T K W fr)) (hdb : (x == ("__debug__" : Str)) = false := by decide) (he : starEach (e :: es) X.env = (false, eval e X.env) :: starEach es X.env := by rfl) (hpl : (backTo pos (starEach es X.env)).any (·.1) = false := by rfl) :
    PE X (.Call (.Name x p) (e :: es) [] pos) (lift T K W (wMake C sp fr)) := by
  subst hW
  refine PE.weak (pe_make (dvs := []) Mk F hr hg hm hb .nil (passes_call tk fun _ _ _ _ h => h) ha hdb he hpl) fun σ H Q h => ?_
  have z := lift_make h
  simpa only [tMake, List.append_nil] using z
theorem w_call0 {E : XK} (hW : W = fun cls d _ H => E cls d H) (F : FnOk X.prog X.w X.K X.mg X.base (L2.CX X.prog X.w) k f fd ps (lower K sp)) (hr : Room k X.A) (hg : Gl X x) (hm : X.mg x = some (.ref f)) (hk : PySem.W.keepIn X.K (.ref f) = true) (hb : Binds X.K fd ps []) (tk : Takes X W) (hdb : (x == ("__debug__" : Str)) = false := by decide) :
    PE X (.Call (.Name x p) [] [] pos) (lift T K W (wCall sp wNil)) := by
  subst hW
  refine PE.weak (pe_call0 (dvs := []) F hr hg hm hk hb .nil (passes_call tk fun _ _ _ _ h => h) hdb) fun σ H Q h => ?_
  have z := liftA_nil (lift_call h)
  exact z
end
end Wl
namespace Wl
open PySem PySem.Spec PyProof.Rows L2 RZ
def wipeE (e : En) : List Nat → En
  | [] => e
  | v :: vs => (wipeE e vs).set v none
/-- the block's names as they were ahead of it -/
def backE (e0 : En) : List Nat → En → En
  | [], e => e
  | v :: vs, e => (backE e0 vs e).set v (match e0[v]? with
    | some (some (.d x)) => some (.d x)
    | _ => none)
def noOwn (e : En) (vs : List Nat) : Bool := vs.all fun v => match e[v]? with
  | some (some s) => !s.owned
  | _ => true
def wLcL (g : WG) (tt : WT) (te : WE) (vs : List Nat) : List D → List D → En → (List D → En → Prop) → Prop
  | [], acc, e, k => k acc e
  | x :: xs, acc, e, k => g x e fun e2 => tt e2 (fun b e3 => if b = true then te e3 (fun r e4 => ∃ y e5, frz r e4 = some (y, e5) ∧ wLcL g tt te vs xs (acc ++ [y]) (wipeE e5 vs) k) (fun _ _ _ => False) else wLcL g tt te vs xs acc (wipeE e3 vs) k) fun _ _ _ => False
def wLc (it : WI) (g : WG) (tt : WT) (te : WE) (vs : List Nat) : WE := fun e k kx => it e (fun xs e1 => xs.length ≤ 1000000 ∧ noOwn e1 vs = true ∧ wLcL g tt te vs xs [] (wipeE e1 vs) fun ds e2 => k (.own (.l ds)) (backE e1 vs e2)) kx
def wYes : WT := fun e k _ => k true e
section
variable {T : Cxt} {K : PySem.W.Frag} {M : Addr → Prop} {W : WX} {σ : St} {H H' : Hp} {e e' : En} {vs : List Nat}
theorem wipeE_get : ∀ {vs : List Nat} {j : Nat}, (wipeE e vs)[j]? = if j ∈ vs then (e[j]?).map (fun _ => none) else e[j]?
  | [], j => by simp [wipeE]
  | v :: vs, j => by
    unfold wipeE
    have hl : (wipeE e vs).length = e.length := by
      have : ∀ us : List Nat, (wipeE e us).length = e.length := fun us => by
        induction us with
        | nil => rfl
        | cons u us ih => unfold wipeE; rw [List.length_set, ih]
      exact this vs
    by_cases c : v = j
    · subst c
      rw [List.getElem?_set]
      simp only [if_true, List.mem_cons, true_or, hl]
      by_cases hl : v < e.length
      · rw [if_pos hl, List.getElem?_eq_getElem hl]; rfl
      · rw [if_neg hl, List.getElem?_eq_none (by omega)]; rfl
    · rw [List.getElem?_set_ne c, wipeE_get]
      simp only [List.mem_cons, Ne.symm c, false_or]
theorem wipeE_len : ∀ {us : List Nat}, (wipeE e us).length = e.length
  | [] => rfl
  | u :: us => by unfold wipeE; rw [List.length_set, wipeE_len]
theorem backE_len {e0 : En} : ∀ {us : List Nat}, (backE e0 us e).length = e.length
  | [] => rfl
  | u :: us => by unfold backE; rw [List.length_set, backE_len]
theorem backE_some {e0 : En} : ∀ {us : List Nat} {j : Nat} {s : S}, (backE e0 us e)[j]? = some (some s) → (j ∉ us ∧ e[j]? = some (some s)) ∨ (j ∈ us ∧ s.owned = false ∧ e0[j]? = some (some s))
  | [], j, s, h => .inl ⟨by simp, h⟩
  | u :: us, j, s, h => by
    unfold backE at h
    rcases set_some h with ⟨rfl, e1⟩ | ⟨c, h⟩
    · refine .inr ⟨List.mem_cons_self, ?_⟩
      split at e1
      · rename_i x q
        cases e1
        exact ⟨rfl, q⟩
      · cases e1
    · rcases backE_some h with ⟨h1, h2⟩ | ⟨h1, h2⟩
      · exact .inl ⟨fun z => (List.mem_cons.mp z).elim (fun z => c z.symm) h1, h2⟩
      · exact .inr ⟨List.mem_cons_of_mem _ h1, h2⟩
theorem backE_out {e0 : En} : ∀ {us : List Nat} {j : Nat}, j ∉ us → (backE e0 us e)[j]? = e[j]?
  | [], _, _ => rfl
  | u :: us, j, h => by
    unfold backE
    rw [List.getElem?_set_ne fun z => h (by rw [z]; exact List.mem_cons_self), backE_out fun z => h (List.mem_cons_of_mem _ z)]
theorem backE_in {e0 : En} {x : D} : ∀ {us : List Nat} {j : Nat}, j ∈ us → e0[j]? = some (some (.d x)) → j < e.length → (backE e0 us e)[j]? = some (some (.d x))
  | [], _, h, _, _ => by cases h
  | u :: us, j, h, h0, hl => by
    unfold backE
    by_cases c : u = j
    · subst c
      rw [List.getElem?_set, h0]
      simp [backE_len, hl]
    · rw [List.getElem?_set_ne c]
      exact backE_in ((List.mem_cons.mp h).elim (fun z => (c z.symm).elim) id) h0 hl
theorem wipeE_some {j : Nat} {s : S} (h : (wipeE e vs)[j]? = some (some s)) : j ∉ vs ∧ e[j]? = some (some s) := by
  rw [wipeE_get] at h
  by_cases c : j ∈ vs
  · rw [if_pos c] at h
    cases q : e[j]? <;> rw [q] at h <;> cases h
  · rw [if_neg c] at h
    exact ⟨c, h⟩
theorem wipe_at {j : Nat} (h : j ∉ vs) : (wipe σ vs)[j]? = σ[j]? := by rw [wipe_get, if_neg h]
theorem wipe_idem : wipe (wipe σ vs) vs = wipe σ vs := by
  apply List.ext_getElem?
  intro j
  rw [wipe_get, wipe_get]
  by_cases c : j ∈ vs
  · rw [if_pos c, if_pos c]
    cases σ[j]? <;> rfl
  · rw [if_neg c, if_neg c]
theorem own_wipe {a : Addr} (h : Own (wipe σ vs) (wipeE e vs) a) : Own σ e a := by
  obtain ⟨i, s, h1, h2, h3⟩ := h
  obtain ⟨c, h1⟩ := wipeE_some h1
  rw [wipe_at c] at h3
  exact ⟨i, s, h1, h2, h3⟩
theorem Rep.wipe (h : Rep T K M σ H e) : Rep T K M (L2.wipe σ vs) H (wipeE e vs) := by
  refine ⟨by rw [wipeE_len, wipe_length]; exact h.len, fun i s x => ?_, fun i j s t a h1 h2 h3 h4 h5 h6 => ?_, fun a z y => h.apart a z (own_wipe y), h.dom, h.tabs⟩
  · obtain ⟨c, x⟩ := wipeE_some x
    obtain ⟨v, e1, q⟩ := h.at_ i s x
    exact ⟨v, by rw [wipe_at c]; exact e1, q.sub fun a z => z.imp id own_wipe⟩
  · obtain ⟨c, h1⟩ := wipeE_some h1
    obtain ⟨c', h3⟩ := wipeE_some h3
    rw [wipe_at c] at h5
    rw [wipe_at c'] at h6
    exact h.inj i j s t a h1 h2 h3 h4 h5 h6
/-- a list of somebody else's is written -/
theorem Rep.updM {p : Addr} {xs ys : List V} (h : Rep T K M σ H e) (hM : M p) (hp : H p = some (.lst xs)) : Rep T K M σ (upd H p (.lst ys)) e := by
  have ne : ∀ b o, H b = some o → (∀ zs, o ≠ .lst zs) → b ≠ p := fun b o q n z => by subst z; rw [hp] at q; cases q; exact n _ rfl
  refine ⟨h.len, fun i s x => ?_, h.inj, h.apart, fun a z => ?_, Tabs.keep h.tabs fun b o q m1 _ _ _ => by rw [upd_ne (ne b o q m1)]; exact q⟩
  · obtain ⟨v, e1, q⟩ := h.at_ i s x
    refine ⟨v, e1, q.tr ⟨fun a xs q => by rw [upd_ne (ne a _ q fun _ z => nomatch z)]; exact q, fun a o q n _ => by rw [upd_ne fun z => n (.inl (by rw [z]; exact hM))]; exact q, fun _ _ n => n⟩ fun a o y1 y2 y3 _ => ?_⟩
    rw [upd_ne fun z => h.apart p hM (by rw [← z]; exact ⟨i, s, x, y2, _, e1, y1⟩)]
    exact y3
  · by_cases c : a = p
    · exact ⟨.lst ys, by rw [c]; exact upd_same, fun _ z => nomatch z⟩
    · obtain ⟨u, q, n⟩ := h.dom a z
      exact ⟨u, by rw [upd_ne c]; exact q, n⟩
theorem Keep.mut {F F' : Addr → Prop} {H0 : Hp} {p : Addr} {o : HO} (k : Keep T F H0 F' H) (hp : H0 p = none) : Keep T F H0 F' (upd H p o) := by
  have ne : ∀ b o, H0 b = some o → b ≠ p := fun b o q z => by rw [z, hp] at q; cases q
  refine ⟨fun a xs q => ?_, fun a u q n t => ?_, k.out, fun t a ps q => ?_, fun a l => ?_⟩
  · rw [upd_ne (ne a _ q)]; exact k.tup a xs q
  · rw [upd_ne (ne a _ q)]; exact k.keep a u q n t
  · rw [upd_ne (ne a _ q)]; exact k.tbl t a ps q
  · obtain ⟨u, q, n⟩ := l
    obtain ⟨w, q2, n2⟩ := k.dom a ⟨u, q, n⟩
    exact ⟨w, by rw [upd_ne (ne a _ q)]; exact q2, n2⟩
theorem Rep.addM {p : Addr} {o : HO} (h : Rep T K M σ H e) (hp : H p = none) (ho : notTbl o) : Rep T K (fun a => M a ∨ a = p) σ (upd H p o) e := by
  have st : ∀ b u, H b = some u → upd H p o b = some u := fun b u q => by rw [upd_ne (ne_of_none q hp)]; exact q
  have f := h.free hp
  refine ⟨h.len, fun i s x => ?_, h.inj, fun a z => z.elim (h.apart a) fun z => by rw [z]; exact f.2, fun a z => ?_, Tbs.ext h.tabs st⟩
  · obtain ⟨v, e1, q⟩ := h.at_ i s x
    refine ⟨v, e1, q.tr ⟨fun a xs q => st a _ q, fun a u q _ _ => st a u q, fun a x n z => ?_⟩ fun a u _ _ q _ => st a u q⟩
    rcases z with (z | z) | z
    · exact n (.inl z)
    · rw [z] at x; exact x.ne hp
    · exact n (.inr z)
  · rcases z with z | z
    · obtain ⟨u, q, n⟩ := h.dom a z
      exact ⟨u, st a u q, n⟩
    · exact ⟨o, by rw [z]; exact upd_same, ho⟩
/-- between two turns -/
structure LcInv (T : Cxt) (K : PySem.W.Frag) (M : Addr → Prop) (D : Addr) (us : List Nat) (σw : St) (ew : En) (H1 H : Hp) (acc : List V) (ds : List Wl.D) (e' : En) : Prop where
  at_ : H D = some (.lst acc)
  rep : Rep T K (fun a => M a ∨ a = D) σw H e'
  hd : HdL (fun a => (M a ∨ a = D) ∨ Own σw e' a) K H acc ds
  keep : Keep T (Own σw ew) H1 (Own σw e') H
  stay : ∀ (j : Nat) (s : S), j ∉ us → ew[j]? = some (some s) → ∃ s' : S, e'[j]? = some (some s')
theorem LcInv.step {D : Addr} {σw : St} {ew : En} {H1 : Hp} {acc : List V} {ds : List Wl.D} {e1 e2 : En} {H2 : Hp} {F : Addr → Prop} (i : LcInv T K M D vs σw ew H1 H acc ds e1) (k : Keep T (Own σw e1) H F H2) (hF : ∀ a, Own σw e2 a → F a) (r : Rep T K (fun a => M a ∨ a = D) σw H2 e2) (st : ∀ (j : Nat) (s : S), j ∉ vs → e1[j]? = some (some s) → ∃ s' : S, e2[j]? = some (some s')) : LcInv T K M D vs σw ew H1 H2 acc ds e2 := by
  have k2 := k.sub hF
  refine ⟨k2.keep D _ i.at_ (i.rep.apart D (.inr rfl)) (fun _ z => nomatch z), r, i.hd.tr (Rep.tr k2 i.rep.dom), i.keep.trans k2, fun j s h x => let ⟨_, y⟩ := i.stay j s h x; st j _ h y⟩
theorem LcInv.add {D : Addr} {σw : St} {ew : En} {H1 : Hp} {acc : List V} {ds : List Wl.D} {e1 : En} {v : V} {y : Wl.D} (i : LcInv T K M D vs σw ew H1 H acc ds e1) (hD : H1 D = none) (h : Hd (fun a => (M a ∨ a = D) ∨ Own σw e1 a) K H v y) : LcInv T K M D vs σw ew H1 (upd H D (.lst (acc ++ [v]))) (acc ++ [v]) (ds ++ [y]) e1 := by
  have t : Tr (fun a => (M a ∨ a = D) ∨ Own σw e1 a) H (fun a => (M a ∨ a = D) ∨ Own σw e1 a) (upd H D (.lst (acc ++ [v]))) := ⟨fun a xs q => by
    rw [upd_ne fun z => by rw [z, i.at_] at q; cases q]; exact q, fun a o q n _ => by rw [upd_ne fun z => n (.inl (.inr z))]; exact q, fun _ _ n => n⟩
  exact ⟨upd_same, i.rep.updM (.inr rfl) i.at_, (i.hd.app (.cons h .nil)).tr t, i.keep.mut hD, i.stay⟩
theorem lc_end {e e1 e' : En} {H0 H1 H : Hp} {D : Addr} {acc : List V} {ds : List Wl.D} (hD : H1 D = none) (r1 : Rep T K M σ H1 e1) (k1 : Keep T (Own σ e) H0 (Own σ e1) H1) (s1 : Stay e e1) (no : noOwn e1 vs = true) (iv : LcInv T K M D vs (wipe σ vs) (wipeE e1 vs) H1 H acc ds e') :
    Reps T K M σ H (backE e1 vs e') [.ref D] [.own (.l ds)] ∧ Keep T (Own σ e) H0 (fun a => Own σ (backE e1 vs e') a ∨ OwnR [.ref D] [.own (.l ds)] a) H ∧ Stay e (backE e1 vs e') := by
  refine ⟨⟨⟨?_, fun i s h => ?_, fun i j s t a h1 h2 h3 h4 h5 h6 => ?_, fun a z y => ?_, fun a z => ?_, iv.rep.tabs⟩, rfl, fun i u r h1 h2 => ?_, fun i j s t a h1 h2 h3 h4 => ?_, fun a z y => ?_⟩, ?_, s1.trans ?_⟩
  · rw [backE_len, iv.rep.len, wipe_length]
  · rcases backE_some h with ⟨c, h⟩ | ⟨c, ho, h⟩
    · obtain ⟨u, g1, g2⟩ := iv.rep.at_ i s h
      refine ⟨u, by rw [← wipe_at c]; exact g1, g2.sub fun a z => ?_⟩
      rcases z with (z | z) | ⟨j, t, z1, z2, z3⟩
      · exact .inl (.inl z)
      · obtain ⟨_, eo, e⟩ := ownR_one.mp z; cases eo
        cases e
        exact .inl (.inr rfl)
      · rcases backE_some z1 with ⟨c', z1⟩ | ⟨_, z1, _⟩
        · exact .inr ⟨j, t, z1, z2, by rw [wipe_at c']; exact z3⟩
        · rw [z1] at z2; cases z2
    · obtain ⟨u, g1, g2⟩ := r1.at_ i s h
      cases s with
      | d x =>
        refine ⟨u, g1, Hd.tr ⟨iv.keep.tup, fun a o q n t => iv.keep.keep a o q (fun z => n (.inr (own_wipe z))) t, fun a q n z => ?_⟩ g2⟩
        rcases z with (z | z) | ⟨j, t, z1, z2, z3⟩
        · exact n (.inl z)
        · obtain ⟨_, eo, e⟩ := ownR_one.mp z; cases eo
          cases e
          exact q.ne hD
        · rcases backE_some z1 with ⟨c', z1⟩ | ⟨_, z1, _⟩
          · exact iv.keep.out a q (fun z => n (.inr (own_wipe z))) ⟨j, t, z1, z2, by rw [wipe_at c']; exact z3⟩
          · rw [z1] at z2; cases z2
      | _ => cases ho
  · rcases backE_some h1 with ⟨c, h1⟩ | ⟨_, h1, _⟩
    · rcases backE_some h3 with ⟨c', h3⟩ | ⟨_, h3, _⟩
      · exact iv.rep.inj i j s t a h1 h2 h3 h4 (by rw [wipe_at c]; exact h5) (by rw [wipe_at c']; exact h6)
      · rw [h3] at h4; cases h4
    · rw [h1] at h2; cases h2
  · obtain ⟨j, t, z1, z2, z3⟩ := y
    rcases backE_some z1 with ⟨c', z1⟩ | ⟨_, z1, _⟩
    · refine iv.rep.apart a ?_ ⟨j, t, z1, z2, by rw [wipe_at c']; exact z3⟩
      rcases z with z | z
      · exact .inl z
      · obtain ⟨_, eo, e⟩ := ownR_one.mp z; cases eo
        cases e
        exact .inr rfl
    · rw [z1] at z2; cases z2
  · rcases z with z | z
    · exact iv.rep.dom a (.inl z)
    · obtain ⟨_, eo, e⟩ := ownR_one.mp z; cases eo
      cases e
      exact iv.rep.dom D (.inr rfl)
  · cases i with
    | zero =>
      simp only [List.getElem?_cons_zero, Option.some.injEq] at h1 h2
      subst h1 h2
      refine ⟨rfl, D, acc, rfl, iv.at_, iv.hd.sub fun a z => ?_⟩
      rcases z with (z | z) | ⟨j, t, z1, z2, z3⟩
      · exact .inl (.inl z)
      · obtain ⟨_, eo, e⟩ := ownR_one.mp z; cases eo
        cases e
        exact .inl (.inr rfl)
      · rcases backE_some z1 with ⟨c', z1⟩ | ⟨_, z1, _⟩
        · exact .inr ⟨j, t, z1, z2, by rw [wipe_at c']; exact z3⟩
        · rw [z1] at z2; cases z2
    | succ i => simp at h1
  · cases i with
    | zero =>
      cases j with
      | zero => rfl
      | succ j => simp at h2
    | succ i => simp at h1
  · obtain ⟨_, eo, e⟩ := ownR_one.mp z; cases eo
    cases e
    exact (r1.dom D y).ne hD
  · refine k1.trans ⟨iv.keep.tup, fun a o q n t => iv.keep.keep a o q (fun z => n (own_wipe z)) t, fun a q n z => ?_, iv.keep.tbl, iv.keep.dom⟩
    rcases z with ⟨j, t, z1, z2, z3⟩ | z
    · rcases backE_some z1 with ⟨c', z1⟩ | ⟨_, z1, _⟩
      · exact iv.keep.out a q (fun z => n (own_wipe z)) ⟨j, t, z1, z2, by rw [wipe_at c']; exact z3⟩
      · rw [z1] at z2; cases z2
    · obtain ⟨_, eo, e⟩ := ownR_one.mp z; cases eo
      cases e
      exact q.ne hD
  · intro j s h
    by_cases c : j ∈ vs
    · have no' := List.all_eq_true.mp no j c
      rw [h] at no'
      cases s with
      | d x => exact ⟨.d x, backE_in c h (by rw [iv.rep.len, wipe_length, ← r1.len]; exact (List.getElem?_eq_some_iff.mp h).1)⟩
      | _ => cases no'
    · obtain ⟨s', y⟩ := iv.stay j s c (by rw [wipeE_get, if_neg c]; exact h)
      exact ⟨s', by rw [backE_out c]; exact y⟩
theorem lk_ne {lk : Lk} {F : Addr → Prop} {H : Hp} {D : Addr} (l : lkd M F lk H) (h : ∀ o u, H D ≠ some (.frz o u)) : Wl.unl lk H D = H D := by
  cases lk with
  | none => rfl
  | some x =>
    obtain ⟨d, od, u⟩ := x
    exact upd_ne fun z => h od u (by rw [z]; exact l.1)
theorem LcInv.unl {D : Addr} {e1 e' : En} {H1 H : Hp} {lk : Lk} {acc : List V} {ds : List Wl.D} (hD : H1 D = none) (l1 : lkd M (Own σ e1) lk H1) (nt : ∀ d od u, lk = some (d, od, u) → ¬ T.2 d) (iv : LcInv T K M D vs (wipe σ vs) (wipeE e1 vs) H1 H acc ds e') :
    LcInv T K M D vs (wipe σ vs) (wipeE e1 vs) (Wl.unl lk H1) (Wl.unl lk H) acc ds e' ∧ lkd M (Own (wipe σ vs) e') lk H ∧ Wl.unl lk H1 D = none := by
  have lw : lkd M (Own (wipe σ vs) (wipeE e1 vs)) lk H1 := by
    cases lk with
    | none => trivial
    | some x => obtain ⟨d, od, u⟩ := x; exact ⟨l1.1, l1.2.1, l1.2.2.1, fun z => l1.2.2.2 (own_wipe z)⟩
  have l2 : lkd M (Own (wipe σ vs) e') lk H := lw.keep iv.keep
  have l3 : lkd (fun a => M a ∨ a = D) (Own (wipe σ vs) e') lk H := by
    cases lk with
    | none => trivial
    | some x =>
      obtain ⟨d, od, u⟩ := x
      have nd : d ≠ D := fun z => by
        have y := l1.1
        rw [z, hD] at y
        cases y
      exact ⟨l2.1, l2.2.1, (fun z => z.elim l2.2.2.1 nd), l2.2.2.2⟩
  refine ⟨⟨by rw [lk_ne l2 fun o u z => by rw [iv.at_] at z; cases z]; exact iv.at_, iv.rep.unl l3 nt, ?_, iv.keep.unl lw, iv.stay⟩, l2, by rw [lk_ne l1 fun o u z => by rw [hD] at z; cases z]; exact hD⟩
  cases lk with
  | none => exact iv.hd
  | some x => obtain ⟨d, od, u⟩ := x; exact iv.hd.eqv (eqv_unl l2.1 l2.2.1)
theorem lift_lc {it : WI} {is : List Nat} {g : WG} {tt : WT} {te : WE} {Q : VK} (hv : ∀ i ∈ is, i ∈ vs) (h : lift T K W (wLc it g tt te vs) σ H Q) : tLc (liftI T K W it) (liftG T K (fun _ => false) is g) (liftT T K WF tt) (lift T K WF te) vs σ H fun v H' => Un1 H H' (Q v) := by
  obtain ⟨M, e, k, kx, rp, hf, q, x⟩ := h
  refine ⟨M, e, _, kx, rp, hf, fun xs e1 ⟨hl, no, hk⟩ J H1 lk r1 l1 k1 s1 wk => ?_, x⟩
  intro D hD
  obtain ⟨G, Y, w, hG, hY⟩ := wk
  have rw1 := r1.wipe (vs := vs)
  -- a step within a turn, seen from the block
  refine lc_it w (fun i H => ∃ acc ds e', acc.length ≤ i ∧ LcInv T K M D vs (wipe σ vs) (wipeE e1 vs) H1 H acc ds e' ∧ wLcL g tt te vs (xs.drop i) ds e' fun ds e2 => k (.own (.l ds)) (backE e1 vs e2)) ⟨[], [], wipeE e1 vs, Nat.zero_le _, ⟨upd_same, rw1.addM hD (fun _ z => nomatch z), .nil, keep_new hD, fun j s _ x => ⟨s, x⟩⟩, by simpa using hk⟩ (fun i H _ ⟨acc, ds, e', _, iv, _⟩ => ?_) (fun i v H H' hi ⟨acc, ds, e', ha, iv, hw⟩ y => ?_) fun H ⟨acc, ds, e', ha, iv, hw⟩ => ?_
  · exact hG _ _ (iv.keep.sup fun a z => own_wipe z)
  · obtain ⟨z, hz, ly, hd⟩ := hY (fun a => Own (wipe σ vs) e' a ∨ a = D) H i v H' hi ⟨iv.keep.tup, fun a o q n t => iv.keep.keep a o q (fun z => n (own_wipe z)) t, fun a q n z => z.elim (iv.keep.out a q fun z => n (own_wipe z)) fun z => q.ne (by rw [z]; exact hD), iv.keep.tbl, iv.keep.dom⟩ y
    have ed : xs.drop i = z :: xs.drop (i + 1) := by
      obtain ⟨h1, h2⟩ := List.getElem?_eq_some_iff.mp hz
      rw [List.drop_eq_getElem_cons hi, h2]
    rw [ed] at hw
    obtain ⟨r2, k2⟩ := ly.rep iv.rep
    have iv2 := iv.step k2 (fun _ z => z) r2 fun j s _ x => ⟨s, x⟩
    refine ⟨_, fun _ => none, e', z, _, (fun _ _ h => nomatch h), (fun _ _ h => nomatch h), r2, hd.sub fun a z => ?_, hw, fun e2 h2 σ2 _ r3 o3 w3 => ⟨(w3.1 vs hv).trans wipe_idem, _, e2, _, _, r3, h2, fun b e3 h3 H3 r4 k4 s4 => ?_, fun _ _ _ z => z.elim⟩⟩
    · rcases z with (z | z) | z
      · exact .inl z
      · exact .inr (.inr z)
      · exact .inr (.inl z)
    have hw2 : wipe σ2 vs = wipe σ vs := (w3.1 vs hv).trans wipe_idem
    have k3 : Keep T (Own (wipe σ vs) e') H' (Own σ2 e3) H3 := k4.sup o3
    have back : ∀ {e5 : En} {H5 : Hp}, Rep T K (fun a => M a ∨ a = D) σ2 H5 e5 → Keep T (Own (wipe σ vs) e') H' (Own σ2 e5) H5 → Stay e' e5 → LcInv T K M D vs (wipe σ vs) (wipeE e1 vs) H1 H5 acc ds (wipeE e5 vs) := fun {e5 H5} r k st => by
      have r' := r.wipe (vs := vs)
      rw [hw2] at r'
      exact iv2.step k (fun a z => own_wipe (vs := vs) (by rw [hw2]; exact z)) r' fun j s h x => let ⟨s', y⟩ := st j s x; ⟨s', by rw [wipeE_get, if_neg h]; exact y⟩
    cases b with
    | false => exact iteF ⟨acc, ds, _, by omega, back r4 k3 (w3.2.trans s4), by simpa using h3⟩
    | true =>
      rw [if_pos rfl] at h3
      refine iteT ⟨_, e3, _, _, r4, h3, fun r e4 ⟨y, e5, hz, hk⟩ u H4 p k5 s5 => ?_, fun _ _ _ z => z.elim⟩
      obtain ⟨p2, o2, s6⟩ := p.frz hz
      have k6 : Keep T (Own (wipe σ vs) e') H' (Own σ2 e5) H4 := (k3.trans (keep_toRep k5)).sub o2
      have iv5 := back p2.toRep k6 (((w3.2.trans s4).trans s5).trans s6)
      have hy : Hd (fun a => (M a ∨ a = D) ∨ Own (wipe σ vs) (wipeE e5 vs) a) K H4 u y := (show Hd _ K H4 u y from p2.val 0 u _ rfl rfl).sub fun a z => z.imp .inl fun z => own_wipe (vs := vs) (by rw [hw2]; exact z)
      refine ⟨acc, iv5.at_, ?_, acc ++ [u], ds ++ [y], _, ?_, iv5.add hD hy, hk⟩
      · have : xs.length ≤ 1000000 := hl
        rw [sizeLine_eq]
        omega
      · rw [List.length_append]
        show acc.length + 1 ≤ i + 1
        omega
  · rw [List.drop_length] at hw
    have nt : ∀ d od u, lk = some (d, od, u) → ¬ T.2 d := fun d od u e => by subst e; exact (lk_free rp k1 l1.2.1).2
    obtain ⟨iv2, l2, hD2⟩ := iv.unl hD l1 nt
    obtain ⟨z1, z2, z3⟩ := lc_end hD2 (r1.unl l1 nt) k1 s1 no iv2
    exact Un1.of rp k1 l1 l2 (q _ _ hw (.ref D) _ z1 z2 z3)
end
section
variable {X : Cx} {T : Cxt} {K : PySem.W.Frag} {W : WX} {elt tg iter : Expr} {ifs : List Expr} {scope : Scope} {own : List (Str × Nat)} {pos : Pos} {is : List Nat} {it : WI} {g : WG} {tt : WT} {te : WE}
theorem wts_nil : PTs X [] (liftT T K W wYes) := by
  have h : PTs X [] tYes := pts_nil
  exact ⟨fun pins s σ H Q I ⟨M, e, k, kx, r, hf, q, _⟩ => h.run pins s σ H Q I (q true e hf H r .refl .refl)⟩
theorem wts_one {t : Expr} {ft : WT} (h : PT X t (liftT T K W ft)) : PTs X [t] (liftT T K W ft) := pts_one h
theorem w_lc (hc : X.calm = true) (hN : X.N.Nodup) (hi : PI X tg iter (liftI T K W it)) (ok : BlkOk X.N X.env.scope scope own) (hv : ∀ i ∈ is, i ∈ own.map (·.2))
    (hg : ∀ (s : Shared) (H : Hp) (C : Addr) (cl : List (Str × Addr)) (fp : List Addr), PG (X.blk s H scope (compEnvC scope cl C X.env) fp) tg (liftG T K (fun _ => false) is g))
    (ht : ∀ (s : Shared) (H : Hp) (C : Addr) (cl : List (Str × Addr)) (fp : List Addr), PTs (X.blk s H scope (compEnvC scope cl C X.env) fp) ifs (liftT T K WF tt))
    (he : ∀ (s : Shared) (H : Hp) (C : Addr) (cl : List (Str × Addr)) (fp : List Addr), PE (X.blk s H scope (compEnvC scope cl C X.env) fp) elt (lift T K WF te)) (hs : ∀ x, foldedSetIterable iter X.env x = pure x := by intro _; rfl) :
    PE X (.ListComp elt [⟨tg, iter, ifs, 0⟩] scope pos) (lift T K W (wLc it g tt te (own.map (·.2)))) := PE.weak (PE.unl (pe_lc hc hN hi ok hg ht he hs)) fun _ _ _ h => lift_lc hv h
end
end Wl
namespace Wl
open PySem PySem.Spec PyProof.Rows L2 RZ
/-- the items of a list, a tuple, a text -/
def seqD : D → Option (List D)
  | .lst ds => some ds
  | .tup ds => some ds
  | .tupP ds => some ds
  | .str z => some (z.cps.toList.map fun c => .str ⟨#[c]⟩)
  | _ => none
def wIt (f : WE) : WI := fun e k kx => f e (fun r e1 => ∃ x e2 xs, frz r e1 = some (x, e2) ∧ seqD x = some xs ∧ k xs e2) kx
def iAny (K : PySem.W.Frag) (te : TE) : TI := fun σ H R => te σ H fun x H1 => (∃ a xs, x = .ref a ∧ SqL K H1 a xs ∧ R (Itl K a) H1) ∨ (∃ a xs, x = .ref a ∧ SqT K H1 a xs ∧ R (Itt K a) H1) ∨ ∃ z, x = .str z ∧ R (Its z) H1
theorem pi_any {X : Cx} {tg e : Expr} {te : TE} (K : PySem.W.Frag) (he : PE X e te) (eK : X.K = K := by rfl) : PI X tg e (iAny K te) := by
  subst eK
  refine ⟨fun pins s σ H R I h => thn (he.run pins s σ H _ I h) fun v s1 ⟨x, H1, I1, r1, q1⟩ => ?_⟩
  have one : ∀ {t : TE}, (fun (_ : St) (H : Hp) (Q : VK) => H = H1 ∧ Q x H1) = t → PE X e t → True := fun _ _ => trivial
  rcases q1 with ⟨a, xs, rfl, hq, q⟩ | ⟨a, xs, rfl, hq, q⟩ | ⟨z, rfl, q⟩
  · cases r1
    obtain ⟨its, rv, p, hz⟩ := I1.list hq
    exact wpAny_pyIter_list p.isList (pi_one (tk := s1.toks) I1 _ (turn_list a _) ⟨_, Heap.get?_push_size _ rfl, rfl, rfl⟩ q)
  · cases r1
    obtain ⟨its, rv, p, hz⟩ := I1.tuple hq
    exact wpAny_pyIter_tuple (show s1.heap.IsTuple a its.toArray from p) (pi_one (tk := s1.toks) I1 _ (turn_tuple a _) ⟨_, Heap.get?_push_size _ rfl, rfl, rfl⟩ q)
  · obtain ⟨t, rfl⟩ := r1
    cases ha : z.cps.all (· < 128)
    · exact wpAny_pyIter_wide ha (pi_one (tk := s1.toks) I1 _ (turn_str _ z t "str_iterator" (.inr rfl)) ⟨_, Heap.get?_push_size _ rfl, rfl, rfl⟩ q)
    · exact wpAny_pyIter_ascii ha (pi_one (tk := s1.toks) I1 _ (turn_str _ z t "str_ascii_iterator" (.inl rfl)) ⟨_, Heap.get?_push_size _ rfl, rfl, rfl⟩ q)
section
variable {T : Cxt} {K : PySem.W.Frag} {M F : Addr → Prop} {W : WX} {σ : St} {H : Hp}
theorem tr_keep {F' : Addr → Prop} {H' : Hp} (k : Keep T F H F' H') : Tr (fun a => M a ∨ F a) H (fun a => M a ∨ F' a) H' :=
  ⟨k.tup, fun a o x n t => k.keep a o x (fun z => n (.inr z)) t, fun a x n z => z.elim (fun z => n (.inl z)) (k.out a x fun z => n (.inr z))⟩
theorem wk_at {J : It} {xs : List V} {ds : List D} {G : Hp → Prop} (w : Walk J xs.length G (YAt xs)) (hd : HdL (fun a => M a ∨ F a) K H xs ds) (hG : ∀ F' H', Keep T F H F' H' → G H') : WkD T K M F H J ds := by
  refine ⟨G, YAt xs, hd.len ▸ w, hG, fun F' H' i v H2 hi k y => ?_⟩
  obtain ⟨rfl, hv⟩ := y
  have hx := List.getElem?_eq_getElem hi
  obtain ⟨u, hu, hh⟩ := (hd.tr (tr_keep k)).get hx
  rw [hv] at hu
  cases hu
  exact ⟨_, hx, .inl rfl, hh⟩
theorem sql_keep {a : Addr} {xs : List V} {F' : Addr → Prop} {H' : Hp} (h : (Rd H a (.lst xs) ∧ ¬ (M a ∨ F a)) ∨ KLst K a xs) (k : Keep T F H F' H') : SqL K H' a xs := by
  rcases h with ⟨h, n⟩ | h
  · exact .inl ((tr_keep (M := M) k).rd h n (fun _ z => nomatch z)).1
  · exact .inr h
theorem Hd.lstI {N : Addr → Prop} {v : V} {ds : List D} (h : Hd N K H v (.lst ds)) : ∃ a xs, v = .ref a ∧ ((Rd H a (.lst xs) ∧ ¬ N a) ∨ KLst K a xs) ∧ HdL N K H xs ds := by
  cases h with
  | lst e r => exact ⟨_, _, rfl, e, r⟩
theorem Hd.tupI {N : Addr → Prop} {v : V} {ds : List D} (h : Hd N K H v (.tup ds)) : ∃ a xs, v = .ref a ∧ TupAt K H a xs ∧ HdL N K H xs ds := by
  cases h with
  | tup e r => exact ⟨_, _, rfl, e, r⟩
theorem Hd.tupPI {N : Addr → Prop} {v : V} {ds : List D} (h : Hd N K H v (.tupP ds)) : ∃ a o xs, v = .ref a ∧ H a = some (.frz o (.tup xs)) ∧ o.dict = none ∧ ¬ N a ∧ HdL N K H xs ds := by
  cases h with
  | tupP e n m r => exact ⟨_, _, _, rfl, e, n, m, r⟩
theorem Hd.strI {N : Addr → Prop} {v : V} {z : Str} (h : Hd N K H v (.str z)) : v = .str z := by
  cases h
  rfl
theorem lift_it {f : WE} {R : It → Hp → Prop} (h : liftI T K W (wIt f) σ H R) : iAny K (lift T K W f) σ H R := by
  obtain ⟨M, e, k, kx, rp, hf, q, x⟩ := h
  refine ⟨M, e, _, kx, rp, hf, fun r e1 ⟨y, e2, xs, hz, hs, hk⟩ v H1 p kk s => ?_, x⟩
  obtain ⟨p2, o2, s2⟩ := p.frz hz
  have hd : Hd (fun a => M a ∨ Own σ e2 a) K H1 v y := (show Hd _ K H1 v y from p2.val 0 v _ rfl rfl).sub fun a z => z.imp .inl id
  have fin : ∀ {J : It}, WkD T K M (Own σ e2) H1 J xs → R J H1 := fun wk => q xs e2 hk _ H1 none p2.toRep trivial ((keep_toRep kk).sub o2) (s.trans s2) wk
  cases y with
  | lst ds =>
    cases hs
    obtain ⟨a, ys, rfl, h1, h2⟩ := hd.lstI
    exact .inl ⟨a, ys, rfl, sql_keep h1 (Keep.refl (T := T)), fin (wk_at walk_list h2 fun F' H' k => sql_keep h1 k)⟩
  | tup ds =>
    cases hs
    obtain ⟨a, ys, rfl, h1, h2⟩ := hd.tupI
    exact .inr (.inl ⟨a, ys, rfl, h1.sq, fin (wk_at walk_tup h2 fun F' H' k => TupAt.sq (h1.imp (k.tup a ys) id))⟩)
  | tupP ds =>
    cases hs
    obtain ⟨a, o, ys, rfl, h1, _, n1, h2⟩ := hd.tupPI
    exact .inr (.inl ⟨a, ys, rfl, .inl (.inr ⟨_, h1⟩), fin (wk_at walk_tup h2 fun F' H' k => .inl (.inr ⟨_, (tr_keep (M := M) k).keep _ _ h1 n1 (fun _ z => nomatch z)⟩))⟩)
  | str z =>
    cases hs
    cases hd.strI
    refine .inr (.inr ⟨z, rfl, fin ⟨_, _, by rw [List.length_map, Array.length_toList]; exact walk_str, fun _ _ _ => trivial, fun F' H' i v H2 hi _ y => ?_⟩⟩)
    obtain ⟨rfl, c, hc, rfl⟩ := y
    exact ⟨.str ⟨#[c]⟩, by rw [List.getElem?_map, Array.getElem?_toList, hc]; rfl, .inl rfl, .str _⟩
  | _ => cases hs
def rangeD (lo : Int) (n : Nat) : List D := (List.range n).map fun i => .int (lo + (i : Nat))
def range0 (n : Nat) : List D := (List.range n).map fun i => .int (i : Nat)
def wRng1 (fr : WA) : WI := fun e k kx => fr e (fun rs e1 => ∃ j, rs = [.d (.int j)] ∧ (-4611686018427387904 ≤ j ∧ j < 4611686018427387904) ∧ k (range0 j.toNat) e1) kx
def wRng2 (fr : WA) : WI := fun e k kx => fr e (fun rs e1 => ∃ i j, rs = [.d (.int i), .d (.int j)] ∧ (-4611686018427387904 ≤ i ∧ i < 4611686018427387904 ∧ -4611686018427387904 ≤ j ∧ j < 4611686018427387904) ∧ k (rangeD i (j - i).toNat) e1) kx
theorem lift_rng1 {fr : WA} {R : It → Hp → Prop} (h : liftI T K W (wRng1 fr) σ H R) : iRng1 (liftA T K W fr) σ H R := by
  obtain ⟨M, e, k, kx, rp, hf, q, x⟩ := h
  refine ⟨M, e, _, kx, rp, hf, fun rs e1 ⟨j, hr, hb, hk⟩ vs H1 p kk s => ?_, x⟩
  subst hr
  have hd := Reps.hdL (ds := [.int j]) p
  cases hd with
  | cons h1 h2 =>
  cases h1
  cases h2
  refine ⟨j, rfl, hb.1, hb.2, q _ e1 hk _ H1 none p.toRep trivial (kk.sub fun _ => .inl) s ⟨fun _ => True, YFn fun i => .int (i : Nat), by rw [range0, List.length_map, List.length_range]; exact My.walk_range0, fun _ _ _ => trivial, fun F' H' i v H2 hi _ y => ?_⟩⟩
  obtain ⟨rfl, rfl⟩ := y
  unfold range0 at hi ⊢
  rw [List.length_map, List.length_range] at hi
  exact ⟨.int (i : Nat), by rw [List.getElem?_map, List.getElem?_range hi]; rfl, .inl rfl, .int _⟩
def zipD (xs ys : List D) : List D := (xs.zip ys).map fun p => .tup [p.1, p.2]
def enumD : Nat → List D → List D
  | _, [] => []
  | i, x :: xs => .tup [.int (i : Nat), x] :: enumD (i + 1) xs
theorem enumD_len : ∀ {xs : List D} {i : Nat}, (enumD i xs).length = xs.length
  | [], _ => rfl
  | x :: xs, i => by unfold enumD; rw [List.length_cons, List.length_cons, enumD_len]
theorem enumD_get : ∀ {xs : List D} {i j : Nat} {x : D}, xs[j]? = some x → (enumD i xs)[j]? = some (.tup [.int ((i + j : Nat) : Int), x])
  | [], _, _, _, h => by simp at h
  | y :: xs, i, 0, x, h => by simp at h; subst h; rfl
  | y :: xs, i, j + 1, x, h => by
    unfold enumD
    rw [List.getElem?_cons_succ, enumD_get (by simpa using h)]
    rw [show i + 1 + j = i + (j + 1) by omega]
def wZip (fr : WA) : WI := fun e k kx => fr e (fun rs e1 => ∃ x y xs ys, rs = [.d x, .d y] ∧ seqD x = some xs ∧ seqD y = some ys ∧ k (zipD xs ys) e1) kx
def wEnum (fr : WA) : WI := fun e k kx => fr e (fun rs e1 => ∃ x xs, rs = [.d x] ∧ seqD x = some xs ∧ k (enumD 0 xs) e1) kx
/-- a source of zip -/
theorem kv_of {v : V} {x : D} {xs : List D} (hs : seqD x = some xs) (hd : Hd (fun a => M a ∨ F a) K H v x) : ∃ (kv : My.Kv) (ys : List V), v = kv.v ∧ (∀ F' H', Keep T F H F' H' → kv.seq K H' ys ∧ HdL (fun a => M a ∨ F' a) K H' ys xs) := by
  cases x with
  | lst ds =>
    cases hs
    obtain ⟨a, ys, rfl, h1, h2⟩ := hd.lstI
    exact ⟨.l a, ys, rfl, fun F' H' k => ⟨sql_keep h1 k, h2.tr (tr_keep k)⟩⟩
  | tup ds =>
    cases hs
    obtain ⟨a, ys, rfl, h1, h2⟩ := hd.tupI
    exact ⟨.t a, ys, rfl, fun F' H' k => ⟨TupAt.sq (h1.imp (k.tup a ys) id), h2.tr (tr_keep k)⟩⟩
  | tupP ds =>
    cases hs
    obtain ⟨a, o, ys, rfl, h1, _, n1, h2⟩ := hd.tupPI
    exact ⟨.t a, ys, rfl, fun F' H' k => ⟨.inl (.inr ⟨_, (tr_keep (M := M) k).keep _ _ h1 n1 (fun _ z => nomatch z)⟩), h2.tr (tr_keep k)⟩⟩
  | str z =>
    cases hs
    cases hd.strI
    refine ⟨.s z, My.signs z, rfl, fun F' H' k => ⟨rfl, ?_⟩⟩
    unfold My.signs
    generalize z.cps.toList = l
    induction l with
    | nil => exact .nil
    | cons c l ih => exact .cons (.str _) ih
  | _ => cases hs
theorem lift_enum {fr : WA} {R : It → Hp → Prop} (h : liftI T K W (wEnum fr) σ H R) : My.iEnumG K (liftA T K W fr) σ H R := by
  obtain ⟨M, e, k, kx, rp, hf, q, x⟩ := h
  refine ⟨M, e, _, kx, rp, hf, fun rs e1 ⟨x1, xs, hr, h1, hk⟩ vs H1 p kk s => ?_, x⟩
  subst hr
  have hd := Reps.hdL (ds := [x1]) p
  cases hd with
  | cons d1 d3 =>
  cases d3
  obtain ⟨k1, us, rfl, g1⟩ := kv_of (T := T) h1 d1
  have z1 := g1 _ _ .refl
  have hl : (enumD 0 xs).length = us.length := by rw [enumD_len, z1.2.len]
  refine ⟨k1, us, rfl, z1.1, q _ e1 hk _ H1 none p.toRep trivial (kk.sub fun _ => .inl) s ⟨_, _, hl ▸ My.walk_enumG, fun F' H' k => (g1 _ _ k).1, fun F' H' i v H2 hi k y => ?_⟩⟩
  obtain ⟨t, u, w, rfl, nt, rfl, gu, gw⟩ := y
  dsimp only at gu gw
  have hi' : i < xs.length := by rw [enumD_len] at hi; exact hi
  have e1 := List.getElem?_eq_getElem hi'
  obtain ⟨w', hw, dw⟩ := (g1 _ _ k).2.get e1
  rw [gw] at hw
  cases hw
  cases gu
  exact ⟨.tup [.int ((0 + i : Nat) : Int), xs[i]], enumD_get e1, .inr ⟨t, _, nt, rfl⟩, .tup (.inl upd_same) (.cons (by rw [Nat.zero_add]; exact .int _) (.cons (Hd.new nt dw) .nil))⟩
end
section
variable {X : Cx} {T : Cxt} {K : PySem.W.Frag} {W : WX} {tg e e2 : Expr} {es : List Expr} {f : WE} {fr : WA} {p pos tpos : Pos} {elts : List Expr} {kk : Nat}
theorem wi_it (eK : X.K = K) (he : PE X e (lift T K W f)) : PI X tg e (liftI T K W (wIt f)) := PI.weak (pi_any K he eK) fun _ _ _ => lift_it
theorem wi_rng1 (hg : Gl X "range") (hm : X.mg "range" = none) (ha : PA X [e] (liftA T K W fr)) (hs : starEach [e] X.env = [(false, eval e X.env)] := by rfl) : PI X tg (.Call (.Name "range" p) [e] [] pos) (liftI T K W (wRng1 fr)) := PI.weak (pi_range1 hg hm ha hs) fun _ _ _ => lift_rng1
theorem wi_enum (eK : X.K = K) (hg : Gl X "enumerate") (hm : X.mg "enumerate" = none) (ha : PA X [e] (liftA T K W fr)) (hs : starEach [e] X.env = [(false, eval e X.env)] := by rfl) :
    PI X (.Tuple elts kk tpos) (.Call (.Name "enumerate" p) [e] [] pos) (liftI T K W (wEnum fr)) := PI.weak (My.pi_enumG K hg hm ha eK hs) fun _ _ _ => lift_enum
end
end Wl
namespace Wl
open PySem PySem.Spec PyProof.Rows L2 RZ
mutual
def D.py : D → Option PyData
  | .non => some .none
  | .bl b => some (.bool b)
  | .int i => some (.int i)
  | .str x => some (.str x)
  | .tup ds => match pyL ds with
    | some xs => some (.tuple xs)
    | none => none
  | .lst ds => match pyL ds with
    | some xs => some (.list xs)
    | none => none
  | .tupP ds => match pyL ds with
    | some xs => some (.tuple xs)
    | none => none
  | _ => none
def pyL : List D → Option (List PyData)
  | [] => some []
  | d :: ds => match D.py d, pyL ds with
    | some x, some xs => some (x :: xs)
    | _, _ => none
end
section
variable {K : PySem.W.Frag} {N : Addr → Prop} {H : Hp}
mutual
theorem Hd.dp : ∀ {d : D} {p : PyData} {v : V}, Hd N K H v d → D.py d = some p → p.canLay0 = true → Dp K H v p
  | .non, p, _, h, e, c => by cases h; cases e; exact .non
  | .bl b, p, _, h, e, c => by cases h; cases e; exact .bl b
  | .int i, p, _, h, e, c => by cases h; cases e; exact .int i
  | .str x, p, _, h, e, c => by cases h; cases e; exact .str x
  | .tup ds, p, _, h, e, c => by
    unfold D.py at e
    split at e
    · rename_i xs q
      cases e
      cases h with
      | tup h1 h2 => exact .tup h1.sq (HdL.dp h2 q (by simpa [PyData.canLay0] using c))
    · cases e
  | .lst ds, p, _, h, e, c => by
    unfold D.py at e
    split at e
    · rename_i xs q
      cases e
      cases h with
      | lst h1 h2 => exact .lst (by rcases h1 with h1 | h1; exact .inl h1.1; exact .inr h1) (HdL.dp h2 q (by simpa [PyData.canLay0] using c))
    · cases e
  | .ty n, _, _, _, e, _ => by cases e
  | .fn n, _, _, _, e, _ => by cases e
  | .dct n, _, _, _, e, _ => by cases e
  | .dcT n, _, _, _, e, _ => by cases e
  | .ins n _, _, _, _, e, _ => by cases e
  | .dx n, _, _, _, e, _ => by cases e
  | .tupP ds, p, _, h, e, c => by
    unfold D.py at e
    split at e
    · rename_i xs q
      cases e
      cases h with
      | tupP h1 _ _ h2 => exact .tup (.inl (.inr ⟨_, h1⟩)) (HdL.dp h2 q (by simpa [PyData.canLay0] using c))
    · cases e
theorem HdL.dp : ∀ {ds : List D} {ps : List PyData} {vs : List V}, HdL N K H vs ds → pyL ds = some ps → PyData.canLayAll0 ps = true → DpAll K H vs ps
  | [], _, _, h, e, _ => by cases h; cases e; exact .nil
  | d :: ds, ps, _, h, e, c => by
    unfold pyL at e
    split at e
    · rename_i x xs q1 q2
      cases e
      cases h with
      | cons h1 h2 =>
        have c' : x.canLay0 = true ∧ PyData.canLayAll0 xs = true := by simpa [PyData.canLayAll0] using c
        exact .cons (Hd.dp h1 q1 c'.1) (HdL.dp h2 q2 c'.2)
    · cases e
end
theorem HdE.dp {d : D} {p : PyData} {v : V} (h : HdE N K H v d) (e : D.py d = some p) (c : p.canLay0 = true) : Dp K H v p := by
  cases d with
  | lst ds =>
    unfold D.py at e
    split at e
    · rename_i xs q
      cases e
      obtain ⟨a, ys, rfl, h1, h2⟩ := h
      exact .lst h1 (HdL.dp h2 q (by simpa [PyData.canLay0] using c))
    · cases e
  | dct n => cases e
  | dcT n => cases e
  | ins n _ => cases e
  | dx n => cases e
  | tupP b => exact Hd.dp (d := .tupP b) h e c
  | non => exact Hd.dp (d := .non) h e c
  | bl b => exact Hd.dp (d := .bl b) h e c
  | int b => exact Hd.dp (d := .int b) h e c
  | str b => exact Hd.dp (d := .str b) h e c
  | tup b => exact Hd.dp (d := .tup b) h e c
  | ty b => cases e
  | fn b => cases e
end
/-- l + m: lists, also those that no longer change -/
def rCatSq (K : PySem.W.Frag) : R2 := fun x y H Q => ∃ a b xs ys, x = .ref a ∧ y = .ref b ∧ SqL K H a xs ∧ SqL K H b ys ∧ xs.length + ys.length ≤ sizeLine ∧ ∀ p, H p = none → Q (.ref p) (upd H p (.lst (xs ++ ys)))
theorem op_catSq {X : Cx} : OpR X (binaryOp .Add) (rCatSq X.K) := by
  intro pins s σ H x y v u Q I rx ry h
  obtain ⟨a, b, xs, ys, rfl, rfl, ha, hb, hz, q⟩ := h
  cases rx
  cases ry
  obtain ⟨us, r1, ⟨⟨c1, d1, t1, l1⟩, n1, g1, e1, e2, e3⟩, _⟩ := I.list ha
  obtain ⟨ws, r2, ⟨⟨c2, d2, t2, l2⟩, n2, g2, f1, f2, f3⟩, _⟩ := I.list hb
  simp only at e1 e2 e3 f1 f2 f3
  subst e1 e2 e3 f1 f2 f3
  have n1 := r1.length
  have n2 := r2.length
  refine concat_meets ⟨_, g1, rfl⟩ ⟨_, g2, rfl⟩ noFill_list_add seq_list_add PySem.F.slot_list_add PySem.F.entry_list_add (PySem.F.args_list_add_2 _ _) (PyProof.Rows.list_addW a b us.toArray ws.toArray _ _ _ _ _ _ (by rw [List.size_toArray, List.size_toArray]; omega)) ⟨g1, g2, ?_⟩
  rw [show us.toArray ++ ws.toArray = (us ++ ws).toArray by simp]
  exact ⟨.ref _, _, I.lnew (t' := s.toks) (r1.append r2) (by rw [List.length_append]; omega), rfl, q _ I.fresh⟩
def rAdd3 (K : PySem.W.Frag) : R2 := fun x y H Q => My.rAddG K x y H Q ∨ rCatSq K x y H Q
theorem opAdd3 {X : Cx} {K : PySem.W.Frag} (e : X.K = K := by rfl) : OpR X (binaryOp .Add) (rAdd3 K) := e ▸ (My.opAdd.or op_catSq)
/-- two plain tuples, one behind the other -/
def catP (xs ys : List D) : D := if xs.isEmpty = true then .tupP ys else if ys.isEmpty = true then .tupP xs else .tup (xs ++ ys)
def gAdd (ds : List D) (k : R → Prop) : Prop := match ds with
  | [.int i, .int j] => k (.d (.int (i + j)))
  | [.str x, .str y] => x.length + y.length ≤ 16777216 ∧ k (.d (.str (x ++ y)))
  | [.tup xs, .tup ys] => xs.length + ys.length ≤ 1000000 ∧ k (.d (.tup (xs ++ ys)))
  | [.lst xs, .lst ys] => xs.length + ys.length ≤ 1000000 ∧ k (.own (.l (xs ++ ys)))
  | [.tupP xs, .tupP ys] => xs.length + ys.length ≤ 1000000 ∧ k (.d (catP xs ys))
  | _ => False
def gMinus (ds : List D) (k : R → Prop) : Prop := match ds with
  | [.int i, .int j] => k (.d (.int (i - j)))
  | _ => False
def gMul (ds : List D) (k : R → Prop) : Prop := match ds with
  | [.int i, .int j] => ((-(2 ^ 64) < i ∧ i < 2 ^ 64) ∨ (-(2 ^ 64) < j ∧ j < 2 ^ 64)) ∧ k (.d (.int (i * j)))
  | _ => False
def gDiv (ds : List D) (k : R → Prop) : Prop := match ds with
  | [.int i, .int j] => (0 < j ∧ j < 1073741824) ∧ k (.d (.int (i / j)))
  | _ => False
def gMod (ds : List D) (k : R → Prop) : Prop := match ds with
  | [.int i, .int j] => 0 < j ∧ k (.d (.int (i % j)))
  | _ => False
def gPow (ds : List D) (k : R → Prop) : Prop := match ds with
  | [.int i, .int j] => (0 ≤ j ∧ j ≤ 1000000 ∧ i.natAbs < 2 ^ 64) ∧ k (.d (.int (i ^ j.toNat)))
  | _ => False
def gNeg (ds : List D) (k : R → Prop) : Prop := match ds with
  | [.int i] => k (.d (.int (-i)))
  | _ => False
section
variable {K : PySem.W.Frag} {N : Addr → Prop} {H : Hp} {x y : V}
theorem HdEs.two {vs : List V} {d1 d2 : D} (h : HdEs N K H vs [d1, d2]) : ∃ v w, vs = [v, w] ∧ HdE N K H v d1 ∧ HdE N K H w d2 := by
  cases h with
  | cons a b =>
    cases b with
    | cons b c => cases c; exact ⟨_, _, rfl, a, b⟩
theorem HdEs.one {vs : List V} {d1 : D} (h : HdEs N K H vs [d1]) : ∃ v, vs = [v] ∧ HdE N K H v d1 := by
  cases h with
  | cons a b => cases b; exact ⟨_, rfl, a⟩
theorem see_tupP {N : Addr → Prop} {H : Hp} {v : V} {ds : List D} (h : HdE N K H v (.tupP ds)) : ∃ a xs, v = .ref a ∧ SqT K H a xs ∧ HdL N K H xs ds := by
  have h' : Hd N K H v (.tupP ds) := h
  cases h' with
  | tupP h1 _ _ h2 => exact ⟨_, _, rfl, .inl (.inr ⟨_, h1⟩), h2⟩
theorem see_tup {N : Addr → Prop} {H : Hp} {v : V} {ds : List D} (h : HdE N K H v (.tup ds)) : ∃ a xs, v = .ref a ∧ TupAt K H a xs ∧ HdL N K H xs ds := Hd.tupI h
theorem spAdd : OpSpec K (r2L (rAdd3 K)) gAdd := OpSpec.any fun N H vs ds k Q hd hg q qt ql => by
  rintro x y rfl
  unfold gAdd at hg
  split at hg
  · obtain ⟨v, w, e, h1, h2⟩ := hd.two
    cases e
    cases see_int h1
    cases see_int h2
    exact .inl <| My.s_addI (q _ hg _ (.int _))
  · obtain ⟨v, w, e, h1, h2⟩ := hd.two
    cases e
    cases see_str h1
    cases see_str h2
    exact .inl <| My.s_addS (by rw [sizeLine_eq]; exact hg.1) (q _ hg.2 _ (.str _))
  · obtain ⟨v, w, e, h1, h2⟩ := hd.two
    cases e
    obtain ⟨a, xs, rfl, t1, l1⟩ := see_tup h1
    obtain ⟨b, ys, rfl, t2, l2⟩ := see_tup h2
    refine .inl <| .inr (.inr (.inl ⟨a, b, xs, ys, rfl, rfl, t1.sq, t2.sq, sz8 (by rw [l1.len, l2.len]; exact hg.1), fun e => ?_, fun _ e => ?_, fun _ _ p hp => qt _ hg.2 _ (l1.app l2) p hp⟩))
    · subst e
      cases l1
      exact q _ hg.2 _ (.tup t2 l2)
    · subst e
      cases l2
      exact q _ hg.2 _ (.tup t1 (by rw [List.append_nil]; exact l1))
  · obtain ⟨v, w, e, h1, h2⟩ := hd.two
    cases e
    obtain ⟨a, xs, rfl, t1, l1⟩ := h1
    obtain ⟨b, ys, rfl, t2, l2⟩ := h2
    exact .inr ⟨a, b, xs, ys, rfl, rfl, t1, t2, sz8 (by rw [l1.len, l2.len]; exact hg.1), fun p hp => ql _ hg.2 _ (l1.app l2) p hp⟩
  · rename_i us ws
    obtain ⟨v, w, e, h1, h2⟩ := hd.two
    cases e
    obtain ⟨a, xs, rfl, t1, l1⟩ := see_tupP h1
    obtain ⟨b, ys, rfl, t2, l2⟩ := see_tupP h2
    obtain ⟨hz, hk⟩ := hg
    refine .inl <| .inr (.inr (.inl ⟨a, b, xs, ys, rfl, rfl, t1, t2, sz8 (by rw [l1.len, l2.len]; exact hz), fun e => ?_, fun n e => ?_, fun n m p hp => ?_⟩))
    · subst e
      cases l1
      exact q _ hk _ h2
    · subst e
      cases l2
      cases us with
      | nil => cases l1; exact (n rfl).elim
      | cons u us => exact q _ hk _ h1
    · refine qt _ ?_ _ (l1.app l2) p hp
      have e1 : us.isEmpty = false := by cases us with
        | nil => cases l1; exact (n rfl).elim
        | cons _ _ => rfl
      have e2 : ws.isEmpty = false := by cases ws with
        | nil => cases l2; exact (m rfl).elim
        | cons _ _ => rfl
      unfold catP at hk
      rw [e1, e2, if_neg Bool.false_ne_true, if_neg Bool.false_ne_true] at hk
      exact hk
  · cases hg
theorem spSub {P : V → V → Hp → VK → Prop} (hP : ∀ i j H Q, Q (.int (i - j)) H → P (.int i) (.int j) H Q) : OpSpec K (r2L P) gMinus := OpSpec.read fun N H vs ds k Q hd hg q => by
  rintro x y rfl
  unfold gMinus at hg
  split at hg
  · obtain ⟨v, w, e, h1, h2⟩ := hd.two
    cases e
    cases see_int h1
    cases see_int h2
    exact hP _ _ _ _ (q _ hg _ (.int _))
  · cases hg
theorem spMul : OpSpec K (r2L (rI CMul fun i j => .int (i * j))) gMul := OpSpec.read fun N H vs ds k Q hd hg q => by
  rintro x y rfl
  unfold gMul at hg
  split at hg
  · obtain ⟨v, w, e, h1, h2⟩ := hd.two
    cases e
    cases see_int h1
    cases see_int h2
    exact My.s_mul hg.1 (q _ hg.2 _ (.int _))
  · cases hg
theorem spDiv : OpSpec K (r2L (rI CDiv fun i j => .int (i / j))) gDiv := OpSpec.read fun N H vs ds k Q hd hg q => by
  rintro x y rfl
  unfold gDiv at hg
  split at hg
  · obtain ⟨v, w, e, h1, h2⟩ := hd.two
    cases e
    cases see_int h1
    cases see_int h2
    exact My.s_fdiv hg.1 (q _ hg.2 _ (.int _))
  · cases hg
theorem spMod : OpSpec K (r2L (rI (fun _ j => 0 < j) fun i j => .int (i % j))) gMod := OpSpec.read fun N H vs ds k Q hd hg q => by
  rintro x y rfl
  unfold gMod at hg
  split at hg
  · obtain ⟨v, w, e, h1, h2⟩ := hd.two
    cases e
    cases see_int h1
    cases see_int h2
    exact My.s_mod hg.1 (q _ hg.2 _ (.int _))
  · cases hg
theorem spPow : OpSpec K (r2L (rI CPow fun i j => .int (i ^ j.toNat))) gPow := OpSpec.read fun N H vs ds k Q hd hg q => by
  rintro x y rfl
  unfold gPow at hg
  split at hg
  · obtain ⟨v, w, e, h1, h2⟩ := hd.two
    cases e
    cases see_int h1
    cases see_int h2
    exact My.s_pow hg.1 (q _ hg.2 _ (.int _))
  · cases hg
theorem spNeg {P : V → Hp → VK → Prop} (hP : ∀ i H Q, Q (.int (-i)) H → P (.int i) H Q) : OpSpec K (r1L P) gNeg := OpSpec.read fun N H vs ds k Q hd hg q => by
  rintro x rfl
  unfold gNeg at hg
  split at hg
  · obtain ⟨v, e, h1⟩ := hd.one
    cases e
    cases see_int h1
    exact hP _ _ _ (q _ hg _ (.int _))
  · cases hg
def gCmp (p : Int → Int → Bool) (ds : List D) (k : R → Prop) : Prop := match ds with
  | [.int i, .int j] => k (.d (.bl (p i j)))
  | _ => False
theorem spCmp {p : Int → Int → Bool} {P : V → V → Hp → VK → Prop} (hP : ∀ i j H Q, Q (.bl (p i j)) H → P (.int i) (.int j) H Q) : OpSpec K (r2L P) (gCmp p) := OpSpec.read fun N H vs ds k Q hd hg q => by
  rintro x y rfl
  unfold gCmp at hg
  split at hg
  · obtain ⟨v, w, e, h1, h2⟩ := hd.two
    cases e
    cases see_int h1
    cases see_int h2
    exact hP _ _ _ _ (q _ hg _ (.bl _))
  · cases hg
/-- ==, by data -/
def gEq (ds : List D) (k : R → Prop) : Prop := match ds with
  | [.int i, .int j] => k (.d (.bl (decide (i = j))))
  | [.str i, .str j] => k (.d (.bl (decide (i = j))))
  | [.bl i, .bl j] => k (.d (.bl (decide (i = j))))
  | [x, y] => ∃ p q, D.py x = some p ∧ D.py y = some q ∧ SeqAt.shaped p = true ∧ SeqAt.shaped q = true ∧ k (.d (.bl (PyData.eqv p q)))
  | _ => False
def gNe (ds : List D) (k : R → Prop) : Prop := match ds with
  | [.int i, .int j] => k (.d (.bl (!decide (i = j))))
  | [.str i, .str j] => k (.d (.bl (!decide (i = j))))
  | [.bl i, .bl j] => k (.d (.bl (!decide (i = j))))
  | [x, y] => ∃ p q, D.py x = some p ∧ D.py y = some q ∧ SeqAt.shaped p = true ∧ SeqAt.shaped q = true ∧ k (.d (.bl (!PyData.eqv p q)))
  | _ => False
theorem spEq : OpSpec K (r2L (My.rEqG' K)) gEq := OpSpec.read fun N H vs ds k Q hd hg q => by
  rintro x y rfl
  unfold gEq at hg
  split at hg
  · obtain ⟨v, w, e, h1, h2⟩ := hd.two
    cases e
    cases see_int h1
    cases see_int h2
    exact My.s_eqI (q _ hg _ (.bl _))
  · obtain ⟨v, w, e, h1, h2⟩ := hd.two
    cases e
    cases see_str h1
    cases see_str h2
    exact My.s_eqS (q _ hg _ (.bl _))
  · obtain ⟨v, w, e, h1, h2⟩ := hd.two
    cases e
    cases see_bl h1
    cases see_bl h2
    exact My.s_eqB (q _ hg _ (.bl _))
  · obtain ⟨v, w, e, h1, h2⟩ := hd.two
    cases e
    obtain ⟨p, r, e1, e2, s1, s2, hk⟩ := hg
    exact .inr ⟨p, r, h1.dp e1 (SeqAt.canLay_of_shaped s1), h2.dp e2 (SeqAt.canLay_of_shaped s2), s1, s2, q _ hk _ (.bl _)⟩
  · cases hg
theorem spNe : OpSpec K (r2L (My.rNeG' K)) gNe := OpSpec.read fun N H vs ds k Q hd hg q => by
  rintro x y rfl
  unfold gNe at hg
  split at hg
  · obtain ⟨v, w, e, h1, h2⟩ := hd.two
    cases e
    cases see_int h1
    cases see_int h2
    exact My.s_neI (q _ hg _ (.bl _))
  · obtain ⟨v, w, e, h1, h2⟩ := hd.two
    cases e
    cases see_str h1
    cases see_str h2
    exact My.s_neS (q _ hg _ (.bl _))
  · obtain ⟨v, w, e, h1, h2⟩ := hd.two
    cases e
    cases see_bl h1
    cases see_bl h2
    exact My.s_neB (q _ hg _ (.bl _))
  · obtain ⟨v, w, e, h1, h2⟩ := hd.two
    cases e
    obtain ⟨p, r, e1, e2, s1, s2, hk⟩ := hg
    exact .inr ⟨p, r, h1.dp e1 (SeqAt.canLay_of_shaped s1), h2.dp e2 (SeqAt.canLay_of_shaped s2), s1, s2, q _ hk _ (.bl _)⟩
  · cases hg
end
end Wl
namespace Wl
open PySem PySem.Spec PyProof.Rows L2 RZ
section
variable {K : PySem.W.Frag} {N : Addr → Prop} {H : Hp} {x y : V}
theorem see_lst {v : V} {ds : List D} (h : HdE N K H v (.lst ds)) : ∃ a xs, v = .ref a ∧ SqL K H a xs ∧ HdL N K H xs ds := h
def gIx (ds : List D) (k : R → Prop) : Prop := match ds with
  | [.lst xs, .int i] => ∃ x, atI xs i = some x ∧ k (.d x)
  | [.tup xs, .int i] => ∃ x, atI xs i = some x ∧ k (.d x)
  | [.tupP xs, .int i] => ∃ x, atI xs i = some x ∧ k (.d x)
  | [.str z, .int i] => z.length ≤ 16777216 ∧ ∃ c, atI z.cps.toList i = some c ∧ k (.d (.str ⟨#[c]⟩))
  | _ => False
theorem at_hd {xs : List D} {vs : List V} {i : Int} {d : D} (h : HdL N K H vs xs) (e : atI xs i = some d) : ∃ v, atI vs i = some v ∧ Hd N K H v d := by
  unfold atI at e ⊢
  rw [h.len]
  cases q : ixN xs.length i with
  | none => rw [q] at e; cases e
  | some j =>
    rw [q] at e
    exact h.get e
theorem spIx : OpSpec K (r2L (rIx K)) gIx := OpSpec.read fun N H vs ds k Q hd hg q => by
  rintro x y rfl
  unfold gIx at hg
  split at hg
  · obtain ⟨v, w, e, h1, h2⟩ := hd.two
    cases e
    obtain ⟨a, xs, rfl, h3, h4⟩ := see_lst h1
    cases see_int h2
    obtain ⟨d, e, hk⟩ := hg
    obtain ⟨v, e, hv⟩ := at_hd h4 e
    exact My.s_ixL h3 e (q _ hk _ hv)
  · obtain ⟨v, w, e, h1, h2⟩ := hd.two
    cases e
    obtain ⟨a, xs, rfl, h3, h4⟩ := see_tup h1
    cases see_int h2
    obtain ⟨d, e, hk⟩ := hg
    obtain ⟨v, e, hv⟩ := at_hd h4 e
    exact My.s_ixT h3.sq e (q _ hk _ hv)
  · obtain ⟨v, w, e, h1, h2⟩ := hd.two
    cases e
    obtain ⟨a, xs, rfl, h3, h4⟩ := see_tupP h1
    cases see_int h2
    obtain ⟨d, e, hk⟩ := hg
    obtain ⟨v, e, hv⟩ := at_hd h4 e
    exact My.s_ixT h3 e (q _ hk _ hv)
  · obtain ⟨v, w, e, h1, h2⟩ := hd.two
    cases e
    cases see_str h1
    cases see_int h2
    obtain ⟨hl, c, e, hk⟩ := hg
    exact My.s_ixS (by rw [sizeLine_eq]; exact hl) e (q _ hk _ (.str _))
  · cases hg
def cutD (xs : List D) (lo hi : Option Int) : List D := (xs.drop (HT.sIx xs.length 0 lo)).take (HT.sIx xs.length xs.length hi - HT.sIx xs.length 0 lo)
theorem un65 {k : Nat} {A : Around} (r : Room k A) : A.units + 65 < cLine := by have := r.un; omega
theorem un1 {k : Nat} {A : Around} (r : Room k A) : A.units + 1 < cLine := by have := r.un; omega
def flatD : D → Bool
  | .non => true
  | .bl _ => true
  | .int _ => true
  | .str _ => true
  | _ => false
def toV : D → V
  | .bl b => .bl b
  | .int i => .int i
  | .str z => .str z
  | _ => .non
def inD (x : D) (xs : List D) : Bool := inV (toV x) (xs.map toV)
def InW (neg : Bool) (x : D) (xs : List D) (k : R → Prop) : Prop := (flatD x = true ∧ xs.all flatD = true ∧ k (.d (.bl (if neg then !inD x xs else inD x xs)))) ∨
  ∃ p ps, D.py x = some p ∧ pyL xs = some ps ∧ SeqAt.shaped p = true ∧ SeqAt.shaped (.list ps) = true ∧ k (.d (.bl (if neg then !ps.any (fun z => PyData.eqv z p) else ps.any fun z => PyData.eqv z p)))
def gIn (neg : Bool) (ds : List D) (k : R → Prop) : Prop := match ds with
  | [x, .lst xs] => InW neg x xs k
  | [x, .tup xs] => InW neg x xs k
  | _ => False
/-- in, not in: data of any depth -/
def rInSq (K : PySem.W.Frag) (neg : Bool) : R2 := fun x y H Q => ∃ d ds, Dp K H x d ∧ (Dp K H y (.list ds) ∨ Dp K H y (.tuple ds)) ∧ SeqAt.shaped d = true ∧ SeqAt.shaped (.list ds) = true ∧ Q (.bl (if neg then !ds.any (fun z => PyData.eqv z d) else ds.any fun z => PyData.eqv z d)) H
theorem op_inSq {X : Cx} (hu : X.A.units + 65 < cLine) : OpR X (compareOp .In) (rInSq X.K false) := by
  intro pins s σ H x y v u Q I rx ry h
  obtain ⟨d, ds, hd, he, sd, se, q⟩ := h
  obtain ⟨as, r1⟩ := Dp.reads I d x v hd rx
  rcases he with he | he
  · obtain ⟨bs, r2⟩ := Dp.reads I (.list ds) y u he ry
    exact SeqAt.in_list_reads r2 r1 (SeqAt.canLay_of_shaped se) (SeqAt.canLay_of_shaped sd) (room_in_shaped sd hu) ⟨.bl _, H, I, rfl, q⟩
  · obtain ⟨bs, r2⟩ := Dp.reads I (.tuple ds) y u he ry
    exact SeqAt.in_tuple_reads r2 r1 (SeqAt.canLay_of_shaped se) (SeqAt.canLay_of_shaped sd) (room_in_shaped sd hu) ⟨.bl _, H, I, rfl, q⟩
theorem op_notInSq {X : Cx} (hu : X.A.units + 65 < cLine) : OpR X (compareOp .NotIn) (rInSq X.K true) := by
  intro pins s σ H x y v u Q I rx ry h
  obtain ⟨d, ds, hd, he, sd, se, q⟩ := h
  obtain ⟨as, r1⟩ := Dp.reads I d x v hd rx
  rcases he with he | he
  · obtain ⟨bs, r2⟩ := Dp.reads I (.list ds) y u he ry
    exact SeqAt.notIn_list_reads r2 r1 (SeqAt.canLay_of_shaped se) (SeqAt.canLay_of_shaped sd) (room_in_shaped sd hu) ⟨.bl _, H, I, rfl, q⟩
  · obtain ⟨bs, r2⟩ := Dp.reads I (.tuple ds) y u he ry
    exact SeqAt.notIn_tuple_reads r2 r1 (SeqAt.canLay_of_shaped se) (SeqAt.canLay_of_shaped sd) (room_in_shaped sd hu) ⟨.bl _, H, I, rfl, q⟩
def rIn3 (K : PySem.W.Frag) (neg : Bool) : R2 := fun x y H Q => rIn K neg x y H Q ∨ rInSq K neg x y H Q
theorem opIn3 {X : Cx} {K : PySem.W.Frag} (hu : X.A.units + 65 < cLine) (e : X.K = K := by rfl) : OpR X (compareOp .In) (rIn3 K false) := e ▸ op_in_seq.or (op_inSq hu)
theorem opNotIn3 {X : Cx} {K : PySem.W.Frag} (hu : X.A.units + 65 < cLine) (e : X.K = K := by rfl) : OpR X (compareOp .NotIn) (rIn3 K true) := e ▸ op_notIn_seq.or (op_notInSq hu)
theorem flat_v {v : V} {d : D} (h : HdE N K H v d) (f : flatD d = true) : v = toV d ∧ flatV v = true := by
  cases d with
  | non => have h' : Hd N K H v .non := h; cases h'; exact ⟨rfl, rfl⟩
  | bl b => cases see_bl h; exact ⟨rfl, rfl⟩
  | int b => cases see_int h; exact ⟨rfl, rfl⟩
  | str b => cases see_str h; exact ⟨rfl, rfl⟩
  | _ => cases f
theorem flat_vs : ∀ {xs : List D} {vs : List V}, HdL N K H vs xs → xs.all flatD = true → vs = xs.map toV ∧ vs.all flatV = true
  | [], _, h, _ => by cases h; exact ⟨rfl, rfl⟩
  | d :: xs, _, h, f => by
    cases h with
    | cons a b =>
      rw [List.all_cons, Bool.and_eq_true] at f
      obtain ⟨e1, f1⟩ := flat_v a.e f.1
      obtain ⟨e2, f2⟩ := flat_vs b f.2
      exact ⟨by rw [e1, e2]; rfl, by rw [List.all_cons, f1, f2]; rfl⟩
theorem spIn {neg : Bool} : OpSpec K (r2L (rIn3 K neg)) (gIn neg) := OpSpec.read fun N H vs ds k Q hd hg q => by
  rintro x y rfl
  unfold gIn at hg
  split at hg
  · obtain ⟨v, w, e, h1, h2⟩ := hd.two
    cases e
    obtain ⟨a, xs, rfl, h3, h4⟩ := see_lst h2
    rcases hg with ⟨f1, f2, hk⟩ | ⟨p, ps, e1, e2, s1, s2, hk⟩
    · obtain ⟨e1, g1⟩ := flat_v h1 f1
      obtain ⟨e2, g2⟩ := flat_vs h4 f2
      subst e1 e2
      exact .inl ⟨a, _, rfl, .inl h3, g1, g2, q _ hk _ (.bl _)⟩
    · exact .inr ⟨p, ps, h1.dp e1 (SeqAt.canLay_of_shaped s1), .inl (.lst h3 (HdL.dp h4 e2 (SeqAt.canLay_of_shaped s2))), s1, s2, q _ hk _ (.bl _)⟩
  · obtain ⟨v, w, e, h1, h2⟩ := hd.two
    cases e
    obtain ⟨a, xs, rfl, h3, h4⟩ := see_tup h2
    rcases hg with ⟨f1, f2, hk⟩ | ⟨p, ps, e1, e2, s1, s2, hk⟩
    · obtain ⟨e1, g1⟩ := flat_v h1 f1
      obtain ⟨e2, g2⟩ := flat_vs h4 f2
      subst e1 e2
      exact .inl ⟨a, _, rfl, .inr h3.sq, g1, g2, q _ hk _ (.bl _)⟩
    · exact .inr ⟨p, ps, h1.dp e1 (SeqAt.canLay_of_shaped s1), .inr (.tup h3.sq (HdL.dp h4 e2 (SeqAt.canLay_of_shaped s2))), s1, s2, q _ hk _ (.bl _)⟩
  · cases hg
/-- one sign in a text -/
def gInSign (ds : List D) (k : R → Prop) : Prop := match ds with
  | [.str w, .str z] => ∃ c, w = ⟨#[c]⟩ ∧ k (.d (.bl (decide (c ∈ z.cps.toList))))
  | _ => False
def isN : D → Bool
  | .non => true
  | _ => false
def gIsN (neg : Bool) (ds : List D) (k : R → Prop) : Prop := match ds with
  | [x] => k (.d (.bl (if neg then !isN x else isN x)))
  | _ => False
def gLen (ds : List D) (k : R → Prop) : Prop := match ds with
  | [.lst xs] => k (.d (.int (xs.length : Nat)))
  | [.tup xs] => k (.d (.int (xs.length : Nat)))
  | [.tupP xs] => k (.d (.int (xs.length : Nat)))
  | [.str z] => z.length ≤ 16777216 ∧ k (.d (.int (z.length : Nat)))
  | _ => False
theorem spLen : OpSpec K (My.rLen K) gLen := OpSpec.read fun N H vs ds k Q hd hg q => by
  unfold gLen at hg
  split at hg
  · obtain ⟨v, rfl, h1⟩ := hd.one
    obtain ⟨a, xs, rfl, h3, h4⟩ := see_lst h1
    exact My.s_lenL h3 (by rw [h4.len]; exact q _ hg _ (.int _))
  · obtain ⟨v, rfl, h1⟩ := hd.one
    obtain ⟨a, xs, rfl, h3, h4⟩ := see_tup h1
    exact My.s_lenT h3.sq (by rw [h4.len]; exact q _ hg _ (.int _))
  · obtain ⟨v, rfl, h1⟩ := hd.one
    obtain ⟨a, xs, rfl, h3, h4⟩ := see_tupP h1
    exact My.s_lenT h3 (by rw [h4.len]; exact q _ hg _ (.int _))
  · obtain ⟨v, rfl, h1⟩ := hd.one
    cases see_str h1
    exact My.s_lenS (by rw [sizeLine_eq]; exact hg.1) (q _ hg.2 _ (.int _))
  · cases hg
def gList (ds : List D) (k : R → Prop) : Prop := match ds with
  | [.lst xs] => k (.own (.l xs))
  | [.tup xs] => k (.own (.l xs))
  | _ => False
theorem spList : OpSpec K (My.rList K) gList := OpSpec.lst fun N H vs ds k Q hd hg q => by
  unfold gList at hg
  split at hg
  · obtain ⟨v, rfl, h1⟩ := hd.one
    obtain ⟨a, xs, rfl, h3, h4⟩ := see_lst h1
    exact My.s_listL h3 fun l hl => q _ hg _ h4 l hl
  · obtain ⟨v, rfl, h1⟩ := hd.one
    obtain ⟨a, xs, rfl, h3, h4⟩ := see_tup h1
    exact My.s_listT h3.sq fun l hl => q _ hg _ h4 l hl
  · cases hg
def gTuple (ds : List D) (k : R → Prop) : Prop := match ds with
  | [.lst xs] => k (.d (.tup xs))
  | [.tup xs] => k (.d (.tup xs))
  | _ => False
theorem spTuple : OpSpec K (My.rTuple K) gTuple := OpSpec.tup fun N H vs ds k Q hd hg q qt => by
  unfold gTuple at hg
  split at hg
  · obtain ⟨v, rfl, h1⟩ := hd.one
    obtain ⟨a, xs, rfl, h3, h4⟩ := see_lst h1
    exact My.s_tupleL h3 fun l hl => qt _ hg _ h4 l hl
  · obtain ⟨v, rfl, h1⟩ := hd.one
    obtain ⟨a, xs, rfl, h3, h4⟩ := see_tup h1
    exact My.s_tupleT h3.sq (q _ hg _ (.tup h3 h4))
  · cases hg
def gInt (ds : List D) (k : R → Prop) : Prop := match ds with
  | [.int i] => k (.d (.int i))
  | [.bl b] => k (.d (.int (if b then 1 else 0)))
  | _ => False
theorem spInt : OpSpec K My.rInt1 gInt := OpSpec.read fun N H vs ds k Q hd hg q => by
  unfold gInt at hg
  split at hg
  · obtain ⟨v, rfl, h1⟩ := hd.one
    cases see_int h1
    exact My.s_int1 (q _ hg _ (.int _))
  · obtain ⟨v, rfl, h1⟩ := hd.one
    cases see_bl h1
    exact My.s_int1b (q _ hg _ (.int _))
  · cases hg
def gMax2 (ds : List D) (k : R → Prop) : Prop := match ds with
  | [.int i, .int j] => k (.d (.int (if j > i then j else i)))
  | _ => False
def gMin2 (ds : List D) (k : R → Prop) : Prop := match ds with
  | [.int i, .int j] => k (.d (.int (if j < i then j else i)))
  | _ => False
def gAbs (ds : List D) (k : R → Prop) : Prop := match ds with
  | [.int i] => k (.d (.int (if i < 0 then -i else i)))
  | _ => False
def tyD : D → Option String
  | .non => some "NoneType"
  | .bl _ => some "bool"
  | .int _ => some "int"
  | .str _ => some "str"
  | .lst _ => some "list"
  | .tup _ => some "tuple"
  | .tupP _ => some "tuple"
  | .dct _ => some "dict"
  | _ => none
theorem ty_of {v : V} {d : D} {n : String} (h : HdE N K H v d) (e : tyD d = some n) : TyX K H v (.type n) := by
  cases d with
  | non => have h' : Hd N K H v .non := h; cases h'; cases e; exact .base .non
  | bl b => cases see_bl h; cases e; exact .base (.bl b)
  | int b => cases see_int h; cases e; exact .base (.int b)
  | str b => cases see_str h; cases e; exact .base (.str b)
  | tup b =>
    obtain ⟨a, xs, rfl, h1, _⟩ := see_tup h
    cases e
    rcases h1 with h1 | ⟨o, its, n, hk, hc, _⟩
    · exact .base (.tup h1)
    · exact .kTuple hk hc
  | tupP b =>
    have h' : Hd N K H v (.tupP b) := h
    cases e
    cases h' with
    | tupP h1 _ _ _ => exact .fTuple h1
  | lst b =>
    obtain ⟨a, xs, rfl, h1, _⟩ := h
    cases e
    rcases h1 with (h1 | ⟨o, h1⟩) | ⟨o, its, n, hk, hc, _⟩
    · exact .base (.lst h1)
    · exact .base (.frz h1)
    · exact .kList hk hc
  | dct b =>
    obtain ⟨a, xs, rfl, h1, _⟩ := h
    cases e
    rcases h1 with h1 | ⟨o, h1⟩
    · exact .base (.dK h1)
    · exact .fDict h1
  | _ => cases e
def isiB (d : D) (m : String) : Bool := match d with
  | .bl _ => m == "bool" || m == "int"
  | .int _ => m == "int"
  | .str _ => m == "str"
  | .lst _ => m == "list"
  | .tup _ => m == "tuple"
  | .tupP _ => m == "tuple"
  | .dct _ => m == "dict"
  | _ => false
def knownT (m : String) : Bool := ["list", "tuple", "dict", "bool", "int", "str"].contains m
theorem kit_isiB {d : D} {n m : String} (e : tyD d = some n) (h : knownT m = true) : kitB n m = some (isiB d m) := by
  have h' : m = "list" ∨ m = "tuple" ∨ m = "dict" ∨ m = "bool" ∨ m = "int" ∨ m = "str" := by simpa [knownT] using h
  cases d <;> cases e <;> rcases h' with rfl | rfl | rfl | rfl | rfl | rfl <;> simp only [isiB] <;> decide +kernel
/-- of a built-in class, of several -/
def isiL (d : D) : List D → Option Bool
  | [] => some false
  | .ty m :: cs => if knownT m = true then (match isiL d cs with
    | some b => some (isiB d m || b)
    | none => none) else none
  | _ :: _ => none
def gIsi (ds : List D) (k : R → Prop) : Prop := match ds with
  | [x, .ty m] => (tyD x).isSome = true ∧ knownT m = true ∧ k (.d (.bl (isiB x m)))
  | [x, .tup cs] => (tyD x).isSome = true ∧ ∃ b, isiL x cs = some b ∧ k (.d (.bl b))
  | _ => False
theorem isiL_ok {d : D} {n : String} (e : tyD d = some n) : ∀ {cs : List D} {vs : List V} {b : Bool}, HdL N K H vs cs → isiL d cs = some b → ∃ us, Paired ClsV vs us ∧ PySem.W.kitAny K (.type n) us = some b
  | [], _, b, h, hb => by cases h; cases hb; exact ⟨[], .nil, kitAny_nil⟩
  | .ty m :: cs, _, b, h, hb => by
    cases h with
    | cons h1 h2 =>
    cases h1
    unfold isiL at hb
    split at hb
    · rename_i hm
      split at hb
      · rename_i b' q
        cases hb
        obtain ⟨us, p, r⟩ := isiL_ok e h2 q
        refine ⟨.type m :: us, .cons (.ty m) p, kitAny_cons (kit_ty (kit_isiB e hm)) (fun z => ?_) fun z => by rw [z, Bool.true_or]⟩
        rw [z, Bool.false_or]
        exact r
      · cases hb
    · cases hb
  | .non :: _, _, _, _, hb => by cases hb
  | .bl _ :: _, _, _, _, hb => by cases hb
  | .int _ :: _, _, _, _, hb => by cases hb
  | .str _ :: _, _, _, _, hb => by cases hb
  | .fn _ :: _, _, _, _, hb => by cases hb
  | .tup _ :: _, _, _, _, hb => by cases hb
  | .lst _ :: _, _, _, _, hb => by cases hb
  | .dct _ :: _, _, _, _, hb => by cases hb
  | .dcT _ :: _, _, _, _, hb => by cases hb
  | .ins _ _ :: _, _, _, _, hb => by cases hb
  | .dx _ :: _, _, _, _, hb => by cases hb
  | .tupP _ :: _, _, _, _, hb => by cases hb
def rIsi3 (K : PySem.W.Frag) : List V → Hp → VK → Prop := fun xs H Q => My.rIsiG K xs H Q ∨ rIsiK K xs H Q
theorem callIsi3 (K : PySem.W.Frag) {X : Cx} (e : X.K = K := by rfl) : CallR X (.builtin "isinstance") (rIsi3 K) := e ▸ My.callIsi.or call_isiK
theorem spIsi : OpSpec K (rIsi3 K) gIsi := OpSpec.read fun N H vs ds k Q hd hg q => by
  unfold gIsi at hg
  split at hg
  · obtain ⟨v, w, rfl, h1, h2⟩ := hd.two
    have h2' : Hd N K H w (.ty _) := h2
    cases h2'
    obtain ⟨hs, hm, hk⟩ := hg
    obtain ⟨n, e⟩ := Option.isSome_iff_exists.mp hs
    exact .inl <| .inl ⟨v, .ty _, _, _, _, rfl, .ty _, ty_of h1 e, kit_ty (kit_isiB e hm), q _ hk _ (.bl _)⟩
  · obtain ⟨v, w, rfl, h1, h2⟩ := hd.two
    obtain ⟨a, xs, rfl, h3, h4⟩ := see_tup h2
    obtain ⟨hs, b, hb, hk⟩ := hg
    obtain ⟨n, e⟩ := Option.isSome_iff_exists.mp hs
    obtain ⟨us, p, r⟩ := isiL_ok e h4 hb
    rcases h3 with h3 | ⟨o, its, nn, hk2, hc, hd2, hz, hv⟩
    · exact .inl <| .inr ⟨v, a, xs, _, us, b, rfl, h3, p, ty_of h1 e, r, q _ hk _ (.bl _)⟩
    · have e2 := ClsV.all p hv
      obtain ⟨oc, od, odt, osl⟩ := o
      cases hc
      cases hd2
      exact .inr ⟨v, a, od, us, nn, osl, _, b, rfl, by rw [← e2, Array.toArray_toList]; exact hk2, ty_of h1 e, r, q _ hk _ (.bl _)⟩
  · cases hg
end
end Wl
namespace Wl
open PySem PySem.Spec PyProof.Rows L2 RZ
open LamX (ExtN)
def wSetIx (i : Nat) (fi fv : WE) : WS := fun e k => fv e (fun r e1 => ∃ x e2, frz r e1 = some (x, e2) ∧ (∃ ys, e2[i]? = some (some (.l ys))) ∧ fi e2 (fun r2 e3 => ∃ j xs n, r2 = .d (.int j) ∧ e3[i]? = some (some (.l xs)) ∧ ixN xs.length j = some n ∧ k.nx (e3.set i (some (.l (xs.set n x))))) k.ex) k.ex
def putD (f : Str) (v : D) : List (Str × D) → List (Str × D)
  | [] => [(f, v)]
  | (g, x) :: r => if g = f then (g, v) :: r else (g, x) :: putD f v r
def wSto (i : Nat) (P : Addr → Prop) (f : Str) (fv : WE) : WS := fun e k => fv e (fun r e1 => ∃ x e2 C fs, frz r e1 = some (x, e2) ∧ e2[i]? = some (some (.o C fs)) ∧ P C ∧ fs.length < 1000 ∧ k.nx (e2.set i (some (.o C (putD f x fs))))) k.ex
def asgL : List Nat → List R → En → En
  | i :: is, r :: rs, e => asgL is rs (asg i r e)
  | _, _, e => e
def isNoS : R → Bool
  | .s _ => false
  | _ => true
def wPar (is : List Nat) (fr : WA) : WS := fun e k => fr e (fun rs e1 => rs.length = is.length ∧ rs.all isNoS = true ∧ k.nx (asgL is rs e1)) k.ex
def excF (ns : List Str) (w : Str) (ds : List D) : List (Str × D) := ("word", .str w) :: ns.zip ds
def wRaise (C : Addr) (ns : List Str) (w : Str) (fr : WA) : WS := fun e k => fr e (fun rs e1 => ∃ ds, allD rs = some ds ∧ ds.length = ns.length ∧ k.ex C (excF ns w ds) e1) k.ex
section
variable {T : Cxt} {K : PySem.W.Frag} {W : WX} {L : Nat → Bool} {F : Nat → Option V} {M : Addr → Prop} {σ : St} {H : Hp} {e : En} {k : WEnds} {D : Ends}
theorem liftS_setIx {i : Nat} {fi fv : WE} (h : liftS T K W L (wSetIx i fi fv) D σ H) : tAsg (lift T K W fv) (gSub (tVar i) (lift T K W fi) rSetL) D σ H := by
  obtain ⟨M, F, e, k, lf, fx, rp, hf, s⟩ := h
  refine ⟨M, e, _, _, rp, hf, fun r e1 ⟨x, e2, hz, ⟨ys, hy⟩, hf⟩ v H1 p k1 _ => ?_, s.xk fx⟩
  obtain ⟨p2, o2, _⟩ := p.frz hz
  obtain ⟨a, vs, hv, _, _⟩ := p2.toRep.lstAt hy
  have k2 : Keep T (Own σ e) H (Own σ e2) H1 := (keep_toRep k1).sub o2
  have hx : Hd (fun a => M a ∨ Own σ e2 a) K H1 v x := (show Hd _ K H1 v x from p2.val 0 v _ rfl rfl).sub fun a z => z.imp .inl id
  refine ⟨.ref a, hv, M, e2, _, _, p2.toRep, hf, fun r2 e3 ⟨j, xs, n, hr, hi, hn, hk⟩ w H2 p3 k3 _ => ?_, (s.xk fx).step (fun _ z => z) k2⟩
  subst hr
  cases p3.int
  obtain ⟨a', ws, hv', ha', hd⟩ := p3.toRep.lstAt hi
  rw [hv] at hv'
  cases hv'
  have hx2 := Hd.tr (Rep.tr (keep_toRep k3) p2.toRep.dom) hx
  obtain ⟨p4, k4⟩ := p3.toRep.putL hi hv (hd.set n hx2)
  exact ⟨a, ws, j, n, rfl, rfl, ha', by rw [hd.len]; exact hn, s.nx _ hk σ _ fx p4 ((k2.trans (keep_toRep k3)).trans k4)⟩
theorem putF_hd {N : Addr → Prop} {f : Str} {v : V} {x : Wl.D} (hv : Hd N K H v x) : ∀ {gs : List (Str × V)} {fs : List (Str × Wl.D)}, gs.map (·.1) = fs.map (·.1) → HdL N K H (gs.map (·.2)) (fs.map (·.2)) →
    (putF f v gs).map (·.1) = (putD f x fs).map (·.1) ∧ HdL N K H ((putF f v gs).map (·.2)) ((putD f x fs).map (·.2))
  | [], [], _, _ => ⟨rfl, .cons hv .nil⟩
  | (a, u) :: gs, (b, y) :: fs, e, hd => by
    simp only [List.map_cons, List.cons.injEq] at e hd
    obtain ⟨e1, e2⟩ := e
    subst e1
    cases hd with
    | cons h1 h2 =>
      unfold putF putD
      by_cases c : a = f
      · rw [if_pos c, if_pos c]
        exact ⟨by simp [e2], .cons hv h2⟩
      · rw [if_neg c, if_neg c]
        obtain ⟨z1, z2⟩ := putF_hd hv e2 h2
        exact ⟨by simp only [List.map_cons, z1], .cons h1 z2⟩
  | [], _ :: _, e, _ => by simp at e
  | _ :: _, [], e, _ => by simp at e
theorem liftS_sto {i : Nat} {P : Addr → Prop} {f : Str} {fv : WE} (c : ∀ C, P C → Cls K C ∧ NoAttr K C f) (h : liftS T K W L (wSto i P f fv) D σ H) : sFld K (tVar i) (lift T K W fv) f D σ H := by
  obtain ⟨M, F, e, k, lf, fx, rp, hf, s⟩ := h
  refine ⟨M, e, _, _, rp, hf, fun r e1 ⟨x, e2, C, fs, hz, hi, hP, hl, hk⟩ v H1 p k1 _ => ?_, s.xk fx⟩
  obtain ⟨p2, o2, _⟩ := p.frz hz
  obtain ⟨w, hw, a, dx, gs, rfl, h1, h2, h3⟩ := p2.toRep.at_ i _ hi
  have hx : Hd (fun a => M a ∨ Own σ e2 a) K H1 v x := (show Hd _ K H1 v x from p2.val 0 v _ rfl rfl).sub fun a z => z.imp .inl id
  obtain ⟨z1, z2⟩ := putF_hd (f := f) hx h2 h3
  obtain ⟨p4, k4⟩ := p2.toRep.write (o' := .ins C dx (putF f v gs)) (s' := .o C (putD f x fs)) hi rfl hw rfl fun N' t => ⟨a, dx, _, rfl, upd_same, z1, z2.tr t⟩
  have hl2 : gs.length < 1000 := by
    have z := congrArg List.length h2
    simp only [List.length_map] at z
    omega
  exact ⟨.ref a, hw, a, C, dx, gs, rfl, h1, (c C hP).1, (c C hP).2, hl2, s.nx _ hk σ _ fx p4 (((keep_toRep k1).sub o2).trans k4)⟩
/-- the first of several results is stored -/
theorem Reps.asg1 {i : Nat} {v : V} {r : Wl.R} {vs : List V} {rs : List Wl.R} (p : Reps T K M σ H e (v :: vs) (r :: rs)) (hr : isNoS r = true) (hs : rs.all isNoS = true) :
    Reps T K M (σ.set i (some v)) H (Wl.asg i r e) vs rs ∧ ∀ a, Own (σ.set i (some v)) (Wl.asg i r e) a ∨ OwnR vs rs a → Own σ e a ∨ OwnR (v :: vs) (r :: rs) a := by
  have one : Reps T K (fun a => M a ∨ OwnR vs rs a) σ H e [v] [r] := by
    have eqv : (fun a => (M a ∨ OwnR vs rs a) ∨ OwnR [v] [r] a) = fun a => M a ∨ OwnR (v :: vs) (r :: rs) a := by
      funext a
      refine propext ⟨fun z => ?_, fun z => ?_⟩
      · rcases z with (z | z) | z
        · exact .inl z
        · exact .inr (ownR_cons.mpr (.inr z))
        · exact .inr (ownR_cons.mpr (.inl z))
      · rcases z with z | z
        · exact .inl (.inl z)
        · rcases ownR_cons.mp z with z | z
          · exact .inr z
          · exact .inl (.inr z)
    refine ⟨by rw [eqv]; exact p.rep, rfl, fun j w t h1 h2 => ?_, fun j j' s t a h1 h2 h3 h4 => ?_, fun a z y => ?_⟩
    · cases j with
      | zero =>
        have z := p.val 0 w t (by simpa using h1) (by simpa using h2)
        exact z.sub fun a y => y.imp (fun y => by have := congrFun eqv a; rw [← this]; exact y) id
      | succ j => simp at h1
    · cases j with
      | zero =>
        cases j' with
        | zero => rfl
        | succ j' => simp at h2
      | succ j => simp at h1
    · rcases y with y | ⟨j, s, y1, y2⟩
      · exact p.new a (ownR_cons.mpr (.inl z)) y
      · obtain ⟨s0, e1, e2⟩ := ownR_one.mp z
        have := p.inj 0 (j + 1) s0 s a (by simpa using e1) (by simpa using y1) ⟨v, rfl, e2⟩ (by simpa using y2)
        cases this
  have hni : r ≠ .s i := fun z => by rw [z] at hr; cases hr
  obtain ⟨q, o⟩ := one.asg' (i := i) hni
  have sub : ∀ a, (M a ∨ OwnR vs rs a) ∨ Own (σ.set i (some v)) (Wl.asg i r e) a → (M a ∨ OwnR (v :: vs) (r :: rs) a) ∨ Own σ e a := fun a z => by
    rw [ownR_cons]
    rcases z with (z | z) | z
    · exact .inl (.inl z)
    · exact .inl (.inr (.inr z))
    · rcases o a z with z | z
      · exact .inr z
      · exact .inl (.inr (.inl z))
  refine ⟨⟨q, by simpa using p.len, fun j w t h1 h2 => ?_, fun j j' s t a h1 h2 h3 h4 => ?_, fun a z => p.new a (ownR_cons.mpr (.inr z))⟩, fun a z => ?_⟩
  · have z := p.val (j + 1) w t (by simpa using h1) (by simpa using h2)
    cases t with
    | d x => exact Hd.sub sub z
    | s n =>
      have := List.all_eq_true.mp hs _ (List.mem_of_getElem? h2)
      cases this
    | own s => exact ⟨z.1, z.2.sub sub⟩
  · have := p.inj (j + 1) (j' + 1) s t a (by simpa using h1) (by simpa using h2) (by simpa using h3) (by simpa using h4)
    omega
  · rw [ownR_cons]
    rcases z with z | z
    · exact (o a z).imp id .inl
    · exact .inr (.inr z)
def setL : List Nat → List V → St → St
  | i :: is, v :: vs, σ => setL is vs (σ.set i (some v))
  | _, _, σ => σ
theorem Reps.asgs : ∀ {is : List Nat} {vs : List V} {rs : List Wl.R} {σ : St} {e : En}, (∀ i ∈ is, L i = false) → (∀ j v, F j = some v → L j = true) → FixOk F σ → Reps T K M σ H e vs rs → rs.length = is.length → rs.all isNoS = true →
    Rep T K M (setL is vs σ) H (asgL is rs e) ∧ FixOk F (setL is vs σ) ∧ ∀ a, Own (setL is vs σ) (asgL is rs e) a → Own σ e a ∨ OwnR vs rs a
  | [], vs, [], σ, e, _, _, fx, p, _, _ => by
    cases vs with
    | nil => exact ⟨p.toRep, fx, fun a z => .inl z⟩
    | cons v vs => have := p.len; simp at this
  | i :: is, vs, r :: rs, σ, e, hL, lf, fx, p, hl, hs => by
    cases vs with
    | nil => have := p.len; simp at this
    | cons v vs =>
      rw [List.all_cons, Bool.and_eq_true] at hs
      obtain ⟨q, o⟩ := p.asg1 (i := i) hs.1 hs.2
      obtain ⟨z1, z2, z3⟩ := Reps.asgs (fun j hj => hL j (List.mem_cons_of_mem _ hj)) lf (fix_set lf (hL i List.mem_cons_self) fx) q (by simpa using hl) hs.2
      exact ⟨z1, z2, fun a z => o a (z3 a z)⟩
  | [], _, _ :: _, _, _, _, _, _, _, hl, _ => by simp at hl
  | _ :: _, _, [], _, _, _, _, _, _, hl, _ => by simp at hl
theorem liftS_par {i j : Nat} {fr : WA} (hi : L i = false) (hj : L j = false) (h : liftS T K W L (wPar [i, j] fr) D σ H) : tPar i j (liftA T K W fr) D σ H := by
  obtain ⟨M, F, e, k, lf, fx, rp, hf, s⟩ := h
  refine ⟨M, e, _, _, rp, hf, fun rs e1 ⟨hl, hs, hk⟩ vs H1 p k1 _ => ?_, s.xk fx⟩
  obtain ⟨z1, z2, z3⟩ := Reps.asgs (is := [i, j]) (fun n hn => by rcases List.mem_cons.mp hn with rfl | hn; exact hi; rw [List.mem_singleton.mp hn]; exact hj) lf fx p hl hs
  have lv := p.len
  rw [hl] at lv
  match vs, lv with
  | [v, w], _ => exact ⟨v, w, rfl, s.nx _ hk _ H1 z2 z1 (k1.sub z3)⟩
theorem gNames_set : ∀ {is : List Nat} {vs : List V} {σ : St} {H : Hp} {Q : St → Hp → Prop}, vs.length = is.length → Q (setL is vs σ) H → gNames is vs σ H Q
  | [], [], _, _, _, _, q => ⟨rfl, q⟩
  | i :: is, v :: vs, σ, H, Q, hl, q => ⟨v, vs, rfl, gNames_set (by simpa using hl) q⟩
  | [], _ :: _, _, _, _, hl, _ => by simp at hl
  | _ :: _, [], _, _, _, hl, _ => by simp at hl
/-- a, b, c = x, y, z by way of a tuple -/
theorem liftS_parT {is : List Nat} {fr : WA} (hL : ∀ i ∈ is, L i = false) (hn : is.length ≤ 1000) (h : liftS T K W L (wPar is fr) D σ H) : tAsg (tTup (liftA T K W fr)) (gTup K is.length (gNames is)) D σ H := by
  obtain ⟨M, F, e, k, lf, fx, rp, hf, s⟩ := h
  refine ⟨M, e, _, _, rp, hf, fun rs e1 ⟨hl, hs, hk⟩ vs H1 p k1 _ => ⟨My.sz (by rw [p.len, hl]; exact hn), fun q hq => ?_⟩, s.xk fx⟩
  have p' := p.new1 (o := .tup vs) hq
  obtain ⟨z1, z2, z3⟩ := Reps.asgs (is := is) hL lf fx p' hl hs
  exact ⟨q, vs, rfl, SqT.of upd_same, by rw [p.len, hl], gNames_set (by rw [p.len, hl]) (s.nx _ hk _ _ z2 z1 ((k1.trans (keep_new hq)).sub z3))⟩
theorem exc_fin {C dd : Addr} {gs : List (Str × V)} {fs : List (Str × Wl.D)} (s : SOk T K W F M σ H e k D) (fx : FixOk F σ) {H1 : Hp} {e1 : En} (r : Rep T K M σ H1 e1) (kk : Keep T (Own σ e) H (Own σ e1) H1) (hd : H1 dd = none) (hn : gs.map (·.1) = fs.map (·.1)) (hl : HdL (fun a => M a ∨ Own σ e1 a) K H1 (gs.map (·.2)) (fs.map (·.2))) (hk : k.ex C fs e1) : W (.ref C) (some dd) σ (upd H1 dd (.xd gs)) :=
  s.ex C fs e1 hk dd gs σ _ fx (r.new hd) upd_same hn (HdL.new hd hl) (kk.trans (keep_new hd))
theorem liftS_raise1 {C : Addr} {n w : Str} {fr : WA} (h : liftS T K W L (wRaise C [n] w fr) D σ H) : liftA T K W fr σ H (My.rMkO C (My.spExc1 C n w) (fun cls d H' => W cls d σ H')) := by
  obtain ⟨M, F, e, k, lf, fx, rp, hf, s⟩ := h
  refine ⟨M, e, _, _, rp, hf, fun rs e1 ⟨ds, h1, h2, hk⟩ vs H1 p k1 _ => ?_, s.xk fx⟩
  have z := allD_map h1
  subst z
  match ds, h2 with
  | [x], _ =>
    have hd := Reps.hdL (ds := [x]) p
    cases hd with
    | cons a b =>
    cases b
    exact My.s_mk1 fun d hd => exc_fin (fs := excF [n] w [x]) s fx p.toRep (k1.sub fun _ => .inl) hd rfl (.cons (.str _) (.cons a .nil)) hk
end
section
variable {X : Cx} {T : Cxt} {K : PySem.W.Frag} {W : WX} {L : Nat → Bool} {pos : Pos} {e o i : Expr} {fe fi : WE} {fr : WA}
theorem w_setIx (n : Nat) {x : Str} {px : Pos} (hv : PE X e (lift T K W fe)) (hi : PE X i (lift T K W fi)) (hN : X.N[n]? = some x := by rfl) (hvis : Vis X.env.scope x := by first | exact Or.inl rfl | exact Or.inr (Or.inl rfl) | exact Or.inr (Or.inr rfl))
    (hd : (x == ("__debug__" : Str)) = false := by decide) (hcd : (x == ("__classdict__" : Str)) = false := by decide) {ps : Pos}
    (ha : ∀ v, assign (.Subscript (.Name x px) i ps) X.env v = (do
      let ov ← holding [v] (eval (.Name x px) X.env)
      let iv ← holding [v, ov] (eval i X.env)
      standAt ps
      holding [v, ov, iv] (setItem ov iv v)
      release [v, ov, iv] []) := by intro _; rfl)
    (hs : swapsWithSole [.Subscript (.Name x px) i ps] e pos.line X.env = pure false := by rfl) (hw : swappedStores [.Subscript (.Name x px) i ps] e X.env = pure none := by rfl)
    (h1 : (assignEach [.Subscript (.Name x px) i ps] X.env).map (·.2) = [assign (.Subscript (.Name x px) i ps) X.env] := by rfl) : PS X (.Assign [.Subscript (.Name x px) i ps] e pos) (liftS T K W L (wSetIx n fi fe)) := PS.weak (ps_asg hv (pg_sub (pe_var hN hvis hd hcd) hi set_list ha) hs hw h1) fun _ _ _ => liftS_setIx
theorem w_sto (n : Nat) {x f : Str} {px pos' : Pos} {P : Addr → Prop} (eK : X.K = K) (c : ∀ C, P C → Cls K C ∧ NoAttr K C f) (hv : PE X e (lift T K W fe)) (hN : X.N[n]? = some x := by rfl) (hvis : Vis X.env.scope x := by first | exact Or.inl rfl | exact Or.inr (Or.inl rfl) | exact Or.inr (Or.inr rfl))
    (hd : (x == ("__debug__" : Str)) = false := by decide) (hcd : (x == ("__classdict__" : Str)) = false := by decide) (hs : swapsWith e (some (.Attribute (.Name x px) f pos')) pos.line X.env = pure false := by rfl) : PS X (.Assign [.Attribute (.Name x px) f pos'] e pos) (liftS T K W L (wSto n P f fe)) := by
  subst eK
  exact PS.weak (ps_fld (pe_var hN hvis hd hcd) hv hs) fun _ _ _ => liftS_sto c
theorem w_par {a b : Expr} {n m : Nat} {x y : Str} {px py pt : Pos} {kt k2 pt2} (hc : X.calm = true) (hN : X.N.Nodup) (hn : L n = false) (hm : L m = false) (hi : X.N[n]? = some x) (hj : X.N[m]? = some y) (hij : n ≠ m)
    (hx : X.env.scope.names.lookup x = some .local) (hy : X.env.scope.names.lookup y = some .local) (ha : PA X [a, b] (liftA T K W fr))
    (hw : swappedStores [.Tuple [.Name x px, .Name y py] kt pt] (.Tuple [a, b] k2 pt2) X.env = pure (some [x, y]))
    (hs : swapsWithSole [.Tuple [.Name x px, .Name y py] kt pt] (.Tuple [a, b] k2 pt2) pos.line X.env = pure false := by rfl) :
    PS X (.Assign [.Tuple [.Name x px, .Name y py] kt pt] (.Tuple [a, b] k2 pt2) pos) (liftS T K W L (wPar [n, m] fr)) := PS.weak (ps_par hc hN hi hj hij hx hy ha hw hs) fun _ _ _ => liftS_par hn hm
theorem w_parT {es ts : List Expr} {is : List Nat} {kt k2 pt pt2} (eK : X.K = K) (hL : ∀ i ∈ is, L i = false) (hc : X.calm = true) (hg : PGs X ts (gNames is)) (ha : PA X es (liftA T K W fr)) (hlen : is.length ≤ 1000 := by decide) (hn : (assignEach ts X.env).length = is.length := by rfl) (hst : (assignEach ts X.env).findIdx? (·.1) = none := by rfl)
    (hs : swapsWithSole [.Tuple ts kt pt] (.Tuple es k2 pt2) pos.line X.env = pure false := by rfl) (hw : swappedStores [.Tuple ts kt pt] (.Tuple es k2 pt2) X.env = pure none := by rfl)
    (h1 : (assignEach [.Tuple ts kt pt] X.env).map (·.2) = [assign (.Tuple ts kt pt) X.env] := by rfl) : PS X (.Assign [.Tuple ts kt pt] (.Tuple es k2 pt2) pos) (liftS T K W L (wPar is fr)) := by
  subst eK
  exact PS.weak (ps_asg (pe_tup ha) (pg_tup hc hg hn hst) hs hw h1) fun _ _ _ => liftS_parT hL hlen
theorem w_raise1 {C : Addr} {n w : Str} (hc : X.calm = true) (tk : Takes X W) (mk : PMk X e (tMkO C (My.spExc1 C n w) [] (liftA T K W fr))) : PS X (.Raise (some e) none pos) (liftS T K W L (wRaise C [n] w fr)) := PS.weak (ps_raise hc tk mk) fun _ _ _ h => liftS_raise1 h
end
end Wl
namespace Wl
open PySem PySem.Spec PyProof.Rows L2 RZ
open LamX (ExtN)
/-- the field that tells what was wrong -/
def fldD (w : Str) (fs : List (Str × D)) : Option D := match My.fldName w with
  | some n => fs.lookup n
  | none => if My.isGate w = true then (match fs.lookup ("name" : Str), fs.lookup ("users" : Str) with
    | some n, some u => some (.tup [n, u])
    | _, _ => none) else some .non
/-- what is told of the classes -/
structure XCls (K : PySem.W.Frag) (CN CA : Addr) (C : Addr) (w : Str) : Prop where
  ok : My.XOk K C w
  m : PySem.W.exmOne K (.ref C) (.ref CN) = some true ∨ (PySem.W.exmOne K (.ref C) (.ref CN) = some false ∧ PySem.W.exmOne K (.ref C) (.ref CA) = some true)
/-- what was assigned still is -/
def stayB : En → En → Bool
  | [], _ => true
  | none :: e, _ :: e' => stayB e e'
  | some _ :: e, some _ :: e' => stayB e e'
  | _, _ => false
theorem stayB_ok : ∀ {e e' : En}, stayB e e' = true → Stay e e'
  | [], _, _ => fun i s h => by simp at h
  | none :: e, o :: e', h => fun i s q => by
    cases i with
    | zero => simp at q
    | succ i =>
      obtain ⟨s', z⟩ := stayB_ok (e := e) (e' := e') (by simpa [stayB] using h) i s (by simpa using q)
      exact ⟨s', by simpa using z⟩
  | some _ :: e, some t :: e', h => fun i s q => by
    cases i with
    | zero => exact ⟨t, rfl⟩
    | succ i =>
      obtain ⟨s', z⟩ := stayB_ok (e := e) (e' := e') (by simpa [stayB] using h) i s (by simpa using q)
      exact ⟨s', by simpa using z⟩
  | some _ :: e, none :: e', h => by simp [stayB] at h
  | some _ :: e, [], h => by simp [stayB] at h
  | none :: e, [], h => by simp [stayB] at h
def wTried (P : Addr → Str → Prop) (f : WE) : WE := fun e k _ => f e (fun r e1 => ∃ x e2, frz r e1 = some (x, e2) ∧ k (.d (.tup [.str "", x])) e2)
  (fun C fs e1 => stayB e e1 = true ∧ ∃ w x, P C w ∧ fs.lookup ("word" : Str) = some (.str w) ∧ fldD w fs = some x ∧ k (.d (.tup [.str w, x])) e1)
section
variable {T : Cxt} {K : PySem.W.Frag} {W : WX} {M : Addr → Prop} {σ : St} {H H' : Hp} {e : En} {Q : VK}
theorem Rep.own4 (h : Rep T K M σ H e) {a : Addr} {o : HO} (ho : Own σ e a) (q : H a = some o) : (∃ xs, o = .lst xs) ∨ (∃ xs, o = .dK xs) ∨ (∃ xs, o = .dT xs) ∨ ∃ C dx fs, o = .ins C dx fs := by
  obtain ⟨i, s, h1, h2, w, h3, hs⟩ := ho
  obtain ⟨v, e1, r⟩ := h.at_ i s h1
  rw [h3] at e1
  cases e1
  cases s with
  | b C xs ls =>
    obtain ⟨a', dx, ys, e0, g, _, _, _, hl⟩ := r
    rcases hs with hs | ⟨xs, hs⟩
    · rw [hs] at e0
      cases e0
      cases q.symm.trans g
      exact .inr (.inr (.inr ⟨_, _, _, rfl⟩))
    · obtain ⟨zs, g2, _⟩ := hl a xs hs
      cases q.symm.trans g2
      exact .inl ⟨_, rfl⟩
  | d x => cases h2
  | l xs => obtain ⟨a', ys, e0, g, _⟩ := r; cases hs.symm.trans e0; cases q.symm.trans g; exact .inl ⟨_, rfl⟩
  | m xs => obtain ⟨a', ys, e0, g, _⟩ := r; cases hs.symm.trans e0; cases q.symm.trans g; exact .inr (.inl ⟨_, rfl⟩)
  | mT xs => obtain ⟨a', ys, e0, g, _⟩ := r; cases hs.symm.trans e0; cases q.symm.trans g; exact .inr (.inr (.inl ⟨_, rfl⟩))
  | o C xs => obtain ⟨a', dx, ys, e0, g, _⟩ := r; cases hs.symm.trans e0; cases q.symm.trans g; exact .inr (.inr (.inr ⟨_, _, _, rfl⟩))
theorem Rep.ext (h : Rep T K M σ H e) (x : ExtN H H') (t : LamX.Tabs T.1 H') : Rep T K M σ H' e := by
  have st : ∀ a o, H a = some o → notTbl o → H' a = some o := fun a o q n => x a o q n
  refine ⟨h.len, fun i s y => ?_, h.inj, h.apart, fun a z => ?_, t, fun a z => ?_⟩
  · obtain ⟨v, e1, q⟩ := h.at_ i s y
    exact ⟨v, e1, q.tr ⟨fun a xs q => st a _ q (fun _ z => nomatch z), fun a o q _ n => st a o q n, fun _ _ n => n⟩ fun a o _ _ q m => st a o q fun ps z => by rw [z] at m; exact m⟩
  · obtain ⟨u, q, n⟩ := h.dom a z
    exact ⟨u, st a u q n, n⟩
  · obtain ⟨o, u, q⟩ := h.tabs.2 a z
    exact ⟨o, u, st a _ q (fun _ z => nomatch z)⟩
theorem Rep.same (h : Rep T K M σ H e) (st : ∀ b o, H b = some o → H' b = some o) : Rep T K M σ H' e := by
  refine ⟨h.len, fun i s x => ?_, h.inj, h.apart, fun a z => ?_, Tbs.ext h.tabs st⟩
  · obtain ⟨v, e1, q⟩ := h.at_ i s x
    exact ⟨v, e1, q.tr ⟨fun a xs q => st a _ q, fun a u q _ _ => st a u q, fun a _ n => n⟩ fun a u _ _ q _ => st a u q⟩
  · obtain ⟨u, q, n⟩ := h.dom a z
    exact ⟨u, st a u q, n⟩
theorem keep_same {F : Addr → Prop} (st : ∀ b o, H b = some o → H' b = some o) : Keep T F H F H' := ⟨fun a xs q => st a _ q, fun a u q _ _ => st a u q, fun a _ n => n, fun _ a ps q => st a _ q, fun a ⟨u, q, n⟩ => ⟨u, st a u q, n⟩⟩
theorem Hd.same {N : Addr → Prop} {v : V} {d : D} (st : ∀ b o, H b = some o → H' b = some o) (q : Hd N K H v d) : Hd N K H' v d := q.tr ⟨fun a xs q => st a _ q, fun a u q _ _ => st a u q, fun a _ n => n⟩
/-- _law_tried(lambda: e) -/
theorem lift_tried {Tt : List (Addr × Str)} {Z : Addr → Prop} {CN CA : Addr} {P : Addr → Str → Prop} {f : WE} (hT : Tt ≠ []) (hP : ∀ C w, P C w → XCls K CN CA C w) (h : lift (Tt, Z) K W (wTried P f) σ H Q) :
    LamX.tLam Tt (My.TTt K CN CA) (fun E => lift ([], Z) K (fun cls d _ H => E cls d H) f) σ H Q := by
  obtain ⟨M, e, k, kx, rp, hf, q, _⟩ := h
  refine ⟨rp.tabs.1, fun H1 x1 t1 => ?_⟩
  have r1 := rp.ext x1 t1
  have r2 : Rep ([], Z) K M σ H1 e := ⟨r1.len, r1.at_, r1.inj, r1.apart, r1.dom, fun _ h => (by cases h), r1.tabs.2⟩
  -- what is kept, and the tables, behind the question
  have kp : ∀ {F : Addr → Prop} {H2 : Hp}, Keep ([], Z) (Own σ e) H1 F H2 → Keep (Tt, Z) (Own σ e) H F H2 := fun {F H2} k => by
    exact ⟨fun a xs q => k.tup a xs (x1 a _ q (fun _ z => nomatch z)), fun a o q n t => k.keep a o (x1 a o q t) n t, fun a ⟨o, q, n⟩ => k.out a ⟨o, x1 a o q n, n⟩, fun z => (hT z).elim, fun a ⟨o, q, n⟩ => k.dom a ⟨o, x1 a o q n, n⟩⟩
  have tb : ∀ {e' : En} {M' : Addr → Prop} {H2 : Hp} {F : Addr → Prop}, Keep ([], Z) (Own σ e) H1 F H2 → Rep ([], Z) K M' σ H2 e' → Rep (Tt, Z) K M' σ H2 e' := fun k r => by
    refine ⟨r.len, r.at_, r.inj, r.apart, r.dom, (Tabs.keep (T := (Tt, fun _ => False)) ⟨t1, fun _ h => h.elim⟩ fun b o q m1 m2 m3 m4 => ?_).1, r.tabs.2⟩
    by_cases t : notTbl o
    · exact k.keep b o q (fun z => by
        rcases r1.own4 z q with ⟨_, e⟩ | ⟨_, e⟩ | ⟨_, e⟩ | ⟨_, _, _, e⟩
        · exact m1 _ e
        · exact m2 _ e
        · exact m3 _ e
        · exact m4 _ _ _ e) t
    · have ⟨ps, e1⟩ : ∃ ps, o = .tbl ps := by
        cases o with
        | tbl ps => exact ⟨ps, rfl⟩
        | _ => exact (t fun _ z => nomatch z).elim
      subst e1
      exact k.tbl rfl b ps q
  have fin : ∀ {v : V} {H2 : Hp} {e2 : En} {x : D} {w : Str} {p : Addr}, Rep (Tt, Z) K M σ H2 e2 → Hd (fun a => M a ∨ Own σ e2 a) K H2 v x → Keep (Tt, Z) (Own σ e) H (Own σ e2) H2 → Stay e e2 → H2 p = none → k (.d (.tup [.str w, x])) e2 → Q (.ref p) (upd H2 p (.tup [.str w, v])) := fun r hd kk s hp hk =>
    q _ _ hk _ _ ((r.new hp).d (.tup (.inl upd_same) (.cons (.str _) (.cons (Hd.new hp hd) .nil)))) ((kk.trans (keep_new hp)).sub fun _ z => z.elim id fun z => (ownR_d z).elim) s
  refine ⟨M, e, _, _, r2, hf, fun r e1 ⟨x, e2, hz, hk⟩ v H2 p k2 s2 => ⟨My.szb rfl, fun a ha => ?_⟩, fun C fs e1 ⟨hst, w, x, hp, hw, hx, hk⟩ dd gs H2 r hd hn hl k2 => ?_⟩
  · obtain ⟨p2, o2, s3⟩ := p.frz hz
    have k3 := (keep_toRep k2).sub o2
    exact fin (tb k3 p2.toRep) ((show Hd _ K H2 v x from p2.val 0 v _ rfl rfl).sub fun a z => z.imp .inl id) (kp k3) (s2.trans s3) ha hk
  · have X := hP C w hp
    obtain ⟨vw, g1, g2⟩ := lookup_hd hn hl hw
    cases g2.strI
    have st : ∀ {H3 : Hp}, My.Fr My.N0 H2 H3 → ∀ b o, H2 b = some o → H3 b = some o := fun f3 b o q => f3.keep b o q id
    have end_ : ∀ {H3 : Hp} {v : V}, My.Fr My.N0 H2 H3 → Hd (fun a => M a ∨ Own σ e1 a) K H3 v x → ∀ a, H3 a = none → Q (.ref a) (upd H3 a (.tup [.str w, v])) := fun f3 q a ha =>
      fin ((tb k2 r).same (st f3)) q ((kp k2).trans (keep_same (st f3))) (stayB_ok hst) ha hk
    refine ⟨C, dd, gs, w, rfl, rfl, X.ok, hd, g1, X.m, ?_⟩
    unfold fldD at hx
    split at hx
    · rename_i n e
      obtain ⟨v, g3, g4⟩ := lookup_hd hn hl hx
      exact .inl ⟨v, by unfold My.fldVal; first | (rw [e]; exact g3) | exact g3, fun H3 f3 => end_ f3 (g4.same (st f3))⟩
    · rename_i e
      split at hx
      · rename_i e2
        split at hx
        · rename_i n u en eu
          cases hx
          obtain ⟨n', h3, h4⟩ := lookup_hd hn hl en
          obtain ⟨u', h5, h6⟩ := lookup_hd hn hl eu
          refine .inr ⟨e2, n', u', h3, h5, fun H3 f3 p hp => end_ (f3.trans (My.Fr.new hp)) (.tup (.inl upd_same) (.cons (Hd.new hp (h4.same (st f3))) (.cons (Hd.new hp (h6.same (st f3))) .nil)))⟩
        · cases hx
      · rename_i e2
        cases hx
        refine .inl ⟨.non, by unfold My.fldVal; first | (rw [e]; simp only [e2]; rfl) | exact if_neg e2, fun H3 f3 => end_ f3 .non⟩
end
end Wl
namespace Wl
open PySem PySem.Spec PyProof.Rows L2 RZ
abbrev WO := En → (Option Int → En → Prop) → Kx → Prop
def liftO (T : Cxt) (K : PySem.W.Frag) (W : WX) (f : WO) : TO := fun σ H Q => ∃ M e k kx, Rep T K M σ H e ∧ f e k kx ∧
  (∀ b e', k b e' → ∀ H', Rep T K M σ H' e' → Keep T (Own σ e) H (Own σ e') H' → Stay e e' → Q b H') ∧ ExOk T K M σ H e W kx
def wNoP : WO := fun e k _ => k none e
def wPart (f : WE) : WO := fun e k kx => f e (fun r e1 => ∃ i, r = .d (.int i) ∧ k (some i) e1) kx
def gSl (x : D) (lo hi : Option Int) (k : R → Prop) : Prop := match x with
  | .lst xs => k (.own (.l (cutD xs lo hi)))
  | .tup xs => k (.d (.tup (cutD xs lo hi)))
  | .str z => z.length ≤ 16777216 ∧ k (.d (.str (cutS z lo hi)))
  | _ => False
def wSl (f : WE) (lo hi : WO) : WE := fun e k kx => f e (fun r e1 => lo e1 (fun l e2 => hi e2 (fun u e3 => ∃ x, see e3 r = some x ∧ gSl x l u fun r' => k r' e3) kx) kx) kx
section
variable {T : Cxt} {K : PySem.W.Frag} {W : WX} {L : Nat → Bool} {σ : St} {H : Hp}
theorem cut_hd {N : Addr → Prop} {vs : List V} {xs : List D} {lo hi : Option Int} (h : HdL N K H vs xs) : HdL N K H (cutV vs lo hi) (cutD xs lo hi) := by
  unfold cutV cutD
  rw [h.len]
  exact (h.drop _).take _
theorem liftO_no {Q : Option Int → Hp → Prop} (h : liftO T K W wNoP σ H Q) : tNoPart σ H Q := by
  obtain ⟨M, e, k, kx, r, hf, q, _⟩ := h
  exact q none e hf H r .refl .refl
theorem liftO_part {f : WE} {Q : Option Int → Hp → Prop} (h : liftO T K W (wPart f) σ H Q) : tPart (lift T K W f) σ H Q := by
  obtain ⟨M, e, k, kx, r, hf, q, x⟩ := h
  refine ⟨M, e, _, kx, r, hf, fun r e1 ⟨i, hr, hk⟩ v H1 p kk s => ?_, x⟩
  subst hr
  cases p.int
  exact ⟨i, rfl, q _ e1 hk H1 p.toRep (keep_toRep kk) s⟩
theorem lift_sl {f : WE} {lo hi : WO} {Q : VK} (h : lift T K W (wSl f lo hi) σ H Q) : tSl (My.rSlG K) (lift T K W f) (liftO T K W lo) (liftO T K W hi) σ H Q := by
  obtain ⟨M, e, k, kx, rp, hf, q, x⟩ := h
  refine ⟨M, e, _, kx, rp, hf, fun r e1 h1 v H1 p1 k1 s1 => ?_, x⟩
  refine ⟨_, e1, _, kx, p1.rep, h1, fun l e2 h2 H2 r2 k2 s2 => ?_, x.step (fun _ => .inl) (keep_toRep k1)⟩
  have k12 := (keep_toRep k1).trans k2
  have p2 := p1.cons (Reps.nil r2) (k2.sub fun _ z => z.elim id fun z => (ownR_nil z).elim) s2
  refine ⟨_, e2, _, kx, r2, h2, fun u e3 ⟨y, hs, hg⟩ H3 r3 k3 s3 => ?_, x.step (fun _ => .inl) k12⟩
  have p3 := p2.cons (Reps.nil r3) (k3.sub fun _ z => z.elim id fun z => (ownR_nil z).elim) s3
  have kk := k12.trans k3
  have ss := (s1.trans s2).trans s3
  have hd := p3.see1 hs
  have rr := p3.toRep
  have kE : Keep T (Own σ e) H (fun a => Own σ e3 a ∨ OwnR [v] [r] a) H3 := by
    refine ⟨kk.tup, kk.keep, fun a l n z => ?_, kk.tbl, kk.dom⟩
    rcases z with z | z
    · exact kk.out a l n z
    · exact k1.out a l n (.inr z)
  cases y with
  | lst xs =>
    obtain ⟨a, ys, rfl, h3, h4⟩ := hd
    refine My.s_slL h3 fun b hb => ?_
    exact q _ _ hg _ _ (rr.own hb rfl fun N' t => ⟨b, _, rfl, upd_same, (cut_hd (h4.sub fun _ z => z.imp .inl id)).tr t⟩) (kE.trans (keep_own p3 hb)) ss
  | tup xs =>
    obtain ⟨a, ys, rfl, h3, h4⟩ := see_tup hd
    refine .inr (.inl ⟨a, ys, rfl, h3.sq, fun e0 => ?_, fun _ b hb => ?_⟩)
    · refine q _ _ hg _ _ (rr.d (.tup h3 ?_)) (keep_dd kE) ss
      have z := cut_hd (lo := l) (hi := u) h4
      rw [My.cut_whole e0] at z
      exact z.sub fun _ z => z.imp .inl id
    · exact q _ _ hg _ _ ((rr.new hb).d (.tup (.inl upd_same) (HdL.new hb (cut_hd (h4.sub fun _ z => z.imp .inl id))))) ((keep_dd (w := .ref b) (x := .tup (cutD xs l u)) kE).trans (keep_new hb)) ss
  | str z =>
    cases see_str hd
    exact My.s_slS (by rw [sizeLine_eq]; exact hg.1) (q _ _ hg.2 _ _ (rr.d (.str _)) (keep_dd kE) ss)
  | _ => cases hg
def gAugI (p : Int → Int → Int) (x y : D) (k : D → Prop) : Prop := match x, y with
  | .int i, .int j => k (.int (p i j))
  | _, _ => False
end
section
variable {X : Cx} {T : Cxt} {K : PySem.W.Frag} {W : WX} {L : Nat → Bool} {e a : Expr} {es : List Expr} {f : WE} {fr : WA} {flo fhi : WO} {lo hi : Option Expr} {pos p2 : Pos}
theorem wo_none : PO X none (liftO T K W wNoP) := by
  have h : PO X none tNoPart := po_none
  exact ⟨fun pins s σ H Q I q => h.run pins s σ H Q I (liftO_no q)⟩
theorem wo_some (h : PE X e (lift T K W f)) : PO X (some e) (liftO T K W (wPart f)) := by
  have h' := po_some h
  exact ⟨fun pins s σ H Q I q => h'.run pins s σ H Q I (liftO_part q)⟩
theorem w_sl (he : PE X e (lift T K W f)) (hl : PO X lo (liftO T K W flo)) (hu : PO X hi (liftO T K W fhi)) (eK : X.K = K := by rfl) : PE X (.Subscript e (.Slice lo hi none p2) pos) (lift T K W (wSl f flo fhi)) := by
  subst eK
  exact PE.weak (pe_slice My.opSl he hl hu) fun _ _ _ => lift_sl
/-- x = [..] on one line -/
theorem w_setLc {i : Nat} {y : Str} {py : Pos} {elt tg iter : Expr} {ifs : List Expr} {scope : Scope} {own : List (Str × Nat)} {spos : Pos} {is : List Nat} {it : WI} {g : WG} {tt : WT} {te : WE} (hL : L i = false) (hc : X.calm = true) (hN : X.N.Nodup) (hy : X.N[i]? = some y) (hyl : X.env.scope.names.lookup y = some .local)
    (hsw : swapsWith (.ListComp elt [⟨tg, iter, ifs, 0⟩] scope pos) (some (.Name y py)) spos.line X.env = pure true) (hi : PI X tg iter (liftI T K W it)) (ok : BlkOk X.N X.env.scope scope own) (hv : ∀ i ∈ is, i ∈ own.map (·.2))
    (hg : ∀ (s : Shared) (H : Hp) (C : Addr) (cl : List (Str × Addr)) (fp : List Addr), PG (X.blk s H scope (compEnvC scope cl C X.env) fp) tg (liftG T K (fun _ => false) is g))
    (ht : ∀ (s : Shared) (H : Hp) (C : Addr) (cl : List (Str × Addr)) (fp : List Addr), PTs (X.blk s H scope (compEnvC scope cl C X.env) fp) ifs (liftT T K WF tt))
    (he : ∀ (s : Shared) (H : Hp) (C : Addr) (cl : List (Str × Addr)) (fp : List Addr), PE (X.blk s H scope (compEnvC scope cl C X.env) fp) elt (lift T K WF te)) (hs : ∀ x, foldedSetIterable iter X.env x = pure x := by intro _; rfl) :
    PS X (.Assign [.Name y py] (.ListComp elt [⟨tg, iter, ifs, 0⟩] scope pos) spos) (liftS T K W L (wAsg i (wLc it g tt te (own.map (·.2))))) := by
  refine PS.weak (PS.unl (ps_setLc hc hN hy hyl hsw hi ok hg ht he hs)) fun D σ H h => ?_
  obtain ⟨M, e, k, kx, rp, hf, q, x⟩ := liftS_asg hL h
  exact lift_lc hv ⟨M, e, k, kx, rp, hf, q, x⟩
end
def sp_lawW (K : PySem.W.Frag) (Tt : List (Addr × Str)) : Sp := fun vs H Q _ => ∃ (a : Addr) (ns : List Int), vs = [.ref a] ∧ SqL K H a (ns.map V.int) ∧ ns.length ≤ 63 ∧ LamX.Tabs Tt H ∧ ∀ H', Q (.bl true) H'
def lawEnds : WEnds := ⟨fun _ => False, fun r _ => r = .d (.bl true), fun _ => False, fun _ => False, fun _ _ _ => False⟩
theorem law_run {P : Program} {w : World} {K : PySem.W.Frag} {mg : Str → Option Value} {base : Heap} {qual : Str} {st : Stmt} {f : Addr} {N : List Str} {p : Str} (SC : FnScope N [p] (defScope st)) (Tt : List (Addr × Str)) {cdv : Value} {A : Around} {outer : List Env} {s : Shared} {H : Hp} {E : XK} {vs : List V} {Q : VK}
    (hbody : ∀ ns : List Int, ns.length ≤ 63 →
      Takes (cxOf (L2.CX P w) P w K mg base N qual (defScope st) f cdv A outer s H E) (fun cls d _ H' => EU (Zof H) E cls d H') → UnlW (Tt, Zof H) (fun cls d _ H' => EU (Zof H) E cls d H') →
      ∃ g, PSs (cxOf (L2.CX P w) P w K mg base N qual (defScope st) f cdv A outer s H E) (defBody st) (liftS (Tt, Zof H) K (fun cls d _ H' => EU (Zof H) E cls d H') (fun _ => false) g) ∧ g (startE N.length [.d (.lst (ns.map D.int))]) lawEnds) (h : sp_lawW K Tt vs H Q E) :
    ∃ t, PSs (cxOf (L2.CX P w) P w K mg base N qual (defScope st) f cdv A outer s H E) (defBody st) t ∧ t { nx := fun _ H' => Q .non H', rt := Q } (L2.start N vs) H := by
  obtain ⟨a, ns, rfl, hS, hl, hT, hk⟩ := h
  obtain ⟨g, hp, hg⟩ := hbody ns hl (takesU (X := cxOf (L2.CX P w) P w K mg base N qual (defScope st) f cdv A outer s H E) (takes_of rfl rfl rfl rfl)) (unlW (T := (Tt, Zof H)))
  have no : ∀ {σ : St} {b : Addr}, ¬ Own σ [some (S.d (.lst (ns.map D.int)))] b := fun ⟨i, s, h1, h2, _⟩ => by
    cases i with
    | zero => simp at h1; subst h1; cases h2
    | succ i => simp at h1
  have hd : Hd (fun _ => False) K H (.ref a) (.lst (ns.map D.int)) := by
    refine .lst ?_ (HdL.ints ns)
    rcases hS with h | h
    · exact .inl ⟨h, id⟩
    · exact .inr h
  have r0 : Rep T0 K (fun _ => False) ([V.ref a].map some) H ([S.d (.lst (ns.map D.int))].map some) := by
    refine ⟨rfl, fun i s h => ?_, fun i j s t b h1 h2 => ?_, fun _ h => h.elim, fun _ h => h.elim, Tbs0⟩
    · cases i with
      | zero => simp at h; subst h; exact ⟨_, rfl, Hd.sub (fun b z => z.elim id fun z => (no z).elim) hd⟩
      | succ i => simp at h
    · cases i with
      | zero => simp at h1; subst h1; cases h2
      | succ i => simp at h1
  have hN : ([S.d (.lst (ns.map D.int))] : List S).length ≤ N.length := by
    have hn := SC.pre
    cases N with
    | nil => simp at hn
    | cons _ _ => simp
  have r1 := (r0.start hN).1
  have r2 : Rep (Tt, Zof H) K (fun _ => False) ([V.ref a].map some ++ List.replicate (N.length - [V.ref a].length) none) H (startE N.length [.d (.lst (ns.map D.int))]) := ⟨r1.len, r1.at_, r1.inj, r1.apart, r1.dom, hT, fun _ h => h⟩
  refine ⟨_, hp, fun _ => False, fun _ => none, _, lawEnds, (fun _ _ h => nomatch h), (fun _ _ h => nomatch h), r2, hg, ⟨fun _ h => h.elim, fun _ h => h.elim, fun _ h => h.elim, fun r e' h v σ' H' _ p _ => ?_, fun _ _ _ h => h.elim⟩⟩
  have h' : r = .d (.bl true) := h
  subst h'
  have z : Hd _ K H' v (.bl true) := p.val 0 v _ rfl rfl
  cases z
  exact hk H'
/-- a law that asks by lambdas -/
theorem fn_lawL {P : Program} {w : World} {K : PySem.W.Frag} {mg : Str → Option Value} {base : Heap} {x qual : Str} {st : Stmt} {f c : Addr} {oc kV doc pm ct : Value} {od an : Option Addr} {osl : Array (Option Value)} {N : List Str} {p : Str} {k : Nat}
    (lk : K.lookup f = some ⟨oc, od, .func (PySem.W.fnOf x qual (defArgs st) (defBody st) (defScope st) .none kV doc pm an (.ref c) ct), osl⟩) (hcd : PySem.W.codeIn K (.ref c) qual = true) (SC : FnScope N [p] (defScope st)) (Tt : List (Addr × Str))
    (hbody : ∀ (A : Around) (outer : List Env) (s : Shared) (H : Hp) (E : XK), Room k (A.deeper (envOfC qual (defScope st) s.heap.objs.size f (.ref c))) → ∀ ns : List Int, ns.length ≤ 63 →
      Takes (cxOf (L2.CX P w) P w K mg base N qual (defScope st) f (.ref c) A outer s H E) (fun cls d _ H' => EU (Zof H) E cls d H') → UnlW (Tt, Zof H) (fun cls d _ H' => EU (Zof H) E cls d H') →
      ∃ g, PSs (cxOf (L2.CX P w) P w K mg base N qual (defScope st) f (.ref c) A outer s H E) (defBody st) (liftS (Tt, Zof H) K (fun cls d _ H' => EU (Zof H) E cls d H') (fun _ => false) g) ∧ g (startE N.length [.d (.lst (ns.map D.int))]) lawEnds) : FnOk P w K mg base (L2.CX P w) (k + 1) f (PySem.W.fnOf x qual (defArgs st) (defBody st) (defScope st) .none kV doc pm an (.ref c) ct) [p] (sp_lawW K Tt) :=
  fn_of lk hcd SC (fun vs H Q E h => by obtain ⟨a, ns, rfl, _⟩ := h; rfl) fun A outer s H vs Q E hr h => law_run SC Tt (hbody A outer s H E hr) h
end Wl
namespace Wl
open PySem PySem.Spec PyProof.Rows L2 RZ
section
variable {e e' : En} {nx bk ct : En → Prop} {rt : R → En → Prop} {ex kx : Kx} {f g h : WS} {fe ge he : WE} {ft gt : WT} {fr : WA} {k : R → En → Prop} {kA : List R → En → Prop} {kT : Bool → En → Prop} {i : Nat} {x y : D} {r : R} {rs : List R} {as as' : List S} {sp : WSp}
theorem z_seq (h : f e ⟨fun e1 => g e1 ⟨nx, rt, bk, ct, ex⟩, rt, bk, ct, ex⟩) : wSeq f g e ⟨nx, rt, bk, ct, ex⟩ := h
theorem z_next (h : nx e) : wNext e ⟨nx, rt, bk, ct, ex⟩ := h
theorem z_break (h : bk e) : wBreak e ⟨nx, rt, bk, ct, ex⟩ := h
theorem z_cont (h : ct e) : wCont e ⟨nx, rt, bk, ct, ex⟩ := h
theorem z_expr (h : fe e (fun _ e1 => nx e1) ex) : wExpr fe e ⟨nx, rt, bk, ct, ex⟩ := h
theorem z_ret (h : fe e rt ex) : wRet fe e ⟨nx, rt, bk, ct, ex⟩ := h
theorem z_retN (h : rt (.d .non) e) : wRetN e ⟨nx, rt, bk, ct, ex⟩ := h
theorem z_ifS (h : ft e (fun b e1 => if b = true then f e1 ⟨nx, rt, bk, ct, ex⟩ else g e1 ⟨nx, rt, bk, ct, ex⟩) ex) : wIfS ft f g e ⟨nx, rt, bk, ct, ex⟩ := h
def AsgK (i : Nat) (nx : En → Prop) : R → En → Prop := fun r e1 => r ≠ .s i ∧ nx (asg i r e1)
theorem z_asg (h : fe e (AsgK i nx) ex) : wAsg i fe e ⟨nx, rt, bk, ct, ex⟩ := h
theorem z_asgK (h1 : asg i r e = e') (h2 : r ≠ .s i) (h : nx e') : AsgK i nx r e := ⟨h2, by rw [h1]; exact h⟩
def UnpK (g : WG) (nx : En → Prop) : R → En → Prop := fun r e1 => ∃ x e2, frz r e1 = some (x, e2) ∧ g x e2 nx
theorem z_unp {g : WG} (h : fe e (UnpK g nx) ex) : wUnp g fe e ⟨nx, rt, bk, ct, ex⟩ := h
theorem z_unpK {g : WG} (h1 : frz r e = some (x, e')) (h : g x e' nx) : UnpK g nx r e := ⟨x, e', h1, h⟩
theorem z_gN (h1 : e.set i (some (.d x)) = e') (h : nx e') : wgN i x e nx := by unfold wgN; rw [h1]; exact h
theorem z_gT {is : List Nat} {xs : List D} (h0 : xs.length = is.length) (h1 : setAll is xs e = e') (h : nx e') : wgT is (.tup xs) e nx := ⟨xs, rfl, h0, by rw [h1]; exact h⟩
def AugK (i : Nat) (g : D → D → (D → Prop) → Prop) (x : D) (nx : En → Prop) : R → En → Prop := fun r e1 => ∃ y, r = .d y ∧ g x y fun z => nx (e1.set i (some (.d z)))
theorem z_aug {g : D → D → (D → Prop) → Prop} (h1 : e[i]? = some (some (.d x))) (h : fe e (AugK i g x nx) ex) : wAug i g fe e ⟨nx, rt, bk, ct, ex⟩ := ⟨x, h1, h⟩
theorem z_augI {p : Int → Int → Int} {a b : Int} (h1 : e.set i (some (.d (.int (p a b)))) = e') (h : nx e') : AugK i (gAugI p) (.int a) nx (.d (.int b)) e := ⟨_, rfl, show nx (e.set i (some (.d (.int (p a b))))) by rw [h1]; exact h⟩
def ForK (g : WG) (body : WS) (k : WEnds) : List D → En → Prop := fun xs e1 => wForL g body xs e1 k
theorem z_for {it : WI} {g : WG} {body : WS} (h : it e (ForK g body ⟨nx, rt, bk, ct, ex⟩) ex) : wFor it g body e ⟨nx, rt, bk, ct, ex⟩ := h
/-- a for by what holds between its turns -/
theorem for_inv {g : WG} {body : WS} {xs : List D} (P : Nat → En → Prop) (h0 : P 0 e) (hs : ∀ i x e N, xs[i]? = some x → (∀ e', P (i + 1) e' → N e') → P i e → g x e fun e1 => body e1 ⟨N, rt, nx, N, ex⟩) (hd : ∀ e, P xs.length e → nx e) : ForK g body ⟨nx, rt, bk, ct, ex⟩ xs e := by
  have go : ∀ (n : Nat) (i : Nat) (e : En), i + n = xs.length → P i e → wForL g body (xs.drop i) e ⟨nx, rt, bk, ct, ex⟩ := by
    intro n
    induction n with
    | zero =>
      intro i e hi p
      have : i = xs.length := by omega
      subst this
      rw [List.drop_length]
      exact hd e p
    | succ n ih =>
      intro i e hi p
      have hl : i < xs.length := by omega
      rw [List.drop_eq_getElem_cons hl]
      exact hs i _ e _ (List.getElem?_eq_getElem hl) (fun e' p' => ih (i + 1) e' (by omega) p') p
  exact go xs.length 0 e (by omega) h0
def ParK (is : List Nat) (nx : En → Prop) : List R → En → Prop := fun rs e1 => rs.length = is.length ∧ rs.all isNoS = true ∧ nx (asgL is rs e1)
theorem z_par {is : List Nat} (h : fr e (ParK is nx) ex) : wPar is fr e ⟨nx, rt, bk, ct, ex⟩ := h
theorem z_parK {is : List Nat} (h1 : rs.length = is.length) (h2 : rs.all isNoS = true) (h3 : asgL is rs e = e') (h : nx e') : ParK is nx rs e := ⟨h1, h2, by rw [h3]; exact h⟩
def SetIxK (i : Nat) (fi : WE) (nx : En → Prop) (ex : Kx) : R → En → Prop := fun r e1 => ∃ x e2, frz r e1 = some (x, e2) ∧ (∃ ys, e2[i]? = some (some (.l ys))) ∧ fi e2 (fun r2 e3 => ∃ j xs n, r2 = .d (.int j) ∧ e3[i]? = some (some (.l xs)) ∧ ixN xs.length j = some n ∧ nx (e3.set i (some (.l (xs.set n x))))) ex
def SetIxJ (i : Nat) (x : D) (nx : En → Prop) : R → En → Prop := fun r2 e3 => ∃ j xs n, r2 = .d (.int j) ∧ e3[i]? = some (some (.l xs)) ∧ ixN xs.length j = some n ∧ nx (e3.set i (some (.l (xs.set n x))))
theorem z_setIx {fi : WE} (h : fe e (SetIxK i fi nx ex) ex) : wSetIx i fi fe e ⟨nx, rt, bk, ct, ex⟩ := h
theorem z_setIxK {fi : WE} {ys : List D} (h1 : frz r e = some (x, e')) (h2 : e'[i]? = some (some (.l ys))) (h : fi e' (SetIxJ i x nx) ex) : SetIxK i fi nx ex r e := ⟨x, e', h1, ⟨ys, h2⟩, h⟩
theorem z_setIxJ {j : Int} {xs : List D} {n : Nat} (h1 : e[i]? = some (some (.l xs))) (h2 : ixN xs.length j = some n) (h3 : e.set i (some (.l (xs.set n x))) = e') (h : nx e') : SetIxJ i x nx (.d (.int j)) e := ⟨j, xs, n, rfl, h1, h2, by rw [h3]; exact h⟩
def StoK (i : Nat) (P : Addr → Prop) (f : Str) (nx : En → Prop) : R → En → Prop := fun r e1 => ∃ x e2 C fs, frz r e1 = some (x, e2) ∧ e2[i]? = some (some (.o C fs)) ∧ P C ∧ fs.length < 1000 ∧ nx (e2.set i (some (.o C (putD f x fs))))
theorem z_sto {P : Addr → Prop} {n : Str} (h : fe e (StoK i P n nx) ex) : wSto i P n fe e ⟨nx, rt, bk, ct, ex⟩ := h
theorem z_stoK {C : Addr} {n : Str} {fs : List (Str × D)} {e2 : En} (h1 : frz r e = some (x, e2)) (h2 : e2[i]? = some (some (.o C fs))) (h3 : fs.length < 1000) (h4 : e2.set i (some (.o C (putD n x fs))) = e') (h : nx e') : StoK i (fun D => D = C) n nx r e := ⟨x, e2, C, fs, h1, h2, rfl, h3, by rw [h4]; exact h⟩
def RaiK (C : Addr) (ns : List Str) (w : Str) (ex : Kx) : List R → En → Prop := fun rs e1 => ∃ ds, allD rs = some ds ∧ ds.length = ns.length ∧ ex C (excF ns w ds) e1
theorem z_raise {C : Addr} {ns : List Str} {w : Str} (h : fr e (RaiK C ns w ex) ex) : wRaise C ns w fr e ⟨nx, rt, bk, ct, ex⟩ := h
theorem z_raiK {C : Addr} {ns : List Str} {w : Str} {ds : List D} (h1 : allD rs = some ds) (h2 : ds.length = ns.length) (h : ex C (excF ns w ds) e) : RaiK C ns w ex rs e := ⟨ds, h1, h2, h⟩
theorem z_var (h1 : e[i]? = some (some (.d x))) (h : k (.d x) e) : wVar i e k kx := by unfold wVar; simp only [h1]; exact h
theorem z_varL {xs : List D} (h1 : e[i]? = some (some (.l xs))) (h : k (.s i) e) : wVar i e k kx := by unfold wVar; simp only [h1]; exact h
theorem z_varM {xs : List (Key × D)} (h1 : e[i]? = some (some (.m xs))) (h : k (.s i) e) : wVar i e k kx := by unfold wVar; simp only [h1]; exact h
theorem z_varO {C : Addr} {xs : List (Str × D)} (h1 : e[i]? = some (some (.o C xs))) (h : k (.s i) e) : wVar i e k kx := by unfold wVar; simp only [h1]; exact h
theorem z_c (h : k (.d x) e) : wC x e k kx := h
def OpK (g : List D → (R → Prop) → Prop) (k : R → En → Prop) : List R → En → Prop := fun rs e1 => ∃ ds, seeL e1 rs = some ds ∧ g ds fun r => k r e1
theorem z_op {g : List D → (R → Prop) → Prop} (h : fr e (OpK g k) kx) : wOp g fr e k kx := h
theorem z_opK {g : List D → (R → Prop) → Prop} {ds : List D} (h1 : seeL e rs = some ds) (h : g ds fun r => k r e) : OpK g k rs e := ⟨ds, h1, h⟩
def OpDK (g : List D → (R → Prop) → Prop) (k : R → En → Prop) : List R → En → Prop := fun rs e1 => ∃ ds, allD rs = some ds ∧ g ds fun r => k r e1
theorem z_opD {g : List D → (R → Prop) → Prop} (h : fr e (OpDK g k) kx) : wOpD g fr e k kx := h
theorem z_opDK {g : List D → (R → Prop) → Prop} {ds : List D} (h1 : allD rs = some ds) (h : g ds fun r => k r e) : OpDK g k rs e := ⟨ds, h1, h⟩
theorem z_nil (h : kA [] e) : wNil e kA kx := h
theorem z_cons {ga : WA} (h : fe e (fun r e1 => ga e1 (fun rs e2 => kA (r :: rs) e2) kx) kx) : wCons fe ga e kA kx := h
def FzK (k : R → En → Prop) : R → En → Prop := fun r e1 => ∃ x e2, frz r e1 = some (x, e2) ∧ k (.d x) e2
theorem z_fz (h : fe e (FzK k) kx) : wFz fe e k kx := h
theorem z_fzK (h1 : frz r e = some (x, e')) (h : k (.d x) e') : FzK k r e := ⟨x, e', h1, h⟩
theorem z_fzD (h : k (.d x) e) : FzK k (.d x) e := ⟨x, e, rfl, h⟩
def TestK (k : Bool → En → Prop) : R → En → Prop := fun r e1 => ∃ b, see e1 r = some (.bl b) ∧ k b e1
theorem z_test (h : fe e (TestK kT) kx) : wTest fe e kT kx := h
theorem z_testK {b : Bool} (h : kT b e) : TestK kT (.d (.bl b)) e := ⟨b, rfl, h⟩
theorem z_and (h : ft e (fun b e1 => if b = true then gt e1 kT kx else kT false e1) kx) : wAnd ft gt e kT kx := h
theorem z_or (h : ft e (fun b e1 => if b = true then kT true e1 else gt e1 kT kx) kx) : wOr ft gt e kT kx := h
theorem z_not (h : ft e (fun b e1 => kT (!b) e1) kx) : wNot ft e kT kx := h
theorem z_if (h : ft e (fun b e1 => if b = true then fe e1 k kx else ge e1 k kx) kx) : wIf ft fe ge e k kx := h
def AndK (g : WE) (k : R → En → Prop) (kx : Kx) : R → En → Prop := fun r e1 => ∃ b, see e1 r = some (.bl b) ∧ if b = true then g e1 k kx else k (.d (.bl false)) e1
def OrK (g : WE) (k : R → En → Prop) (kx : Kx) : R → En → Prop := fun r e1 => ∃ b, see e1 r = some (.bl b) ∧ if b = true then k (.d (.bl true)) e1 else g e1 k kx
def NotK (k : R → En → Prop) : R → En → Prop := fun r e1 => ∃ b, see e1 r = some (.bl b) ∧ k (.d (.bl (!b))) e1
theorem z_andV (h : fe e (AndK ge k kx) kx) : wAndV fe ge e k kx := h
theorem z_orV (h : fe e (OrK ge k kx) kx) : wOrV fe ge e k kx := h
theorem z_notV (h : fe e (NotK k) kx) : wNotV fe e k kx := h
theorem z_andK {b : Bool} (h : if b = true then ge e k kx else k (.d (.bl false)) e) : AndK ge k kx (.d (.bl b)) e := ⟨b, rfl, h⟩
theorem z_orK {b : Bool} (h : if b = true then k (.d (.bl true)) e else ge e k kx) : OrK ge k kx (.d (.bl b)) e := ⟨b, rfl, h⟩
theorem z_notK {b : Bool} (h : k (.d (.bl (!b))) e) : NotK k (.d (.bl b)) e := ⟨b, rfl, h⟩
def ChK2 (p : Int → Int → Bool) (p' : Int → Int → Bool) (fc : WE) (k : R → En → Prop) (kx : Kx) (r1 : R) : R → En → Prop := fun r2 e2 => ∃ i j, r1 = .d (.int i) ∧ r2 = .d (.int j) ∧ if p i j = true then fc e2 (fun r3 e3 => ∃ l, r3 = .d (.int l) ∧ k (.d (.bl (p' j l))) e3) kx else k (.d (.bl false)) e2
def ChK3 (p' : Int → Int → Bool) (j : Int) (k : R → En → Prop) : R → En → Prop := fun r3 e3 => ∃ l, r3 = .d (.int l) ∧ k (.d (.bl (p' j l))) e3
theorem z_chain {p p' : Int → Int → Bool} (h : fe e (fun r1 e1 => ge e1 (ChK2 p p' he k kx r1) kx) kx) : wChain p p' fe ge he e k kx := h
theorem z_ch2 {p p' : Int → Int → Bool} {i j : Int} (h : if p i j = true then he e (ChK3 p' j k) kx else k (.d (.bl false)) e) : ChK2 p p' he k kx (.d (.int i)) (.d (.int j)) e := ⟨i, j, rfl, rfl, h⟩
theorem z_ch3 {p' : Int → Int → Bool} {j l : Int} (h : k (.d (.bl (p' j l))) e) : ChK3 p' j k (.d (.int l)) e := ⟨l, rfl, h⟩
theorem z_sl {lo hi : WO} (h : fe e (fun r e1 => lo e1 (fun l e2 => hi e2 (fun u e3 => ∃ x, see e3 r = some x ∧ gSl x l u fun r' => k r' e3) kx) kx) kx) : wSl fe lo hi e k kx := h
theorem z_noP {kO : Option Int → En → Prop} (h : kO none e) : wNoP e kO kx := h
def PartK (kO : Option Int → En → Prop) : R → En → Prop := fun r e1 => ∃ i, r = .d (.int i) ∧ kO (some i) e1
theorem z_part {kO : Option Int → En → Prop} (h : fe e (PartK kO) kx) : wPart fe e kO kx := h
theorem z_partK {kO : Option Int → En → Prop} {j : Int} (h : kO (some j) e) : PartK kO (.d (.int j)) e := ⟨j, rfl, h⟩
theorem z_exSee {P : D → Prop} (h1 : see e r = some x) (h : P x) : ∃ x, see e r = some x ∧ P x := ⟨x, h1, h⟩
def AppK (i : Nat) (k : R → En → Prop) : R → En → Prop := fun r e1 => ∃ x e2 xs, frz r e1 = some (x, e2) ∧ e2[i]? = some (some (.l xs)) ∧ xs.length < 1000000 ∧ k (.d .non) (e2.set i (some (.l (xs ++ [x]))))
theorem z_app {xs : List D} (h1 : e[i]? = some (some (.l xs))) (h : fe e (AppK i k) kx) : wApp i fe e k kx := ⟨⟨xs, h1⟩, h⟩
theorem z_appK {xs : List D} {e2 : En} (h1 : frz r e = some (x, e2)) (h2 : e2[i]? = some (some (.l xs))) (h4 : e2.set i (some (.l (xs ++ [x]))) = e') (h3 : xs.length < 1000000) (h : k (.d .non) e') : AppK i k r e := ⟨x, e2, xs, h1, h2, h3, by rw [h4]; exact h⟩
def CallK (rs : List R) (e : En) (k : R → En → Prop) : SK := fun r as' => k r (putS rs as' e)
def CallX (rs : List R) (e : En) (kx : Kx) : SX := fun C fs as' => kx C fs (putS rs as' e)
def CallA (sp : WSp) (k : R → En → Prop) (kx : Kx) : List R → En → Prop := fun rs e1 => ∃ as, argS e1 rs = some as ∧ (slotsOf rs).Nodup ∧ sp as (CallK rs e1 k) (CallX rs e1 kx)
theorem z_call (h : fr e (CallA sp k kx) kx) : wCall sp fr e k kx := h
theorem z_callA (h1 : argS e rs = some as) (h2 : (slotsOf rs).Nodup) (h : sp as (CallK rs e k) (CallX rs e kx)) : CallA sp k kx rs e := ⟨as, h1, h2, h⟩
theorem z_callK (h1 : putS rs as' e = e') (h : k r e') : CallK rs e k r as' := by unfold CallK; rw [h1]; exact h
theorem z_callX {C : Addr} {fs : List (Str × D)} (h1 : putS rs as' e = e') (h : kx C fs e') : CallX rs e kx C fs as' := by unfold CallX; rw [h1]; exact h
def MethK (C : Addr) (m : Str) (sp : WSp) (fr : WA) (k : R → En → Prop) (kx : Kx) : R → En → Prop := fun r e1 => (∃ fs, see e1 r = some (.ins C fs) ∧ fs.lookup m = none) ∧ fr e1 (fun rs e2 => CallA sp k kx (r :: rs) e2) kx
theorem z_meth {C : Addr} {m : Str} (h : fe e (MethK C m sp fr k kx) kx) : wMeth C m sp fe fr e k kx := h
theorem z_methK {C : Addr} {m : Str} {fs : List (Str × D)} (h1 : see e r = some (.ins C fs)) (h2 : fs.lookup m = none) (h : fr e (fun rs e2 => CallA sp k kx (r :: rs) e2) kx) : MethK C m sp fr k kx r e := ⟨⟨fs, h1, h2⟩, h⟩
def MakeK (rs : List R) (e : En) (k : R → En → Prop) : SK := fun r as' => r = .d .non ∧ ∃ s, as'[0]? = some s ∧ s.owned = true ∧ k (.own s) (putS rs as' e)
def MakeA (C : Addr) (sp : WSp) (k : R → En → Prop) (kx : Kx) : List R → En → Prop := fun rs e1 => ∃ as, argS e1 (.own (.o C []) :: rs) = some as ∧ (slotsOf (.own (.o C []) :: rs)).Nodup ∧ sp as (MakeK (.own (.o C []) :: rs) e1 k) (CallX (.own (.o C []) :: rs) e1 kx)
theorem z_make {C : Addr} (h : fr e (MakeA C sp k kx) kx) : wMake C sp fr e k kx := h
theorem z_makeA {C : Addr} (h1 : argS e (.own (.o C []) :: rs) = some as) (h2 : (slotsOf (.own (.o C []) :: rs)).Nodup) (h : sp as (MakeK (.own (.o C []) :: rs) e k) (CallX (.own (.o C []) :: rs) e kx)) : MakeA C sp k kx rs e := ⟨as, h1, h2, h⟩
theorem z_makeK {s : S} (h0 : as'[0]? = some s) (h2 : s.owned = true) (h1 : putS rs as' e = e') (h : k (.own s) e') : MakeK rs e k (.d .non) as' := ⟨rfl, s, h0, h2, by rw [h1]; exact h⟩
theorem z_withA {P : List S → Prop} (h1 : outA as e = some as') (h : P as') : withA as e P := ⟨as', h1, h⟩
theorem z_retD {kk : SK} (h : withA as e (kk (.d x))) : retR as (.d x) e kk := h
theorem z_retO {kk : SK} {s : S} (h : withA as e (kk (.own s))) : retR as (.own s) e kk := h
def ItK (kI : List D → En → Prop) : R → En → Prop := fun r e1 => ∃ x e2 xs, frz r e1 = some (x, e2) ∧ seqD x = some xs ∧ kI xs e2
theorem z_it {kI : List D → En → Prop} (h : fe e (ItK kI) kx) : wIt fe e kI kx := h
theorem z_itK {kI : List D → En → Prop} {xs : List D} (h1 : frz r e = some (x, e')) (h2 : seqD x = some xs) (h : kI xs e') : ItK kI r e := ⟨x, e', xs, h1, h2, h⟩
def R1K (kI : List D → En → Prop) : List R → En → Prop := fun rs e1 => ∃ j, rs = [.d (.int j)] ∧ (-4611686018427387904 ≤ j ∧ j < 4611686018427387904) ∧ kI (range0 j.toNat) e1
theorem z_rng1 {kI : List D → En → Prop} (h : fr e (R1K kI) kx) : wRng1 fr e kI kx := h
theorem z_rng1K {kI : List D → En → Prop} {j : Int} (h1 : -4611686018427387904 ≤ j ∧ j < 4611686018427387904) (h : kI (range0 j.toNat) e) : R1K kI [.d (.int j)] e := ⟨j, rfl, h1, h⟩
def R2K (kI : List D → En → Prop) : List R → En → Prop := fun rs e1 => ∃ i j, rs = [.d (.int i), .d (.int j)] ∧ (-4611686018427387904 ≤ i ∧ i < 4611686018427387904 ∧ -4611686018427387904 ≤ j ∧ j < 4611686018427387904) ∧ kI (rangeD i (j - i).toNat) e1
theorem z_rng2 {kI : List D → En → Prop} (h : fr e (R2K kI) kx) : wRng2 fr e kI kx := h
theorem z_rng2K {kI : List D → En → Prop} {i j : Int} (h1 : -4611686018427387904 ≤ i ∧ i < 4611686018427387904 ∧ -4611686018427387904 ≤ j ∧ j < 4611686018427387904) (h : kI (rangeD i (j - i).toNat) e) : R2K kI [.d (.int i), .d (.int j)] e := ⟨i, j, rfl, h1, h⟩
def ZipK (kI : List D → En → Prop) : List R → En → Prop := fun rs e1 => ∃ x y xs ys, rs = [.d x, .d y] ∧ seqD x = some xs ∧ seqD y = some ys ∧ kI (zipD xs ys) e1
theorem z_zip {kI : List D → En → Prop} (h : fr e (ZipK kI) kx) : wZip fr e kI kx := h
theorem z_zipK {kI : List D → En → Prop} {xs ys : List D} (h1 : seqD x = some xs) (h2 : seqD y = some ys) (h : kI (zipD xs ys) e) : ZipK kI [.d x, .d y] e := ⟨x, y, xs, ys, rfl, h1, h2, h⟩
def EnK (kI : List D → En → Prop) : List R → En → Prop := fun rs e1 => ∃ x xs, rs = [.d x] ∧ seqD x = some xs ∧ kI (enumD 0 xs) e1
theorem z_enum {kI : List D → En → Prop} (h : fr e (EnK kI) kx) : wEnum fr e kI kx := h
theorem z_enumK {kI : List D → En → Prop} {xs : List D} (h1 : seqD x = some xs) (h : kI (enumD 0 xs) e) : EnK kI [.d x] e := ⟨x, xs, rfl, h1, h⟩
def LcK (g : WG) (tt : WT) (te : WE) (vs : List Nat) (k : R → En → Prop) : List D → En → Prop := fun xs e1 => xs.length ≤ 1000000 ∧ noOwn e1 vs = true ∧ wLcL g tt te vs xs [] (wipeE e1 vs) fun ds e2 => k (.own (.l ds)) (backE e1 vs e2)
theorem z_lc {it : WI} {g : WG} {tt : WT} {te : WE} {vs : List Nat} (h : it e (LcK g tt te vs k) kx) : wLc it g tt te vs e k kx := h
theorem z_yes (h : kT true e) : wYes e kT kx := h
/-- a turn -/
def turnD (g : WG) (tt : WT) (te : WE) (vs : List Nat) (x : D) (e : En) (K : Option D → En → Prop) : Prop := g x e fun e2 => tt e2 (fun b e3 => if b = true then te e3 (fun r e4 => ∃ y e5, frz r e4 = some (y, e5) ∧ K (some y) (wipeE e5 vs)) (fun _ _ _ => False) else K none (wipeE e3 vs)) fun _ _ _ => False
def TurnK (vs : List Nat) (K : Option D → En → Prop) : R → En → Prop := fun r e4 => ∃ y e5, frz r e4 = some (y, e5) ∧ K (some y) (wipeE e5 vs)
def ElK (te : WE) (vs : List Nat) (K : Option D → En → Prop) : Bool → En → Prop := fun b e3 => if b = true then te e3 (TurnK vs K) (fun _ _ _ => False) else K none (wipeE e3 vs)
theorem z_turn {g : WG} {tt : WT} {te : WE} {vs : List Nat} {K : Option D → En → Prop} (h : g x e fun e2 => tt e2 (ElK te vs K) fun _ _ _ => False) : turnD g tt te vs x e K := h
theorem z_elT {te : WE} {vs : List Nat} {K : Option D → En → Prop} (h : te e (TurnK vs K) (fun _ _ _ => False)) : ElK te vs K true e := by unfold ElK; rw [if_pos rfl]; exact h
theorem z_el {te : WE} {vs : List Nat} {K : Option D → En → Prop} {b : Bool} (h : if b = true then te e (TurnK vs K) (fun _ _ _ => False) else K none (wipeE e vs)) : ElK te vs K b e := h
theorem z_turnK {vs : List Nat} {K : Option D → En → Prop} {e2 : En} (h1 : frz r e = some (x, e2)) (h2 : wipeE e2 vs = e') (h : K (some x) e') : TurnK vs K r e := ⟨x, e2, h1, by rw [h2]; exact h⟩
/-- by what holds between the turns -/
theorem lc_inv {g : WG} {tt : WT} {te : WE} {vs : List Nat} {xs : List D} {e0 : En} (P : Nat → List D → En → Prop) (hl : xs.length ≤ 1000000) (hn : noOwn e vs = true) (hw : wipeE e vs = e0) (h0 : P 0 [] e0) (hs : ∀ i x acc e K, xs[i]? = some x → (∀ o e', P (i + 1) (acc ++ o.toList) e' → K o e') → P i acc e → turnD g tt te vs x e K)
    (hd : ∀ ds e2, P xs.length ds e2 → k (.own (.l ds)) (backE e vs e2)) : LcK g tt te vs k xs e := by
  refine ⟨hl, hn, ?_⟩
  rw [hw]
  have go : ∀ (n : Nat) (i : Nat) (acc : List D) (e' : En), i + n = xs.length → P i acc e' → wLcL g tt te vs (xs.drop i) acc e' fun ds e2 => k (.own (.l ds)) (backE e vs e2) := by
    intro n
    induction n with
    | zero =>
      intro i acc e' hi p
      have : i = xs.length := by omega
      subst this
      rw [List.drop_length]
      exact hd acc e' p
    | succ n ih =>
      intro i acc e' hi p
      have hl : i < xs.length := by omega
      rw [List.drop_eq_getElem_cons hl]
      refine hs i xs[i] acc e' (fun o e2 => match o with
        | some y => wLcL g tt te vs (xs.drop (i + 1)) (acc ++ [y]) e2 fun ds e2 => k (.own (.l ds)) (backE e vs e2)
        | none => wLcL g tt te vs (xs.drop (i + 1)) acc e2 fun ds e2 => k (.own (.l ds)) (backE e vs e2)) (List.getElem?_eq_getElem hl) (fun o e2 p2 => ?_) p
      cases o with
      | some y => exact ih (i + 1) _ e2 (by omega) p2
      | none => exact ih (i + 1) _ e2 (by omega) (by simpa using p2)
  exact go xs.length 0 [] e0 (by omega) h0
/-- each item by itself, the slots as they were -/
theorem lc_map {g : WG} {tt : WT} {te : WE} {vs : List Nat} {xs : List D} {e0 : En} (φ : D → Option D) (hl : xs.length ≤ 1000000) (hn : noOwn e vs = true) (hw : wipeE e vs = e0) (hs : ∀ x ∈ xs, ∀ K : Option D → En → Prop, K (φ x) e0 → turnD g tt te vs x e0 K)
    (hb : backE e vs e0 = e') (hd : k (.own (.l (xs.filterMap φ))) e') : LcK g tt te vs k xs e := by
  refine lc_inv (fun i acc e2 => e2 = e0 ∧ acc = (xs.take i).filterMap φ) hl hn hw ⟨rfl, by simp⟩ (fun i x acc e2 K hx hK ⟨e1, ea⟩ => ?_) fun ds e2 ⟨e1, ea⟩ => ?_
  · subst e1 ea
    refine hs x (List.mem_of_getElem? hx) K (hK _ _ ⟨rfl, ?_⟩)
    rw [List.take_add_one, hx, List.filterMap_append]
    cases q : φ x <;> simp [q]
  · subst e1 ea
    rw [List.take_length, hb]
    exact hd
def TriK (k : R → En → Prop) : R → En → Prop := fun r e1 => ∃ x e2, frz r e1 = some (x, e2) ∧ k (.d (.tup [.str "", x])) e2
def TriX (P : Addr → Str → Prop) (e : En) (k : R → En → Prop) : Kx := fun C fs e1 => stayB e e1 = true ∧ ∃ w x, P C w ∧ fs.lookup ("word" : Str) = some (.str w) ∧ fldD w fs = some x ∧ k (.d (.tup [.str w, x])) e1
theorem z_tried {P : Addr → Str → Prop} (h : fe e (TriK k) (TriX P e k)) : wTried P fe e k kx := h
theorem z_triK (h1 : frz r e = some (x, e')) (h : k (.d (.tup [.str "", x])) e') : TriK k r e := ⟨x, e', h1, h⟩
theorem z_triX {P : Addr → Str → Prop} {C : Addr} {fs : List (Str × D)} {w : Str} {e0 : En} (h0 : stayB e0 e = true) (h1 : P C w) (h2 : fs.lookup ("word" : Str) = some (.str w)) (h3 : fldD w fs = some x) (h : k (.d (.tup [.str w, x])) e) : TriX P e0 k C fs e := ⟨h0, w, x, h1, h2, h3, h⟩
section
variable {kR : R → Prop} {a b : Int} {s t : Str} {xs ys : List D} {p : Int → Int → Bool}
theorem z_addI (h : kR (.d (.int (a + b)))) : gAdd [.int a, .int b] kR := h
theorem z_addS (hl : s.length + t.length ≤ 16777216) (h : kR (.d (.str (s ++ t)))) : gAdd [.str s, .str t] kR := ⟨hl, h⟩
theorem z_addT (hl : xs.length + ys.length ≤ 1000000) (h : kR (.d (.tup (xs ++ ys)))) : gAdd [.tup xs, .tup ys] kR := ⟨hl, h⟩
theorem z_sub (h : kR (.d (.int (a - b)))) : gMinus [.int a, .int b] kR := h
theorem z_mul (hl : (-(2 ^ 64) < a ∧ a < 2 ^ 64) ∨ (-(2 ^ 64) < b ∧ b < 2 ^ 64)) (h : kR (.d (.int (a * b)))) : gMul [.int a, .int b] kR := ⟨hl, h⟩
theorem z_div (hl : 0 < b ∧ b < 1073741824) (h : kR (.d (.int (a / b)))) : gDiv [.int a, .int b] kR := ⟨hl, h⟩
theorem z_mod (hl : 0 < b) (h : kR (.d (.int (a % b)))) : gMod [.int a, .int b] kR := ⟨hl, h⟩
theorem z_pow (hl : 0 ≤ b ∧ b ≤ 1000000 ∧ a.natAbs < 2 ^ 64) (h : kR (.d (.int (a ^ b.toNat)))) : gPow [.int a, .int b] kR := ⟨hl, h⟩
theorem z_neg (h : kR (.d (.int (-a)))) : gNeg [.int a] kR := h
theorem z_cmp (h : kR (.d (.bl (p a b)))) : gCmp p [.int a, .int b] kR := h
theorem z_eqI (h : kR (.d (.bl (decide (a = b))))) : gEq [.int a, .int b] kR := h
theorem z_eqS (h : kR (.d (.bl (decide (s = t))))) : gEq [.str s, .str t] kR := h
theorem z_eqB {b c : Bool} (h : kR (.d (.bl (decide (b = c))))) : gEq [.bl b, .bl c] kR := h
theorem z_neI (h : kR (.d (.bl (!decide (a = b))))) : gNe [.int a, .int b] kR := h
theorem z_neS (h : kR (.d (.bl (!decide (s = t))))) : gNe [.str s, .str t] kR := h
theorem z_neB {b c : Bool} (h : kR (.d (.bl (!decide (b = c))))) : gNe [.bl b, .bl c] kR := h
theorem z_ixL (h1 : atI xs a = some x) (h : kR (.d x)) : gIx [.lst xs, .int a] kR := ⟨x, h1, h⟩
theorem z_ixT (h1 : atI xs a = some x) (h : kR (.d x)) : gIx [.tup xs, .int a] kR := ⟨x, h1, h⟩
theorem z_ixS {c : Nat} (h0 : s.length ≤ 16777216) (h1 : atI s.cps.toList a = some c) (h : kR (.d (.str ⟨#[c]⟩))) : gIx [.str s, .int a] kR := ⟨h0, c, h1, h⟩
theorem z_tupD (h1 : xs.length ≤ 1000000) (h : kR (.d (.tup xs))) : gTupD xs kR := ⟨h1, h⟩
theorem z_lstD (h1 : xs.length ≤ 1000000) (h : kR (.own (.l xs))) : gLstD xs kR := ⟨h1, h⟩
theorem z_fld {P : Addr → Prop} {n : Str} {C : Addr} {fs : List (Str × D)} (h0 : P C) (h1 : fs.lookup n = some x) (h : kR (.d x)) : gFld P n [.ins C fs] kR := ⟨h0, x, h1, h⟩
theorem z_lenL (h : kR (.d (.int (xs.length : Nat)))) : gLen [.lst xs] kR := h
theorem z_lenT (h : kR (.d (.int (xs.length : Nat)))) : gLen [.tup xs] kR := h
theorem z_lenS (h0 : s.length ≤ 16777216) (h : kR (.d (.int (s.length : Nat)))) : gLen [.str s] kR := ⟨h0, h⟩
theorem z_listL (h : kR (.own (.l xs))) : gList [.lst xs] kR := h
theorem z_listT (h : kR (.own (.l xs))) : gList [.tup xs] kR := h
theorem z_tupleL (h : kR (.d (.tup xs))) : gTuple [.lst xs] kR := h
theorem z_tupleT (h : kR (.d (.tup xs))) : gTuple [.tup xs] kR := h
theorem z_intI (h : kR (.d (.int a))) : gInt [.int a] kR := h
theorem z_intB {b : Bool} (h : kR (.d (.int (if b then 1 else 0)))) : gInt [.bl b] kR := h
theorem z_max2 (h : kR (.d (.int (if b > a then b else a)))) : gMax2 [.int a, .int b] kR := h
theorem z_min2 (h : kR (.d (.int (if b < a then b else a)))) : gMin2 [.int a, .int b] kR := h
theorem z_abs (h : kR (.d (.int (if a < 0 then -a else a)))) : gAbs [.int a] kR := h
theorem z_isi {m : String} (h1 : (tyD x).isSome = true) (h2 : knownT m = true) (h : kR (.d (.bl (isiB x m)))) : gIsi [x, .ty m] kR := ⟨h1, h2, h⟩
theorem z_isiL {cs : List D} {b : Bool} (h1 : (tyD x).isSome = true) (h2 : isiL x cs = some b) (h : kR (.d (.bl b))) : gIsi [x, .tup cs] kR := ⟨h1, b, h2, h⟩
theorem z_isN {neg : Bool} (h : kR (.d (.bl (if neg then !isN x else isN x)))) : gIsN neg [x] kR := h
theorem z_inL {neg : Bool} (h : InW neg x xs kR) : gIn neg [x, .lst xs] kR := h
theorem z_inT {neg : Bool} (h : InW neg x xs kR) : gIn neg [x, .tup xs] kR := h
theorem z_inF {neg : Bool} (h1 : flatD x = true) (h2 : xs.all flatD = true) (h : kR (.d (.bl (if neg then !inD x xs else inD x xs)))) : InW neg x xs kR := .inl ⟨h1, h2, h⟩
theorem z_inP {neg : Bool} {p : PyData} {ps : List PyData} (h1 : D.py x = some p) (h2 : pyL xs = some ps) (h3 : SeqAt.shaped p = true) (h4 : SeqAt.shaped (.list ps) = true) (h : kR (.d (.bl (if neg then !ps.any (fun z => PyData.eqv z p) else ps.any fun z => PyData.eqv z p)))) : InW neg x xs kR := .inr ⟨p, ps, h1, h2, h3, h4, h⟩
theorem z_addL (hl : xs.length + ys.length ≤ 1000000) (h : kR (.own (.l (xs ++ ys)))) : gAdd [.lst xs, .lst ys] kR := ⟨hl, h⟩
theorem z_inS {c : Nat} (h : kR (.d (.bl (decide (c ∈ s.cps.toList))))) : gInSign [.str ⟨#[c]⟩, .str s] kR := ⟨c, rfl, h⟩
theorem z_slL {lo hi : Option Int} (h : kR (.own (.l (cutD xs lo hi)))) : gSl (.lst xs) lo hi kR := h
theorem z_slT {lo hi : Option Int} (h : kR (.d (.tup (cutD xs lo hi)))) : gSl (.tup xs) lo hi kR := h
end
end
end Wl
namespace Wl
open PySem PySem.Spec PyProof.Rows L2 RZ
section
variable {e e1 e' : En} {x : D} {i j : Nat} {rs : List R} {ss as : List S} {s : S} {o : Option S}
theorem fz_d : frz (.d x) e = some (x, e) := rfl
theorem fz_ol {xs : List D} : frz (.own (.l xs)) e = some (.lst xs, e) := rfl
theorem fz_oo {C : Addr} {fs : List (Str × D)} : frz (.own (.o C fs)) e = some (.ins C fs, e) := rfl
theorem fz_om {xs : List (Key × D)} : frz (.own (.m xs)) e = some (.dct xs, e) := rfl
theorem fz_omT {xs : List (List Key × D)} : frz (.own (.mT xs)) e = some (.dcT xs, e) := rfl
theorem fz_sl {xs : List D} (h : e[j]? = some (some (.l xs))) (h2 : e.set j (some (.d (.lst xs))) = e') : frz (.s j) e = some (.lst xs, e') := by unfold frz; simp only [h]; rw [← h2]; rfl
theorem fz_so {C : Addr} {fs : List (Str × D)} (h : e[j]? = some (some (.o C fs))) (h2 : e.set j (some (.d (.ins C fs))) = e') : frz (.s j) e = some (.ins C fs, e') := by unfold frz; simp only [h]; rw [← h2]; rfl
theorem fz_sm {xs : List (Key × D)} (h : e[j]? = some (some (.m xs))) (h2 : e.set j (some (.d (.dct xs))) = e') : frz (.s j) e = some (.dct xs, e') := by unfold frz; simp only [h]; rw [← h2]; rfl
theorem fz_smT {xs : List (List Key × D)} (h : e[j]? = some (some (.mT xs))) (h2 : e.set j (some (.d (.dcT xs))) = e') : frz (.s j) e = some (.dcT xs, e') := by unfold frz; simp only [h]; rw [← h2]; rfl
theorem as_d (h : e.set i (some (.d x)) = e') : asg i (.d x) e = e' := h
theorem as_own (h : e.set i (some s) = e') : asg i (.own s) e = e' := h
theorem as_s (h : frz (.s j) e = some (x, e1)) (h2 : e1.set i (some (.d x)) = e') : asg i (.s j) e = e' := by unfold asg; simp only [h]; exact h2
theorem pS_s : putS (.s i :: rs) (s :: ss) e = putS rs ss (e.set i (some s)) := rfl
theorem pS_d : putS (.d x :: rs) (s :: ss) e = putS rs ss e := rfl
theorem pS_own {s' : S} : putS (.own s' :: rs) (s :: ss) e = putS rs ss e := rfl
theorem pS_nil : putS [] ss e = e := by unfold putS; rfl
theorem aS_nil : argS e [] = some [] := rfl
theorem aS_d (h : argS e rs = some ss) : argS e (.d x :: rs) = some (.d x :: ss) := by unfold argS; rw [h]
theorem aS_own (h : argS e rs = some ss) : argS e (.own s :: rs) = some (s :: ss) := by unfold argS; rw [h]
theorem aS_s (h1 : e[i]? = some (some s)) (h : argS e rs = some ss) : argS e (.s i :: rs) = some (s :: ss) := by unfold argS; rw [h1, h]
theorem oA_nil : outA [] e = some [] := rfl
theorem oA_d (h : outA as e = some ss) : outA (.d x :: as) (o :: e) = some (.d x :: ss) := by
  show (match outA as e with | some ss => some (S.d x :: ss) | none => none) = _
  rw [h]
theorem oA_l {xs : List D} (h : outA as e = some ss) : outA (.l xs :: as) (some s :: e) = some (s :: ss) := by
  show (match outA as e with | some ss => some (s :: ss) | none => none) = _
  rw [h]
theorem oA_m {xs : List (Key × D)} (h : outA as e = some ss) : outA (.m xs :: as) (some s :: e) = some (s :: ss) := by
  show (match outA as e with | some ss => some (s :: ss) | none => none) = _
  rw [h]
theorem oA_mT {xs : List (List Key × D)} (h : outA as e = some ss) : outA (.mT xs :: as) (some s :: e) = some (s :: ss) := by
  show (match outA as e with | some ss => some (s :: ss) | none => none) = _
  rw [h]
theorem oA_o {C : Addr} {fs : List (Str × D)} (h : outA as e = some ss) : outA (.o C fs :: as) (some s :: e) = some (s :: ss) := by
  show (match outA as e with | some ss => some (s :: ss) | none => none) = _
  rw [h]
theorem se_d : see e (.d x) = some x := rfl
theorem se_ol {xs : List D} : see e (.own (.l xs)) = some (.lst xs) := rfl
theorem se_oo {C : Addr} {fs : List (Str × D)} : see e (.own (.o C fs)) = some (.ins C fs) := rfl
theorem se_om {xs : List (Key × D)} : see e (.own (.m xs)) = some (.dct xs) := rfl
theorem se_omT {xs : List (List Key × D)} : see e (.own (.mT xs)) = some (.dcT xs) := rfl
theorem se_sl {xs : List D} (h : e[i]? = some (some (.l xs))) : see e (.s i) = some (.lst xs) := by unfold see; simp only [h]; rfl
theorem se_so {C : Addr} {fs : List (Str × D)} (h : e[i]? = some (some (.o C fs))) : see e (.s i) = some (.ins C fs) := by unfold see; simp only [h]; rfl
theorem se_sm {xs : List (Key × D)} (h : e[i]? = some (some (.m xs))) : see e (.s i) = some (.dct xs) := by unfold see; simp only [h]; rfl
theorem se_smT {xs : List (List Key × D)} (h : e[i]? = some (some (.mT xs))) : see e (.s i) = some (.dcT xs) := by unfold see; simp only [h]; rfl
theorem se_sd (h : e[i]? = some (some (.d x))) : see e (.s i) = some x := by unfold see; simp only [h]; rfl
theorem sL_nil : seeL e [] = some [] := rfl
theorem sL_c {r : R} {xs : List D} (h1 : see e r = some x) (h2 : seeL e rs = some xs) : seeL e (r :: rs) = some (x :: xs) := by unfold seeL; rw [h1, h2]
theorem aD_nil : allD [] = some [] := rfl
theorem aD_c {xs : List D} (h2 : allD rs = some xs) : allD (.d x :: rs) = some (x :: xs) := by unfold allD; rw [h2]
theorem ixNk {n j : Nat} (h : j < n) : ixN n ((j : Nat) : Int) = some j := by
  unfold ixN
  rw [if_pos (Int.natCast_nonneg j), if_pos (by omega)]
  rfl
theorem wix0 {x0 : D} {l : List D} : ixN (x0 :: l).length 0 = some 0 := ixNk (j := 0) (by simp only [List.length_cons]; omega)
theorem wix1 {x0 x1 : D} {l : List D} : ixN (x0 :: x1 :: l).length 1 = some 1 := ixNk (j := 1) (by simp only [List.length_cons]; omega)
theorem wix2 {x0 x1 x2 : D} {l : List D} : ixN (x0 :: x1 :: x2 :: l).length 2 = some 2 := ixNk (j := 2) (by simp only [List.length_cons]; omega)
theorem wix3 {x0 x1 x2 x3 : D} {l : List D} : ixN (x0 :: x1 :: x2 :: x3 :: l).length 3 = some 3 := ixNk (j := 3) (by simp only [List.length_cons]; omega)
theorem wix4 {x0 x1 x2 x3 x4 : D} {l : List D} : ixN (x0 :: x1 :: x2 :: x3 :: x4 :: l).length 4 = some 4 := ixNk (j := 4) (by simp only [List.length_cons]; omega)
theorem wix5 {x0 x1 x2 x3 x4 x5 : D} {l : List D} : ixN (x0 :: x1 :: x2 :: x3 :: x4 :: x5 :: l).length 5 = some 5 := ixNk (j := 5) (by simp only [List.length_cons]; omega)
theorem wix6 {x0 x1 x2 x3 x4 x5 x6 : D} {l : List D} : ixN (x0 :: x1 :: x2 :: x3 :: x4 :: x5 :: x6 :: l).length 6 = some 6 := ixNk (j := 6) (by simp only [List.length_cons]; omega)
theorem wix7 {x0 x1 x2 x3 x4 x5 x6 x7 : D} {l : List D} : ixN (x0 :: x1 :: x2 :: x3 :: x4 :: x5 :: x6 :: x7 :: l).length 7 = some 7 := ixNk (j := 7) (by simp only [List.length_cons]; omega)
theorem cutD_all {xs : List D} {n : Int} (h : (xs.length : Int) ≤ n) : cutD xs none (some n) = xs := by
  unfold cutD
  rw [HT.sIx_none]
  obtain ⟨k, rfl⟩ : ∃ k : Nat, n = (k : Int) := ⟨n.toNat, by omega⟩
  rw [HT.sIx_nat]
  rw [List.drop_zero, Nat.sub_zero]
  exact List.take_of_length_le (by omega)
theorem z_pow9 {kR : R → Prop} (h : kR (.d (.int 1000000000))) : gPow [.int 10, .int 9] kR := ⟨⟨by decide, by decide, by decide⟩, h⟩
theorem z_pow18 {kR : R → Prop} (h : kR (.d (.int 1000000000000000000))) : gPow [.int 10, .int 18] kR := ⟨⟨by decide, by decide, by decide⟩, h⟩
theorem z_pow6 {kR : R → Prop} (h : kR (.d (.int 1000000))) : gPow [.int 10, .int 6] kR := ⟨⟨by decide, by decide, by decide⟩, h⟩
def ndB : List R → List Nat → Bool
  | [], _ => true
  | .s i :: rs, l => !l.contains i && ndB rs (i :: l)
  | .d _ :: rs, l => ndB rs l
  | .own _ :: rs, l => ndB rs l
theorem ndB_of : ∀ {rs : List R} {l : List Nat}, ndB rs l = true → (slotsOf rs).Nodup ∧ ∀ i ∈ slotsOf rs, i ∉ l
  | [], l, _ => ⟨List.nodup_nil, fun _ h => by cases h⟩
  | .d x :: rs, l, h => by
    have := ndB_of (rs := rs) (l := l) h
    exact this
  | .own x :: rs, l, h => by
    have := ndB_of (rs := rs) (l := l) h
    exact this
  | .s i :: rs, l, h => by
    obtain ⟨h1, h2⟩ := (Bool.and_eq_true _ _ ▸ h : (!l.contains i) = true ∧ ndB rs (i :: l) = true)
    obtain ⟨a, b⟩ := ndB_of h2
    have e : slotsOf (.s i :: rs) = i :: slotsOf rs := rfl
    rw [e]
    refine ⟨List.nodup_cons.mpr ⟨fun m => b i m (by simp), a⟩, fun j hj => ?_⟩
    rcases List.mem_cons.mp hj with rfl | hj
    · simpa using h1
    · exact fun m => b j hj (List.mem_cons_of_mem _ m)
variable {k : R → En → Prop} {kx : Kx} {sp : WSp}
theorem z_callB (h1 : argS e rs = some as) (h2 : ndB rs [] = true) (h : sp as (CallK rs e k) (CallX rs e kx)) : CallA sp k kx rs e := z_callA h1 (ndB_of h2).1 h
theorem z_makeB {C : Addr} (h1 : argS e (.own (.o C []) :: rs) = some as) (h2 : ndB rs [] = true) (h : sp as (MakeK (.own (.o C []) :: rs) e k) (CallX (.own (.o C []) :: rs) e kx)) : MakeA C sp k kx rs e := z_makeA h1 (ndB_of h2).1 h
variable {nx bk ct : En → Prop} {rt : R → En → Prop} {ex : Kx} {f g : WS}
/-- one goal behind a statement for all its ways -/
theorem z_cut (P : En → Prop) (h : ∀ N, (∀ e', P e' → N e') → f e ⟨N, rt, bk, ct, ex⟩) (hp : ∀ e1, P e1 → g e1 ⟨nx, rt, bk, ct, ex⟩) : wSeq f g e ⟨nx, rt, bk, ct, ex⟩ := h _ hp
theorem z_ite {b : Bool} {A B : Prop} (h1 : b = true → A) (h2 : b = false → B) : if b = true then A else B := by
  cases b
  · exact h2 rfl
  · exact h1 rfl
theorem z_itd {p : Prop} [Decidable p] {A B : Prop} (h1 : p → A) (h2 : ¬ p → B) : if decide p = true then A else B := by
  by_cases h : p
  · rw [if_pos (decide_eq_true h)]; exact h1 h
  · rw [if_neg (by simp [h])]; exact h2 h
theorem z_itn {p : Prop} [Decidable p] {A B : Prop} (h1 : ¬ p → A) (h2 : p → B) : if (!decide p) = true then A else B := by
  by_cases h : p
  · rw [if_neg (by simp [h])]; exact h2 h
  · rw [if_pos (by simp [h])]; exact h1 h
theorem atN {xs : List D} {n : Nat} (h : xs[n]? = some x) : atI xs ((n : Nat) : Int) = some x := atI_nat h
end
/-- the law's bag: the script's cells, the place in it, what is left of a cell, the seed -/
def BagW (xs : List D) : Prop := ∃ (ns : List Int) (p : Nat) (cur seed : Int), xs = [.lst (ns.map .int), .int p, .int cur, .int seed] ∧ ns.length ≤ 63 ∧ 0 ≤ cur ∧ 0 ≤ seed ∧ seed < 2147483563
end Wl
namespace Wl
open PySem PySem.Spec PyProof.Rows L2 RZ
def wTwo (K : PySem.W.Frag) (Wout : WX) (D : Ends) (c1 c2 : Value) (ts : Addr → Value → Option Addr → TS) : WX := fun cls d σ H => ∃ b, PySem.W.exmAny K cls [c1, c2] = some b ∧ (b = true → ∀ a, H a = none → ts a cls d D σ H) ∧ (b = false → Wout cls d σ H)
section
variable {X : Cx} {x1 x2 : Str} {c1 c2 : Value} {body suite : List Stmt} {b₀ : Stmt} {p1 p2 tp pos pos' : Pos} {nk : Nat} {ts : Addr → Value → Option Addr → TS} {tb : WX → TS} {Wout : WX}
theorem ps_try_two (hs : X.stack = X.env :: X.outer) (hf : X.env.frame = some X.env.locals) (hc1 : Names X x1 c1) (hc2 : Names X x2 c2) (tk : L2.Takes X Wout) (hb : ∀ W pn xe, L2.Takes (X.tr pn xe) W → PassesOwn (model X.prog X.w) X.A X.env xe → PSs (X.tr pn xe) body (tb W))
    (hsu : ∀ a oe cls d pn, Zc cls d oe → (∃ vs, oe.data = .fields vs) → PSs (X.suite a ((a, oe) :: pn)) (b₀ :: suite) (ts a cls d)) :
    PS X (.Try body [.ExceptHandler (some (.Tuple [.Name x1 p1, .Name x2 p2] nk tp)) none (b₀ :: suite) pos'] [] [] pos) (fun D σ H => tb (wTwo X.K Wout D c1 c2 ts) D σ H) := by
  refine My.ps_falls hs hf hb fun D B a cls d pins σ H sI s x ⟨b, e, yes, no⟩ => wpAny_handleBy_cons (codeAny_handlers_test (wpAny_Tuple_spliced ?_)) fun z => nomatch z
  change wpAny _ _ (spliced [(false, eval (.Name x1 p1) X.env), (false, eval (.Name x2 p2) X.env)]) _ _ _
  refine Calls.spliced_cons (x.name hf hc1 (Calls.spliced_cons (x.name hf hc2 (Calls.spliced_nil ⟨Nat.le_of_ble_eq_true rfl, ?_⟩))))
  have y := x.more { cls := .type "tuple", data := .seq #[c1, c2] }
  refine (PySem.W.exm_tup2 (M := model X.prog X.w) y.now.kIn y.looks (Heap.get?_push_size _ rfl) e).here ?_
  cases b with
  | false => exact y.on hs hf tk (no rfl)
  | true =>
    refine codeAny_handlers_suite (HandSPX.lands_againZ y.fly fun h fl up => ?_)
    have z := y.moved fl up
    obtain ⟨oe, vs, _, zc, dd, S⟩ := z.suite hf
    refine wpAny_mono ((hsu a oe cls d (X.pn ++ pins) zc ⟨vs, dd⟩).run [] _ _ H _ S (yes rfl a x.na)) (fun f s1 q => ?_) fun _ _ z => z.elim
    cases f with
    | next => obtain ⟨σ1, H1, J, q⟩ := q; exact ⟨σ1, H1, J.unsuite x.inv.ok, q⟩
    | brk => obtain ⟨σ1, H1, J, q⟩ := q; exact ⟨σ1, H1, J.unsuite x.inv.ok, q⟩
    | cont => obtain ⟨σ1, H1, J, q⟩ := q; exact ⟨σ1, H1, J.unsuite x.inv.ok, q⟩
    | ret u => obtain ⟨v, σ1, H1, J, r, q⟩ := q; exact ⟨v, σ1, H1, J.unsuite x.inv.ok, r, q⟩
end
end Wl
namespace Wl
open PySem PySem.Spec PyProof.Rows L2 RZ
open LamX (TabB)
section
variable {X : Cx} {K : PySem.W.Frag} {W : WX} {Z : Addr → Prop} {Tt : List (Addr × Str)}
theorem w_tried {x a : Str} {st : Stmt} {g c P CN CA : Addr} {fd : FuncData} {k : Nat} {Ng : List Str} {params : Arguments} {body : Expr} {scope : Scope} {PX : Addr → Str → Prop} {fe : WE} {p lpos pos : Pos}
    (F : Fun K x x st g fd) (hb : L2.Binds K fd [a] []) (Sg : FnScope Ng [a] (defScope st)) (hm : X.mg x = some (.ref g)) (hg : Gl X x) (hNg : Ng[0]? = some a) (hva : Vis (defScope st) a)
    (hG : ∀ cdv, LamX.GivesTo X Ng x (defScope st) g cdv (defBody st) a (X.env.qual ++ "<lambda>") (My.TTt K CN CA)) (hr : Room (k + 2) X.A) (hP : ∀ C w, PX C w → XCls K CN CA C w) (TB : TabB X.base X.mg c P) (hcode : X.env.code = .ref c) (L : LamX.LamS X.env.scope scope) (hdef : defaultsOf params X.env = ([], []))
    (hbind : ∀ (q : Str) (cl : List (Str × Addr)) (pm cv ctv : Value), bindArgs (PySem.W.kla_fn "<lambda>" q params body scope cl pm cv ctv) ⟨[], []⟩ = pure [])
    (hbody : ∀ (A : Around) (outer : List Env) (s : Shared) (H : Hp) (E : XK) (f c' : Addr), Room k (A.deeper (LamX.lamEnv X scope s.heap.objs.size f c')) → PE (LamX.lamCx X A outer s H E scope f c') body (lift ([], Z) K (fun cls d _ H => E cls d H) fe))
    (eK : X.K = K := by rfl) (hT : Tt = [(P, X.env.qual ++ "<lambda>")] := by rfl)
    (hdb : (x == ("__debug__" : Str)) = false := by decide) (hd : (a == ("__debug__" : Str)) = false := by decide) (hcd : (a == ("__classdict__" : Str)) = false := by decide) :
    PE X (.Call (.Name x p) [.Lambda params body scope lpos] [] pos) (lift (Tt, Z) K W (wTried PX fe)) := by
  subst eK
  exact PE.weak (My.pe_lamF (T := Tt) F hb Sg hm hg hNg hva hG hr TB hT hcode L hdef hbind hbody hdb hd hcd) fun σ H Q h => lift_tried (by rw [hT]; exact fun z => nomatch z) hP h
end
/-- try: .. except (A, B): .. -/
def wTry2 (P : Addr → Bool → Prop) (fb fs : WS) : WS := fun e k => fb e { k with ex := fun C gs e1 => ∃ b, P C b ∧ (b = true → fs e1 { k with ex := fun _ _ _ => False }) ∧ (b = false → k.ex C gs e1) }
section
variable {X : Cx} {T : Cxt} {K : PySem.W.Frag} {W : WX} {L : Nat → Bool} {D : Ends} {σ : St} {H : Hp} {c1 c2 : Value} {P : Addr → Bool → Prop} {fb fs : WS}
theorem lift_try2 (hP : ∀ C b, P C b → PySem.W.exmAny K (.ref C) [c1, c2] = some b) (h : liftS T K W L (wTry2 P fb fs) D σ H) : liftS T K (wTwo K W D c1 c2 fun _ _ _ => liftS T K WF L fs) L fb D σ H := by
  obtain ⟨M, F, e, k, lf, fx, rp, hf, s⟩ := h
  refine ⟨M, F, e, _, lf, fx, rp, hf, s.nx, s.bk, s.ct, s.rt, fun C gs e1 ⟨b, hp, ht, hn⟩ dd vs σ' H' fx' r a n l kk => ⟨b, hP C b hp, fun hb _ _ => ⟨M, F, e1, _, lf, fx', r, ht hb, ?_⟩, fun hb => s.ex C gs e1 (hn hb) dd vs σ' H' fx' r a n l kk⟩⟩
  have s2 := s.step kk
  exact ⟨s2.nx, s2.bk, s2.ct, s2.rt, fun _ _ _ z => z.elim⟩
theorem w_try2 {x1 x2 : Str} {body suite : List Stmt} {b₀ : Stmt} {p1 p2 tp pos pos' : Pos} {nk : Nat} (hP : ∀ C b, P C b → PySem.W.exmAny K (.ref C) [c1, c2] = some b) (hc1 : Names X x1 c1) (hc2 : Names X x2 c2) (tk : L2.Takes X W)
    (hb : ∀ (W' : WX) (pn : List (Addr × Obj)) (xe : Value → Shared → Prop), L2.Takes (X.tr pn xe) W' → PassesOwn (model X.prog X.w) X.A X.env xe → PSs (X.tr pn xe) body (liftS T K W' L fb))
    (hsu : ∀ (a : Addr) (oe : Obj) (cls : Value) (d : Option Addr) (pn : List (Addr × Obj)), PSs (X.suite a ((a, oe) :: pn)) (b₀ :: suite) (liftS T K WF L fs)) (eK : X.K = K := by rfl) (hs : X.stack = X.env :: X.outer := by rfl) (hf : X.env.frame = some X.env.locals := by rfl) :
    PS X (.Try body [.ExceptHandler (some (.Tuple [.Name x1 p1, .Name x2 p2] nk tp)) none (b₀ :: suite) pos'] [] [] pos) (liftS T K W L (wTry2 P fb fs)) := by
  subst eK
  exact PS.weak (ps_try_two (ts := fun _ _ _ => liftS T X.K WF L fs) (tb := fun W' => liftS T X.K W' L fb) hs hf hc1 hc2 tk hb fun a oe cls d pn _ _ => hsu a oe cls d pn) fun D σ H h => lift_try2 hP h
theorem z_try2 {nx bk ct : En → Prop} {rt : R → En → Prop} {ex : Kx} {e : En} (h : fb e ⟨nx, rt, bk, ct, fun C gs e1 => ∃ b, P C b ∧ (b = true → fs e1 ⟨nx, rt, bk, ct, fun _ _ _ => False⟩) ∧ (b = false → ex C gs e1)⟩) : wTry2 P fb fs e ⟨nx, rt, bk, ct, ex⟩ := h
end
end Wl
namespace Wl
open PySem PySem.Spec PyProof.Rows L2 RZ
def keyD : D → Option Key
  | .int i => some (.inl i)
  | .str x => some (.inr x)
  | _ => none
section
variable {κ α : Type} [DecidableEq κ]
def valD (kvs : List (κ × α)) (k : κ) : Option α := (kvs.find? fun kv => decide (kv.1 = k)).map (·.2)
def putKD (kvs : List (κ × α)) (k : κ) (v : α) : List (κ × α) :=
  if (kvs.any fun kv => decide (kv.1 = k)) = true then kvs.map (fun kv => if kv.1 = k then (kv.1, v) else kv) else kvs ++ [(k, v)]
def mergeD (kvs more : List (κ × α)) : List (κ × α) := more.foldl (fun acc kv => putKD acc kv.1 kv.2) kvs
end
def pairsD : List R → Option (List (Key × D))
  | [] => some []
  | .d x :: .d y :: rs => match keyD x, pairsD rs with
    | some k, some ps => some ((k, y) :: ps)
    | _, _ => none
  | _ => none
/-- the same keys, the values alike -/
def KvHd (κ : Type) (N : Addr → Prop) (K : PySem.W.Frag) (H : Hp) (ks : List (κ × V)) (kvs : List (κ × D)) : Prop := ks.map (·.1) = kvs.map (·.1) ∧ HdL N K H (ks.map (·.2)) (kvs.map (·.2))
section
variable {κ : Type} [DecidableEq κ] {N : Addr → Prop} {K : PySem.W.Frag} {H : Hp}
theorem KvHd.nil : KvHd κ N K H [] [] := ⟨rfl, .nil⟩
theorem KvHd.consI {p : κ × V} {ks : List (κ × V)} {q : κ × D} {kvs : List (κ × D)} (h : KvHd κ N K H (p :: ks) (q :: kvs)) : p.1 = q.1 ∧ Hd N K H p.2 q.2 ∧ KvHd κ N K H ks kvs := by
  obtain ⟨e, h⟩ := h
  simp only [List.map_cons, List.cons.injEq] at e h
  cases h with
  | cons a b => exact ⟨e.1, a, e.2, b⟩
theorem KvHd.cons {p : κ × V} {ks : List (κ × V)} {q : κ × D} {kvs : List (κ × D)} (e : p.1 = q.1) (a : Hd N K H p.2 q.2) (b : KvHd κ N K H ks kvs) : KvHd κ N K H (p :: ks) (q :: kvs) :=
  ⟨by simp only [List.map_cons, e, b.1], by simp only [List.map_cons]; exact .cons a b.2⟩
theorem KvHd.ind {P : List (κ × V) → List (κ × D) → Prop} (h0 : P [] []) (hc : ∀ p ks q kvs, p.1 = q.1 → Hd N K H p.2 q.2 → KvHd κ N K H ks kvs → P ks kvs → P (p :: ks) (q :: kvs)) : ∀ {ks : List (κ × V)} {kvs : List (κ × D)}, KvHd κ N K H ks kvs → P ks kvs
  | [], [], _ => h0
  | p :: ks, q :: kvs, h => let ⟨e, a, b⟩ := h.consI; hc _ _ _ _ e a b (KvHd.ind h0 hc b)
  | [], _ :: _, h => by have := h.1; simp at this
  | _ :: _, [], h => by have := h.1; simp at this
theorem KvHd.val {ks : List (κ × V)} {kvs : List (κ × D)} (h : KvHd κ N K H ks kvs) (k : κ) : (valV ks k = none ∧ valD kvs k = none) ∨ ∃ v x, valV ks k = some v ∧ valD kvs k = some x ∧ Hd N K H v x := by
  refine KvHd.ind (P := fun ks kvs => (valV ks k = none ∧ valD kvs k = none) ∨ ∃ v x, valV ks k = some v ∧ valD kvs k = some x ∧ Hd N K H v x) (.inl ⟨rfl, rfl⟩) (fun p ks q kvs e a _ ih => ?_) h
  by_cases c : p.1 = k
  · exact .inr ⟨p.2, q.2, valV_pos c, by simp [valD, List.find?_cons, ← e, c], a⟩
  · have e1 : valV (p :: ks) k = valV ks k := by simp [valV, List.find?_cons, c]
    have e2 : valD (q :: kvs) k = valD kvs k := by simp [valD, List.find?_cons, ← e, c]
    rw [e1, e2]
    exact ih
theorem KvHd.any {ks : List (κ × V)} {kvs : List (κ × D)} (h : KvHd κ N K H ks kvs) (k : κ) : (ks.any fun kv => decide (kv.1 = k)) = kvs.any fun kv => decide (kv.1 = k) := by
  refine KvHd.ind (P := fun ks kvs => (ks.any fun kv => decide (kv.1 = k)) = kvs.any fun kv => decide (kv.1 = k)) rfl (fun p ks q kvs e _ _ ih => ?_) h
  rw [List.any_cons, List.any_cons, ih, e]
theorem KvHd.app {ks : List (κ × V)} {kvs : List (κ × D)} {p : κ × V} {q : κ × D} (h : KvHd κ N K H ks kvs) (e : p.1 = q.1) (a : Hd N K H p.2 q.2) : KvHd κ N K H (ks ++ [p]) (kvs ++ [q]) :=
  KvHd.ind (P := fun ks kvs => KvHd κ N K H (ks ++ [p]) (kvs ++ [q])) (.cons e a .nil) (fun _ _ _ _ e' a' _ ih => .cons e' a' ih) h
theorem KvHd.put {ks : List (κ × V)} {kvs : List (κ × D)} {k : κ} {v : V} {x : D} (h : KvHd κ N K H ks kvs) (a : Hd N K H v x) : KvHd κ N K H (putK ks k v) (putKD kvs k x) := by
  unfold putK putKD
  rw [h.any k]
  split
  · refine KvHd.ind (P := fun ks kvs => KvHd κ N K H (ks.map fun kv => if kv.1 = k then (kv.1, v) else kv) (kvs.map fun kv => if kv.1 = k then (kv.1, x) else kv)) .nil (fun p ks q kvs e a' _ ih => ?_) h
    rw [List.map_cons, List.map_cons]
    refine .cons ?_ ?_ ih
    · rw [e]
      split
      · rfl
      · exact e
    · rw [e]
      split
      · exact a
      · exact a'
  · exact h.app rfl a
theorem KvHd.len {ks : List (κ × V)} {kvs : List (κ × D)} (h : KvHd κ N K H ks kvs) : ks.length = kvs.length := by
  have := congrArg List.length h.1
  simpa using this
end
theorem KvHd.merge {N : Addr → Prop} {K : PySem.W.Frag} {H : Hp} {more : List (Key × V)} {mored : List (Key × D)} (hm : KvHd Key N K H more mored) : ∀ {ks : List (Key × V)} {kvs : List (Key × D)}, KvHd Key N K H ks kvs → KvHd Key N K H (mergeK ks more) (mergeD kvs mored) := by
  refine KvHd.ind (P := fun more mored => ∀ {ks : List (Key × V)} {kvs : List (Key × D)}, KvHd Key N K H ks kvs → KvHd Key N K H (mergeK ks more) (mergeD kvs mored)) (fun h => h) (fun p ks q kvs e a _ ih => ?_) hm
  intro ks' kvs' h
  have := ih (h.put (k := p.1) a)
  unfold mergeK mergeD at this ⊢
  rw [List.foldl_cons, List.foldl_cons, ← e]
  exact this
section
variable {T : Cxt} {K : PySem.W.Frag} {M M1 F : Addr → Prop} {W : WX} {σ : St} {H H' : Hp} {e e' : En}
/-- somebody's dict is written -/
theorem Rep.updK {p : Addr} {xs ys : List (Key × V)} (h : Rep T K M1 σ H e) (hM : M1 p) (hp : H p = some (.dK xs)) : Rep T K M1 σ (upd H p (.dK ys)) e := by
  have ne : ∀ b o, H b = some o → (∀ zs, o ≠ .dK zs) → b ≠ p := fun b o q n z => by subst z; rw [hp] at q; cases q; exact n _ rfl
  refine ⟨h.len, fun i s x => ?_, h.inj, h.apart, fun a z => ?_, Tabs.keep h.tabs fun b o q _ m1 _ _ => by rw [upd_ne (ne b o q m1)]; exact q⟩
  · obtain ⟨v, e1, q⟩ := h.at_ i s x
    refine ⟨v, e1, q.tr ⟨fun a xs q => by rw [upd_ne (ne a _ q fun _ z => nomatch z)]; exact q, fun a o q n _ => by rw [upd_ne fun z => n (.inl (by rw [z]; exact hM))]; exact q, fun _ _ n => n⟩ fun a o y1 y2 y3 _ => ?_⟩
    rw [upd_ne fun z => h.apart p hM (by rw [← z]; exact ⟨i, s, x, y2, _, e1, y1⟩)]
    exact y3
  · by_cases c : a = p
    · exact ⟨.dK ys, by rw [c]; exact upd_same, fun _ z => nomatch z⟩
    · obtain ⟨u, q, n⟩ := h.dom a z
      exact ⟨u, by rw [upd_ne c]; exact q, n⟩
/-- somebody's thing becomes the result -/
theorem Rep.give {p : Addr} {s : S} (h : Rep T K (fun a => M a ∨ a = p) σ H e) (nM : ¬ M p) (hs : s.owned = true) (q : RS (fun a => (M a ∨ a = p) ∨ Own σ e a) K H (.ref p) s) (hl : s.lone = true := by rfl) : Reps T K M σ H e [.ref p] [.own s] := by
  have on : ∀ {a : Addr}, OwnR [V.ref p] [.own s] a → a = p := fun z => by obtain ⟨_, eo, e⟩ := ownR_one.mp z; cases eo; have e := S.lone_has hl e; cases e; rfl
  refine ⟨h.sub fun a z => z.imp id on, rfl, fun i v r h1 h2 => ?_, fun i j s t a h1 h2 _ _ => ?_, fun a z => by rw [on z]; exact nM⟩
  · cases i with
    | zero =>
      simp only [List.getElem?_cons_zero, Option.some.injEq] at h1 h2
      subst h1 h2
      exact ⟨hs, q.sub fun a z => z.imp (fun z => z.imp id on) id⟩
    | succ i => simp at h1
  · cases i with
    | zero =>
      cases j with
      | zero => rfl
      | succ j => simp at h2
    | succ i => simp at h1
def wPairs : List (WE × WE) → WA
  | [] => wNil
  | p :: ps => wCons p.1 (wCons p.2 (wPairs ps))
def unflat : List V → List (V × V)
  | x :: y :: r => (x, y) :: unflat r
  | _ => []
theorem lift_mono {f : WE} {Q Q' : VK} (h : lift T K W f σ H Q) (q : ∀ v H, Q v H → Q' v H) : lift T K W f σ H Q' := by
  obtain ⟨M, e, k, kx, rp, hf, q1, x⟩ := h
  exact ⟨M, e, k, kx, rp, hf, fun r e' hk v H' p kk s => q _ _ (q1 r e' hk v H' p kk s), x⟩
theorem lift_pairs : ∀ {ps : List (WE × WE)} {σ : St} {H : Hp} {Q : List (V × V) → Hp → Prop}, liftA T K W (wPairs ps) σ H (fun xs H' => Q (unflat xs) H') → tPairs (ps.map fun p => (lift T K W p.1, lift T K W p.2)) σ H Q
  | [], _, _, _, h => liftA_nil h
  | p :: ps, _, _, Q, h => lift_mono (liftA_cons h) fun x H1 h1 => lift_mono (liftA_cons h1) fun y H2 h2 => lift_pairs (Q := fun ps H3 => Q ((x, y) :: ps) H3) h2
def wDisp (ps : List (WE × WE)) : WE := fun e k kx => wPairs ps e (fun rs e1 => ∃ kvs, pairsD rs = some kvs ∧ kvs.length ≤ 15 ∧ k (.own (.m (mergeD [] kvs))) e1) kx
theorem keyD_hd {N : Addr → Prop} {v : V} {x : Wl.D} {k : Key} (h : Hd N K H v x) (e : keyD x = some k) : v = kV k := by
  cases x with
  | int i => cases h; cases e; rfl
  | str i => cases h; cases e; rfl
  | _ => cases e
theorem pairs_hd {N : Addr → Prop} : ∀ {vs : List V} {rs : List R} {kvs : List (Key × Wl.D)}, vs.length = rs.length → (∀ (i : Nat) (v : V) (x : Wl.D), vs[i]? = some v → rs[i]? = some (.d x) → Hd N K H v x) → pairsD rs = some kvs → ∃ ks, unflat vs = ks.map (fun kv => (kV kv.1, kv.2)) ∧ KvHd Key N K H ks kvs
  | [], [], _, _, _, h => by cases h; exact ⟨[], rfl, .nil⟩
  | v :: w :: vs, .d x :: .d y :: rs, kvs, hl, g, h => by
    unfold pairsD at h
    split at h
    · rename_i k ps e1 e2
      cases h
      obtain ⟨ks, q1, q2⟩ := pairs_hd (vs := vs) (rs := rs) (by simpa using hl) (fun i v x h1 h2 => g (i + 2) v x (by simpa using h1) (by simpa using h2)) e2
      have hk := keyD_hd (g 0 v x rfl rfl) e1
      exact ⟨(k, w) :: ks, by unfold unflat; rw [q1, hk]; rfl, .cons rfl (g 1 w y rfl rfl) q2⟩
    · cases h
  | [], _ :: _, _, hl, _, _ => by simp at hl
  | _ :: _, [], _, hl, _, _ => by simp at hl
  | [_], [.d _], _, _, _, h => by simp [pairsD] at h
  | [_], [.s _], _, _, _, h => by simp [pairsD] at h
  | [_], [.own _], _, _, _, h => by simp [pairsD] at h
  | [_], _ :: _ :: _, _, hl, _, _ => by simp at hl
  | _ :: _ :: _, [_], _, hl, _, _ => by simp at hl
  | _ :: _ :: _, .s _ :: _ :: _, _, _, _, h => by simp [pairsD] at h
  | _ :: _ :: _, .own _ :: _ :: _, _, _, _, h => by simp [pairsD] at h
  | _ :: _ :: _, .d _ :: .s _ :: _, _, _, _, h => by simp [pairsD] at h
  | _ :: _ :: _, .d _ :: .own _ :: _, _, _, _, h => by simp [pairsD] at h
theorem lift_disp {ps : List (WE × WE)} {Q : VK} (h : lift T K W (wDisp ps) σ H Q) : tDisp (ps.map fun p => (lift T K W p.1, lift T K W p.2)) σ H Q := by
  obtain ⟨M, e, k, kx, rp, hf, q, x⟩ := h
  intro p hp
  have r1 := rp.addM (o := .dK []) hp (fun _ z => nomatch z)
  have np := rp.free hp
  have k0 : Keep T (Own σ e) H (Own σ e) (upd H p (.dK [])) := keep_new hp
  refine lift_pairs ⟨_, e, _, kx, r1, hf, fun rs e1 ⟨kvs, h1, h2, hk⟩ vs H2 p1 k1 s1 => ?_, x.step (fun _ => .inl) k0⟩
  have hH2 : H2 p = some (.dK []) := k1.keep p _ upd_same np.2 (fun _ z => nomatch z)
  obtain ⟨ks, e1', hd⟩ := pairs_hd (N := fun a => (M a ∨ a = p) ∨ Own σ e1 a) p1.len (fun i v x h1 h2 => (show Hd _ K H2 v x from p1.val i v (.d x) h1 h2).sub fun a z => z.imp .inl id) h1
  refine ⟨hH2, ks, e1', by rw [hd.len]; exact h2, ?_⟩
  have r2 := (p1.toRep).updK (ys := mergeK [] ks) (.inr rfl) hH2
  have t : Tr (fun a => (M a ∨ a = p) ∨ Own σ e1 a) H2 (fun a => (M a ∨ a = p) ∨ Own σ e1 a) (upd H2 p (.dK (mergeK [] ks))) := ⟨fun a xs q => by
    rw [upd_ne fun z => by rw [z, hH2] at q; cases q]; exact q, fun a o q n _ => by rw [upd_ne fun z => n (.inl (.inr z))]; exact q, fun _ _ n => n⟩
  have hm := (hd.merge .nil)
  refine q _ e1 hk _ _ (r2.give np.1 rfl ⟨p, _, rfl, upd_same, hm.1, hm.2.tr t⟩) ?_ s1
  have k2 : Keep T (Own σ e) H (Own σ e1) (upd H2 p (.dK (mergeK [] ks))) := (k0.trans (k1.sub fun _ => .inl)).mut hp
  refine ⟨k2.tup, k2.keep, fun a l n z => ?_, k2.tbl, k2.dom⟩
  rcases z with z | z
  · exact k2.out a l n z
  · obtain ⟨_, eo, e⟩ := ownR_one.mp z; cases eo
    cases e
    exact l.ne hp
def isDctD : Wl.D → Prop
  | .dct _ => True
  | .dcT _ => True
  | _ => False
def wIs (P : Wl.D → Prop) (f : WE) : WE := fun e k kx => f e (fun r e1 => (∃ x, see e1 r = some x ∧ P x) ∧ k r e1) kx
theorem isD_see {N : Addr → Prop} {v : V} {x : Wl.D} (h : HdE N K H v x) (d : isDctD x) : ∃ a, v = .ref a ∧ IsD H a := by
  cases x with
  | dct kvs => obtain ⟨a, ks, rfl, h1, _⟩ := h; exact ⟨a, rfl, .inl ⟨ks, h1⟩⟩
  | dcT kvs => obtain ⟨a, ks, rfl, h1, _⟩ := h; exact ⟨a, rfl, .inr ⟨ks, h1⟩⟩
  | _ => exact d.elim
theorem lift_isD {f : WE} {Q : VK} (h : lift T K W (wIs isDctD f) σ H Q) : lift T K W f σ H fun v H1 => (∃ a, v = .ref a ∧ IsD H1 a) ∧ Q v H1 := by
  obtain ⟨M, e, k, kx, rp, hf, q, x⟩ := h
  refine ⟨M, e, _, kx, rp, hf, fun r e1 ⟨⟨y, h1, h2⟩, hk⟩ v H1 p kk s => ⟨?_, q r e1 hk v H1 p kk s⟩, x⟩
  have := p.see (rs := [r]) (ds := [y]) (by unfold seeL; rw [h1]; rfl)
  cases this with
  | cons a _ => exact isD_see a h2
/-- d.get(k, x): keys ints and texts -/
def gGet2 (ds : List Wl.D) (k : R → Prop) : Prop := match ds with
  | [.dct kvs, y, z] => flatD z = true ∧ ∃ ky, keyD y = some ky ∧ k (.d ((valD kvs ky).getD z))
  | _ => False
def gGet1 (ds : List Wl.D) (k : R → Prop) : Prop := match ds with
  | [.dct kvs, y] => ∃ ky, keyD y = some ky ∧ k (.d ((valD kvs ky).getD .non))
  | _ => False
def rGet2 : List V → Hp → VK → Prop := fun vs H Q => ∀ x y z, vs = [x, y, z] → ∀ a, x = .ref a → ∃ o, DGet H a y o ∧ Q (o.getD z) H
theorem see_dct {N : Addr → Prop} {v : V} {kvs : List (Key × Wl.D)} (h : HdE N K H v (.dct kvs)) : ∃ a ks, v = .ref a ∧ Rd H a (.dK ks) ∧ KvHd Key N K H ks kvs := by
  obtain ⟨a, ks, e, h1, h2, h3⟩ := h
  exact ⟨a, ks, e, h1, h2, h3⟩
theorem see_flat {N : Addr → Prop} {v : V} {y : Wl.D} {k : Key} (h : HdE N K H v y) (e : keyD y = some k) : v = kV k := by
  cases y with
  | int i => cases see_int h; cases e; rfl
  | str i => cases see_str h; cases e; rfl
  | _ => cases e
theorem flat_hd {N : Addr → Prop} {v : V} {z : Wl.D} (h : HdE N K H v z) (f : flatD z = true) : Hd N K H v z := by
  cases z with
  | non => exact h
  | bl b => exact h
  | int b => exact h
  | str b => exact h
  | _ => cases f
theorem spGet2 : OpSpec K rGet2 gGet2 := OpSpec.read fun N H vs ds k Q hd hg q => by
  rintro x y z rfl a rfl
  unfold gGet2 at hg
  split at hg
  · cases hd with
    | cons h1 hd =>
    cases hd with
    | cons h2 hd =>
    cases hd with
    | cons h3 hd =>
    obtain ⟨a', ks, e, hr, hk⟩ := see_dct h1
    cases e
    obtain ⟨fz, ky, ek, hg⟩ := hg
    cases see_flat h2 ek
    refine ⟨_, .inl ⟨ks, ky, hr, rfl, rfl⟩, ?_⟩
    rcases hk.val ky with ⟨e1, e2⟩ | ⟨v, x, e1, e2, hx⟩
    · rw [e2] at hg; rw [e1]; exact q _ hg _ (flat_hd h3 fz)
    · rw [e2] at hg; rw [e1]; exact q _ hg _ hx
  · cases hg
theorem lift_get2 {fo fk fx : WE} {Q : VK} (h : lift T K W (wOp gGet2 (wCons (wIs isDctD fo) (wCons fk (wCons fx wNil)))) σ H Q) : tDGet2 (lift T K W fo) (lift T K W fk) (lift T K W fx) σ H Q :=
  lift_mono (lift_isD (liftA_cons (lift_op spGet2 h))) fun x H1 ⟨⟨a, e, d⟩, h2⟩ => ⟨a, e, d, lift_mono (liftA_cons h2) fun y H2 h3 => lift_mono (liftA_cons h3) fun z H3 h4 => (liftA_nil h4) x y z rfl a e⟩
end
section
variable {X : Cx} {T : Cxt} {K : PySem.W.Frag} {W : WX} {o i j k v : Expr} {fo fi fj fk fv : WE} {pos apos : Pos} {ks : List (Option Expr)} {vs : List Expr} {ps : List (WE × WE)}
theorem wp_nil : PPs X pos [] [] (([] : List (WE × WE)).map fun p => (lift T K W p.1, lift T K W p.2)) := pps_nil
theorem wp_cons (hk : PE X k (lift T K W fk)) (hv : PE X v (lift T K W fv)) (hr : PPs X pos ks vs (ps.map fun p => (lift T K W p.1, lift T K W p.2))) : PPs X pos (some k :: ks) (v :: vs) (((fk, fv) :: ps).map fun p => (lift T K W p.1, lift T K W p.2)) := pps_cons hk hv hr
theorem w_disp (h : PPs X pos ks vs (ps.map fun p => (lift T K W p.1, lift T K W p.2))) (hall : ks.all (·.isSome) = true := by rfl) (hl : ks.length = vs.length := by rfl) (h0 : ks ≠ [] := by exact nofun) (h15 : ks.length ≤ 15 := by decide) : PE X (.Dict ks vs pos) (lift T K W (wDisp ps)) :=
  PE.weak (pe_disp h hall hl h0 h15) fun _ _ _ => lift_disp
theorem w_get2 (hu : X.A.units + 1 < cLine) (ho : PE X o (lift T K W fo)) (hi : PE X i (lift T K W fi)) (hj : PE X j (lift T K W fj)) (m : M2 X o "get" apos i j pos := by exact ⟨rfl, rfl, rfl, rfl⟩) : PE X (.Call (.Attribute o "get" apos) [i, j] [] pos) (lift T K W (wOp gGet2 (wCons (wIs isDctD fo) (wCons fi (wCons fj wNil))))) :=
  PE.weak (pe_dget2 hu ho hi hj m) fun _ _ _ => lift_get2
end
section
variable {e e' : En} {kx : Kx} {fe : WE} {k : R → En → Prop} {kA : List R → En → Prop} {x y z : D} {r : R} {rs : List R} {kR : R → Prop}
theorem z_pairsN (h : kA [] e) : wPairs [] e kA kx := h
theorem z_pairsC {p : WE × WE} {ps : List (WE × WE)} (h : wCons p.1 (wCons p.2 (wPairs ps)) e kA kx) : wPairs (p :: ps) e kA kx := h
def DispK (k : R → En → Prop) : List R → En → Prop := fun rs e1 => ∃ kvs, pairsD rs = some kvs ∧ kvs.length ≤ 15 ∧ k (.own (.m (mergeD [] kvs))) e1
theorem z_disp {ps : List (WE × WE)} (h : wPairs ps e (DispK k) kx) : wDisp ps e k kx := h
theorem z_dispK {kvs : List (Key × D)} (h1 : pairsD rs = some kvs) (h2 : kvs.length ≤ 15) (h : k (.own (.m (mergeD [] kvs))) e) : DispK k rs e := ⟨kvs, h1, h2, h⟩
def IsK (P : D → Prop) (k : R → En → Prop) : R → En → Prop := fun r e1 => (∃ x, see e1 r = some x ∧ P x) ∧ k r e1
theorem z_is {P : D → Prop} (h : fe e (IsK P k) kx) : wIs P fe e k kx := h
theorem z_isK {P : D → Prop} (h1 : see e r = some x) (h2 : P x) (h : k r e) : IsK P k r e := ⟨⟨x, h1, h2⟩, h⟩
theorem z_get2 {kvs : List (Key × D)} {ky : Key} (h1 : flatD z = true) (h2 : keyD y = some ky) (h : kR (.d ((valD kvs ky).getD z))) : gGet2 [.dct kvs, y, z] kR := ⟨h1, ky, h2, h⟩
theorem z_get1 {kvs : List (Key × D)} {ky : Key} (h2 : keyD y = some ky) (h : kR (.d ((valD kvs ky).getD .non))) : gGet1 [.dct kvs, y] kR := ⟨ky, h2, h⟩
end
section
variable {K : PySem.W.Frag}
def gMulT (ds : List D) (k : R → Prop) : Prop := match ds with
  | [.int i, .int j] => ((-(2 ^ 64) < i ∧ i < 2 ^ 64) ∨ (-(2 ^ 64) < j ∧ j < 2 ^ 64)) ∧ k (.d (.int (i * j)))
  | [.tup xs, .int j] => xs ≠ [] ∧ 2 ≤ j ∧ j ≤ 1000 ∧ xs.length ≤ 1000 ∧ k (.d (.tup (List.replicate j.toNat xs).flatten))
  | _ => False
def rMulT (K : PySem.W.Frag) : R2 := fun x y H Q => (rI CMul fun i j => .int (i * j)) x y H Q ∨ rRepT K x y H Q
theorem opMulT {X : Cx} {K : PySem.W.Frag} (e : X.K = K := by rfl) : OpR X (binaryOp .Mult) (rMulT K) := e ▸ (My.opMul (X := X)).or op_repT
theorem HdL.rep {N : Addr → Prop} {H : Hp} {vs : List V} {ds : List D} (h : HdL N K H vs ds) : ∀ n : Nat, HdL N K H (List.replicate n vs).flatten (List.replicate n ds).flatten
  | 0 => .nil
  | n + 1 => by
    rw [List.replicate_succ, List.replicate_succ, List.flatten_cons, List.flatten_cons]
    exact h.app (HdL.rep h n)
theorem spMulT : OpSpec K (r2L (rMulT K)) gMulT := OpSpec.tup fun N H vs ds k Q hd hg q qt => by
  rintro x y rfl
  unfold gMulT at hg
  split at hg
  · obtain ⟨v, w, e, h1, h2⟩ := hd.two
    cases e
    cases see_int h1
    cases see_int h2
    exact .inl (My.s_mul hg.1 (q _ hg.2 _ (.int _)))
  · obtain ⟨v, w, e, h1, h2⟩ := hd.two
    cases e
    obtain ⟨a, xs, rfl, t1, l1⟩ := see_tup h1
    cases see_int h2
    obtain ⟨n1, n2, n3, n4, hk⟩ := hg
    exact .inr ⟨a, _, xs, rfl, rfl, t1.sq, fun z => n1 (by subst z; cases l1; rfl), n2, n3, by rw [l1.len]; exact n4, fun p hp => qt _ hk _ (l1.rep _) p hp⟩
  · cases hg
theorem z_mulT {kR : R → Prop} {xs : List D} {j : Int} (h1 : xs ≠ []) (h2 : 2 ≤ j ∧ j ≤ 1000 ∧ xs.length ≤ 1000) (h : kR (.d (.tup (List.replicate j.toNat xs).flatten))) : gMulT [.tup xs, .int j] kR := ⟨h1, h2.1, h2.2.1, h2.2.2, h⟩
end
end Wl
namespace Wl
open PySem PySem.Spec PyProof.Rows L2 RZ
def isIntD : D → Bool
  | .int _ => true
  | _ => false
def isCountD : D → Bool
  | .str s => decide (s = "a") || (decide (s = "b") || decide (s = "c"))
  | _ => false
def inRD (x : D) (lo hi : Int) : Bool := match x with
  | .int i => decide (lo ≤ i) && decide (i ≤ hi)
  | _ => false
/-- one of the words that stand alone -/
def plainWord (w : Str) : Bool := decide (w = "yes") || (decide (w = "no") || (decide (w = "not") || (decide (w = "and") || decide (w = "or"))))
/-- what check_values finds: a bad count, a bad constant -/
inductive ValErr where
  | none | count (x : D) | const (x : D)
def errCount (x : D) (r : ValErr) : ValErr := if isCountD x = true then r else .count x
def errRange (x : D) (lo hi : Int) (r : ValErr) : ValErr := if inRD x lo hi = true then r else .const x
def sameStr (x y : D) : Bool := match x, y with
  | .str a, .str b => decide (a = b)
  | _, _ => false
def intOf : D → Int
  | .int i => i
  | _ => 0
def valErr (p : D) : ValErr := match p with
  | .tup [.str w, c, k] => if w = "least" then errCount c (errRange k 0 3 .none) else .none
  | .tup [.str w, c, d, k] => if w = "ahead" then errCount c (errCount d (if sameStr c d = true then .count d else errRange k (-3) 3 .none))
    else if w = "rest" then errCount c (errRange d 2 4 (errRange k 0 (intOf d - 1) .none)) else .none
  | _ => .none
/-- a part fits -/
def fitsD (p : D) : Bool := match p with
  | .tup [.str w] => plainWord w
  | .tup [.str w, c, k] => decide (w = "least") && (match valErr (.tup [.str w, c, k]) with | .none => true | _ => false)
  | .tup [.str w, c, d, k] => (decide (w = "ahead") || decide (w = "rest")) && (match valErr (.tup [.str w, c, d, k]) with | .none => true | _ => false)
  | _ => false
def needD (p : D) : Int := match p with
  | .tup (.str w :: _) => if w = "not" then 1 else if w = "and" then 2 else if w = "or" then 2 else 0
  | _ => 0
def codeAt : Nat → Int → List D → Except Nat Int
  | _, d, [] => .ok d
  | i, d, p :: ps => if fitsD p = false then .error i else if d < needD p then .error i else codeAt (i + 1) (d + 1 - needD p) ps
inductive CodeErr where
  | none | limit | at (i : Nat)
def codeErr (ps : List D) : CodeErr := if ps.length > 60 then .limit else match codeAt 0 0 ps with
  | .error i => .at i
  | .ok d => if d = 1 then .none else .at ps.length
theorem in_nil {x : D} : inD x [] = false := rfl
theorem in_str {s a : Str} {l : List D} : inD (.str s) (.str a :: l) = (decide (s = a) || inD (.str s) l) := by
  unfold inD inV
  simp only [List.map_cons, toV, List.any_cons, eqV]
  congr 1
  by_cases h : a = s
  · subst h; simp
  · simp [h, Ne.symm h]
theorem in_strN {x : D} {a : Str} {l : List D} (h : ∀ s, x ≠ .str s) : inD x (.str a :: l) = inD x l := by
  unfold inD inV
  simp only [List.map_cons, toV, List.any_cons]
  cases x <;> first | rfl | exact (h _ rfl).elim
theorem in_count {x : D} : inD x [.str "a", .str "b", .str "c"] = isCountD x := by
  cases x with
  | str s => rw [in_str, in_str, in_str, in_nil, Bool.or_false]; rfl
  | _ => rw [in_strN, in_strN, in_strN] <;> first | rfl | (intro s z; cases z)
/-- what check_values may be given -/
inductive OkVals : D → Prop where
  | least (c k : D) : (tyD c).isSome = true → (tyD k).isSome = true → OkVals (.tup [.str "least", c, k])
  | ahead (c d k : D) : (tyD c).isSome = true → (tyD d).isSome = true → (tyD k).isSome = true → OkVals (.tup [.str "ahead", c, d, k])
  | rest (c d k : D) : (tyD c).isSome = true → (tyD d).isSome = true → (tyD k).isSome = true → OkVals (.tup [.str "rest", c, d, k])
  | other (w : Str) (r : List D) : w ≠ "least" → w ≠ "ahead" → w ≠ "rest" → OkVals (.tup (.str w :: r))
theorem valErr_least {c k : D} : valErr (.tup [.str "least", c, k]) = errCount c (errRange k 0 3 .none) := by unfold valErr; exact if_pos rfl
theorem valErr_ahead {c d k : D} : valErr (.tup [.str "ahead", c, d, k]) = errCount c (errCount d (if sameStr c d = true then .count d else errRange k (-3) 3 .none)) := by unfold valErr; exact if_pos rfl
theorem valErr_rest {c d k : D} : valErr (.tup [.str "rest", c, d, k]) = errCount c (errRange d 2 4 (errRange k 0 (intOf d - 1) .none)) := by
  unfold valErr
  show (if ("rest" : Str) = "ahead" then _ else _) = _
  rw [if_neg (by decide)]
  exact if_pos rfl
theorem valErr_other {w : Str} {r : List D} (h1 : w ≠ "least") (h2 : w ≠ "ahead") (h3 : w ≠ "rest") : valErr (.tup (.str w :: r)) = .none := by
  unfold valErr
  split
  · rename_i w' c k e
    cases e
    exact if_neg h1
  · rename_i w' c d k e
    cases e
    rw [if_neg h2, if_neg h3]
  · rfl
theorem count_str {x : D} (h : isCountD x = true) : ∃ s, x = .str s := by
  cases x with
  | str s => exact ⟨s, rfl⟩
  | _ => cases h
theorem range_int {x : D} {lo hi : Int} (h : inRD x lo hi = true) : ∃ i, x = .int i ∧ lo ≤ i ∧ i ≤ hi := by
  cases x with
  | int i => exact ⟨i, rfl, by simpa [inRD] using h⟩
  | _ => cases h
/-- data that == can be asked of -/
def EqD (x : D) : Prop := ∃ p, D.py x = some p ∧ SeqAt.shaped p = true
/-- a part of a code as it may be handed in -/
def OkPart (p : D) : Prop := (tyD p).isSome = true ∧ EqD p ∧ (∀ ps, p = .tup ps → (∀ x ∈ ps, (tyD x).isSome = true) ∧ ps.length ≤ 1000) ∧ ∀ ds, p ≠ .tupP ds
theorem eq_nil {ps : List D} {xs : List PyData} (h : D.py (.tup ps) = some (.tuple xs)) : PyData.eqv (.tuple xs) (.tuple []) = decide (ps = []) := by
  unfold D.py at h
  cases ps with
  | nil => simp [pyL] at h; subst h; rfl
  | cons a l =>
    split at h
    · rename_i ys q
      cases h
      unfold pyL at q
      split at q
      · cases q
        rfl
      · cases q
    · cases h
theorem py_tup {ps : List D} {p : PyData} (h : D.py (.tup ps) = some p) : ∃ xs, p = .tuple xs ∧ pyL ps = some xs := by
  unfold D.py at h
  split at h
  · rename_i xs q; cases h; exact ⟨xs, rfl, q⟩
  · cases h
theorem pyL_cons {a : D} {ps : List D} {xs : List PyData} (h : pyL (a :: ps) = some xs) : ∃ y ys, xs = y :: ys ∧ D.py a = some y ∧ pyL ps = some ys := by
  unfold pyL at h
  split at h
  · rename_i y ys q1 q2; cases h; exact ⟨y, ys, rfl, q1, q2⟩
  · cases h
theorem z_eqP {x y : D} {p q : PyData} {kR : R → Prop} (hx : D.py x = some p) (hy : D.py y = some q) (s1 : SeqAt.shaped p = true) (s2 : SeqAt.shaped q = true) (h : kR (.d (.bl (PyData.eqv p q)))) : gEq [x, y] kR := by
  unfold gEq
  split
  · rename_i i j e; cases e; cases hx; cases hy; simpa [PyData.eqv, BEq.beq] using h
  · rename_i i j e; cases e; cases hx; cases hy; simpa [PyData.eqv, BEq.beq] using h
  · rename_i i j e; cases e; cases hx; cases hy; rw [show decide (i = j) = (i == j) by cases i <;> cases j <;> rfl]; simpa [PyData.eqv] using h
  · rename_i a b _ _ _ e; cases e; exact ⟨p, q, hx, hy, s1, s2, h⟩
  · rename_i e; exact (e x y rfl).elim
theorem eqv_str {a : Str} {x : D} {y : PyData} (h : D.py x = some y) : PyData.eqv (.str a) y = (match x with | .str s => decide (s = a) | _ => false) := by
  cases x with
  | str s =>
    cases h
    simp only [PyData.eqv]
    by_cases c : s = a
    · subst c; simp
    · simp [c, Ne.symm c]
  | non => cases h; rfl
  | bl b => cases h; rfl
  | int b => cases h; rfl
  | tup ps => obtain ⟨xs, rfl, _⟩ := py_tup h; rfl
  | lst ps =>
    unfold D.py at h
    split at h
    · cases h; rfl
    · cases h
  | tupP ps =>
    unfold D.py at h
    split at h
    · cases h; rfl
    · cases h
  | _ => cases h
def plainD (x : D) : Bool := match x with
  | .str s => plainWord s
  | _ => false
theorem any_plain {x : D} {y : PyData} (h : D.py x = some y) : ([.str "yes", .str "no", .str "not", .str "and", .str "or"] : List PyData).any (fun z => PyData.eqv z y) = plainD x := by
  simp only [List.any_cons, List.any_nil, eqv_str h, Bool.or_false]
  cases x <;> rfl
def shapeD (x : D) (n : Int) : Bool := match x with
  | .str s => (decide (s = "least") && decide (n = 3)) || ((decide (s = "ahead") && decide (n = 4)) || (decide (s = "rest") && decide (n = 4)))
  | _ => false
theorem any_shape {x : D} {y : PyData} {n : Int} (h : D.py x = some y) : ([.tuple [.str "least", .int 3], .tuple [.str "ahead", .int 4], .tuple [.str "rest", .int 4]] : List PyData).any (fun z => PyData.eqv z (.tuple [y, .int n])) = shapeD x n := by
  have e : ∀ (a : Str) (m : Int), PyData.eqv (.tuple [.str a, .int m]) (.tuple [y, .int n]) = (PyData.eqv (.str a) y && decide (n = m)) := by
    intro a m
    have e1 : PyData.eqv (.int m) (.int n) = decide (n = m) := by
      simp only [PyData.eqv]
      by_cases c : n = m
      · subst c; simp
      · simp [c, Ne.symm c]
    rw [show PyData.eqv (.tuple [.str a, .int m]) (.tuple [y, .int n]) = (PyData.eqv (.str a) y && (PyData.eqv (.int m) (.int n) && true)) from rfl, e1, Bool.and_true]
  simp only [List.any_cons, List.any_nil, e, eqv_str h, Bool.or_false]
  cases x <;> rfl
theorem shaped_head {y : PyData} {ys : List PyData} (h : SeqAt.shaped (.tuple (y :: ys)) = true) : SeqAt.shaped y = true := by
  have h1 := SeqAt.canLay_of_shaped h
  have h2 := SeqAt.depth_of_shaped h
  simp only [PyData.canLay0, PyData.canLayAll0, Bool.and_eq_true] at h1
  simp only [PyData.depth, PyData.depthAll] at h2
  exact Bool.and_eq_true_iff.mpr ⟨h1.1, decide_eq_true (by omega)⟩
theorem shaped_two {y : PyData} {ys : List PyData} {n : Int} (h : SeqAt.shaped (.tuple (y :: ys)) = true) : SeqAt.shaped (.tuple [y, .int n]) = true := by
  have h1 := SeqAt.canLay_of_shaped h
  have h2 := SeqAt.depth_of_shaped h
  simp only [PyData.canLay0, PyData.canLayAll0, Bool.and_eq_true] at h1
  simp only [PyData.depth, PyData.depthAll] at h2
  refine Bool.and_eq_true_iff.mpr ⟨?_, decide_eq_true ?_⟩
  · simp only [PyData.canLay0, PyData.canLayAll0, Bool.and_eq_true, and_true]; exact h1.1
  · simp only [PyData.depth, PyData.depthAll]; omega
theorem fits_plain {w : Str} {r : List D} (h : plainWord w = true) : fitsD (.tup (.str w :: r)) = decide (r.length + 1 = 1) := by
  have n1 : w ≠ "least" := fun z => by subst z; revert h; decide
  have n2 : w ≠ "ahead" := fun z => by subst z; revert h; decide
  have n3 : w ≠ "rest" := fun z => by subst z; revert h; decide
  unfold fitsD
  split
  · rename_i e; cases e; simp [h]
  · rename_i e; cases e; simp [n1]
  · rename_i e; cases e; simp [n2, n3]
  · rename_i a _ _
    cases r with
    | nil => exact (a w rfl).elim
    | cons _ _ => simp
theorem fits_shape {x : D} {r : List D} (hp : plainD x = false) (hs : shapeD x (r.length + 1 : Nat) = false) : fitsD (.tup (x :: r)) = false := by
  unfold fitsD
  split
  · rename_i w e; cases e; exact hp
  · rename_i w c k e
    cases e
    simp only [shapeD, List.length_cons, List.length_nil] at hs
    by_cases q : w = "least"
    · subst q; simp at hs
    · simp [q]
  · rename_i w c d k e
    cases e
    simp only [shapeD, List.length_cons, List.length_nil] at hs
    by_cases q : w = "ahead"
    · subst q; simp at hs
    · by_cases q2 : w = "rest"
      · subst q2; simp at hs
      · simp [q, q2]
  · rfl
/-- what check_values is asked behind the shape's test -/
theorem shape_vals {x : D} {r : List D} (hs : shapeD x (r.length + 1 : Nat) = true) (ht : ∀ y ∈ r, (tyD y).isSome = true) : OkVals (.tup (x :: r)) ∧ fitsD (.tup (x :: r)) = (match valErr (.tup (x :: r)) with | .none => true | _ => false) := by
  cases x with
  | str w =>
    simp only [shapeD, Bool.or_eq_true, Bool.and_eq_true, decide_eq_true_eq] at hs
    rcases hs with ⟨rfl, h⟩ | ⟨rfl, h⟩ | ⟨rfl, h⟩
    · match r, h, ht with
      | [c, k], _, ht => exact ⟨.least c k (ht c (by simp)) (ht k (by simp)), by unfold fitsD; simp⟩
      | [], h, _ => simp at h
      | [_], h, _ => simp at h
      | _ :: _ :: _ :: _, h, _ => simp at h; omega
    · match r, h, ht with
      | [c, d, k], _, ht => exact ⟨.ahead c d k (ht c (by simp)) (ht d (by simp)) (ht k (by simp)), by unfold fitsD; simp⟩
      | [], h, _ => simp at h
      | [_], h, _ => simp at h
      | [_, _], h, _ => simp at h
      | _ :: _ :: _ :: _ :: _, h, _ => simp at h; omega
    · match r, h, ht with
      | [c, d, k], _, ht => exact ⟨.rest c d k (ht c (by simp)) (ht d (by simp)) (ht k (by simp)), by unfold fitsD; simp⟩
      | [], h, _ => simp at h
      | [_], h, _ => simp at h
      | [_, _], h, _ => simp at h
      | _ :: _ :: _ :: _ :: _, h, _ => simp at h; omega
  | _ => cases hs
theorem fits_form {p : D} (h : fitsD p = true) : ∃ w r, p = .tup (.str w :: r) := by
  unfold fitsD at h
  split at h
  · exact ⟨_, _, rfl⟩
  · exact ⟨_, _, rfl⟩
  · exact ⟨_, _, rfl⟩
  · cases h
theorem need_val {w : Str} {r : List D} : (valD (mergeD [] [((.inr "not" : Key), D.int 1), (.inr "and", .int 2), (.inr "or", .int 2)]) (.inr w)).getD (.int 0) = .int (needD (.tup (.str w :: r))) := by
  have e : mergeD [] [((.inr "not" : Key), D.int 1), (.inr "and", .int 2), (.inr "or", .int 2)] = [((.inr "not" : Key), D.int 1), (.inr "and", .int 2), (.inr "or", .int 2)] := rfl
  rw [e]
  unfold valD needD
  simp only [List.find?_cons, List.find?_nil]
  by_cases h1 : w = "not"
  · subst h1; rfl
  · by_cases h2 : w = "and"
    · subst h2; rfl
    · by_cases h3 : w = "or"
      · subst h3; rfl
      · simp [h1, h2, h3, Ne.symm h1, Ne.symm h2, Ne.symm h3]
theorem enum_at {ps : List D} {i : Nat} {x : D} (h : (enumD 0 ps)[i]? = some x) : ∃ p, ps[i]? = some p ∧ x = .tup [.int (i : Nat), p] := by
  cases e : ps[i]? with
  | none =>
    have h1 : ps.length ≤ i := List.getElem?_eq_none_iff.mp e
    rw [List.getElem?_eq_none (by rw [enumD_len]; exact h1)] at h
    cases h
  | some p =>
    rw [enumD_get (i := 0) e] at h
    exact ⟨p, rfl, by cases h; rw [Nat.zero_add]⟩
theorem drop_at {α : Type} {ps : List α} {i : Nat} {p : α} (h : ps[i]? = some p) : ps.drop i = p :: ps.drop (i + 1) := by
  obtain ⟨hi, e⟩ := List.getElem?_eq_some_iff.mp h
  rw [List.drop_eq_getElem_cons hi, e]
theorem codeErr_long {ps : List D} (h : (60 : Int) < (ps.length : Nat)) : codeErr ps = .limit := if_pos (by omega)
theorem codeErr_short {ps : List D} (h : ¬ (60 : Int) < (ps.length : Nat)) : codeErr ps = match codeAt 0 0 ps with | .error i => .at i | .ok d => if d = 1 then .none else .at ps.length := if_neg (by omega)
theorem codeAt_nil {i : Nat} {d : Int} : codeAt i d [] = .ok d := rfl
theorem codeAt_cons {i : Nat} {d : Int} {p : D} {ps : List D} : codeAt i d (p :: ps) = if fitsD p = false then .error i else if d < needD p then .error i else codeAt (i + 1) (d + 1 - needD p) ps := rfl
theorem eqv_strR {a : Str} {x : D} {y : PyData} (h : D.py x = some y) : PyData.eqv y (.str a) = (match x with | .str s => decide (s = a) | _ => false) := by
  cases x with
  | str s =>
    cases h
    simp only [PyData.eqv]
    by_cases c : s = a
    · subst c; simp
    · simp [c]
  | non => cases h; rfl
  | bl b => cases h; rfl
  | int b => cases h; rfl
  | tup ps => obtain ⟨xs, rfl, _⟩ := py_tup h; rfl
  | lst ps =>
    unfold D.py at h
    split at h
    · cases h; rfl
    · cases h
  | tupP ps =>
    unfold D.py at h
    split at h
    · cases h; rfl
    · cases h
  | _ => cases h
theorem any_count {x : D} {y : PyData} (h : D.py x = some y) : ([.str "a", .str "b", .str "c"] : List PyData).any (fun z => PyData.eqv z y) = isCountD x := by
  simp only [List.any_cons, List.any_nil, eqv_str h, Bool.or_false]
  cases x <;> rfl
def singleD (ps : List D) : Bool := match ps with
  | [x] => plainD x
  | _ => false
theorem any_single {ps : List D} {xs : List PyData} (h : pyL ps = some xs) : ([.tuple [.str "yes"], .tuple [.str "no"], .tuple [.str "not"], .tuple [.str "and"], .tuple [.str "or"]] : List PyData).any (fun z => PyData.eqv z (.tuple xs)) = singleD ps := by
  have e : ∀ a : Str, PyData.eqv (.tuple [.str a]) (.tuple xs) = PyData.eqvAll [.str a] xs := fun _ => rfl
  simp only [List.any_cons, List.any_nil, e, Bool.or_false]
  match ps, h with
  | [], h => cases h; rfl
  | [x], h =>
    obtain ⟨y, ys, rfl, h1, h2⟩ := pyL_cons h
    cases h2
    have e2 : ∀ a : Str, PyData.eqvAll [.str a] [y] = (PyData.eqv (.str a) y && true) := fun _ => rfl
    simp only [e2, Bool.and_true, eqv_str h1]
    cases x <;> rfl
  | x :: z :: r, h =>
    obtain ⟨y, ys, rfl, h1, h2⟩ := pyL_cons h
    obtain ⟨y2, ys2, rfl, h3, h4⟩ := pyL_cons h2
    have e2 : ∀ a : Str, PyData.eqvAll [.str a] (y :: y2 :: ys2) = (PyData.eqv (.str a) y && false) := fun _ => rfl
    simp only [e2, Bool.and_false, Bool.or_false]
    rfl
theorem shaped_mem {ys : List PyData} {y : PyData} (h : SeqAt.shaped (.tuple ys) = true) (m : y ∈ ys) : SeqAt.shaped y = true := by
  induction ys with
  | nil => cases m
  | cons z zs ih =>
    rcases List.mem_cons.mp m with rfl | m
    · exact shaped_head h
    · refine ih ?_ m
      have h1 := SeqAt.canLay_of_shaped h
      have h2 := SeqAt.depth_of_shaped h
      simp only [PyData.canLay0, PyData.canLayAll0, Bool.and_eq_true] at h1
      simp only [PyData.depth, PyData.depthAll] at h2
      refine Bool.and_eq_true_iff.mpr ⟨?_, decide_eq_true ?_⟩
      · simp only [PyData.canLay0]; exact h1.2
      · simp only [PyData.depth]; omega
theorem inRD_int {i lo hi : Int} : inRD (.int i) lo hi = (decide (lo ≤ i) && decide (i ≤ hi)) := rfl
/-- the fit of a part by its length -/
theorem fits_1 {x : D} : fitsD (.tup [x]) = plainD x := by cases x <;> rfl
theorem fits_2 {x c : D} : fitsD (.tup [x, c]) = false := by cases x <;> rfl
theorem fits_5 {a b c d e : D} {r : List D} : fitsD (.tup (a :: b :: c :: d :: e :: r)) = false := by cases a <;> rfl
def isWord (x : D) (a : Str) : Bool := match x with
  | .str s => decide (s = a)
  | _ => false
theorem fits_3 {x c k : D} : fitsD (.tup [x, c, k]) = (isWord x "least" && (isCountD c && inRD k 0 3)) := by
  cases x with
  | str w =>
    show (decide (w = "least") && _) = _
    by_cases h : w = "least"
    · subst h
      rw [valErr_least]
      unfold errCount errRange
      cases isCountD c <;> cases inRD k 0 3 <;> rfl
    · rw [show isWord (.str w) "least" = decide (w = "least") from rfl, decide_eq_false h]; rfl
  | _ => rfl
theorem fits_4 {x c d k : D} : fitsD (.tup [x, c, d, k]) = ((isWord x "ahead" && (isCountD c && (isCountD d && (!sameStr c d && inRD k (-3) 3)))) || (isWord x "rest" && (isCountD c && (inRD d 2 4 && inRD k 0 (intOf d - 1))))) := by
  cases x with
  | str w =>
    show ((decide (w = "ahead") || decide (w = "rest")) && _) = _
    by_cases h : w = "ahead"
    · subst h
      rw [valErr_ahead, show isWord (.str "ahead") "ahead" = true by decide, show isWord (.str "ahead") "rest" = false by decide]
      unfold errCount errRange
      cases isCountD c <;> cases isCountD d <;> cases sameStr c d <;> cases inRD k (-3) 3 <;> rfl
    · by_cases h2 : w = "rest"
      · subst h2
        rw [valErr_rest, show isWord (.str "rest") "ahead" = false by decide, show isWord (.str "rest") "rest" = true by decide]
        unfold errCount errRange
        cases isCountD c <;> cases inRD d 2 4 <;> cases inRD k 0 (intOf d - 1) <;> rfl
      · rw [show isWord (.str w) "ahead" = decide (w = "ahead") from rfl, show isWord (.str w) "rest" = decide (w = "rest") from rfl, decide_eq_false h, decide_eq_false h2]; rfl
  | _ => rfl
theorem eqv_word {a : Str} {x : D} {y : PyData} (h : D.py x = some y) : PyData.eqv y (.str a) = isWord x a := by rw [eqv_strR h]; cases x <;> rfl
end Wl
namespace Wl
open PySem PySem.Spec PyProof.Rows L2 RZ
/-- can be compared: of at most so much depth -/
def okD (n : Nat) (x : D) : Bool := match D.py x with
  | some p => p.canLay0 && decide (p.depth ≤ n)
  | none => false
/-- == of data -/
def eqD (x y : D) : Bool := match D.py x, D.py y with
  | some p, some q => PyData.eqv p q
  | _, _ => false
theorem okD_py {n : Nat} {x : D} (h : okD n x = true) : ∃ p, D.py x = some p ∧ p.canLay0 = true ∧ p.depth ≤ n := by
  unfold okD at h
  split at h
  · rename_i p e
    rw [Bool.and_eq_true] at h
    exact ⟨p, e, h.1, of_decide_eq_true h.2⟩
  · cases h
theorem okD_of {n : Nat} {x : D} {p : PyData} (h : D.py x = some p) (c : p.canLay0 = true) (d : p.depth ≤ n) : okD n x = true := by
  unfold okD
  rw [h]
  show (p.canLay0 && decide (p.depth ≤ n)) = true
  rw [c, decide_eq_true d]
  rfl
theorem okD_sh {x : D} (h : okD 64 x = true) : ∃ p, D.py x = some p ∧ SeqAt.shaped p = true := by
  obtain ⟨p, e, c, d⟩ := okD_py h
  exact ⟨p, e, by unfold SeqAt.shaped; rw [c, decide_eq_true d]; rfl⟩
theorem eqD_of {x y : D} {p q : PyData} (h1 : D.py x = some p) (h2 : D.py y = some q) : eqD x y = PyData.eqv p q := by unfold eqD; rw [h1, h2]
theorem okD_EqD {x : D} : EqD x ↔ okD 64 x = true := by
  constructor
  · rintro ⟨p, e, s⟩
    exact okD_of e (SeqAt.canLay_of_shaped s) (SeqAt.depth_of_shaped s)
  · exact okD_sh
theorem okD_int {n : Nat} {i : Int} : okD n (.int i) = true := by unfold okD; rfl
theorem okD_nil {n : Nat} : okD (n + 1) (.tup []) = true := by
  refine okD_of (p := .tuple []) rfl rfl ?_
  simp [PyData.depth, PyData.depthAll]
theorem py_tupE {xs : List D} : D.py (.tup xs) = (pyL xs).map .tuple := by
  unfold D.py
  cases pyL xs <;> rfl
theorem pyL_consE {x : D} {xs : List D} : pyL (x :: xs) = match D.py x, pyL xs with | some p, some ps => some (p :: ps) | _, _ => none := by
  rw [pyL]
  try (cases D.py x <;> cases pyL xs <;> rfl)
theorem okD_cons {n : Nat} {x : D} {xs : List D} : okD (n + 1) (.tup (x :: xs)) = (okD n x && okD (n + 1) (.tup xs)) := by
  unfold okD
  rw [py_tupE, py_tupE, pyL_consE]
  cases D.py x with
  | none => rfl
  | some p =>
    cases pyL xs with
    | none => simp
    | some ps =>
      refine Bool.eq_iff_iff.mpr ?_
      simp only [Option.map_some, Bool.and_eq_true, decide_eq_true_eq]
      simp only [PyData.canLay0, PyData.canLayAll0, PyData.depth, PyData.depthAll, Bool.and_eq_true]
      constructor
      · rintro ⟨⟨a, b⟩, c⟩; exact ⟨⟨a, by omega⟩, b, by omega⟩
      · rintro ⟨⟨a, b⟩, c, d⟩; exact ⟨⟨a, c⟩, by omega⟩
theorem eqD_int {i j : Int} : eqD (.int i) (.int j) = decide (i = j) := by
  rw [eqD_of rfl rfl]
  simp only [PyData.eqv]
  exact Bool.eq_iff_iff.mpr (by simp)
theorem eqD_str {i j : Str} : eqD (.str i) (.str j) = decide (i = j) := by
  rw [eqD_of rfl rfl]
  simp only [PyData.eqv]
  exact Bool.eq_iff_iff.mpr (by simp)
theorem eqD_bl {i j : Bool} : eqD (.bl i) (.bl j) = decide (i = j) := by
  rw [eqD_of rfl rfl]
  simp only [PyData.eqv]
  cases i <;> cases j <;> rfl
theorem eqD_tt : eqD (.tup []) (.tup []) = true := rfl
theorem eqD_cc {x y : D} {xs ys : List D} : eqD (.tup (x :: xs)) (.tup (y :: ys)) = (eqD x y && eqD (.tup xs) (.tup ys)) := by
  unfold eqD
  rw [py_tupE, py_tupE, py_tupE, py_tupE, pyL_consE, pyL_consE]
  cases D.py x with
  | none => rfl
  | some p =>
    cases D.py y with
    | none => cases pyL xs <;> rfl
    | some q =>
      cases pyL xs with
      | none => simp
      | some ps =>
        cases pyL ys with
        | none => simp
        | some qs => simp only [Option.map_some, PyData.eqv, PyData.eqvAll]
theorem z_neD {x y : D} {kR : R → Prop} (h1 : okD 64 x = true) (h2 : okD 64 y = true) (h : kR (.d (.bl (!eqD x y)))) : gNe [x, y] kR := by
  obtain ⟨p, e1, s1⟩ := okD_sh h1
  obtain ⟨q, e2, s2⟩ := okD_sh h2
  unfold gNe
  split
  · rename_i i j e; cases e; rw [eqD_int] at h; exact h
  · rename_i i j e; cases e; rw [eqD_str] at h; exact h
  · rename_i i j e; cases e; rw [eqD_bl] at h; exact h
  · rename_i a b _ _ _ e; cases e; exact ⟨p, q, e1, e2, s1, s2, by rw [← eqD_of e1 e2]; exact h⟩
  · rename_i e; exact (e x y rfl).elim
theorem range0_len {n : Nat} : (range0 n).length = n := by unfold range0; rw [List.length_map, List.length_range]
theorem range0_at {n i : Nat} {x : D} (h : (range0 n)[i]? = some x) : i < n ∧ x = .int (i : Nat) := by
  have hl : i < n := by
    have := (List.getElem?_eq_some_iff.mp h).1
    rw [range0_len] at this
    exact this
  unfold range0 at h
  rw [List.getElem?_map, List.getElem?_range hl] at h
  exact ⟨hl, by cases h; rfl⟩
theorem cutD_take {xs : List D} {j : Nat} : cutD xs none (some (j : Int)) = xs.take j := by
  unfold cutD
  rw [HT.sIx_none, HT.sIx_nat, List.drop_zero, Nat.sub_zero]
  by_cases h : j ≤ xs.length
  · rw [Nat.min_eq_left h]
  · rw [Nat.min_eq_right (by omega), List.take_of_length_le (Nat.le_refl _), List.take_of_length_le (by omega)]
theorem cutD_drop {xs : List D} {j : Nat} : cutD xs (some (j : Int)) none = xs.drop j := by
  unfold cutD
  rw [HT.sIx_none, HT.sIx_nat]
  by_cases h : j ≤ xs.length
  · rw [Nat.min_eq_left h]
    exact List.take_of_length_le (by rw [List.length_drop]; exact Nat.le_refl _)
  · rw [Nat.min_eq_right (by omega), List.drop_of_length_le (Nat.le_refl _), List.drop_of_length_le (by omega), List.take_nil]
section
variable {kR : R → Prop} {xs : List D} {j : Nat}
theorem z_slTd (h : kR (.d (.tup (xs.drop j)))) : gSl (.tup xs) (some (j : Int)) none kR := z_slT (by rw [cutD_drop]; exact h)
theorem z_slTd1 (h : kR (.d (.tup (xs.drop (j + 1))))) : gSl (.tup xs) (some ((j : Int) + 1)) none kR := z_slTd (j := j + 1) h
theorem z_slTd2 (h : kR (.d (.tup (xs.drop (j + 2))))) : gSl (.tup xs) (some ((j : Int) + 2)) none kR := z_slTd (j := j + 2) h
theorem z_slTt (h : kR (.d (.tup (xs.take j)))) : gSl (.tup xs) none (some (j : Int)) kR := z_slT (by rw [cutD_take]; exact h)
theorem z_slLd (h : kR (.own (.l (xs.drop j)))) : gSl (.lst xs) (some (j : Int)) none kR := z_slL (by rw [cutD_drop]; exact h)
theorem z_slLd1 (h : kR (.own (.l (xs.drop (j + 1))))) : gSl (.lst xs) (some ((j : Int) + 1)) none kR := z_slLd (j := j + 1) h
theorem z_slLd2 (h : kR (.own (.l (xs.drop (j + 2))))) : gSl (.lst xs) (some ((j : Int) + 2)) none kR := z_slLd (j := j + 2) h
theorem z_slLt (h : kR (.own (.l (xs.take j)))) : gSl (.lst xs) none (some (j : Int)) kR := z_slL (by rw [cutD_take]; exact h)
end
theorem stayB_refl : ∀ {e : En}, stayB e e = true
  | [] => rfl
  | none :: e => stayB_refl (e := e)
  | some _ :: e => stayB_refl (e := e)
inductive CT where
  | leaf (p : D) | neg (t : CT) | bin (w : Str) (a b : CT)
namespace CT
def post : CT → List D
  | .leaf p => [p]
  | .neg t => t.post ++ [.tup [.str "not"]]
  | .bin w a b => a.post ++ b.post ++ [.tup [.str w]]
/-- how many comparisons -/
def n : CT → Nat
  | .leaf _ => 1
  | .neg t => t.n
  | .bin _ a b => a.n + b.n
def leaves : CT → List D
  | .leaf p => [p]
  | .neg t => t.leaves
  | .bin _ a b => a.leaves ++ b.leaves
/-- its joints are and, or -/
def ws : CT → Bool
  | .leaf _ => true
  | .neg t => t.ws
  | .bin w a b => (decide (w = "and") || decide (w = "or")) && (a.ws && b.ws)
theorem n_pos : ∀ t : CT, 1 ≤ t.n
  | .leaf _ => Nat.le_refl 1
  | .neg t => n_pos t
  | .bin _ a b => Nat.le_trans (n_pos a) (Nat.le_add_right _ _)
theorem post_len_pos : ∀ t : CT, 1 ≤ t.post.length
  | .leaf _ => Nat.le_refl 1
  | .neg t => by simp [post]
  | .bin _ a b => by simp [post]; omega
end CT
/-- a comparison as the laws draw it: counts among cs, kinds among ks -/
inductive CmpIn (cs : Str) (ks : List D) : D → Prop
  | yes : .str "yes" ∈ ks → CmpIn cs ks (.tup [.str "yes"])
  | no : .str "no" ∈ ks → CmpIn cs ks (.tup [.str "no"])
  | least (c : Nat) (k : Int) : c ∈ cs.cps.toList → 0 ≤ k → k ≤ 3 → (cs = "cab" → k ≤ 2) → CmpIn cs ks (.tup [.str "least", .str ⟨#[c]⟩, .int k])
  | ahead (c d : Nat) (k : Int) : .str "ahead" ∈ ks → c ∈ cs.cps.toList → d ∈ cs.cps.toList → c ≠ d → -3 ≤ k → k ≤ 3 → (cs = "cab" → -2 ≤ k ∧ k ≤ 2) → CmpIn cs ks (.tup [.str "ahead", .str ⟨#[c]⟩, .str ⟨#[d]⟩, .int k])
  | rest (c : Nat) (m r : Int) : .str "rest" ∈ ks → c ∈ cs.cps.toList → 2 ≤ m → m ≤ 4 → (cs = "cab" → m = 2) → 0 ≤ r → r < m → CmpIn cs ks (.tup [.str "rest", .str ⟨#[c]⟩, .int m, .int r])
/-- a code as the laws draw it -/
structure CodeIn (cs : Str) (ks : List D) (t : CT) : Prop where
  ws : t.ws = true
  lv : ∀ p ∈ t.leaves, CmpIn cs ks p
theorem CodeIn.leaf {cs : Str} {ks : List D} {p : D} (h : CmpIn cs ks p) : CodeIn cs ks (.leaf p) := ⟨rfl, fun q m => by cases List.mem_singleton.mp m; exact h⟩
theorem CodeIn.neg {cs : Str} {ks : List D} {t : CT} (h : CodeIn cs ks t) : CodeIn cs ks (.neg t) := ⟨h.ws, h.lv⟩
theorem CodeIn.bin {cs : Str} {ks : List D} {w : Str} {a b : CT} (hw : w = "and" ∨ w = "or") (h1 : CodeIn cs ks a) (h2 : CodeIn cs ks b) : CodeIn cs ks (.bin w a b) := by
  refine ⟨?_, fun p m => ?_⟩
  · show ((decide (w = "and") || decide (w = "or")) && (a.ws && b.ws)) = true
    rw [h1.ws, h2.ws]
    rcases hw with rfl | rfl <;> rfl
  · rcases List.mem_append.mp m with m | m
    · exact h1.lv p m
    · exact h2.lv p m
end Wl
namespace Wl
open PySem PySem.Spec PyProof.Rows L2 RZ
section
variable {T : Cxt} {K : PySem.W.Frag} {W : WX} {M : Addr → Prop} {σ : St} {H H1 : Hp} {e e1 : En} {Q : VK}
/-- a promise called with things of which P is seen -/
def wCallO (P : List D → Prop) (sp : WSp) (fr : WA) : WE := fun e k kx => fr e (fun rs e1 => (∃ ds, seeL e1 rs = some ds ∧ P ds) ∧ ∃ as, argS e1 rs = some as ∧ (slotsOf rs).Nodup ∧ sp as (fun r as' => k r (putS rs as' e1)) (fun C fs as' => kx C fs (putS rs as' e1))) kx
def P2 (C : Addr) (ds : List D) : Prop := ∃ f1 f2, ds = [.ins C f1, .ins C f2]
def P1 (C : Addr) (ds : List D) : Prop := ∃ f1, ds = [.ins C f1]
/-- x in o: o's own __contains__ -/
def wInO (C : Addr) (sp : WSp) (fa fb : WE) : WE := fun e k kx => fa e (fun r1 e1 => fb e1 (fun r2 e2 => (∃ fs, see e2 r2 = some (.ins C fs)) ∧ ∃ as, argS e2 [r2, r1] = some as ∧ (slotsOf [r2, r1]).Nodup ∧ sp as (fun r as' => ∃ b, r = .d (.bl b) ∧ k r (putS [r2, r1] as' e2)) (fun C fs as' => kx C fs (putS [r2, r1] as' e2))) kx) kx
/-- o(..) -/
def wCallV (C : Addr) (sp : WSp) (fo : WE) (fr : WA) : WE := fun e k kx => fo e (fun r e1 => (∃ fs, see e1 r = some (.ins C fs)) ∧ fr e1 (fun rs e2 => (∃ fs, see e2 r = some (.ins C fs)) ∧ ∃ as, argS e2 (r :: rs) = some as ∧ (slotsOf (r :: rs)).Nodup ∧ sp as (fun r' as' => k r' (putS (r :: rs) as' e2)) (fun C fs as' => kx C fs (putS (r :: rs) as' e2))) kx) kx
end
section
variable {e : En} {k : R → En → Prop} {kx : Kx} {sp : WSp} {fa fb fo : WE} {fr : WA} {rs : List R} {r : R} {as : List S} {C : Addr}
def CallOK (P : List D → Prop) (sp : WSp) (k : R → En → Prop) (kx : Kx) : List R → En → Prop := fun rs e1 => (∃ ds, seeL e1 rs = some ds ∧ P ds) ∧ CallA sp k kx rs e1
theorem z_callO {P : List D → Prop} (h : fr e (CallOK P sp k kx) kx) : wCallO P sp fr e k kx := h
theorem z_callO2 {f1 f2 : List (Str × D)} (h1 : seeL e rs = some [.ins C f1, .ins C f2]) (h : CallA sp k kx rs e) : CallOK (P2 C) sp k kx rs e := ⟨⟨_, h1, f1, f2, rfl⟩, h⟩
theorem z_callO1 {f1 : List (Str × D)} (h1 : seeL e rs = some [.ins C f1]) (h : CallA sp k kx rs e) : CallOK (P1 C) sp k kx rs e := ⟨⟨_, h1, f1, rfl⟩, h⟩
/-- the answer is a bool -/
def BlK (k : R → En → Prop) : R → En → Prop := fun r e => ∃ b, r = .d (.bl b) ∧ k r e
theorem z_blK {b : Bool} (h : k (.d (.bl b)) e) : BlK k (.d (.bl b)) e := ⟨b, rfl, h⟩
def InOK2 (C : Addr) (sp : WSp) (k : R → En → Prop) (kx : Kx) (r1 : R) : R → En → Prop := fun r2 e2 => (∃ fs, see e2 r2 = some (.ins C fs)) ∧ CallA sp (BlK k) kx [r2, r1] e2
def InOK (C : Addr) (sp : WSp) (fb : WE) (k : R → En → Prop) (kx : Kx) : R → En → Prop := fun r1 e1 => fb e1 (InOK2 C sp k kx r1) kx
theorem z_inO (h : fa e (InOK C sp fb k kx) kx) : wInO C sp fa fb e k kx := h
theorem z_inO1 (h : fb e (InOK2 C sp k kx r) kx) : InOK C sp fb k kx r e := h
theorem z_inO2 {r2 : R} {fs : List (Str × D)} (h1 : see e r2 = some (.ins C fs)) (h : CallA sp (BlK k) kx [r2, r] e) : InOK2 C sp k kx r r2 e := ⟨⟨fs, h1⟩, h⟩
def CallVK (C : Addr) (sp : WSp) (fr : WA) (k : R → En → Prop) (kx : Kx) : R → En → Prop := fun r e1 => (∃ fs, see e1 r = some (.ins C fs)) ∧ fr e1 (fun rs e2 => (∃ fs, see e2 r = some (.ins C fs)) ∧ CallA sp k kx (r :: rs) e2) kx
def CallVA (C : Addr) (sp : WSp) (k : R → En → Prop) (kx : Kx) (r : R) : List R → En → Prop := fun rs e2 => (∃ fs, see e2 r = some (.ins C fs)) ∧ CallA sp k kx (r :: rs) e2
theorem z_callV (h : fo e (CallVK C sp fr k kx) kx) : wCallV C sp fo fr e k kx := h
theorem z_callVK {fs : List (Str × D)} (h1 : see e r = some (.ins C fs)) (h : fr e (CallVA C sp k kx r) kx) : CallVK C sp fr k kx r e := ⟨⟨fs, h1⟩, h⟩
theorem z_callVA {fs : List (Str × D)} (h1 : see e r = some (.ins C fs)) (h : CallA sp k kx (r :: rs) e) : CallVA C sp k kx r rs e := ⟨⟨fs, h1⟩, h⟩
end
end Wl
namespace Wl
open PySem PySem.Spec PyProof.Rows L2 RZ
section
variable {X : Cx} {T : Cxt} {K : PySem.W.Frag} {W : WX} {k : Nat} {f C p g : Addr} {mc : Value} {m : Str} {fd : FuncData} {ps : List Str} {sp : WSp} {pos apos px : Pos} {x : Str} {e : Expr} {es : List Expr} {fr : WA} {E : XK} {pl : Sem Bool}
/-- x(..), x a name of the def that holds the class at C -/
def wMakeV (C : Addr) (i : Nat) (sp : WSp) (fr : WA) : WE := fun e k kx => e[i]? = some (some (.d (.fn C))) ∧ wMake C sp fr e k kx
end
section
variable {e : En} {k : R → En → Prop} {kx : Kx} {sp : WSp} {fr : WA} {C : Addr} {i : Nat}
theorem z_makeV (h1 : e[i]? = some (some (.d (.fn C)))) (h : fr e (MakeA C sp k kx) kx) : wMakeV C i sp fr e k kx := ⟨h1, h⟩
end
section
variable {K : PySem.W.Frag}
/-- xs.extend(a new list) -/
def wExt (i : Nat) (f : WE) : WE := fun e k kx => (∃ xs, e[i]? = some (some (.l xs))) ∧ f e (fun r e1 => ∃ zs xs, r = .own (.l zs) ∧ e1[i]? = some (some (.l xs)) ∧ xs.length + zs.length ≤ 1000000 ∧ k (.d .non) (e1.set i (some (.l (xs ++ zs))))) kx
end
section
variable {e e' : En} {k : R → En → Prop} {kx : Kx} {fe : WE} {i : Nat} {xs zs : List D}
def ExtK (i : Nat) (k : R → En → Prop) : R → En → Prop := fun r e1 => ∃ zs xs, r = .own (.l zs) ∧ e1[i]? = some (some (.l xs)) ∧ xs.length + zs.length ≤ 1000000 ∧ k (.d .non) (e1.set i (some (.l (xs ++ zs))))
theorem z_ext (h1 : e[i]? = some (some (.l xs))) (h : fe e (ExtK i k) kx) : wExt i fe e k kx := ⟨⟨xs, h1⟩, h⟩
theorem z_extK (h2 : e[i]? = some (some (.l xs))) (h4 : e.set i (some (.l (xs ++ zs))) = e') (h3 : xs.length + zs.length ≤ 1000000) (h : k (.d .non) e') : ExtK i k (.own (.l zs)) e := ⟨zs, xs, rfl, h2, h3, by rw [h4]; exact h⟩
end
def wOpS (gg : List D → (R → Prop) → Prop) (fo : WE) (fr : WA) : WE := fun e k kx => fo e (fun r e1 => (∃ z, r = .d (.str z)) ∧ fr e1 (fun rs e2 => ∃ ds, seeL e2 (r :: rs) = some ds ∧ gg ds fun r => k r e2) kx) kx
section
variable {e : En} {k : R → En → Prop} {kx : Kx} {fo : WE} {fr : WA} {rs : List R} {z : Str} {ds : List D} {gg : List D → (R → Prop) → Prop}
def OpSK (gg : List D → (R → Prop) → Prop) (fr : WA) (k : R → En → Prop) (kx : Kx) : R → En → Prop := fun r e1 => (∃ z, r = .d (.str z)) ∧ fr e1 (fun rs e2 => ∃ ds, seeL e2 (r :: rs) = some ds ∧ gg ds fun r => k r e2) kx
def OpSA (gg : List D → (R → Prop) → Prop) (k : R → En → Prop) (r : R) : List R → En → Prop := fun rs e2 => ∃ ds, seeL e2 (r :: rs) = some ds ∧ gg ds fun r => k r e2
theorem z_opS (h : fo e (OpSK gg fr k kx) kx) : wOpS gg fo fr e k kx := h
theorem z_opSK (h : fr e (OpSA gg k (.d (.str z))) kx) : OpSK gg fr k kx (.d (.str z)) e := ⟨⟨z, rfl⟩, h⟩
theorem z_opSA {r : R} (h1 : seeL e (r :: rs) = some ds) (h : gg ds fun r => k r e) : OpSA gg k r rs e := ⟨ds, h1, h⟩
end
end Wl
namespace Wl
open PySem PySem.Spec PyProof.Rows L2 RZ
/-- a situation -/
abbrev Sit := Int × Int × Int
def Sit.d (s : Sit) : D := .tup [.int s.1, .int s.2.1, .int s.2.2]
/-- a comparison that is well formed -/
inductive Cmp : D → Prop
  | yes : Cmp (.tup [.str "yes"])
  | no : Cmp (.tup [.str "no"])
  | least (c : Str) (k : Int) : isCountD (.str c) = true → 0 ≤ k → k ≤ 3 → Cmp (.tup [.str "least", .str c, .int k])
  | ahead (c d : Str) (k : Int) : isCountD (.str c) = true → isCountD (.str d) = true → c ≠ d → -3 ≤ k → k ≤ 3 → Cmp (.tup [.str "ahead", .str c, .str d, .int k])
  | rest (c : Str) (m r : Int) : isCountD (.str c) = true → 2 ≤ m → m ≤ 4 → 0 ≤ r → r < m → Cmp (.tup [.str "rest", .str c, .int m, .int r])
/-- a code: its joints are and, or; its leaves comparisons -/
structure CT.Ok (t : CT) : Prop where
  ws : t.ws = true
  lv : ∀ p ∈ t.leaves, Cmp p
theorem CT.Ok.neg {t : CT} (h : t.neg.Ok) : t.Ok := ⟨h.ws, h.lv⟩
theorem CT.Ok.word {w : Str} {a b : CT} (h : (CT.bin w a b).Ok) : w = "and" ∨ w = "or" := by
  have hw := h.ws
  simp only [CT.ws, Bool.and_eq_true, Bool.or_eq_true, decide_eq_true_eq] at hw
  exact hw.1
theorem Cmp.head {p : D} (h : Cmp p) : ∃ w r, p = .tup (.str w :: r) ∧ w ≠ "not" ∧ w ≠ "and" ∧ w ≠ "or" := by
  cases h <;> exact ⟨_, _, rfl, by decide +kernel, by decide +kernel, by decide +kernel⟩
section
variable {e e' : En} {k : R → En → Prop} {kx : Kx} {i : Nat} {xs : List D} {x y : D}
theorem z_pop (h1 : e[i]? = some (some (.l (xs ++ [x])))) (h2 : e.set i (some (.l xs)) = e') (h : k (.d x) e') : wPop i e k kx := by
  refine ⟨xs ++ [x], x, h1, by simp, ?_⟩
  rw [List.dropLast_concat, h2]
  exact h
end
end Wl
namespace Wl
open PySem PySem.Spec PyProof.Rows L2 RZ
/-- the counts and kinds that the laws draw from -/
def OkCs (cs : Str) : Prop := 1 ≤ cs.cps.size ∧ cs.cps.size ≤ 3 ∧ cs.cps.toList.Nodup
def OkKs (ks : List D) : Prop := 0 < ks.length ∧ ks.length < 1000 ∧ ∀ x ∈ ks, ∃ s, x = .str s
/-- drawn codes are codes -/
def AbcCs (cs : Str) : Prop := ∀ c ∈ cs.cps.toList, isCountD (.str ⟨#[c]⟩) = true
theorem CmpIn.cmp {cs : Str} {ks : List D} {p : D} (h : CmpIn cs ks p) (hc : AbcCs cs) : Cmp p := by
  cases h with
  | yes => exact .yes
  | no => exact .no
  | least c k h1 h2 h3 => exact .least _ _ (hc c h1) h2 h3
  | ahead c d k _ h1 h2 h3 h4 h5 => exact .ahead _ _ _ (hc c h1) (hc d h2) (fun e => h3 (by injection e with e; simpa using e)) h4 h5
  | rest c m r _ h1 h2 h3 _ h4 h5 => exact .rest _ _ _ (hc c h1) h2 h3 h4 h5
theorem CodeIn.ok {cs : Str} {ks : List D} {t : CT} (h : CodeIn cs ks t) (hc : AbcCs cs) : t.Ok := ⟨h.ws, fun p m => (h.lv p m).cmp hc⟩
end Wl
namespace Wl
open PySem PySem.Spec PyProof.Rows L2 RZ
def wgL (is : List Nat) : WG := fun x e k => ∃ xs, x = .lst xs ∧ xs.length = is.length ∧ k (setAll is xs e)
section
variable {e e' : En} {nx : En → Prop} {is : List Nat} {xs : List D}
theorem z_gL (h0 : xs.length = is.length) (h1 : setAll is xs e = e') (h : nx e') : wgL is (.lst xs) e nx := ⟨xs, rfl, h0, by rw [h1]; exact h⟩
end
section
variable {e : En} {k : R → En → Prop} {kx : Kx} {j : Nat} {b c : Bool}
/-- a truth joined with a slot's truth: one way -/
theorem z_andB (h1 : e[j]? = some (some (.d (.bl c)))) (h : k (.d (.bl (b && c))) e) : if b = true then wVar j e k kx else k (.d (.bl false)) e := by
  cases b with
  | true => rw [if_pos rfl]; exact z_var h1 h
  | false => rw [if_neg Bool.false_ne_true]; exact h
theorem z_orB (h1 : e[j]? = some (some (.d (.bl c)))) (h : k (.d (.bl (b || c))) e) : if b = true then k (.d (.bl true)) e else wVar j e k kx := by
  cases b with
  | true => rw [if_pos rfl]; exact h
  | false => rw [if_neg Bool.false_ne_true]; exact z_var h1 h
end
end Wl
namespace Wl
open PySem PySem.Spec PyProof.Rows L2 RZ
section
variable {X : Cx} {T : Cxt} {K : PySem.W.Frag} {W : WX} {M : Addr → Prop} {σ : St} {H : Hp} {Q : VK} {pos : Pos}
def wDNewK : WE := fun e k _ => k (.own (.m [])) e
def kD : Key → D
  | .inl i => .int i
  | .inr x => .str x
def gListD (ds : List Wl.D) (k : R → Prop) : Prop := match ds with
  | [.dct kvs] => k (.own (.l (kvs.map fun kv => kD kv.1)))
  | _ => False
theorem z_listD {kR : R → Prop} {kvs : List (Key × Wl.D)} (h : kR (.own (.l (kvs.map fun kv => kD kv.1)))) : gListD [.dct kvs] kR := h
end
def wDPut (i : Nat) (fi fe : WE) : WS := fun e k => fe e (fun r e1 => ∃ x e2, frz r e1 = some (x, e2) ∧ (∃ kvs, e2[i]? = some (some (.m kvs))) ∧ fi e2 (fun r2 e3 => ∃ y ky kvs, r2 = .d y ∧ keyD y = some ky ∧ e3[i]? = some (some (.m kvs)) ∧ kvs.length < 1000000 ∧ k.nx (e3.set i (some (.m (putKD kvs ky x))))) k.ex) k.ex
section
variable {e e' : En} {nx bk ct : En → Prop} {rt : R → En → Prop} {ex : Kx} {fe fi : WE} {i : Nat} {x y : D} {r : R} {kvs : List (Key × D)} {ky : Key} {k : R → En → Prop} {kx : Kx}
theorem z_dnewK (h : k (.own (.m [])) e) : wDNewK e k kx := h
def DPutK (i : Nat) (fi : WE) (nx : En → Prop) (ex : Kx) : R → En → Prop := fun r e1 => ∃ x e2, frz r e1 = some (x, e2) ∧ (∃ kvs, e2[i]? = some (some (.m kvs))) ∧ fi e2 (fun r2 e3 => ∃ y ky kvs, r2 = .d y ∧ keyD y = some ky ∧ e3[i]? = some (some (.m kvs)) ∧ kvs.length < 1000000 ∧ nx (e3.set i (some (.m (putKD kvs ky x))))) ex
def DPutJ (i : Nat) (x : D) (nx : En → Prop) : R → En → Prop := fun r2 e3 => ∃ y ky kvs, r2 = .d y ∧ keyD y = some ky ∧ e3[i]? = some (some (.m kvs)) ∧ kvs.length < 1000000 ∧ nx (e3.set i (some (.m (putKD kvs ky x))))
theorem z_dput (h : fe e (DPutK i fi nx ex) ex) : wDPut i fi fe e ⟨nx, rt, bk, ct, ex⟩ := h
theorem z_dputK (h1 : frz r e = some (x, e')) (h2 : e'[i]? = some (some (.m kvs))) (h : fi e' (DPutJ i x nx) ex) : DPutK i fi nx ex r e := ⟨x, e', h1, ⟨kvs, h2⟩, h⟩
end
end Wl
namespace Wl
open PySem PySem.Spec PyProof.Rows L2 RZ
mutual
def keyN : D → Option NestedKey
  | .non => some .none
  | .bl b => some (.num (if b = true then 1 else 0))
  | .int i => some (.num i)
  | .str x => some (.text x)
  | .tup ds => match keyNs ds with
    | some ks => some (.tup ks)
    | none => none
  | .tupP ds => match keyNs ds with
    | some ks => some (.tup ks)
    | none => none
  | _ => none
def keyNs : List D → Option (List NestedKey)
  | [] => some []
  | d :: ds => match keyN d, keyNs ds with
    | some k, some ks => some (k :: ks)
    | _, _ => none
end
/-- a key for a dict -/
def KeyD (y : D) : Prop := ∃ ds k, y = .tup ds ∧ keyN y = some k ∧ k.depth ≤ 8
/-- the keys with one more -/
def insD (ds : List D) (y : D) : List D := if (ds.any fun x => decide (keyN x = keyN y)) = true then ds else ds ++ [y]
section
variable {N : Addr → Prop} {K : PySem.W.Frag} {H : Hp}
mutual
theorem Hd.key : ∀ (d : D) (k : NestedKey) (v : V), Hd N K H v d → keyN d = some k → My.KyV K H k v
  | .non, _, _, h, e => by cases h; cases e; exact .non
  | .bl b, _, _, h, e => by cases h; cases e; exact .bl b
  | .int i, _, _, h, e => by cases h; cases e; exact .int i
  | .str x, _, _, h, e => by cases h; cases e; exact .str x
  | .tup ds, _, _, h, e => by
    unfold keyN at e
    split at e
    · rename_i ks q
      cases e
      obtain ⟨a, xs, rfl, h1, h2⟩ := h.tupI
      exact .tup h1.sq (HdL.keys ds ks xs h2 q)
    · cases e
  | .tupP ds, _, _, h, e => by
    unfold keyN at e
    split at e
    · rename_i ks q
      cases e
      obtain ⟨a, o, xs, rfl, h1, _, _, h2⟩ := h.tupPI
      exact .tup (.inl (.inr ⟨_, h1⟩)) (HdL.keys ds ks xs h2 q)
    · cases e
  | .ty _, _, _, _, e => by cases e
  | .fn _, _, _, _, e => by cases e
  | .lst _, _, _, _, e => by cases e
  | .dct _, _, _, _, e => by cases e
  | .dcT _, _, _, _, e => by cases e
  | .ins _ _, _, _, _, e => by cases e
  | .dx _, _, _, _, e => by cases e
theorem HdL.keys : ∀ (ds : List D) (ks : List NestedKey) (vs : List V), HdL N K H vs ds → keyNs ds = some ks → My.KyL K H ks vs
  | [], _, _, h, e => by cases h; cases e; exact .nil
  | d :: ds, ks, _, h, e => by
    unfold keyNs at e
    split at e
    · rename_i k ks' q1 q2
      cases e
      cases h with
      | cons h1 h2 => exact .cons (Hd.key d k _ h1 q1) (HdL.keys ds ks' _ h2 q2)
    · cases e
end
/-- the dict's keys and the data that they are -/
structure PK (ks : List (NestedKey × Addr)) (ds : List D) : Prop where
  key : ds.map keyN = ks.map fun p => some p.1
  deep : ∀ p ∈ ks, p.1.depth ≤ 8
theorem PK.nil : PK [] [] := ⟨rfl, fun _ h => by cases h⟩
theorem PK.any {ks : List (NestedKey × Addr)} {ds : List D} (h : PK ks ds) {y : D} {k : NestedKey} (hy : keyN y = some k) : (ds.any fun x => decide (keyN x = keyN y)) = ks.any fun p => decide (p.1 = k) := by
  have e1 : (ds.any fun x => decide (keyN x = keyN y)) = (ds.map keyN).any fun o => decide (o = some k) := by rw [List.any_map, hy]; rfl
  have e2 : (ks.any fun p => decide (p.1 = k)) = (ks.map fun p => some p.1).any fun o => decide (o = some k) := by
    rw [List.any_map]
    refine congrArg (ks.any ·) (funext fun p => ?_)
    show decide (p.1 = k) = decide (some p.1 = some k)
    simp
  rw [e1, e2, h.key]
theorem PK.ins {ks : List (NestedKey × Addr)} {ds : List D} (h : PK ks ds) {y : D} {k : NestedKey} {a : Addr} (hy : keyN y = some k) (hk : k.depth ≤ 8) : PK (My.insK ks k a) (insD ds y) := by
  unfold My.insK insD
  rw [h.any hy]
  split
  · exact h
  · refine ⟨by rw [List.map_append, List.map_append, h.key]; simp [hy], fun p m => ?_⟩
    rcases List.mem_append.mp m with m | m
    · exact h.deep p m
    · rw [List.mem_singleton.mp m]; exact hk
theorem HdL.ins {ks : List (NestedKey × Addr)} {ds : List D} (h : PK ks ds) (hd : HdL N K H (ks.map fun p => V.ref p.2) ds) {y : D} {k : NestedKey} {a : Addr} (hy : keyN y = some k) (ha : Hd N K H (.ref a) y) : HdL N K H ((My.insK ks k a).map fun p => V.ref p.2) (insD ds y) := by
  unfold My.insK insD
  rw [h.any hy]
  split
  · exact hd
  · rw [List.map_append]
    exact hd.app (.cons ha .nil)
end
def wDxL (g : WG) (tt : WT) (tk tv : WE) (vs : List Nat) : List D → List D → En → (List D → En → Prop) → Prop
  | [], acc, e, k => k acc e
  | x :: xs, acc, e, k => g x e fun e2 => tt e2 (fun b e3 => if b = true then tk e3 (fun r e4 => ∃ y e5, frz r e4 = some (y, e5) ∧ KeyD y ∧ tv e5 (fun _ e6 => wDxL g tt tk tv vs xs (insD acc y) (wipeE e6 vs) k) (fun _ _ _ => False)) (fun _ _ _ => False) else wDxL g tt tk tv vs xs acc (wipeE e3 vs) k) fun _ _ _ => False
def wDx (it : WI) (g : WG) (tt : WT) (tk tv : WE) (vs : List Nat) : WE := fun e k kx => it e (fun xs e1 => xs.length ≤ 1000000 ∧ noOwn e1 vs = true ∧ wDxL g tt tk tv vs xs [] (wipeE e1 vs) fun ds e2 => k (.d (.dx ds)) (backE e1 vs e2)) kx
section
variable {T : Cxt} {K : PySem.W.Frag} {M : Addr → Prop} {W : WX} {σ : St} {H H' : Hp} {e e' : En} {vs : List Nat} {P : Program} {w : World}
theorem Tabs.keepX {H H' : Hp} (t : Tbs T H) (e : ∀ b o, H b = some o → ((∀ φ, o ≠ .ext φ) ∨ ∃ q, o = LamX.CodeO b q) → H' b = some o) : Tbs T H' := ⟨fun p hp => by
  obtain ⟨ps, h1, h2, h3⟩ := t.1 p hp
  refine ⟨ps, e _ _ h1 (.inl fun _ z => nomatch z), h2, fun pos cv hc => ?_⟩
  obtain ⟨c, e1, e2⟩ := h3 pos cv hc
  exact ⟨c, e1, e _ _ e2 (.inr ⟨_, rfl⟩)⟩, fun a h => by
  obtain ⟨o, u, q⟩ := t.2 a h
  exact ⟨o, u, e _ _ q (.inl fun _ z => nomatch z)⟩⟩
/-- no code object stands there -/
def NoCode (H : Hp) (p : Addr) : Prop := ∀ q, H p ≠ some (LamX.CodeO p q)
/-- what stands at somebody else's such dict changes -/
theorem Rep.updX {p : Addr} {φ : Heap → Prop} {o : HO} (h : Rep T K M σ H e) (hM : M p) (hp : H p = some (.ext φ)) (nc : NoCode H p) (ho : notTbl o) : Rep T K M σ (upd H p o) e := by
  have ne : ∀ b u, H b = some u → (∀ ψ, u ≠ .ext ψ) → b ≠ p := fun b u q n z => by subst z; rw [hp] at q; cases q; exact n _ rfl
  refine ⟨h.len, fun i s x => ?_, h.inj, h.apart, fun a z => ?_, Tabs.keepX h.tabs fun b u q m1 => by
    rw [upd_ne (m1.elim (ne b u q) fun ⟨z, y⟩ x => nc z (by rw [← x, q, y, x]))]; exact q⟩
  · obtain ⟨v, e1, q⟩ := h.at_ i s x
    refine ⟨v, e1, q.tr ⟨fun a xs q => by rw [upd_ne (ne a _ q fun _ z => nomatch z)]; exact q, fun a o q n _ => by rw [upd_ne fun z => n (.inl (by rw [z]; exact hM))]; exact q, fun _ _ n => n⟩ fun a o y1 y2 y3 _ => ?_⟩
    rw [upd_ne fun z => h.apart p hM (by rw [← z]; exact ⟨i, s, x, y2, _, e1, y1⟩)]
    exact y3
  · by_cases c : a = p
    · exact ⟨o, by rw [c]; exact upd_same, ho⟩
    · obtain ⟨u, q, n⟩ := h.dom a z
      exact ⟨u, by rw [upd_ne c]; exact q, n⟩
/-- between two turns -/
structure DxInv (P : Program) (w : World) (T : Cxt) (K : PySem.W.Frag) (M : Addr → Prop) (D : Addr) (us : List Nat) (σw : St) (ew : En) (H1 H : Hp) (ks : List (NestedKey × Addr)) (ds : List Wl.D) (e' : En) : Prop where
  at_ : H D = some (.ext (My.NKs P w D ks))
  rep : Rep T K (fun a => M a ∨ a = D) σw H e'
  hd : HdL (fun a => (M a ∨ a = D) ∨ Own σw e' a) K H (ks.map fun p => V.ref p.2) ds
  pk : PK ks ds
  keep : Keep T (Own σw ew) H1 (Own σw e') H
  stay : ∀ (j : Nat) (s : S), j ∉ us → ew[j]? = some (some s) → ∃ s' : S, e'[j]? = some (some s')
theorem DxInv.step {D : Addr} {σw : St} {ew : En} {H1 : Hp} {ks : List (NestedKey × Addr)} {ds : List Wl.D} {e1 e2 : En} {H2 : Hp} {F : Addr → Prop} (i : DxInv P w T K M D vs σw ew H1 H ks ds e1) (k : Keep T (Own σw e1) H F H2) (hF : ∀ a, Own σw e2 a → F a) (r : Rep T K (fun a => M a ∨ a = D) σw H2 e2)
    (st : ∀ (j : Nat) (s : S), j ∉ vs → e1[j]? = some (some s) → ∃ s' : S, e2[j]? = some (some s')) : DxInv P w T K M D vs σw ew H1 H2 ks ds e2 := by
  have k2 := k.sub hF
  exact ⟨k2.keep D _ i.at_ (i.rep.apart D (.inr rfl)) (fun _ z => nomatch z), r, i.hd.tr (Rep.tr k2 i.rep.dom), i.pk, i.keep.trans k2, fun j s h x => let ⟨_, y⟩ := i.stay j s h x; st j _ h y⟩
theorem DxInv.add {D a : Addr} {σw : St} {ew : En} {H1 : Hp} {ks : List (NestedKey × Addr)} {ds : List Wl.D} {e1 : En} {y : Wl.D} {k : NestedKey} (i : DxInv P w T K M D vs σw ew H1 H ks ds e1) (hD : H1 D = none) (h : Hd (fun a => (M a ∨ a = D) ∨ Own σw e1 a) K H (.ref a) y) (hy : keyN y = some k) (hk : k.depth ≤ 8) (nc : NoCode H D) :
    DxInv P w T K M D vs σw ew H1 (upd H D (.ext (My.NKs P w D (My.insK ks k a)))) (My.insK ks k a) (insD ds y) e1 := by
  have t : Tr (fun a => (M a ∨ a = D) ∨ Own σw e1 a) H (fun a => (M a ∨ a = D) ∨ Own σw e1 a) (upd H D (.ext (My.NKs P w D (My.insK ks k a)))) := ⟨fun a xs q => by
    rw [upd_ne fun z => by rw [z, i.at_] at q; cases q]; exact q, fun a o q n _ => by rw [upd_ne fun z => n (.inl (.inr z))]; exact q, fun _ _ n => n⟩
  exact ⟨upd_same, i.rep.updX (.inr rfl) i.at_ nc (fun _ z => nomatch z), (HdL.ins i.pk i.hd hy h).tr t, i.pk.ins hy hk, i.keep.mut hD, i.stay⟩
end
end Wl
namespace Wl
open PySem PySem.Spec PyProof.Rows L2 RZ
open PySem.W (EachIs dataLe AllAlike Sortable)
section
variable {X : Cx} {T : Cxt} {K : PySem.W.Frag} {W : WX} {M : Addr → Prop} {σ : St} {H : Hp} {kx vx tg iter : Expr} {ifs : List Expr} {scope : Scope} {own : List (Str × Nat)} {pos : Pos} {it : WI} {is : List Nat} {g : WG} {tt : WT} {tk tv : WE}
def wItX (f : WE) : WI := fun e k kx => f e (fun r e1 => ∃ xs e2, frz r e1 = some (.dx xs, e2) ∧ k xs e2) kx
def gListX (ds : List D) (k : R → Prop) : Prop := match ds with
  | [.dx xs] => k (.own (.l xs))
  | _ => False
def gTupleP (ds : List D) (k : R → Prop) : Prop := match ds with
  | [.lst xs] => k (.d (.tupP xs))
  | _ => False
def gDictD (ds : List D) (k : R → Prop) : Prop := match ds with
  | [.dct kvs] => k (.own (.m kvs))
  | _ => False
end
section
variable {e e' e0 : En} {kx : Kx} {fe : WE} {k : R → En → Prop} {x y z : D} {r : R} {kR : R → Prop} {xs : List D} {g : WG} {tt : WT} {tk tv : WE} {vs : List Nat}
def ItXK (kI : List D → En → Prop) : R → En → Prop := fun r e1 => ∃ xs e2, frz r e1 = some (.dx xs, e2) ∧ kI xs e2
theorem z_itX {kI : List D → En → Prop} (h : fe e (ItXK kI) kx) : wItX fe e kI kx := h
theorem z_itXK {kI : List D → En → Prop} (h1 : frz r e = some (.dx xs, e')) (h : kI xs e') : ItXK kI r e := ⟨xs, e', h1, h⟩
theorem z_listX (h : kR (.own (.l xs))) : gListX [.dx xs] kR := h
theorem z_tupP (h : kR (.d (.tupP xs))) : gTupleP [.lst xs] kR := h
theorem z_dictD {kvs : List (Key × D)} (h : kR (.own (.m kvs))) : gDictD [.dct kvs] kR := h
theorem z_ixTP {a : Int} (h1 : atI xs a = some x) (h : kR (.d x)) : gIx [.tupP xs, .int a] kR := ⟨x, h1, h⟩
theorem z_lenTP (h : kR (.d (.int (xs.length : Nat)))) : gLen [.tupP xs] kR := h
def DxK (g : WG) (tt : WT) (tk tv : WE) (vs : List Nat) (k : R → En → Prop) : List D → En → Prop := fun xs e1 => xs.length ≤ 1000000 ∧ noOwn e1 vs = true ∧ wDxL g tt tk tv vs xs [] (wipeE e1 vs) fun ds e2 => k (.d (.dx ds)) (backE e1 vs e2)
theorem z_dx {it : WI} (h : it e (DxK g tt tk tv vs k) kx) : wDx it g tt tk tv vs e k kx := h
/-- a turn -/
def DxV (vs : List Nat) (y : D) (K : Option D → En → Prop) : R → En → Prop := fun _ e6 => K (some y) (wipeE e6 vs)
def DxY (tv : WE) (vs : List Nat) (K : Option D → En → Prop) : R → En → Prop := fun r e4 => ∃ y e5, frz r e4 = some (y, e5) ∧ KeyD y ∧ tv e5 (DxV vs y K) (fun _ _ _ => False)
def DxT (tk tv : WE) (vs : List Nat) (K : Option D → En → Prop) : Bool → En → Prop := fun b e3 => if b = true then tk e3 (DxY tv vs K) (fun _ _ _ => False) else K none (wipeE e3 vs)
def turnX (g : WG) (tt : WT) (tk tv : WE) (vs : List Nat) (x : D) (e : En) (K : Option D → En → Prop) : Prop := g x e fun e2 => tt e2 (DxT tk tv vs K) fun _ _ _ => False
theorem z_turnX {K : Option D → En → Prop} (h : g x e fun e2 => tt e2 (DxT tk tv vs K) fun _ _ _ => False) : turnX g tt tk tv vs x e K := h
theorem z_dxT {K : Option D → En → Prop} (h : tk e (DxY tv vs K) (fun _ _ _ => False)) : DxT tk tv vs K true e := by unfold DxT; rw [if_pos rfl]; exact h
theorem z_dxV {K : Option D → En → Prop} (h2 : wipeE e vs = e') (h : K (some y) e') : DxV vs y K r e := by unfold DxV; rw [h2]; exact h
end
end Wl
namespace Wl
open PySem PySem.Spec PyProof.Rows L2 RZ
open PySem.W (EachIs dataLe AllAlike Sortable)
def smallL : List Nat := ("abcdefghijklmnopqrstuvwxyz" : Str).cps.toList
def figL : List Nat := ("0123456789" : Str).cps.toList
def resW : List Str := ["a", "b", "c", "and", "or", "not", "yes", "no", "mod"]
def headS (s : Str) : Bool := match s.cps.toList with
  | c :: _ => decide (c ∈ smallL)
  | [] => false
def tailS (s : Str) : Bool := s.cps.toList.all fun c => decide (c ∈ smallL) || decide (c ∈ figL)
def nameS (s : Str) : Bool := (decide (1 ≤ s.length) && decide (s.length ≤ 8)) && (!decide (s ∈ resW) && (headS s && tailS s))
abbrev Cor := Sit × List (Str × Int)
def nGood (n : Str × Int) : Prop := nameS n.1 = true ∧ 1 ≤ n.2 ∧ n.2 ≤ 5
end Wl
namespace Wl
open PySem PySem.Spec PyProof.Rows L2 RZ
open PySem.W (EachIs dataLe AllAlike Sortable alike alikeAll)
def lvFind (l : List (Str × Int)) (s : Str) : Option Int := (l.find? fun n => decide (n.1 = s)).map (·.2)
def lvGet (l : List (Str × Int)) (s : Str) : Int := (lvFind l s).getD 0
def lvPut (l : List (Str × Int)) (s : Str) (v : Int) : List (Str × Int) := if (l.any fun n => decide (n.1 = s)) = true then l.map (fun n => if n.1 = s then (n.1, v) else n) else l ++ [(s, v)]
/-- the greater level -/
def lvMax (l : List (Str × Int)) (n : Str × Int) : List (Str × Int) := lvPut l n.1 (if lvGet l n.1 > n.2 then lvGet l n.1 else n.2)
def lvAll (ns : List (Str × Int)) : List (Str × Int) := ns.foldl lvMax []
def leC (a b : Str) : Bool := decide (a.cps.toList ≤ b.cps.toList)
def tidyN (ns : List (Str × Int)) : List (Str × Int) := (((lvAll ns).map (·.1)).mergeSort leC).map fun s => (s, lvGet (lvAll ns) s)
theorem find_key {l : List (Str × Int)} {s : Str} (h : s ∈ l.map (·.1)) : lvFind l s = some (lvGet l s) := by
  unfold lvGet
  cases q : lvFind l s with
  | some v => rfl
  | none =>
    obtain ⟨n, hn, rfl⟩ := List.mem_map.mp h
    unfold lvFind at q
    rw [Option.map_eq_none_iff, List.find?_eq_none] at q
    exact (q n hn (by simp)).elim
def belowS (s t : Sit) : Bool := decide (s.1 ≤ t.1) && (decide (s.2.1 ≤ t.2.1) && decide (s.2.2 ≤ t.2.2))
def tidC (c : Cor) : Cor := (c.1, tidyN c.2)
theorem lvFind_mem {l : List (Str × Int)} {s : Str} {v : Int} (h : lvFind l s = some v) : (s, v) ∈ l := by
  unfold lvFind at h
  cases q : l.find? fun n => decide (n.1 = s) with
  | none => rw [q] at h; cases h
  | some n =>
    rw [q] at h
    cases h
    have h1 := List.find?_some q
    have h2 := List.mem_of_find?_eq_some q
    simp only [decide_eq_true_eq] at h1
    rw [← h1]
    exact h2
theorem lvPut_good {l : List (Str × Int)} {s : Str} {v : Int} (h : ∀ n ∈ l, nGood n) (hn : nGood (s, v)) : ∀ n ∈ lvPut l s v, nGood n := by
  intro n m
  unfold lvPut at m
  split at m
  · obtain ⟨z, hz, rfl⟩ := List.mem_map.mp m
    split
    · rename_i e
      rw [e]; exact hn
    · exact h z hz
  · rcases List.mem_append.mp m with m | m
    · exact h n m
    · rw [List.mem_singleton.mp m]; exact hn
theorem lvMax_good {l : List (Str × Int)} {n : Str × Int} (h : ∀ n ∈ l, nGood n) (hn : nGood n) : ∀ z ∈ lvMax l n, nGood z := by
  refine lvPut_good h ⟨hn.1, ?_⟩
  split
  · rename_i g
    unfold lvGet at g ⊢
    cases q : lvFind l n.1 with
    | none => rw [q] at g; have h1 := hn.2.1; simp at g; omega
    | some v => exact (h _ (lvFind_mem q)).2
  · exact hn.2
theorem lvAll_good {ns : List (Str × Int)} (h : ∀ n ∈ ns, nGood n) : ∀ n ∈ lvAll ns, nGood n := by
  have go : ∀ (ns l : List (Str × Int)), (∀ n ∈ ns, nGood n) → (∀ n ∈ l, nGood n) → ∀ n ∈ ns.foldl lvMax l, nGood n := by
    intro ns
    induction ns with
    | nil => exact fun l _ h => h
    | cons n ns ih => exact fun l hn hl => ih _ (fun z m => hn z (by simp [m])) (lvMax_good hl (hn n (by simp)))
  exact go ns [] h nofun
theorem tidyN_good {ns : List (Str × Int)} (h : ∀ n ∈ ns, nGood n) : ∀ n ∈ tidyN ns, nGood n := by
  intro n m
  unfold tidyN at m
  obtain ⟨s, hs, rfl⟩ := List.mem_map.mp m
  have hk := (List.mergeSort_perm _ _).mem_iff.mp hs
  exact lvAll_good h _ (lvFind_mem (find_key hk))
end Wl
namespace Wl
open PySem PySem.Spec PyProof.Rows L2 RZ
theorem len_cps (a : Str) : a.length = a.cps.toList.length := by show a.cps.size = _; simp
end Wl
namespace Wl
open PySem PySem.Spec PyProof.Rows L2 RZ
section
variable {X : Cx} {T : Cxt} {K : PySem.W.Frag} {W : WX} {M : Addr → Prop} {σ : St} {H : Hp} {Q : VK} {pos : Pos} {a b : Expr} {fa fb : WE}
def gIsB (ds : List D) (k : R → Prop) : Prop := match ds with
  | [.bl i, .bl j] => k (.d (.bl (decide (i = j))))
  | _ => False
theorem z_isB {kR : R → Prop} {i j : Bool} (h : kR (.d (.bl (decide (i = j))))) : gIsB [.bl i, .bl j] kR := h
def wOpR (g : List R → (R → Prop) → Prop) (fr : WA) : WE := fun e k kx => fr e (fun rs e1 => g rs fun r => k r e1) kx
end
section
variable {e : En} {kx : Kx} {k : R → En → Prop} {fa fb : WE} {xs : List D}
def OpRK (g : List R → (R → Prop) → Prop) (k : R → En → Prop) : List R → En → Prop := fun rs e1 => g rs fun r => k r e1
theorem z_opR {g : List R → (R → Prop) → Prop} {fr : WA} (h : fr e (OpRK g k) kx) : wOpR g fr e k kx := h
theorem z_opRK {g : List R → (R → Prop) → Prop} {rs : List R} (h : g rs fun r => k r e) : OpRK g k rs e := h
end
end Wl
namespace Wl
open PySem PySem.Spec PyProof.Rows L2 RZ
section
variable {T : Cxt} {K : PySem.W.Frag} {M : Addr → Prop} {W : WX} {σ σ2 : St} {H H' H2 : Hp} {e e' e1 e2 : En} {vs us : List Nat} {D : Addr}
theorem Keep.more {F F' N : Addr → Prop} (k : Keep T F H F' H') : Keep T (fun a => N a ∨ F a) H (fun a => N a ∨ F' a) H' :=
  ⟨k.tup, fun a o q n t => k.keep a o q (fun z => n (.inr z)) t, fun a l n z => z.elim (fun z => n (.inl z)) (k.out a l fun z => n (.inr z)), k.tbl, k.dom⟩
/-- between two turns, whatever block -/
structure LcJ (T : Cxt) (K : PySem.W.Frag) (M : Addr → Prop) (D : Addr) (us : List Nat) (Fb : Addr → Prop) (ew : En) (Hb : Hp) (σw : St) (H : Hp) (acc : List V) (ds : List Wl.D) (e' : En) : Prop where
  at_ : H D = some (.lst acc)
  rep : Rep T K (fun a => M a ∨ a = D) σw H e'
  hd : HdL (fun a => (M a ∨ a = D) ∨ Own σw e' a) K H acc ds
  keep : Keep T Fb Hb (Own σw e') H
  stay : ∀ (j : Nat) (s : S), j ∉ us → ew[j]? = some (some s) → ∃ s' : S, e'[j]? = some (some s')
variable {Fb : Addr → Prop} {ew : En} {Hb : Hp} {acc : List V} {ds : List Wl.D}
theorem LcJ.step {F : Addr → Prop} (i : LcJ T K M D us Fb ew Hb σ H acc ds e1) (k : Keep T (Own σ e1) H F H2) (hF : ∀ a, Own σ2 e2 a → F a) (r : Rep T K (fun a => M a ∨ a = D) σ2 H2 e2)
    (st : ∀ (j : Nat) (s : S), j ∉ us → e1[j]? = some (some s) → ∃ s' : S, e2[j]? = some (some s')) : LcJ T K M D us Fb ew Hb σ2 H2 acc ds e2 := by
  have k2 := k.sub hF
  exact ⟨k2.keep D _ i.at_ (i.rep.apart D (.inr rfl)) (fun _ z => nomatch z), r, i.hd.tr (tr_keep (M := fun a => M a ∨ a = D) k2), i.keep.trans k2, fun j s h x => let ⟨_, y⟩ := i.stay j s h x; st j _ h y⟩
theorem LcJ.add {u : V} {y : Wl.D} (i : LcJ T K M D us Fb ew Hb σ H acc ds e1) (hD : Hb D = none) (h : Hd (fun a => (M a ∨ a = D) ∨ Own σ e1 a) K H u y) : LcJ T K M D us Fb ew Hb σ (upd H D (.lst (acc ++ [u]))) (acc ++ [u]) (ds ++ [y]) e1 := by
  have t : Tr (fun a => (M a ∨ a = D) ∨ Own σ e1 a) H (fun a => (M a ∨ a = D) ∨ Own σ e1 a) (upd H D (.lst (acc ++ [u]))) := ⟨fun a xs q => by
    rw [upd_ne fun z => by rw [z, i.at_] at q; cases q]; exact q, fun a o q n _ => by rw [upd_ne fun z => n (.inl (.inr z))]; exact q, fun _ _ n => n⟩
  exact ⟨upd_same, i.rep.updM (.inr rfl) i.at_, (i.hd.app (.cons h .nil)).tr t, i.keep.mut hD, i.stay⟩
theorem LcJ.wipe {ws : List Nat} (hw : ∀ i ∈ ws, i ∈ us) (i : LcJ T K M D us Fb ew Hb σ H acc ds e1) : LcJ T K M D us Fb ew Hb (L2.wipe σ ws) H acc ds (wipeE e1 ws) :=
  ⟨i.at_, i.rep.wipe, i.hd.sub fun a z => z.imp id own_wipe, i.keep.sub fun a z => own_wipe z, fun j s h x => let ⟨s', y⟩ := i.stay j s h x; ⟨s', by rw [wipeE_get, if_neg fun z => h (hw j z)]; exact y⟩⟩
end
def wLc2L (g : WG) (tt : WT) (it1 : WI) (g1 : WG) (tt1 : WT) (te : WE) (vs vs1 : List Nat) : List D → List D → En → (List D → En → Prop) → Prop
  | [], acc, e, k => k acc e
  | x :: xs, acc, e, k => g x e fun e2 => tt e2 (fun b e3 => if b = true then it1 e3 (fun ys e4 => acc.length + ys.length ≤ 1000000 ∧ wLcL g1 tt1 te vs1 ys acc (wipeE e4 vs1) fun acc2 e5 => wLc2L g tt it1 g1 tt1 te vs vs1 xs acc2 (wipeE e5 vs) k) (fun _ _ _ => False) else wLc2L g tt it1 g1 tt1 te vs vs1 xs acc (wipeE e3 vs) k) fun _ _ _ => False
def wLc2 (it : WI) (g : WG) (tt : WT) (it1 : WI) (g1 : WG) (tt1 : WT) (te : WE) (vs vs1 : List Nat) : WE := fun e k kx => it e (fun xs e1 => noOwn e1 vs = true ∧ wLc2L g tt it1 g1 tt1 te vs vs1 xs [] (wipeE e1 vs) fun ds e2 => k (.own (.l ds)) (backE e1 vs e2)) kx
section
variable {e e' e0 e5 e6 : En} {kx : Kx} {k : R → En → Prop} {x : D} {xs ys acc : List D} {g g1 : WG} {tt tt1 : WT} {it1 : WI} {te : WE} {vs vs1 : List Nat}
def Lc2K (g : WG) (tt : WT) (it1 : WI) (g1 : WG) (tt1 : WT) (te : WE) (vs vs1 : List Nat) (k : R → En → Prop) : List D → En → Prop := fun xs e1 => noOwn e1 vs = true ∧ wLc2L g tt it1 g1 tt1 te vs vs1 xs [] (wipeE e1 vs) fun ds e2 => k (.own (.l ds)) (backE e1 vs e2)
theorem z_lc2 {it : WI} (h : it e (Lc2K g tt it1 g1 tt1 te vs vs1 k) kx) : wLc2 it g tt it1 g1 tt1 te vs vs1 e k kx := h
def In2K (g1 : WG) (tt1 : WT) (te : WE) (vs vs1 : List Nat) (acc : List D) (K : List D → En → Prop) : List D → En → Prop := fun ys e4 => acc.length + ys.length ≤ 1000000 ∧ wLcL g1 tt1 te vs1 ys acc (wipeE e4 vs1) fun acc2 e5 => K acc2 (wipeE e5 vs)
def El2K (it1 : WI) (g1 : WG) (tt1 : WT) (te : WE) (vs vs1 : List Nat) (acc : List D) (K : List D → En → Prop) : Bool → En → Prop := fun b e3 => if b = true then it1 e3 (In2K g1 tt1 te vs vs1 acc K) (fun _ _ _ => False) else K acc (wipeE e3 vs)
def turn2 (g : WG) (tt : WT) (it1 : WI) (g1 : WG) (tt1 : WT) (te : WE) (vs vs1 : List Nat) (x : D) (acc : List D) (e : En) (K : List D → En → Prop) : Prop := g x e fun e2 => tt e2 (El2K it1 g1 tt1 te vs vs1 acc K) fun _ _ _ => False
theorem z_turn2 {K : List D → En → Prop} (h : g x e fun e2 => tt e2 (El2K it1 g1 tt1 te vs vs1 acc K) fun _ _ _ => False) : turn2 g tt it1 g1 tt1 te vs vs1 x acc e K := h
theorem z_el2T {K : List D → En → Prop} (h : it1 e (In2K g1 tt1 te vs vs1 acc K) (fun _ _ _ => False)) : El2K it1 g1 tt1 te vs vs1 acc K true e := by unfold El2K; rw [if_pos rfl]; exact h
end
end Wl
namespace Wl
open PySem PySem.Spec PyProof.Rows L2 RZ
theorem z_addTP {kR : R → Prop} {xs ys : List D} (hl : xs.length + ys.length ≤ 1000000) (h : kR (.d (catP xs ys))) : gAdd [.tupP xs, .tupP ys] kR := ⟨hl, h⟩
end Wl
namespace Wl
open PySem PySem.Spec PyProof.Rows L2 RZ
open PySem.W (TotalLe sameRank sort_unique sort_pairwise sort_stable dataLe)
def keys (l : List (Str × Int)) : List Str := l.map (·.1)
theorem any_keys {l : List (Str × Int)} {s : Str} : (l.any fun n => decide (n.1 = s)) = decide (s ∈ keys l) := by
  unfold keys
  rw [Bool.eq_iff_iff, List.any_eq_true, decide_eq_true_eq]
  constructor
  · rintro ⟨n, hn, e⟩
    rw [← of_decide_eq_true e]
    exact List.mem_map.mpr ⟨n, hn, rfl⟩
  · intro h
    obtain ⟨n, hn, e⟩ := List.mem_map.mp h
    exact ⟨n, hn, decide_eq_true e⟩
theorem lvPut_keys {l : List (Str × Int)} {s : Str} {v : Int} : keys (lvPut l s v) = if s ∈ keys l then keys l else keys l ++ [s] := by
  unfold lvPut
  rw [any_keys]
  by_cases h : s ∈ keys l
  · rw [decide_eq_true h, if_pos rfl, if_pos h]
    unfold keys
    rw [List.map_map]
    exact List.map_congr_left fun n _ => by show (if n.1 = s then (n.1, v) else n).1 = n.1; split <;> rfl
  · rw [decide_eq_false h, if_neg Bool.false_ne_true, if_neg h]
    unfold keys
    rw [List.map_append]
    rfl
theorem lvPut_nd {l : List (Str × Int)} {s : Str} {v : Int} (h : (keys l).Nodup) : (keys (lvPut l s v)).Nodup := by
  rw [lvPut_keys]
  split
  · exact h
  · rename_i n
    rw [List.nodup_append]
    exact ⟨h, by simp, fun a ha b hb e => by rw [List.mem_singleton.mp hb] at e; rw [e] at ha; exact n ha⟩
theorem lvAll_nd (ns : List (Str × Int)) : (keys (lvAll ns)).Nodup := by
  have go : ∀ (ns l : List (Str × Int)), (keys l).Nodup → (keys (ns.foldl lvMax l)).Nodup := by
    intro ns
    induction ns with
    | nil => exact fun l h => h
    | cons n ns ih => exact fun l h => ih _ (lvPut_nd h)
  exact go ns [] List.nodup_nil
theorem tidyN_keys (ns : List (Str × Int)) : keys (tidyN ns) = (keys (lvAll ns)).mergeSort leC := by
  unfold keys tidyN
  rw [List.map_map]
  exact List.map_id'' (fun s => rfl) _
theorem tidyN_nd (ns : List (Str × Int)) : (keys (tidyN ns)).Nodup := by
  rw [tidyN_keys]
  exact (List.mergeSort_perm _ _).nodup_iff.mpr (lvAll_nd ns)
/-- a corner that is tidy -/
def TidyC (c : Cor) : Prop := (keys c.2).Nodup ∧ ∀ n ∈ c.2, 1 ≤ n.2
theorem tidC_tidy {c : Cor} (h : ∀ n ∈ c.2, nGood n) : TidyC (tidC c) := ⟨tidyN_nd c.2, fun n m => (tidyN_good h n m).2.1⟩
end Wl
namespace Wl
open PySem PySem.Spec PyProof.Rows L2 RZ
section
variable {X : Cx} {T : Cxt} {K : PySem.W.Frag} {W : WX} {k : Nat} {f C : Addr} {fd : FuncData} {ps : List Str} {sp : WSp} {pos : Pos} {a b : Expr} {fa fb : WE} {E : XK}
def gIsiO (Rl : Addr → Addr → Bool → Prop) (ds : List D) (k : R → Prop) : Prop := match ds with
  | [.ins C _, .fn c] => ∃ b, Rl C c b ∧ k (.d (.bl b))
  | _ => False
/-- of one class -/
def isSelf (C : Addr) : Addr → Addr → Bool → Prop := fun a b r => a = C ∧ b = C ∧ r = true
theorem z_isiO {fs : List (Str × D)} {kR : R → Prop} (h : kR (.d (.bl true))) : gIsiO (isSelf C) [.ins C fs, .fn C] kR := ⟨true, ⟨rfl, rfl, rfl⟩, h⟩
end
end Wl
namespace Wl
open PySem PySem.Spec PyProof.Rows L2 RZ
open PySem.W (TotalLe sameRank sort_one sort_pairwise dataLe dataLt keyToks)
def Fc (c : Cor) (s : Str) : Int := lvGet (lvAll c.2) s
/-- the one holds wherever the other does -/
def le2 (c d : Cor) : Prop := belowS c.1 d.1 = true ∧ ∀ s, Fc c s ≤ Fc d s
theorem below_iff {s t : Sit} : belowS s t = true ↔ (s.1 ≤ t.1 ∧ s.2.1 ≤ t.2.1 ∧ s.2.2 ≤ t.2.2) := by unfold belowS; simp
theorem below_trans {s t u : Sit} (h : belowS s t = true) (g : belowS t u = true) : belowS s u = true := by
  rw [below_iff] at h g ⊢
  exact ⟨by omega, by omega, by omega⟩
theorem le2.refl (c : Cor) : le2 c c := ⟨below_iff.mpr ⟨Int.le_refl _, Int.le_refl _, Int.le_refl _⟩, fun _ => Int.le_refl _⟩
theorem le2.trans {a b c : Cor} (h : le2 a b) (g : le2 b c) : le2 a c := ⟨below_trans h.1 g.1, fun s => Int.le_trans (h.2 s) (g.2 s)⟩
theorem TidyC.of {c : Cor} (h : ∀ n ∈ c.2, nGood n) : TidyC (tidC c) := tidC_tidy h
end Wl
namespace Wl
open PySem PySem.Spec PyProof.Rows L2 RZ
def covs (P Q : List Cor) : Prop := ∀ c ∈ P, ∃ d ∈ Q, le2 d c
theorem covs.trans {P Q R : List Cor} (h : covs P Q) (g : covs Q R) : covs P R := fun c m => by
  obtain ⟨d, hd, l⟩ := h c m
  obtain ⟨e, he, l2⟩ := g d hd
  exact ⟨e, he, l2.trans l⟩
theorem covs.refl (P : List Cor) : covs P P := fun c m => ⟨c, m, le2.refl c⟩
end Wl
namespace Wl
open PySem PySem.Spec PyProof.Rows L2 RZ
open PySem.W (dataLe sort_pairwise)
theorem insS_nd {l : List Str} {k : Str} (h : l.Nodup) : (My.insS l k).Nodup := by
  unfold My.insS
  split
  · exact h
  · rename_i n
    exact List.nodup_cons.mpr ⟨n, h⟩
section
variable {P : Program} {w : World} {T : Cxt} {K : PySem.W.Frag} {M : Addr → Prop} {W : WX} {σ σ2 : St} {H H' H2 Hb : Hp} {e e' e1 e2 ew : En} {vs us : List Nat} {D : Addr} {Fb : Addr → Prop} {l : List Str}
/-- between two turns -/
structure ScJ (P : Program) (w : World) (T : Cxt) (K : PySem.W.Frag) (M : Addr → Prop) (D : Addr) (us : List Nat) (Fb : Addr → Prop) (ew : En) (Hb : Hp) (σw : St) (H : Hp) (l : List Str) (e' : En) : Prop where
  at_ : H D = some (.ext (My.TxS P w D l))
  rep : Rep T K (fun a => M a ∨ a = D) σw H e'
  nd : l.Nodup
  keep : Keep T Fb Hb (Own σw e') H
  stay : ∀ (j : Nat) (s : S), j ∉ us → ew[j]? = some (some s) → ∃ s' : S, e'[j]? = some (some s')
theorem ScJ.step {F : Addr → Prop} (i : ScJ P w T K M D us Fb ew Hb σ H l e1) (k : Keep T (Own σ e1) H F H2) (hF : ∀ a, Own σ2 e2 a → F a) (r : Rep T K (fun a => M a ∨ a = D) σ2 H2 e2)
    (st : ∀ (j : Nat) (s : S), j ∉ us → e1[j]? = some (some s) → ∃ s' : S, e2[j]? = some (some s')) : ScJ P w T K M D us Fb ew Hb σ2 H2 l e2 := by
  have k2 := k.sub hF
  exact ⟨k2.keep D _ i.at_ (i.rep.apart D (.inr rfl)) (fun _ z => nomatch z), r, i.nd, i.keep.trans k2, fun j s h x => let ⟨_, y⟩ := i.stay j s h x; st j _ h y⟩
theorem ScJ.add {k : Str} (i : ScJ P w T K M D us Fb ew Hb σ H l e1) (hD : Hb D = none) (nc : NoCode H D) : ScJ P w T K M D us Fb ew Hb σ (upd H D (.ext (My.TxS P w D (My.insS l k)))) (My.insS l k) e1 :=
  ⟨upd_same, i.rep.updX (.inr rfl) i.at_ nc (fun _ z => nomatch z), insS_nd i.nd, i.keep.mut hD, i.stay⟩
theorem ScJ.wipe {ws : List Nat} (hw : ∀ i ∈ ws, i ∈ us) (i : ScJ P w T K M D us Fb ew Hb σ H l e1) : ScJ P w T K M D us Fb ew Hb (L2.wipe σ ws) H l (wipeE e1 ws) :=
  ⟨i.at_, i.rep.wipe, i.nd, i.keep.sub fun a z => own_wipe z, fun j s h x => let ⟨s', y⟩ := i.stay j s h x; ⟨s', by rw [wipeE_get, if_neg fun z => h (hw j z)]; exact y⟩⟩
end
def wScL (g : WG) (tt : WT) (te : WE) (vs : List Nat) : List D → List Str → En → (List Str → En → Prop) → Prop
  | [], l, e, k => k l e
  | x :: xs, l, e, k => turnD g tt te vs x e fun o e' => match o with
    | some d => ∃ s, d = .str s ∧ wScL g tt te vs xs (My.insS l s) e' k
    | none => wScL g tt te vs xs l e' k
def wSc2L (g : WG) (tt : WT) (it1 : WI) (g1 : WG) (tt1 : WT) (te : WE) (vs vs1 : List Nat) : List D → List Str → En → (List Str → En → Prop) → Prop
  | [], l, e, k => k l e
  | x :: xs, l, e, k => g x e fun e2 => tt e2 (fun b e3 => if b = true then it1 e3 (fun ys e4 => l.length + ys.length ≤ 4000 ∧ wScL g1 tt1 te vs1 ys l (wipeE e4 vs1) fun l2 e5 => wSc2L g tt it1 g1 tt1 te vs vs1 xs l2 (wipeE e5 vs) k) (fun _ _ _ => False) else wSc2L g tt it1 g1 tt1 te vs vs1 xs l (wipeE e3 vs) k) fun _ _ _ => False
/-- sorted({te for .. for ..}) -/
def wSs2 (it : WI) (g : WG) (tt : WT) (it1 : WI) (g1 : WG) (tt1 : WT) (te : WE) (vs vs1 : List Nat) : WE := fun e k kx => it e (fun xs e1 => noOwn e1 vs = true ∧ wSc2L g tt it1 g1 tt1 te vs vs1 xs [] (wipeE e1 vs) fun l e2 => k (.own (.l ((l.mergeSort leC).map .str))) (backE e1 vs e2)) kx
section
variable {e e' e0 e5 e6 : En} {kx : Kx} {k : R → En → Prop} {x : D} {xs ys : List D} {l : List Str} {g g1 : WG} {tt tt1 : WT} {it1 : WI} {te : WE} {vs vs1 : List Nat}
def Ss2K (g : WG) (tt : WT) (it1 : WI) (g1 : WG) (tt1 : WT) (te : WE) (vs vs1 : List Nat) (k : R → En → Prop) : List D → En → Prop := fun xs e1 => noOwn e1 vs = true ∧ wSc2L g tt it1 g1 tt1 te vs vs1 xs [] (wipeE e1 vs) fun l e2 => k (.own (.l ((l.mergeSort leC).map .str))) (backE e1 vs e2)
theorem z_ss2 {it : WI} (h : it e (Ss2K g tt it1 g1 tt1 te vs vs1 k) kx) : wSs2 it g tt it1 g1 tt1 te vs vs1 e k kx := h
def InSK (g1 : WG) (tt1 : WT) (te : WE) (vs vs1 : List Nat) (l : List Str) (K : List Str → En → Prop) : List D → En → Prop := fun ys e4 => l.length + ys.length ≤ 4000 ∧ wScL g1 tt1 te vs1 ys l (wipeE e4 vs1) fun l2 e5 => K l2 (wipeE e5 vs)
def ElSK (it1 : WI) (g1 : WG) (tt1 : WT) (te : WE) (vs vs1 : List Nat) (l : List Str) (K : List Str → En → Prop) : Bool → En → Prop := fun b e3 => if b = true then it1 e3 (InSK g1 tt1 te vs vs1 l K) (fun _ _ _ => False) else K l (wipeE e3 vs)
def turnS (g : WG) (tt : WT) (it1 : WI) (g1 : WG) (tt1 : WT) (te : WE) (vs vs1 : List Nat) (x : D) (l : List Str) (e : En) (K : List Str → En → Prop) : Prop := g x e fun e2 => tt e2 (ElSK it1 g1 tt1 te vs vs1 l K) fun _ _ _ => False
theorem z_turnS {K : List Str → En → Prop} (h : g x e fun e2 => tt e2 (ElSK it1 g1 tt1 te vs vs1 l K) fun _ _ _ => False) : turnS g tt it1 g1 tt1 te vs vs1 x l e K := h
theorem z_elST {K : List Str → En → Prop} (h : it1 e (InSK g1 tt1 te vs vs1 l K) (fun _ _ _ => False)) : ElSK it1 g1 tt1 te vs vs1 l K true e := by unfold ElSK; rw [if_pos rfl]; exact h
end
end Wl
namespace Wl
open PySem PySem.Spec PyProof.Rows L2 RZ
/-- d[y1], d[y2] = x1, x2 -/
def wDPut2 (i : Nat) (fr : WA) (f1 f2 : WE) : WS := fun e k => fr e (fun rs e1 => ∃ x1 x2, rs = [.d x1, .d x2] ∧ (∃ kvs, e1[i]? = some (some (.m kvs))) ∧ f1 e1 (fun r1 e2 => ∃ y ky kvs, r1 = .d y ∧ keyD y = some ky ∧ e2[i]? = some (some (.m kvs)) ∧ kvs.length < 1000000 ∧
  f2 (e2.set i (some (.m (putKD kvs ky x1)))) (fun r2 e3 => ∃ y ky kvs, r2 = .d y ∧ keyD y = some ky ∧ e3[i]? = some (some (.m kvs)) ∧ kvs.length < 1000000 ∧ k.nx (e3.set i (some (.m (putKD kvs ky x2))))) k.ex) k.ex) k.ex
def D2K (i : Nat) (f1 f2 : WE) (nx : En → Prop) (ex : Kx) : List R → En → Prop := fun rs e1 => ∃ x1 x2, rs = [.d x1, .d x2] ∧ (∃ kvs, e1[i]? = some (some (.m kvs))) ∧ f1 e1 (fun r1 e2 => ∃ y ky kvs, r1 = .d y ∧ keyD y = some ky ∧ e2[i]? = some (some (.m kvs)) ∧ kvs.length < 1000000 ∧ f2 (e2.set i (some (.m (putKD kvs ky x1)))) (DPutJ i x2 nx) ex) ex
section
variable {e e' : En} {i : Nat} {fr : WA} {f1 f2 : WE} {nx bk ct : En → Prop} {rt : R → En → Prop} {ex : Kx} {x1 x2 y : D} {ky : Key} {kvs : List (Key × D)}
theorem z_dput2 (h : fr e (D2K i f1 f2 nx ex) ex) : wDPut2 i fr f1 f2 e ⟨nx, rt, bk, ct, ex⟩ := h
end
end Wl
namespace Wl
open PySem PySem.Spec PyProof.Rows L2 RZ
section
variable {X : Cx} {T : Cxt} {K : PySem.W.Frag} {W : WX} {k : Nat} {f C : Addr} {fd : FuncData} {ps : List Str} {sp : WSp} {pos : Pos} {a b : Expr} {fa fb : WE} {E : XK} {M : Addr → Prop} {σ : St} {H : Hp} {Q : VK}
/-- an instance of C, then one of C or data of a built-in type -/
def PV (C : Addr) (ds : List D) : Prop := ∃ f1 y, ds = [.ins C f1, y] ∧ ((∃ f2, y = .ins C f2) ∨ (tyD y).isSome = true)
def wCallB (neg : Bool) (P : List D → Prop) (sp : WSp) (fr : WA) : WE := wCallO P (fun as k kx => sp as (fun r as' => ∃ b, r = .d (.bl b) ∧ k (.d (.bl (if neg then !b else b))) as') kx) fr
end
def gIsiV (C : Addr) (ds : List D) (k : R → Prop) : Prop := match ds with
  | [.ins A _, .fn c] => A = C ∧ c = C ∧ k (.d (.bl true))
  | [x, .fn c] => c = C ∧ (tyD x).isSome = true ∧ k (.d (.bl false))
  | _ => False
theorem z_isiVt {C : Addr} {fs : List (Str × D)} {kR : R → Prop} (h : kR (.d (.bl true))) : gIsiV C [.ins C fs, .fn C] kR := ⟨rfl, rfl, h⟩
theorem z_isiVf {C : Addr} {x : D} {kR : R → Prop} (h0 : (tyD x).isSome = true) (h : kR (.d (.bl false))) : gIsiV C [x, .fn C] kR := by
  cases x <;> first | exact ⟨rfl, h0, h⟩ | (cases h0)
def rangeDn (i : Int) (n : Nat) : List D := (List.range n).map fun k => .int (i - (k : Nat))
def wRng3 (fr : WA) : WI := fun e k kx => fr e (fun rs e1 => ∃ i j, rs = [.d (.int i), .d (.int j), .d (.int (-1))] ∧ (-4611686018427387904 ≤ i ∧ i < 4611686018427387904 ∧ -4611686018427387904 ≤ j ∧ j < 4611686018427387904) ∧ k (rangeDn i (i - j).toNat) e1) kx
section
variable {X : Cx} {T : Cxt} {K : PySem.W.Frag} {W : WX} {M : Addr → Prop} {σ : St} {H : Hp} {tg e e2 e3 : Expr} {fr : WA} {p pos : Pos}
def wClr (i : Nat) : WE := fun e k _ => ∃ xs, e[i]? = some (some (.l xs)) ∧ k (.d .non) (e.set i (some (.l [])))
def wClrM (i : Nat) : WE := fun e k _ => ∃ kvs, e[i]? = some (some (.m kvs)) ∧ k (.d .non) (e.set i (some (.m [])))
end
section
variable {e e' : En} {k : R → En → Prop} {kx : Kx} {i : Nat} {xs : List D} {kvs : List (Key × D)} {fr : WA} {rs : List R} {C : Addr}
theorem z_clr (h1 : e[i]? = some (some (.l xs))) (h2 : e.set i (some (.l [])) = e') (h : k (.d .non) e') : wClr i e k kx := by subst h2; exact ⟨xs, h1, h⟩
theorem z_clrM (h1 : e[i]? = some (some (.m kvs))) (h2 : e.set i (some (.m [])) = e') (h : k (.d .non) e') : wClrM i e k kx := by subst h2; exact ⟨kvs, h1, h⟩
def R3K (kI : List D → En → Prop) : List R → En → Prop := fun rs e1 => ∃ i j, rs = [.d (.int i), .d (.int j), .d (.int (-1))] ∧ (-4611686018427387904 ≤ i ∧ i < 4611686018427387904 ∧ -4611686018427387904 ≤ j ∧ j < 4611686018427387904) ∧ kI (rangeDn i (i - j).toNat) e1
theorem z_rng3 {kI : List D → En → Prop} (h : fr e (R3K kI) kx) : wRng3 fr e kI kx := h
theorem z_rng3K {kI : List D → En → Prop} {i j : Int} (h1 : -4611686018427387904 ≤ i ∧ i < 4611686018427387904 ∧ -4611686018427387904 ≤ j ∧ j < 4611686018427387904) (h : kI (rangeDn i (i - j).toNat) e) : R3K kI [.d (.int i), .d (.int j), .d (.int (-1))] e := ⟨i, j, rfl, h1, h⟩
def CallBK (neg : Bool) (sp : WSp) : WSp := fun as k kx => sp as (fun r as' => ∃ b, r = .d (.bl b) ∧ k (.d (.bl (if neg then !b else b))) as') kx
def BlN (neg : Bool) (k : SK) : SK := fun r as' => ∃ b, r = .d (.bl b) ∧ k (.d (.bl (if neg then !b else b))) as'
theorem z_callBV {neg : Bool} {P : List D → Prop} {sp : WSp} (h : wCallO P (CallBK neg sp) fr e k kx) : wCallB neg P sp fr e k kx := h
theorem z_callBK {neg : Bool} {sp : WSp} {as : List S} {k : SK} {kx : SX} (h : sp as (BlN neg k) kx) : CallBK neg sp as k kx := h
theorem z_blNf {b : Bool} {as : List S} {k : SK} (h : k (.d (.bl b)) as) : BlN false k (.d (.bl b)) as := ⟨b, rfl, h⟩
theorem z_blNt {b : Bool} {as : List S} {k : SK} (h : k (.d (.bl (!b))) as) : BlN true k (.d (.bl b)) as := ⟨b, rfl, h⟩
theorem z_callPV {sp : WSp} {f1 f2 : List (Str × D)} (h1 : seeL e rs = some [.ins C f1, .ins C f2]) (h : CallA sp k kx rs e) : CallOK (PV C) sp k kx rs e := ⟨⟨_, h1, f1, _, rfl, .inl ⟨f2, rfl⟩⟩, h⟩
theorem z_callPVd {sp : WSp} {f1 : List (Str × D)} {y : D} (h1 : seeL e rs = some [.ins C f1, y]) (hy : (tyD y).isSome = true) (h : CallA sp k kx rs e) : CallOK (PV C) sp k kx rs e := ⟨⟨_, h1, f1, y, rfl, .inr hy⟩, h⟩
end
end Wl
namespace Wl
open PySem PySem.Spec PyProof.Rows L2 RZ
/-- no list, no dict within -/
inductive NoL : D → Prop where
  | non : NoL .non
  | bl (b : Bool) : NoL (.bl b)
  | int (i : Int) : NoL (.int i)
  | str (x : Str) : NoL (.str x)
  | ty (n : String) : NoL (.ty n)
  | fn (a : Addr) : NoL (.fn a)
  | tup {ds : List D} : (∀ x ∈ ds, NoL x) → NoL (.tup ds)
  | tupP {ds : List D} : (∀ x ∈ ds, NoL x) → NoL (.tupP ds)
  | ins {C : Addr} {fs : List (Str × D)} : (∀ x ∈ fs.map (·.2), NoL x) → NoL (.ins C fs)
def NoR : R → Prop
  | .d x => NoL x
  | .own (.o C fs) => ∀ x ∈ fs.map (·.2), NoL x
  | .own (.l xs) => ∀ x ∈ xs, NoL x
  | .own (.m kvs) => ∀ x ∈ kvs.map (·.2), NoL x
  | _ => False
def blank (e : En) : En := e.map fun s => match s with
  | some (.d x) => some (.d x)
  | _ => none
def lendS : S → Bool
  | .l _ => true
  | .m _ => true
  | _ => false
def isM : S → Bool
  | .m _ => true
  | _ => false
/-- reading with the list or dict of slot i lent -/
def wBor (i : Nat) (f : WE) : WE := fun e k kx => ∃ s, e[i]? = some (some s) ∧ lendS s = true ∧ f ((blank e).set i (some (.d s.fz))) (fun r e1 => e1 = (blank e).set i (some (.d s.fz)) ∧ NoR r ∧ k r e) fun C fs e1 => isM s = true ∧ e1 = (blank e).set i (some (.d s.fz)) ∧ (∀ x ∈ fs.map (·.2), NoL x) ∧ kx C fs e
section
variable {e e0 : En} {k : R → En → Prop} {kx : Kx} {i : Nat} {f : WE} {xs : List D} {kvs : List (Key × D)} {r : R}
def BorK (e0 e : En) (k : R → En → Prop) : R → En → Prop := fun r e1 => e1 = e0 ∧ NoR r ∧ k r e
def BorX (s : S) (e0 e : En) (kx : Kx) : Kx := fun C fs e1 => isM s = true ∧ e1 = e0 ∧ (∀ x ∈ fs.map (·.2), NoL x) ∧ kx C fs e
theorem z_bor (h1 : e[i]? = some (some (.l xs))) (h2 : (blank e).set i (some (.d (.lst xs))) = e0) (h : f e0 (BorK e0 e k) (BorX (.l xs) e0 e kx)) : wBor i f e k kx := by
  subst h2
  exact ⟨.l xs, h1, rfl, h⟩
theorem z_borM (h1 : e[i]? = some (some (.m kvs))) (h2 : (blank e).set i (some (.d (.dct kvs))) = e0) (h : f e0 (BorK e0 e k) (BorX (.m kvs) e0 e kx)) : wBor i f e k kx := by
  subst h2
  exact ⟨.m kvs, h1, rfl, h⟩
theorem z_borKi {n : Int} (h : k (.d (.int n)) e) : BorK e0 e k (.d (.int n)) e0 := ⟨rfl, .int n, h⟩
theorem z_borKb {b : Bool} (h : k (.d (.bl b)) e) : BorK e0 e k (.d (.bl b)) e0 := ⟨rfl, .bl b, h⟩
end
end Wl
namespace Wl
open PySem PySem.Spec PyProof.Rows L2 RZ
def wItG (ψ : Key × D → D) (f : WE) : WI := fun e k kx => f e (fun r e1 => ∃ kvs e2, frz r e1 = some (.dct kvs, e2) ∧ k (kvs.map ψ) e2) kx
section
variable {e e' : En} {kx : Kx} {f : WE} {r : R} {ψ : Key × D → D} {kvs : List (Key × D)}
def ItGK (ψ : Key × D → D) (kI : List D → En → Prop) : R → En → Prop := fun r e1 => ∃ kvs e2, frz r e1 = some (.dct kvs, e2) ∧ kI (kvs.map ψ) e2
theorem z_itG {kI : List D → En → Prop} (h : f e (ItGK ψ kI) kx) : wItG ψ f e kI kx := h
theorem z_itGK {kI : List D → En → Prop} (h1 : frz r e = some (.dct kvs, e')) (h : kI (kvs.map ψ) e') : ItGK ψ kI r e := ⟨kvs, e', h1, h⟩
end
end Wl
namespace My
open PySem PySem.Spec PyProof.Rows L2 RZ
abbrev PT := Int × PySem.W.Tup Int
/-- v: a tuple of a number and a tuple of numbers -/
def OptAt (K : PySem.W.Frag) (H : Hp) (v : V) (o : PT) : Prop := ∃ t u, v = .ref t ∧ TupAt K H t [.int o.1, .ref u] ∧ TupAt K H u (o.2.items.map V.int)
def OptsAt (K : PySem.W.Frag) (H : Hp) : List V → List PT → Prop
  | [], [] => True
  | v :: vs, o :: os => OptAt K H v o ∧ OptsAt K H vs os
  | _, _ => False
theorem OptsAt.len {K : PySem.W.Frag} {H : Hp} : ∀ {vs : List V} {os : List PT}, OptsAt K H vs os → vs.length = os.length
  | [], [], _ => rfl
  | _ :: _, _ :: _, h => by rw [List.length_cons, List.length_cons, h.2.len]
  | [], _ :: _, h => h.elim
  | _ :: _, [], h => h.elim
theorem OptsAt.snoc {K : PySem.W.Frag} {H : Hp} {v : V} {o : PT} (h1 : OptAt K H v o) : ∀ {vs : List V} {os : List PT}, OptsAt K H vs os → OptsAt K H (vs ++ [v]) (os ++ [o])
  | [], [], _ => ⟨h1, trivial⟩
  | _ :: _, _ :: _, h => ⟨h.1, OptsAt.snoc h1 h.2⟩
  | [], _ :: _, h => h.elim
  | _ :: _, [], h => h.elim
section
variable {X : Cx} {pins : List (Addr × Obj)} {σ : St} {H : Hp} {s : Shared}
theorem OptsAt.mem {K : PySem.W.Frag} {H : Hp} : ∀ {vs : List V} {os : List PT} {i : Nat} {v : V}, OptsAt K H vs os → vs[i]? = some v → ∃ o, os[i]? = some o ∧ OptAt K H v o
  | [], [], i, v, _, h => by simp at h
  | w :: vs, o :: os, 0, v, h, e => by
    obtain rfl : w = v := Option.some.inj e
    exact ⟨o, rfl, h.1⟩
  | w :: vs, o :: os, i + 1, v, h, e => OptsAt.mem (i := i) h.2 (by simpa using e)
  | [], _ :: _, _, _, h, _ => h.elim
  | _ :: _, [], _, _, h, _ => h.elim
end
end My
namespace My
open PySem PySem.Spec PyProof.Rows L2 RZ SrtR SrtO
end My
namespace Wl
open PySem PySem.Spec PyProof.Rows L2 RZ
def truE : D → Option Bool
  | .non => some false
  | .bl b => some b
  | .int i => some (i != 0)
  | .lst xs => some (!xs.isEmpty)
  | .tup xs => some (!xs.isEmpty)
  | .dct kvs => some (!kvs.isEmpty)
  | _ => none
def wTru (f : WE) : WT := fun e k kx => f e (fun r e1 => ∃ x b, see e1 r = some x ∧ truE x = some b ∧ k b e1) kx
section
variable {fe : WE} {e : En} {kT : Bool → En → Prop} {kx : Kx} {r : R} {x : D} {b : Bool}
def TruK (k : Bool → En → Prop) : R → En → Prop := fun r e1 => ∃ x b, see e1 r = some x ∧ truE x = some b ∧ k b e1
theorem z_tru (h : fe e (TruK kT) kx) : wTru fe e kT kx := h
theorem z_truK (h1 : see e r = some x) (h2 : truE x = some b) (h : kT b e) : TruK kT r e := ⟨x, b, h1, h2, h⟩
end
end Wl
namespace Wl
open PySem PySem.Spec PyProof.Rows L2 RZ
def wCallC (Rl : List D → D → Prop) (fr : WA) : WE := fun e k kx => fr e (fun rs e1 => ∃ ds x, seeL e1 rs = some ds ∧ Rl ds x ∧ k (.d x) e1) kx
section
variable {e : En} {k : R → En → Prop} {kx : Kx} {fr : WA} {Rl : List D → D → Prop} {rs : List R} {ds : List D} {x : D}
def CallC (Rl : List D → D → Prop) (k : R → En → Prop) : List R → En → Prop := fun rs e1 => ∃ ds x, seeL e1 rs = some ds ∧ Rl ds x ∧ k (.d x) e1
theorem z_callC (h : fr e (CallC Rl k) kx) : wCallC Rl fr e k kx := h
end
end Wl
namespace Nc
open PySem PySem.Spec L2
/-- fewer slots are known -/
def Less (τ σ : St) : Prop := τ.length = σ.length ∧ ∀ (j : Nat) (v : V), τ[j]? = some (some v) → σ[j]? = some (some v)
theorem Less.refl (σ : St) : Less σ σ := ⟨rfl, fun _ _ e => e⟩
end Nc
namespace Wl
open PySem PySem.Spec PyProof.Rows L2 RZ
abbrev WB := List D → En → (List D → En → Prop) → Prop
/-- the element is frozen and appended -/
def wApn (te : WE) (kx : Kx) : WB := fun acc e k => te e (fun r e4 => ∃ y e5, frz r e4 = some (y, e5) ∧ k (acc ++ [y]) e5) kx
/-- one clause's items; vs: the names that are forgotten behind each -/
def wFold (g : WG) (tt : WT) (vs : List Nat) (B : WB) (kx : Kx) : List D → WB
  | [], acc, e, k => k acc e
  | x :: xs, acc, e, k => g x e fun e2 => tt e2 (fun b e3 => if b = true then B acc e3 (fun acc' e4 => wFold g tt vs B kx xs acc' (wipeE e4 vs) k) else wFold g tt vs B kx xs acc (wipeE e3 vs) k) kx
section
variable {T : Cxt} {K : PySem.W.Frag} {M : Addr → Prop} {p : Addr} {us vs : List Nat} {σw σ σ' : St} {ew e e' : En} {H1 H H' : Hp} {acc acc' : List D}
/-- a state within the block: the new list stands at p; σw, ew the names around it, H1 the heap ahead of it -/
structure At (T : Cxt) (K : PySem.W.Frag) (M : Addr → Prop) (p : Addr) (us : List Nat) (σw : St) (ew : En) (H1 : Hp) (σ : St) (H : Hp) (acc : List D) (e : En) : Prop where
  li : ∃ xs, H p = some (.lst xs) ∧ HdL (fun a => (M a ∨ a = p) ∨ Own σ e a) K H xs acc
  rep : Rep T K (fun a => M a ∨ a = p) σ H e
  keep : Keep T (Own σw ew) H1 (Own σ e) H
  wp : wipe σ us = σw
  stay : ∀ (j : Nat) (s : S), j ∉ us → ew[j]? = some (some s) → ∃ s' : S, e[j]? = some (some s')
/-- from one state to a later one, all but the list -/
abbrev Ke (T : Cxt) (p : Addr) (σ : St) (e : En) (H : Hp) (σ' : St) (e' : En) (H' : Hp) : Prop := Keep T (fun a => a = p ∨ Own σ e a) H (fun a => a = p ∨ Own σ' e' a) H'
theorem Ke.of (k : Keep T (Own σ e) H (Own σ' e') H') : Ke T p σ e H σ' e' H' :=
  ⟨k.tup, fun a o q n t => k.keep a o q (fun z => n (.inr z)) t, fun a l n z => z.elim (fun z => n (.inl z)) (k.out a l fun z => n (.inr z)), k.tbl, k.dom⟩
theorem At.go (h : At T K M p us σw ew H1 σ H acc e) (k : Keep T (Own σ e) H (Own σ' e') H') (r : Rep T K (fun a => M a ∨ a = p) σ' H' e') (hw : wipe σ' us = wipe σ us) (st : ∀ (j : Nat) (s : S), j ∉ us → e[j]? = some (some s) → ∃ s' : S, e'[j]? = some (some s')) : At T K M p us σw ew H1 σ' H' acc e' := by
  obtain ⟨xs, q1, q2⟩ := h.li
  have tr : Tr (fun a => (M a ∨ a = p) ∨ Own σ e a) H (fun a => (M a ∨ a = p) ∨ Own σ' e' a) H' :=
    ⟨k.tup, fun a o q n t => k.keep a o q (fun z => n (.inr z)) t, fun a l n z => z.elim (fun z => n (.inl z)) (k.out a l fun z => n (.inr z))⟩
  exact ⟨⟨xs, k.keep p _ q1 (h.rep.apart p (.inr rfl)) (fun _ z => nomatch z), q2.tr tr⟩, r, h.keep.trans k, hw.trans h.wp, fun j s c q => let ⟨s1, z⟩ := h.stay j s c q; st j s1 c z⟩
theorem At.app {v : V} {y : D} (hp : H1 p = none) (h : At T K M p us σw ew H1 σ H acc e) (hv : Hd (fun a => (M a ∨ a = p) ∨ Own σ e a) K H v y) {xs : List V} (hx : H p = some (.lst xs)) :
    At T K M p us σw ew H1 σ (upd H p (.lst (xs ++ [v]))) (acc ++ [y]) e ∧ Ke T p σ e H σ e (upd H p (.lst (xs ++ [v]))) := by
  have ne : ∀ {a : Addr} {o : HO}, H a = some o → (∀ zs, o ≠ .lst zs) → a ≠ p := fun {a o} q n z => by
    rw [z, hx] at q
    exact n xs (Option.some.inj q).symm
  have k : Ke T p σ e H σ e (upd H p (.lst (xs ++ [v]))) := by
    refine ⟨fun a zs q => ?_, fun a o q n _ => ?_, fun _ _ n => n, fun _ a ps q => ?_, fun a ⟨o, q, t⟩ => ?_⟩
    · rw [upd_ne (ne q fun _ z => nomatch z)]; exact q
    · rw [upd_ne fun z => n (.inl z)]; exact q
    · rw [upd_ne (ne q fun _ z => nomatch z)]; exact q
    · by_cases c : a = p
      · exact ⟨.lst (xs ++ [v]), by rw [c]; exact upd_same, fun _ z => nomatch z⟩
      · exact ⟨o, by rw [upd_ne c]; exact q, t⟩
  have tr : Tr (fun a => (M a ∨ a = p) ∨ Own σ e a) H (fun a => (M a ∨ a = p) ∨ Own σ e a) (upd H p (.lst (xs ++ [v]))) :=
    ⟨k.tup, fun a o q n t => k.keep a o q (fun z => n (z.elim (fun z => .inl (.inr z)) .inr)) t, fun _ _ n => n⟩
  obtain ⟨ys, z1, z2⟩ := h.li
  rw [hx] at z1
  cases z1
  exact ⟨⟨⟨_, upd_same, (z2.app (.cons hv .nil)).tr tr⟩, h.rep.updM (.inr rfl) hx, h.keep.mut hp, h.wp, h.stay⟩, k⟩
end
end Wl
namespace My
open PySem PySem.Spec PyProof.Rows L2 RZ
end My
namespace Wl
open PySem PySem.Spec PyProof.Rows L2 RZ
/-- one clause; an exception goes on with the block's names forgotten -/
def wLcXL (g : WG) (tt : WT) (te : WE) (vs : List Nat) : List D → List D → En → (List D → En → Prop) → Kx → Prop := fun xs acc e k kx => wFold g tt vs (wApn te fun C fs e' => kx C fs (wipeE e' vs)) (fun C fs e' => kx C fs (wipeE e' vs)) xs acc e k
def wLcX (it : WI) (g : WG) (tt : WT) (te : WE) (vs : List Nat) : WE := fun e k kx => it e (fun xs e1 => xs.length ≤ 1000000 ∧ noOwn e1 vs = true ∧ wLcXL g tt te vs xs [] (wipeE e1 vs) (fun ds e2 => k (.own (.l ds)) (backE e1 vs e2)) fun C fs e' => kx C fs (backE e1 vs e')) kx
section
variable {e e' : En} {k : R → En → Prop} {kx : Kx} {kT : Bool → En → Prop} {x : D} {r : R}
def LcXK (g : WG) (tt : WT) (te : WE) (vs : List Nat) (k : R → En → Prop) (kx : Kx) : List D → En → Prop := fun xs e1 => xs.length ≤ 1000000 ∧ noOwn e1 vs = true ∧ wLcXL g tt te vs xs [] (wipeE e1 vs) (fun ds e2 => k (.own (.l ds)) (backE e1 vs e2)) fun C fs e' => kx C fs (backE e1 vs e')
theorem z_lcX {it : WI} {g : WG} {tt : WT} {te : WE} {vs : List Nat} (h : it e (LcXK g tt te vs k kx) kx) : wLcX it g tt te vs e k kx := h
def TurnX (vs : List Nat) (KX : Kx) : Kx := fun C fs e' => KX C fs (wipeE e' vs)
def ElXK (te : WE) (vs : List Nat) (K : Option D → En → Prop) (KX : Kx) : Bool → En → Prop := fun b e3 => if b = true then te e3 (TurnK vs K) (TurnX vs KX) else K none (wipeE e3 vs)
def turnDX (g : WG) (tt : WT) (te : WE) (vs : List Nat) (x : D) (e : En) (K : Option D → En → Prop) (KX : Kx) : Prop := g x e fun e2 => tt e2 (ElXK te vs K KX) (TurnX vs KX)
theorem z_turnDX {g : WG} {tt : WT} {te : WE} {vs : List Nat} {K : Option D → En → Prop} {KX : Kx} (h : g x e fun e2 => tt e2 (ElXK te vs K KX) (TurnX vs KX)) : turnDX g tt te vs x e K KX := h
theorem z_elXT {te : WE} {vs : List Nat} {K : Option D → En → Prop} {KX : Kx} (h : te e (TurnK vs K) (TurnX vs KX)) : ElXK te vs K KX true e := by unfold ElXK; rw [if_pos rfl]; exact h
theorem z_elX {te : WE} {vs : List Nat} {K : Option D → En → Prop} {KX : Kx} {b : Bool} (h : if b = true then te e (TurnK vs K) (TurnX vs KX) else K none (wipeE e vs)) : ElXK te vs K KX b e := h
theorem z_TurnX {vs : List Nat} {KX : Kx} {C : Addr} {fs : List (Str × D)} (h1 : wipeE e vs = e') (h : KX C fs e') : TurnX vs KX C fs e := by unfold TurnX; rw [h1]; exact h
end
end Wl
namespace My
open PySem PySem.Spec PyProof.Rows L2 RZ
end My
namespace My
open PySem PySem.Spec PyProof.Rows L2 RZ
end My
namespace Wl
open PySem PySem.Spec PyProof.Rows L2 RZ
def wMethP (P : Addr → WSp → Prop) (m : Str) (fo : WE) (fr : WA) : WE := fun e k kx => fo e (fun r e1 => ∃ C sp, P C sp ∧ (∃ fs, see e1 r = some (.ins C fs) ∧ fs.lookup m = none) ∧ fr e1 (fun rs e2 => ∃ as, argS e2 (r :: rs) = some as ∧ (slotsOf (r :: rs)).Nodup ∧ sp as (fun r' as' => k r' (putS (r :: rs) as' e2)) (fun C fs as' => kx C fs (putS (r :: rs) as' e2))) kx) kx
section
variable {X : Cx} {T : Cxt} {K : PySem.W.Frag} {W : WX} {j : Nat} {P : Addr → WSp → Prop} {m : Str} {pos apos : Pos} {e o : Expr} {es : List Expr} {fr : WA} {fo : WE}
/-- one promise for two classes -/
def twoP (C1 C2 : Addr) (sp : WSp) : Addr → WSp → Prop := fun C s => (C = C1 ∨ C = C2) ∧ s = sp
/-- a promise for each of two classes -/
def twoS (C1 C2 : Addr) (sp1 sp2 : WSp) : Addr → WSp → Prop := fun C s => (C = C1 ∧ s = sp1) ∨ (C = C2 ∧ s = sp2)
end
section
variable {e e' : En} {k : R → En → Prop} {kx : Kx} {x : D} {r : R} {fe : WE} {fr : WA} {i : Nat} {nx : En → Prop} {sp : WSp}
def MethPK (P : Addr → WSp → Prop) (m : Str) (fr : WA) (k : R → En → Prop) (kx : Kx) : R → En → Prop := fun r e1 => ∃ C sp, P C sp ∧ (∃ fs, see e1 r = some (.ins C fs) ∧ fs.lookup m = none) ∧ fr e1 (fun rs e2 => CallA sp k kx (r :: rs) e2) kx
theorem z_methP {P : Addr → WSp → Prop} {m : Str} (h : fe e (MethPK P m fr k kx) kx) : wMethP P m fe fr e k kx := h
theorem z_methP2 {C1 C2 C : Addr} {m : Str} {fs : List (Str × D)} (hC : C = C1 ∨ C = C2) (h1 : see e r = some (.ins C fs)) (h2 : fs.lookup m = none) (h : fr e (fun rs e2 => CallA sp k kx (r :: rs) e2) kx) : MethPK (twoP C1 C2 sp) m fr k kx r e := ⟨C, sp, ⟨hC, rfl⟩, ⟨fs, h1, h2⟩, h⟩
theorem z_methPl {C1 C2 : Addr} {m : Str} {sp2 : WSp} {fs : List (Str × D)} (h1 : see e r = some (.ins C1 fs)) (h2 : fs.lookup m = none) (h : fr e (fun rs e2 => CallA sp k kx (r :: rs) e2) kx) : MethPK (twoS C1 C2 sp sp2) m fr k kx r e := ⟨C1, sp, .inl ⟨rfl, rfl⟩, ⟨fs, h1, h2⟩, h⟩
theorem z_methPr {C1 C2 : Addr} {m : Str} {sp1 : WSp} {fs : List (Str × D)} (h1 : see e r = some (.ins C2 fs)) (h2 : fs.lookup m = none) (h : fr e (fun rs e2 => CallA sp k kx (r :: rs) e2) kx) : MethPK (twoS C1 C2 sp1 sp) m fr k kx r e := ⟨C2, sp, .inr ⟨rfl, rfl⟩, ⟨fs, h1, h2⟩, h⟩
theorem z_stoKP {P : Addr → Prop} {C : Addr} {n : Str} {fs : List (Str × D)} {e2 : En} (h1 : frz r e = some (x, e2)) (h2 : e2[i]? = some (some (.o C fs))) (h0 : P C) (h3 : fs.length < 1000) (h4 : e2.set i (some (.o C (putD n x fs))) = e') (h : nx e') : StoK i P n nx r e := ⟨x, e2, C, fs, h1, h2, h0, h3, by rw [h4]; exact h⟩
end
end Wl
namespace My
open PySem PySem.Spec PyProof.Rows L2 RZ
end My
namespace Wl
open PySem PySem.Spec PyProof.Rows L2 RZ
/-- the promise of a method that must give a text -/
def spStr (sp : WSp) : WSp := fun as k kx => sp as (fun r as' => ∃ s, r = .d (.str s) ∧ k (.d (.str s)) as') kx
section
variable {T : Cxt} {K : PySem.W.Frag} {W : WX} {σ : St} {H : Hp}
/-- as P, texts asked -/
def txtP (P : Addr → WSp → Prop) : Addr → WSp → Prop := fun C s => ∃ s0, P C s0 ∧ s = spStr s0
def wText (P : Addr → WSp → Prop) (m : Str) (fa : WE) : WE := wMethP (txtP P) m fa wNil
end
section
variable {X : Cx} {T : Cxt} {K : PySem.W.Frag} {W : WX} {j : Nat} {P : Addr → WSp → Prop} {pos p : Pos} {a : Expr} {fa : WE} {nm : Str}
/-- a promise for one class -/
def oneP (C1 : Addr) (sp : WSp) : Addr → WSp → Prop := fun C s => C = C1 ∧ s = sp
end
section
variable {e e' : En} {k : R → En → Prop} {kx : Kx} {x : D} {r : R} {fe : WE} {sp : WSp} {C C1 C2 : Addr} {m : Str} {fs : List (Str × D)}
def TextK (P : Addr → WSp → Prop) (m : Str) (k : R → En → Prop) (kx : Kx) : R → En → Prop := fun r e1 => ∃ C s0, P C s0 ∧ (∃ fs, see e1 r = some (.ins C fs) ∧ fs.lookup m = none) ∧ CallA (spStr s0) k kx [r] e1
theorem z_text {P : Addr → WSp → Prop} (h : fe e (TextK P m k kx) kx) : wText P m fe e k kx := by
  have e1 : (fun r e1 => ∃ C sp, txtP P C sp ∧ (∃ fs, see e1 r = some (.ins C fs) ∧ fs.lookup m = none) ∧ wNil e1 (fun rs e2 => CallA sp k kx (r :: rs) e2) kx) = TextK P m k kx := by
    funext r e1
    refine propext ⟨fun ⟨C, sp, ⟨s0, hp, hs⟩, h1, h2⟩ => ?_, fun ⟨C, s0, hp, h1, h2⟩ => ⟨C, _, ⟨s0, hp, rfl⟩, h1, h2⟩⟩
    subst hs
    exact ⟨C, s0, hp, h1, h2⟩
  show fe e _ kx
  rw [← e1] at h
  exact h
theorem z_text1 (h1 : see e r = some (.ins C fs)) (h2 : fs.lookup m = none) (h : CallA (spStr sp) k kx [r] e) : TextK (oneP C sp) m k kx r e := ⟨C, sp, ⟨rfl, rfl⟩, ⟨fs, h1, h2⟩, h⟩
theorem z_text2 (hC : C = C1 ∨ C = C2) (h1 : see e r = some (.ins C fs)) (h2 : fs.lookup m = none) (h : CallA (spStr sp) k kx [r] e) : TextK (twoP C1 C2 sp) m k kx r e := ⟨C, sp, ⟨hC, rfl⟩, ⟨fs, h1, h2⟩, h⟩
theorem z_textl {sp2 : WSp} (h1 : see e r = some (.ins C1 fs)) (h2 : fs.lookup m = none) (h : CallA (spStr sp) k kx [r] e) : TextK (twoS C1 C2 sp sp2) m k kx r e := ⟨C1, sp, .inl ⟨rfl, rfl⟩, ⟨fs, h1, h2⟩, h⟩
theorem z_textr {sp1 : WSp} (h1 : see e r = some (.ins C2 fs)) (h2 : fs.lookup m = none) (h : CallA (spStr sp) k kx [r] e) : TextK (twoS C1 C2 sp1 sp) m k kx r e := ⟨C2, sp, .inr ⟨rfl, rfl⟩, ⟨fs, h1, h2⟩, h⟩
def StrK (k : SK) : SK := fun r as' => ∃ s, r = .d (.str s) ∧ k (.d (.str s)) as'
theorem z_spStr {as : List S} {k : SK} {kx : SX} (h : sp as (StrK k) kx) : spStr sp as k kx := h
theorem z_strK {as : List S} {k : SK} {s : Str} (h : k (.d (.str s)) as) : StrK k (.d (.str s)) as := ⟨s, rfl, h⟩
end
def wJs : List WE → Str → WE
  | [], acc => fun e k _ => k (.d (.str acc)) e
  | f :: fs, acc => fun e k kx => f e (fun r e1 => ∃ y, r = .d (.str y) ∧ (acc ++ y).length ≤ sizeLine ∧ wJs fs (acc ++ y) e1 k kx) kx
def wJ (fs : List WE) : WE := wJs fs Str.empty
section
variable {e e' : En} {k : R → En → Prop} {kx : Kx} {f : WE} {fs : List WE} {acc y : Str} {i : Int} {kR : R → Prop}
theorem z_j (h : wJs fs Str.empty e k kx) : wJ fs e k kx := h
def JsK (fs : List WE) (acc : Str) (k : R → En → Prop) (kx : Kx) : R → En → Prop := fun r e1 => ∃ y, r = .d (.str y) ∧ (acc ++ y).length ≤ sizeLine ∧ wJs fs (acc ++ y) e1 k kx
theorem z_js0 (h : k (.d (.str acc)) e) : wJs [] acc e k kx := h
theorem z_js (h : f e (JsK fs acc k kx) kx) : wJs (f :: fs) acc e k kx := h
end
end Wl
namespace Wl
open PySem PySem.Spec PyProof.Rows L2 RZ
section
variable {K : PySem.W.Frag}
def isTwo (A B c : Addr) (b1 b2 : Bool) : Addr → Addr → Bool → Prop := fun a x r => (a = A ∧ x = c ∧ r = b1) ∨ (a = B ∧ x = c ∧ r = b2)
theorem z_isi2l {A B c : Addr} {b1 b2 : Bool} {fs : List (Str × D)} {kR : R → Prop} (h : kR (.d (.bl b1))) : gIsiO (isTwo A B c b1 b2) [.ins A fs, .fn c] kR := ⟨b1, .inl ⟨rfl, rfl, rfl⟩, h⟩
theorem z_isi2r {A B c : Addr} {b1 b2 : Bool} {fs : List (Str × D)} {kR : R → Prop} (h : kR (.d (.bl b2))) : gIsiO (isTwo A B c b1 b2) [.ins B fs, .fn c] kR := ⟨b2, .inr ⟨rfl, rfl, rfl⟩, h⟩
end
def gStrS (ds : List D) (k : R → Prop) : Prop := match ds with
  | [.str s] => k (.d (.str s))
  | _ => False
theorem z_strS {s : Str} {kR : R → Prop} (h : kR (.d (.str s))) : gStrS [.str s] kR := h
def lowT (s : Sit) : List (Str × Int) := ([("a", s.1), ("b", s.2.1), ("c", s.2.2)] : List (Str × Int)).filter fun m => decide (m.2 > 0)
end Wl
namespace Wl
open PySem PySem.Spec PyProof.Rows L2 RZ
section
variable {e : En} {k : R → En → Prop} {kx : Kx} {r : R} {fr : WA} {sp : WSp} {C C1 C2 : Addr} {m : Str} {fs : List (Str × D)}
theorem z_methP3 (h1 : see e r = some (.ins C fs)) (h2 : fs.lookup m = none) (hC : C = C1 ∨ C = C2) (h : fr e (fun rs e2 => CallA sp k kx (r :: rs) e2) kx) : MethPK (twoP C1 C2 sp) m fr k kx r e := z_methP2 hC h1 h2 h
theorem z_text3 (h1 : see e r = some (.ins C fs)) (h2 : fs.lookup m = none) (hC : C = C1 ∨ C = C2) (h : CallA (spStr sp) k kx [r] e) : TextK (twoP C1 C2 sp) m k kx r e := z_text2 hC h1 h2 h
end
end Wl
namespace My
open PySem PySem.Spec PyProof.Rows L2 RZ
end My
namespace Wl
open PySem PySem.Spec PyProof.Rows L2 RZ
def BinPK (neg : Bool) (P : Addr → WSp → Prop) (N : Addr → D → Prop) (k : R → En → Prop) (kx : Kx) : List R → En → Prop := fun rs e1 => ∃ C s0 f1 y, P C s0 ∧ seeL e1 rs = some [.ins C f1, y] ∧ N C y ∧ CallA (CallBK neg s0) k kx rs e1
def wBinP (neg : Bool) (P : Addr → WSp → Prop) (N : Addr → D → Prop) (fr : WA) : WE := fun e k kx => fr e (fun rs e1 => ∃ C s0 f1 y, P C s0 ∧ seeL e1 rs = some [.ins C f1, y] ∧ N C y ∧ CallA (CallBK neg s0) k kx rs e1) kx
section
variable {X : Cx} {T : Cxt} {K : PySem.W.Frag} {W : WX} {j : Nat} {P : Addr → WSp → Prop} {N : Addr → D → Prop} {pos : Pos} {a b : Expr} {fa fb : WE} {E : XK} {σ : St} {H : Hp} {Q : VK}
/-- of a class and of one below it -/
def N2 (C1 C2 : Addr) : Addr → D → Prop := fun C y => ((C = C1 ∨ C = C2) ∧ ∃ f, y = .ins C f) ∨ (C = C2 ∧ ∃ f, y = .ins C1 f) ∨ ((C = C1 ∨ C = C2) ∧ (tyD y).isSome = true)
end
section
variable {e : En} {k : R → En → Prop} {kx : Kx} {fr : WA} {rs : List R} {C C1 C2 : Addr} {sp : WSp} {y : D} {kR : R → Prop}
theorem z_binP {neg : Bool} {P : Addr → WSp → Prop} {N : Addr → D → Prop} (h : fr e (BinPK neg P N k kx) kx) : wBinP neg P N fr e k kx := h
theorem z_binPs {neg : Bool} {f1 f2 : List (Str × D)} (h1 : seeL e rs = some [.ins C f1, .ins C f2]) (hC : C = C1 ∨ C = C2) (h : CallA (CallBK neg sp) k kx rs e) : BinPK neg (twoP C1 C2 sp) (N2 C1 C2) k kx rs e := ⟨C, sp, f1, _, ⟨hC, rfl⟩, h1, .inl ⟨hC, f2, rfl⟩, h⟩
theorem z_binPd {neg : Bool} {f1 f2 : List (Str × D)} (h1 : seeL e rs = some [.ins C2 f1, .ins C1 f2]) (h : CallA (CallBK neg sp) k kx rs e) : BinPK neg (twoP C1 C2 sp) (N2 C1 C2) k kx rs e := ⟨C2, sp, f1, _, ⟨.inr rfl, rfl⟩, h1, .inr (.inl ⟨rfl, f2, rfl⟩), h⟩
theorem z_binPt {neg : Bool} {f1 : List (Str × D)} (h1 : seeL e rs = some [.ins C f1, y]) (hy : (tyD y).isSome = true) (hC : C = C1 ∨ C = C2) (h : CallA (CallBK neg sp) k kx rs e) : BinPK neg (twoP C1 C2 sp) (N2 C1 C2) k kx rs e := ⟨C, sp, f1, y, ⟨hC, rfl⟩, h1, .inr (.inr ⟨hC, hy⟩), h⟩
end
end Wl
namespace Wl
open PySem PySem.Spec PyProof.Rows L2 RZ
def gIsiOV (Rl : Addr → Addr → Bool → Prop) (cc : Addr) (ds : List D) (k : R → Prop) : Prop := match ds with
  | [.ins C _, .fn c] => ∃ b, Rl C c b ∧ k (.d (.bl b))
  | [x, .fn c] => c = cc ∧ (tyD x).isSome = true ∧ k (.d (.bl false))
  | _ => False
theorem z_isiW2l {A B c : Addr} {b1 b2 : Bool} {fs : List (Str × D)} {kR : R → Prop} (h : kR (.d (.bl b1))) : gIsiOV (isTwo A B c b1 b2) c [.ins A fs, .fn c] kR := ⟨b1, .inl ⟨rfl, rfl, rfl⟩, h⟩
theorem z_isiW2r {A B c : Addr} {b1 b2 : Bool} {fs : List (Str × D)} {kR : R → Prop} (h : kR (.d (.bl b2))) : gIsiOV (isTwo A B c b1 b2) c [.ins B fs, .fn c] kR := ⟨b2, .inr ⟨rfl, rfl, rfl⟩, h⟩
theorem z_isiWd {Rl : Addr → Addr → Bool → Prop} {C : Addr} {x : D} {kR : R → Prop} (h0 : (tyD x).isSome = true) (h : kR (.d (.bl false))) : gIsiOV Rl C [x, .fn C] kR := by
  cases x <;> first | exact ⟨rfl, h0, h⟩ | (cases h0)
end Wl
namespace Wl
open PySem PySem.Spec PyProof.Rows L2 RZ
section
variable {T : Cxt} {K : PySem.W.Frag} {M : Addr → Prop} {W : WX} {σ : St} {H H' : Hp} {e e' : En} {vs : List Nat}
theorem Rep.updMD {p : Addr} {xs ys : List (Key × V)} (h : Rep T K M σ H e) (hM : M p) (hp : H p = some (.dK xs)) : Rep T K M σ (upd H p (.dK ys)) e := by
  have ne : ∀ b o, H b = some o → (∀ zs, o ≠ .dK zs) → b ≠ p := fun b o q n z => by subst z; rw [hp] at q; cases q; exact n _ rfl
  refine ⟨h.len, fun i s x => ?_, h.inj, h.apart, fun a z => ?_, Tabs.keep h.tabs fun b o q _ m1 _ _ => by rw [upd_ne (ne b o q m1)]; exact q⟩
  · obtain ⟨v, e1, q⟩ := h.at_ i s x
    refine ⟨v, e1, q.tr ⟨fun a xs q => by rw [upd_ne (ne a _ q fun _ z => nomatch z)]; exact q, fun a o q n _ => by rw [upd_ne fun z => n (.inl (by rw [z]; exact hM))]; exact q, fun _ _ n => n⟩ fun a o y1 y2 y3 _ => ?_⟩
    rw [upd_ne fun z => h.apart p hM (by rw [← z]; exact ⟨i, s, x, y2, _, e1, y1⟩)]
    exact y3
  · by_cases c : a = p
    · exact ⟨.dK ys, by rw [c]; exact upd_same, fun _ z => nomatch z⟩
    · obtain ⟨u, q, n⟩ := h.dom a z
      exact ⟨u, by rw [upd_ne c]; exact q, n⟩
structure DcInv (T : Cxt) (K : PySem.W.Frag) (M : Addr → Prop) (D : Addr) (us : List Nat) (σw : St) (ew : En) (H1 H : Hp) (acc : List (Key × V)) (ds : List (Key × Wl.D)) (e' : En) : Prop where
  at_ : H D = some (.dK acc)
  rep : Rep T K (fun a => M a ∨ a = D) σw H e'
  hd : KvHd Key (fun a => (M a ∨ a = D) ∨ Own σw e' a) K H acc ds
  keep : Keep T (Own σw ew) H1 (Own σw e') H
  stay : ∀ (j : Nat) (s : S), j ∉ us → ew[j]? = some (some s) → ∃ s' : S, e'[j]? = some (some s')
theorem DcInv.step {D : Addr} {σw : St} {ew : En} {H1 : Hp} {acc : List (Key × V)} {ds : List (Key × Wl.D)} {e1 e2 : En} {H2 : Hp} {F : Addr → Prop} (i : DcInv T K M D vs σw ew H1 H acc ds e1) (k : Keep T (Own σw e1) H F H2) (hF : ∀ a, Own σw e2 a → F a) (r : Rep T K (fun a => M a ∨ a = D) σw H2 e2) (st : ∀ (j : Nat) (s : S), j ∉ vs → e1[j]? = some (some s) → ∃ s' : S, e2[j]? = some (some s')) : DcInv T K M D vs σw ew H1 H2 acc ds e2 := by
  have k2 := k.sub hF
  refine ⟨k2.keep D _ i.at_ (i.rep.apart D (.inr rfl)) (fun _ z => nomatch z), r, ⟨i.hd.1, i.hd.2.tr (Rep.tr k2 i.rep.dom)⟩, i.keep.trans k2, fun j s h x => let ⟨_, y⟩ := i.stay j s h x; st j _ h y⟩
theorem DcInv.add {D : Addr} {σw : St} {ew : En} {H1 : Hp} {acc : List (Key × V)} {ds : List (Key × Wl.D)} {e1 : En} {v : V} {y : Wl.D} {ky : Key} (i : DcInv T K M D vs σw ew H1 H acc ds e1) (hD : H1 D = none) (h : Hd (fun a => (M a ∨ a = D) ∨ Own σw e1 a) K H v y) : DcInv T K M D vs σw ew H1 (upd H D (.dK (putK acc ky v))) (putK acc ky v) (putKD ds ky y) e1 := by
  have t : Tr (fun a => (M a ∨ a = D) ∨ Own σw e1 a) H (fun a => (M a ∨ a = D) ∨ Own σw e1 a) (upd H D (.dK (putK acc ky v))) := ⟨fun a xs q => by
    rw [upd_ne fun z => by rw [z, i.at_] at q; cases q]; exact q, fun a o q n _ => by rw [upd_ne fun z => n (.inl (.inr z))]; exact q, fun _ _ n => n⟩
  have hp := i.hd.put (k := ky) h
  exact ⟨upd_same, i.rep.updMD (.inr rfl) i.at_, ⟨hp.1, hp.2.tr t⟩, i.keep.mut hD, i.stay⟩
theorem DcInv.unl {D : Addr} {e1 e' : En} {H1 H : Hp} {lk : Lk} {acc : List (Key × V)} {ds : List (Key × Wl.D)} (hD : H1 D = none) (l1 : lkd M (Own σ e1) lk H1) (nt : ∀ d od u, lk = some (d, od, u) → ¬ T.2 d) (iv : DcInv T K M D vs (wipe σ vs) (wipeE e1 vs) H1 H acc ds e') :
    DcInv T K M D vs (wipe σ vs) (wipeE e1 vs) (Wl.unl lk H1) (Wl.unl lk H) acc ds e' ∧ lkd M (Own (wipe σ vs) e') lk H ∧ Wl.unl lk H1 D = none := by
  have lw : lkd M (Own (wipe σ vs) (wipeE e1 vs)) lk H1 := by
    cases lk with
    | none => trivial
    | some x => obtain ⟨d, od, u⟩ := x; exact ⟨l1.1, l1.2.1, l1.2.2.1, fun z => l1.2.2.2 (own_wipe z)⟩
  have l2 : lkd M (Own (wipe σ vs) e') lk H := lw.keep iv.keep
  have l3 : lkd (fun a => M a ∨ a = D) (Own (wipe σ vs) e') lk H := by
    cases lk with
    | none => trivial
    | some x =>
      obtain ⟨d, od, u⟩ := x
      have nd : d ≠ D := fun z => by
        have y := l1.1
        rw [z, hD] at y
        cases y
      exact ⟨l2.1, l2.2.1, (fun z => z.elim l2.2.2.1 nd), l2.2.2.2⟩
  refine ⟨⟨by rw [lk_ne l2 fun o u z => by rw [iv.at_] at z; cases z]; exact iv.at_, iv.rep.unl l3 nt, ?_, iv.keep.unl lw, iv.stay⟩, l2, by rw [lk_ne l1 fun o u z => by rw [hD] at z; cases z]; exact hD⟩
  cases lk with
  | none => exact iv.hd
  | some x => obtain ⟨d, od, u⟩ := x; exact ⟨iv.hd.1, iv.hd.2.eqv (eqv_unl l2.1 l2.2.1)⟩
def wDcL (g : WG) (tt : WT) (tk tv : WE) (vs : List Nat) : List Wl.D → List (Key × Wl.D) → En → (List (Key × Wl.D) → En → Prop) → Prop
  | [], acc, e, k => k acc e
  | x :: xs, acc, e, k => g x e fun e2 => tt e2 (fun b e3 => if b = true then tk e3 (fun r e4 => ∃ y ky e5, frz r e4 = some (y, e5) ∧ keyD y = some ky ∧ tv e5 (fun r2 e6 => ∃ z e7, frz r2 e6 = some (z, e7) ∧ wDcL g tt tk tv vs xs (putKD acc ky z) (wipeE e7 vs) k) (fun _ _ _ => False)) (fun _ _ _ => False) else wDcL g tt tk tv vs xs acc (wipeE e3 vs) k) fun _ _ _ => False
/-- {k: v for target in iter if ..}, keys ints or texts -/
def wDc (it : WI) (g : WG) (tt : WT) (tk tv : WE) (vs : List Nat) : WE := fun e k kx => it e (fun xs e1 => xs.length ≤ 1000000 ∧ noOwn e1 vs = true ∧ wDcL g tt tk tv vs xs [] (wipeE e1 vs) fun ds e2 => k (.own (.m ds)) (backE e1 vs e2)) kx
end
end Wl
namespace Wl
open PySem PySem.Spec PyProof.Rows L2 RZ
section
variable {e e' e0 : En} {k : R → En → Prop} {kx : Kx} {x y : D} {r : R} {g : WG} {tt : WT} {tk tv : WE} {vs : List Nat} {ky : Key}
def DcK (g : WG) (tt : WT) (tk tv : WE) (vs : List Nat) (k : R → En → Prop) : List D → En → Prop := fun xs e1 => xs.length ≤ 1000000 ∧ noOwn e1 vs = true ∧ wDcL g tt tk tv vs xs [] (wipeE e1 vs) fun ds e2 => k (.own (.m ds)) (backE e1 vs e2)
theorem z_dc {it : WI} (h : it e (DcK g tt tk tv vs k) kx) : wDc it g tt tk tv vs e k kx := h
def DcV (vs : List Nat) (ky : Key) (K : Option (Key × D) → En → Prop) : R → En → Prop := fun r e6 => ∃ z e7, frz r e6 = some (z, e7) ∧ K (some (ky, z)) (wipeE e7 vs)
def DcY (tv : WE) (vs : List Nat) (K : Option (Key × D) → En → Prop) : R → En → Prop := fun r e4 => ∃ y ky e5, frz r e4 = some (y, e5) ∧ keyD y = some ky ∧ tv e5 (DcV vs ky K) (fun _ _ _ => False)
def DcT (tk tv : WE) (vs : List Nat) (K : Option (Key × D) → En → Prop) : Bool → En → Prop := fun b e3 => if b = true then tk e3 (DcY tv vs K) (fun _ _ _ => False) else K none (wipeE e3 vs)
def turnC (g : WG) (tt : WT) (tk tv : WE) (vs : List Nat) (x : D) (e : En) (K : Option (Key × D) → En → Prop) : Prop := g x e fun e2 => tt e2 (DcT tk tv vs K) fun _ _ _ => False
theorem z_turnC {K : Option (Key × D) → En → Prop} (h : g x e fun e2 => tt e2 (DcT tk tv vs K) fun _ _ _ => False) : turnC g tt tk tv vs x e K := h
theorem z_dcT {K : Option (Key × D) → En → Prop} (h : tk e (DcY tv vs K) (fun _ _ _ => False)) : DcT tk tv vs K true e := by unfold DcT; rw [if_pos rfl]; exact h
theorem z_dcF {K : Option (Key × D) → En → Prop} (h2 : wipeE e vs = e') (h : K none e') : DcT tk tv vs K false e := by unfold DcT; rw [if_neg (by decide), h2]; exact h
theorem z_dcY {K : Option (Key × D) → En → Prop} (h1 : frz r e = some (y, e')) (h2 : keyD y = some ky) (h : tv e' (DcV vs ky K) (fun _ _ _ => False)) : DcY tv vs K r e := ⟨y, ky, e', h1, h2, h⟩
theorem z_dcV {K : Option (Key × D) → En → Prop} {e2 : En} (h1 : frz r e = some (y, e2)) (h2 : wipeE e2 vs = e') (h : K (some (ky, y)) e') : DcV vs ky K r e := ⟨y, e2, h1, by rw [h2]; exact h⟩
end
def spLenO (sp : WSp) : WSp := fun as k kx => sp as (fun r as' => ∃ n : Int, r = .d (.int n) ∧ (0 ≤ n ∧ n < 2 ^ 63) ∧ k (.d (.int n)) as') kx
section
variable {k : SK} {kx : SX} {as : List S} {sp : WSp} {n : Int}
def LenK (k : SK) : SK := fun r as' => ∃ n : Int, r = .d (.int n) ∧ (0 ≤ n ∧ n < 2 ^ 63) ∧ k (.d (.int n)) as'
theorem z_spLenO (h : sp as (LenK k) kx) : spLenO sp as k kx := h
end
end Wl
namespace Wl
open PySem PySem.Spec PyProof.Rows L2 RZ
def NoS : S → Prop
  | .l xs => ∀ x ∈ xs, NoL x
  | .m kvs => ∀ x ∈ kvs.map (·.2), NoL x
  | _ => False
section
variable {T : Cxt} {K : PySem.W.Frag} {M : Addr → Prop} {W : WX} {σ : St} {H H1 : Hp} {d g : Addr} {od : Obj} {u : HO}
theorem NoS.ow {t : S} (h : NoS t) : t.owned = true := by cases t <;> first | rfl | exact h.elim
theorem NoS.one {t : S} (h : NoS t) : t.lone = true := by cases t <;> first | rfl | exact h.elim
end
end Wl
namespace Wl
open PySem PySem.Spec PyProof.Rows L2 RZ
/-- a def as it stands, whatever its defaults are -/
structure FunA (K : PySem.W.Frag) (x qual : Str) (st : Stmt) (f : Addr) (fd : FuncData) : Prop where
  ex : ∃ (oc : Value) (od : Option Addr) (dV kV doc pm : Value) (an : Option Addr) (cdv ct : Value) (osl : Array (Option Value)),
    fd = PySem.W.fnOf x qual (defArgs st) (defBody st) (defScope st) dV kV doc pm an cdv ct ∧ K.lookup f = some ⟨oc, od, .func fd, osl⟩ ∧ PySem.W.codeIn K cdv qual = true
  kp : PySem.W.keepIn K (.ref f) = true
section
variable {P : Program} {w : World} {K : PySem.W.Frag} {mg : Str → Option Value} {base : Heap}
theorem FunA.okX {x qual : Str} {st : Stmt} {f : Addr} {fd : FuncData} {N ps : List Str} {k : Nat} {sp : Sp} (F : FunA K x qual st f fd) (S : FnScope N ps (defScope st)) (len : ∀ vs H Q E, sp vs H Q E → vs.length = ps.length)
    (hbody : ∀ (cdv : Value) (A : Around) (outer : List Env) (s : Shared) (H : Hp) (vs : List V) (Q : VK) (E : XK), Room k (A.deeper (envOfC qual (defScope st) s.heap.objs.size f cdv)) → sp vs H Q E →
      ∃ t, PSs (cxOf (L2.CX P w) P w K mg base N qual (defScope st) f cdv A outer s H E) (defBody st) t ∧ t { nx := fun _ H' => Q .non H', rt := Q } (start N vs) H) : FnOk P w K mg base (L2.CX P w) (k + 1) f fd ps sp := by
  obtain ⟨oc, od, dV, kV, doc, pm, an, cdv, ct, osl, rfl, lk, hcd⟩ := F.ex
  exact fn_of lk hcd S len fun A outer s H vs Q E hr hsp => hbody cdv A outer s H vs Q E hr hsp
end
/-- the parameters' values: their places among positional values, keywords' values, defaults -/
def selL {α : Type} (sel : List Nat) (z : α) (xs : List α) : List α := sel.map fun i => xs[i]?.getD z
def CallN2 (sp : WSp) (m : Nat) (sel : List Nat) (ds dD : List D) (k : R → En → Prop) (kx : Kx) : List R → En → Prop := fun ts e2 => ∃ es, allD ts = some es ∧ es.length = m ∧ sp ((selL sel .non (ds ++ es ++ dD)).map S.d) (fun r _ => k r e2) (fun C fs _ => kx C fs e2)
def CallN1 (sp : WSp) (n m : Nat) (sel : List Nat) (dD : List D) (g : WA) (k : R → En → Prop) (kx : Kx) : List R → En → Prop := fun rs e1 => ∃ ds, allD rs = some ds ∧ ds.length = n ∧ g e1 (CallN2 sp m sel ds dD k kx) kx
def wCallN (sp : WSp) (n m : Nat) (sel : List Nat) (dD : List D) (f g : WA) : WE := fun e k kx => f e (CallN1 sp n m sel dD g k kx) kx
section
variable {e e' : En} {k : R → En → Prop} {kx : Kx} {sp : WSp} {n m : Nat} {sel : List Nat} {ds es dD : List D} {f g : WA} {rs : List R} {as : List S}
theorem z_callN (h : f e (CallN1 sp n m sel dD g k kx) kx) : wCallN sp n m sel dD f g e k kx := h
theorem z_callN1 (h1 : allD rs = some ds) (h2 : ds.length = n) (h : g e (CallN2 sp m sel ds dD k kx) kx) : CallN1 sp n m sel dD g k kx rs e := ⟨ds, h1, h2, h⟩
/-- what follows a call whose arguments are data -/
def CNk (k : R → En → Prop) (e : En) : SK := fun r _ => k r e
def CNx (kx : Kx) (e : En) : SX := fun C fs _ => kx C fs e
theorem z_callN2 (h1 : allD rs = some es) (h3 : es.length = m) (h2 : (selL sel .non (ds ++ es ++ dD)).map S.d = as) (h : sp as (CNk k e) (CNx kx e)) : CallN2 sp m sel ds dD k kx rs e := by subst h2; exact ⟨es, h1, h3, h⟩
theorem z_cnk {r : R} (h : k r e) : CNk k e r as := h
theorem z_cnx {C : Addr} {fs : List (Str × D)} (h : kx C fs e) : CNx kx e C fs as := h
end
end Wl
namespace Wl
open PySem PySem.Spec PyProof.Rows L2 RZ
def isCnt (c : Str) : Prop := c = "a" ∨ c = "b" ∨ c = "c"
theorem isCnt.d {c : Str} (h : isCnt c) : isCountD (.str c) = true := by rcases h with rfl | rfl | rfl <;> decide +kernel
end Wl
namespace Wl
open PySem PySem.Spec PyProof.Rows L2 RZ
def gNotInSign (ds : List D) (k : R → Prop) : Prop := match ds with
  | [.str w, .str z] => ∃ c, w = ⟨#[c]⟩ ∧ k (.d (.bl (!decide (c ∈ z.cps.toList))))
  | _ => False
theorem z_notInS {s : Str} {kR : R → Prop} {c : Nat} (h : kR (.d (.bl (!decide (c ∈ s.cps.toList))))) : gNotInSign [.str ⟨#[c]⟩, .str s] kR := ⟨c, rfl, h⟩
end Wl
namespace Wl
open PySem PySem.Spec PyProof.Rows L2 RZ
section
variable {X : Cx} {K : PySem.W.Frag}
def gIsNotB (ds : List D) (k : R → Prop) : Prop := match ds with
  | [.bl i, .bl j] => k (.d (.bl (!decide (i = j))))
  | _ => False
theorem z_isNotB {kR : R → Prop} {i j : Bool} (h : kR (.d (.bl (!decide (i = j))))) : gIsNotB [.bl i, .bl j] kR := h
end
end Wl
namespace Wl
open PySem PySem.Spec PyProof.Rows L2 RZ
section
variable {T : Cxt} {K : PySem.W.Frag} {M : Addr → Prop} {H H' : Hp} {ws us us2 : List V} {bs bs2 : List S} {xs ys : List D}
theorem own_tail (hl : ws.length = bs.length) : Own ((ws ++ us).map some) ((bs ++ xs.map S.d).map some) = Own (ws.map some) (bs.map some) := by
  funext a
  refine propext ⟨fun ⟨i, s, h1, h2, w, h3, hs⟩ => ?_, fun ⟨i, s, h1, h2, w, h3, hs⟩ => ?_⟩
  · have h1 := mapS.mp h1
    have h3 := mapS.mp h3
    by_cases c : i < bs.length
    · rw [List.getElem?_append_left c] at h1
      rw [List.getElem?_append_left (by omega)] at h3
      exact ⟨i, s, mapS.mpr h1, h2, w, mapS.mpr h3, hs⟩
    · rw [List.getElem?_append_right (by omega), List.getElem?_map] at h1
      cases q : xs[i - bs.length]? with
      | none => rw [q] at h1; cases h1
      | some x => rw [q] at h1; cases h1; cases h2
  · have h1 := mapS.mp h1
    have h3 := mapS.mp h3
    have c := (List.getElem?_eq_some_iff.mp h1).1
    refine ⟨i, s, mapS.mpr ?_, h2, w, mapS.mpr ?_, hs⟩
    · rw [List.getElem?_append_left c]; exact h1
    · rw [List.getElem?_append_left (by omega)]; exact h3
theorem Rep.tail (hl : ws.length = bs.length) (r : Rep T K M ((ws ++ us).map some) H ((bs ++ xs.map S.d).map some)) (hy : HdL (fun a => M a ∨ Own (ws.map some) (bs.map some) a) K H us2 ys) :
    Rep T K M ((ws ++ us2).map some) H ((bs ++ ys.map S.d).map some) := by
  have eq1 := own_tail (us := us) (xs := xs) hl
  have eq2 := own_tail (us := us2) (xs := ys) hl
  have lo : ∀ {i : Nat} {s : S}, (bs ++ ys.map S.d)[i]? = some s → s.owned = true → i < bs.length := fun {i s} h1 h2 => by
    by_cases c : i < bs.length
    · exact c
    · rw [List.getElem?_append_right (by omega), List.getElem?_map] at h1
      cases q : ys[i - bs.length]? with
      | none => rw [q] at h1; cases h1
      | some x => rw [q] at h1; cases h1; cases h2
  have toL : ∀ {i : Nat} {s : S}, (bs ++ ys.map S.d)[i]? = some s → i < bs.length → ((bs ++ xs.map S.d).map some)[i]? = some (some s) := fun {i s} h c => by
    rw [List.getElem?_append_left c] at h
    exact mapS.mpr (by rw [List.getElem?_append_left c]; exact h)
  have toV : ∀ {i : Nat} {v : V}, i < bs.length → ((ws ++ us2).map some)[i]? = some (some v) → ((ws ++ us).map some)[i]? = some (some v) := fun {i v} c h => by
    have h := mapS.mp h
    rw [List.getElem?_append_left (by omega)] at h
    exact mapS.mpr (by rw [List.getElem?_append_left (by omega)]; exact h)
  refine ⟨by simp only [List.length_map, List.length_append, hy.len, hl], fun i s h => ?_, fun i j s t a h1 h2 h3 h4 h5 h6 => ?_, fun a z => by rw [eq2, ← eq1]; exact r.apart a z, r.dom, r.tabs⟩
  · rw [eq2]
    have h := mapS.mp h
    by_cases c : i < bs.length
    · obtain ⟨v, g1, g2⟩ := r.at_ i s (toL h c)
      rw [eq1] at g2
      have g1 := mapS.mp g1
      rw [List.getElem?_append_left (by omega)] at g1
      exact ⟨v, mapS.mpr (by rw [List.getElem?_append_left (by omega)]; exact g1), g2⟩
    · rw [List.getElem?_append_right (by omega), List.getElem?_map] at h
      cases q : ys[i - bs.length]? with
      | none => rw [q] at h; cases h
      | some y =>
        rw [q] at h
        cases h
        obtain ⟨v, g1, g2⟩ := hy.get q
        exact ⟨v, mapS.mpr (by rw [List.getElem?_append_right (by omega), hl]; exact g1), g2⟩
  · have c1 := lo (mapS.mp h1) h2
    have c2 := lo (mapS.mp h3) h4
    exact r.inj i j s t a (toL (mapS.mp h1) c1) h2 (toL (mapS.mp h3) c2) h4 (let ⟨w, x, y⟩ := h5; ⟨w, toV c1 x, y⟩) (let ⟨w, x, y⟩ := h6; ⟨w, toV c2 x, y⟩)
end
end Wl
namespace Wl
open PySem PySem.Spec PyProof.Rows L2 RZ
def isW (c : Nat) : Bool := decide (c ∈ smallL) || decide (c ∈ figL)
def mkS (l : List Nat) : Str := ⟨l.toArray⟩
theorem mkS_cps (l : List Nat) : (mkS l).cps.toList = l := by unfold mkS; simp
theorem mkS_eta (s : Str) : mkS s.cps.toList = s := by cases s; unfold mkS; simp
theorem mkS_len (l : List Nat) : (mkS l).length = l.length := by rw [len_cps, mkS_cps]
abbrev Tk := Str × Nat
def twoSgn (c : Nat) (r : List Nat) : Bool := (decide (c = 62) || decide (c = 61)) && decide (r.head? = some 61)
/-- how many signs the token takes that begins here -/
def stepL (c : Nat) (r : List Nat) : Nat := if isW c = true then 1 + (r.takeWhile isW).length else if twoSgn c r = true then 2 else 1
theorem stepL_pos {c : Nat} {r : List Nat} : 1 ≤ stepL c r := by unfold stepL; split <;> (try split) <;> omega
def lexF : Nat → Nat → List Nat → List Tk
  | 0, _, _ => []
  | _ + 1, _, [] => []
  | n + 1, a, c :: r => (if c = 32 then [] else [(mkS ((c :: r).take (stepL c r)), a)]) ++ lexF n (a + stepL c r) ((c :: r).drop (stepL c r))
theorem lexF_any : ∀ (n m a : Nat) (xs : List Nat), xs.length ≤ n → xs.length ≤ m → lexF n a xs = lexF m a xs
  | n, m, a, [], _, _ => by cases n <;> cases m <;> rfl
  | 0, _, _, _ :: _, h, _ => by simp at h
  | _, 0, _, _ :: _, _, h => by simp at h
  | n + 1, m + 1, a, c :: r, h1, h2 => by
    unfold lexF
    have := stepL_pos (c := c) (r := r)
    rw [lexF_any n m _ _ (by rw [List.length_drop]; omega) (by rw [List.length_drop]; omega)]
def lex (a : Nat) (xs : List Nat) : List Tk := lexF xs.length a xs
theorem lex_nil {a : Nat} : lex a [] = [] := rfl
theorem lex_cons {a c : Nat} {r : List Nat} : lex a (c :: r) = (if c = 32 then [] else [(mkS ((c :: r).take (stepL c r)), a)]) ++ lex (a + stepL c r) ((c :: r).drop (stepL c r)) := by
  have e : lex a (c :: r) = lexF (r.length + 1) a (c :: r) := rfl
  rw [e]
  unfold lexF lex
  have := stepL_pos (c := c) (r := r)
  rw [lexF_any r.length ((c :: r).drop (stepL c r)).length _ _ (by rw [List.length_drop, List.length_cons]; omega) (Nat.le_refl _)]
/-- the tokens of a text, an empty one at the end -/
def toksL (s : Str) : List Tk := lex 0 s.cps.toList ++ [(("" : Str), s.length)]
theorem atS {z : Str} {i c : Nat} (h : z.cps.toList[i]? = some c) : atI z.cps.toList ((i : Nat) : Int) = some c := atI_nat h
end Wl
namespace Wl
open PySem PySem.Spec PyProof.Rows L2 RZ
def figsS (s : Str) : Bool := s.cps.toList.all fun c => decide (c ∈ figL)
/-- a number without a leading zero, of six figures at most -/
def numS (s : Str) : Bool := (decide (1 ≤ s.length) && decide (s.length ≤ 6)) && (figsS s && (decide (s = "0") || !decide (s.cps.toList.head? = some 48)))
def numV (s : Str) : Int := (PySem.intText? s).getD 0
end Wl
namespace Wl
open PySem PySem.Spec PyProof.Rows L2 RZ
def opP (w : Str) : D := .tup [.str w]
/-- the tokens of a comparison -/
inductive CmpW : D → List Str → Prop
  | yes : CmpW (.tup [.str "yes"]) ["yes"]
  | no : CmpW (.tup [.str "no"]) ["no"]
  | least (c n : Str) : isCnt c → numS n = true → CmpW (.tup [.str "least", .str c, .int (numV n)]) [c, ">=", n]
  | ahead (c d n : Str) : isCnt c → isCnt d → numS n = true → CmpW (.tup [.str "ahead", .str c, .str d, .int (numV n)]) [c, "-", d, ">=", n]
  | aheadN (c d n : Str) : isCnt c → isCnt d → numS n = true → CmpW (.tup [.str "ahead", .str c, .str d, .int (-(numV n))]) [c, "-", d, ">=", "-", n]
  | rest (c m n : Str) : isCnt c → numS m = true → numS n = true → CmpW (.tup [.str "rest", .str c, .int (numV m), .int (numV n)]) [c, "mod", m, "==", n]
theorem isCnt.w5 {c : Str} (h : isCnt c) : (c ∈ (["yes", "no", "a", "b", "c"] : List Str) ∧ c ≠ "") ∧ ¬ (c = "yes" ∨ c = "no") ∧ (c ∈ (["a", "b", "c"] : List Str) ∧ c ≠ "") ∧ ¬ (c = "not" ∨ c = "(") := by
  rcases h with rfl | rfl | rfl <;> decide +kernel
theorem CmpW.head {p : D} {ws : List Str} (h : CmpW p ws) : ∃ w r, ws = w :: r ∧ ¬ (w = "not" ∨ w = "(") := by
  cases h with
  | yes => exact ⟨_, _, rfl, by decide +kernel⟩
  | no => exact ⟨_, _, rfl, by decide +kernel⟩
  | least c n hc hn => exact ⟨_, _, rfl, hc.w5.2.2.2⟩
  | ahead c d n hc hd hn => exact ⟨_, _, rfl, hc.w5.2.2.2⟩
  | aheadN c d n hc hd hn => exact ⟨_, _, rfl, hc.w5.2.2.2⟩
  | rest c m n hc hm hn => exact ⟨_, _, rfl, hc.w5.2.2.2⟩
/-- a row of tokens writes a tree: 0 an operand, 1 a chain of and, 2 a chain of or -/
inductive Writes : Nat → CT → List Str → Prop
  | leaf {p : D} {ws : List Str} : CmpW p ws → Writes 0 (.leaf p) ws
  | neg {t : CT} {ws : List Str} : Writes 0 t ws → Writes 0 (.neg t) (("not" : Str) :: ws)
  | par {n : Nat} {t : CT} {ws : List Str} : n ≤ 2 → Writes n t ws → Writes 0 t (("(" : Str) :: (ws ++ [(")" : Str)]))
  | and {a b : CT} {wa wb : List Str} : Writes 1 a wa → Writes 0 b wb → Writes 1 (.bin "and" a b) (wa ++ ("and" : Str) :: wb)
  | or {a b : CT} {wa wb : List Str} : Writes 2 a wa → Writes 1 b wb → Writes 2 (.bin "or" a b) (wa ++ ("or" : Str) :: wb)
  | up {n m : Nat} {t : CT} {ws : List Str} : Writes n t ws → n ≤ m → Writes m t ws
end Wl
namespace Wl
open PySem PySem.Spec PyProof.Rows L2 RZ
/-- tokens up to the empty one -/
def TL (l : List Tk) : Prop := (∃ r n, l = r ++ [(("" : Str), n)]) ∧ ∀ t ∈ l, t.1.length ≤ 1000000
theorem TL.cons {l : List Tk} (h : TL l) : ∃ t r, l = t :: r := by
  obtain ⟨⟨r, n, e⟩, _⟩ := h
  cases r with
  | nil => exact ⟨_, _, e⟩
  | cons a r => exact ⟨_, _, e⟩
theorem TL.tail {t : Tk} {r : List Tk} (h : TL (t :: r)) (n : t.1 ≠ "") : TL r := by
  obtain ⟨⟨s, m, e⟩, h2⟩ := h
  cases s with
  | nil => cases e; exact (n rfl).elim
  | cons a s => cases e; exact ⟨⟨s, m, rfl⟩, fun t m => h2 t (List.mem_cons_of_mem _ m)⟩
def headW (l : List Nat) : Bool := match l with
  | c :: _ => isW c
  | [] => false
def lastW (l : List Nat) : Bool := headW l.reverse
inductive Lays : List Nat → List Str → Prop
  | nil : Lays [] []
  | sp {xs : List Nat} {ws : List Str} : Lays xs ws → Lays (32 :: xs) ws
  | word {w xs : List Nat} {ws : List Str} : w ≠ [] → (∀ c ∈ w, isW c = true) → headW xs = false → Lays xs ws → Lays (w ++ xs) (mkS w :: ws)
  | sym {c : Nat} {xs : List Nat} {ws : List Str} : c = 40 ∨ c = 41 ∨ c = 45 → Lays xs ws → Lays (c :: xs) (mkS [c] :: ws)
  | two {c : Nat} {xs : List Nat} {ws : List Str} : c = 62 ∨ c = 61 → Lays xs ws → Lays (c :: 61 :: xs) (mkS [c, 61] :: ws)
theorem tw_word {p : Nat → Bool} : ∀ {w xs : List Nat}, (∀ c ∈ w, p c = true) → (∀ c ∈ xs.head?, p c = false) → (w ++ xs).takeWhile p = w
  | [], xs, _, h => by
    cases xs with
    | nil => rfl
    | cons c xs => rw [List.nil_append, List.takeWhile_cons, h c rfl]; rfl
  | c :: w, xs, h1, h2 => by
    rw [List.cons_append, List.takeWhile_cons, h1 c (by simp), if_pos rfl, tw_word (fun d hd => h1 d (by simp [hd])) h2]
theorem notW {c : Nat} (h : c = 32 ∨ c = 40 ∨ c = 41 ∨ c = 45 ∨ c = 62 ∨ c = 61) : isW c = false := by
  rcases h with rfl | rfl | rfl | rfl | rfl | rfl <;> decide +kernel
theorem isW_not {c : Nat} (h : isW c = true) : c ≠ 32 := fun e => by rw [notW (.inl e)] at h; cases h
theorem headW_app {xs ys : List Nat} (h : xs ≠ []) : headW (xs ++ ys) = headW xs := by
  cases xs with
  | nil => exact (h rfl).elim
  | cons c xs => rfl
theorem lastW_cons {c : Nat} {xs : List Nat} (h : xs ≠ []) : lastW (c :: xs) = lastW xs := by
  unfold lastW
  rw [List.reverse_cons]
  exact headW_app (by simpa using h)
theorem lastW_app {xs ys : List Nat} (h : ys ≠ []) : lastW (xs ++ ys) = lastW ys := by
  unfold lastW
  rw [List.reverse_append]
  exact headW_app (by simpa using h)
theorem Lays.app {xs : List Nat} {ws : List Str} (h : Lays xs ws) {ys : List Nat} {us : List Str} (g : Lays ys us) : (lastW xs = false ∨ headW ys = false) → Lays (xs ++ ys) (ws ++ us) := by
  induction h with
  | nil => exact fun _ => g
  | @sp xs ws _ ih =>
    intro hh
    refine .sp (ih ?_)
    by_cases e : xs = []
    · subst e; exact .inl rfl
    · rwa [lastW_cons e] at hh
  | @word w xs ws hn hw hx _ ih =>
    intro hh
    rw [List.append_assoc]
    have nx : headW (xs ++ ys) = false := by
      by_cases e : xs = []
      · subst e
        rw [List.nil_append]
        rcases hh with hh | hh
        · rw [List.append_nil] at hh
          unfold lastW at hh
          cases q : w.reverse with
          | nil => exact (hn (by simpa using q)).elim
          | cons c r =>
            rw [q] at hh
            have := hw c (by have : c ∈ w.reverse := by rw [q]; simp
                             simpa using this)
            rw [show headW (c :: r) = isW c from rfl, this] at hh
            cases hh
        · exact hh
      · rw [headW_app e]; exact hx
    refine .word hn hw nx (ih ?_)
    by_cases e : xs = []
    · subst e; exact .inl rfl
    · rwa [lastW_app e] at hh
  | @sym c xs ws hc _ ih =>
    intro hh
    refine .sym hc (ih ?_)
    by_cases e : xs = []
    · subst e; exact .inl rfl
    · rwa [lastW_cons e] at hh
  | @two c xs ws hc _ ih =>
    intro hh
    refine .two hc (ih ?_)
    by_cases e : xs = []
    · subst e; exact .inl rfl
    · rwa [lastW_cons (by simp), lastW_cons e] at hh
end Wl
namespace Wl
open PySem PySem.Spec PyProof.Rows L2 RZ
/-- a part that is read -/
inductive PR : D → Prop
  | word (w : Str) : w ∈ (["yes", "no", "not", "and", "or", "("] : List Str) → PR (.tup [.str w])
  | least (c : Str) (n : Int) : isCnt c → PR (.tup [.str "least", .str c, .int n])
  | ahead (c d : Str) (n : Int) : isCnt c → isCnt d → PR (.tup [.str "ahead", .str c, .str d, .int n])
  | rest (c : Str) (m n : Int) : isCnt c → PR (.tup [.str "rest", .str c, .int m, .int n])
def AllPR (c : List D) (st : List Str) : Prop := (∀ p ∈ c, PR p) ∧ ∀ w ∈ st, w ∈ (["yes", "no", "not", "and", "or", "("] : List Str)
theorem AllPR.push {c : List D} {st : List Str} {w : Str} (h : AllPR c (w :: st)) : AllPR (c ++ [opP w]) st := ⟨fun p hp => by
  rcases List.mem_append.mp hp with hp | hp
  · exact h.1 p hp
  · rw [List.mem_singleton.mp hp]; exact .word w (h.2 w (by simp)), fun v hv => h.2 v (by simp [hv])⟩
theorem AllPR.drop {c : List D} {st : List Str} {w : Str} (h : AllPR c (w :: st)) : AllPR c st := ⟨h.1, fun v hv => h.2 v (by simp [hv])⟩
end Wl
namespace Wl
open PySem PySem.Spec PyProof.Rows L2 RZ
def iS (i : Int) : Str := ((toString i : String) : Str)
def cmpT : D → Str
  | .tup [.str w] => w
  | .tup [.str _, .str c, .int k] => c ++ " >= " ++ iS k
  | .tup [.str _, .str c, .str d, .int k] => c ++ " - " ++ d ++ " >= " ++ iS k
  | .tup [.str _, .str c, .int m, .int n] => c ++ " mod " ++ iS m ++ " == " ++ iS n
  | _ => ""
def brT (s : Str) (b : Bool) : Str := if b = true then "(" ++ s ++ ")" else s
/-- text and rank: 0 an operand, 1 and, 2 or -/
def txtT : CT → Str × Nat
  | .leaf p => (cmpT p, 0)
  | .neg t => ("not " ++ brT (txtT t).1 (decide (0 < (txtT t).2)), 0)
  | .bin w a b => if w = "and" then (brT (txtT a).1 (decide (1 < (txtT a).2)) ++ " " ++ w ++ " " ++ brT (txtT b).1 (decide (1 ≤ (txtT b).2)), 1)
    else (brT (txtT a).1 (decide (2 < (txtT a).2)) ++ " " ++ w ++ " " ++ brT (txtT b).1 (decide (2 ≤ (txtT b).2)), 2)
theorem cmp_ints {p : D} (h : Cmp p) : (∃ w : Str, (w = "yes" ∨ w = "no") ∧ p = .tup [.str w]) ∨ (∃ (c : Str) (k : Int), isCnt c ∧ 0 ≤ k ∧ k ≤ 3 ∧ p = .tup [.str "least", .str c, .int k]) ∨
    (∃ (c d : Str) (k : Int), isCnt c ∧ isCnt d ∧ -3 ≤ k ∧ k ≤ 3 ∧ p = .tup [.str "ahead", .str c, .str d, .int k]) ∨ ∃ (c : Str) (m r : Int), isCnt c ∧ 2 ≤ m ∧ m ≤ 4 ∧ 0 ≤ r ∧ r < m ∧ p = .tup [.str "rest", .str c, .int m, .int r] := by
  have cc : ∀ {c : Str}, isCountD (.str c) = true → isCnt c := fun {c} h => by
    unfold isCountD at h
    simp only [Bool.or_eq_true, decide_eq_true_eq] at h
    unfold isCnt
    first | exact h | (rcases h with (h | h) | h; exact .inl h; exact .inr (.inl h); exact .inr (.inr h)) | (simpa using h)
  cases h with
  | yes => exact .inl ⟨_, .inl rfl, rfl⟩
  | no => exact .inl ⟨_, .inr rfl, rfl⟩
  | least c k hc h1 h2 => exact .inr (.inl ⟨c, k, cc hc, h1, h2, rfl⟩)
  | ahead c d k hc hd n h1 h2 => exact .inr (.inr (.inl ⟨c, d, k, cc hc, cc hd, h1, h2, rfl⟩))
  | rest c m r hc h1 h2 h3 h4 => exact .inr (.inr (.inr ⟨c, m, r, cc hc, h1, h2, h3, h4, rfl⟩))
end Wl
namespace Wl
open PySem PySem.Spec PyProof.Rows L2 RZ
def OkSt (st : List CT) : Prop := ∀ t ∈ st, t.Ok
theorem OkSt.cons {t : CT} {st : List CT} (h : t.Ok) (g : OkSt st) : OkSt (t :: st) := fun u hu => by
  rcases List.mem_cons.mp hu with rfl | hu
  · exact h
  · exact g u hu
theorem OkSt.head {t : CT} {st : List CT} (h : OkSt (t :: st)) : t.Ok := h t (by simp)
theorem OkSt.tail {t : CT} {st : List CT} (h : OkSt (t :: st)) : OkSt st := fun u hu => h u (by simp [hu])
end Wl
namespace Wl
open PySem PySem.Spec PyProof.Rows L2 RZ
/-- a token that the lexer takes whole -/
inductive OkTk : List Nat → Prop
  | word {w : List Nat} : w ≠ [] → (∀ c ∈ w, isW c = true) → OkTk w
  | sym {c : Nat} : isW c = false → c ≠ 32 → c ≠ 61 → c ≠ 62 → OkTk [c]
  | two {c : Nat} : c = 62 ∨ c = 61 → OkTk [c, 61]
theorem OkTk.ne {w : List Nat} (h : OkTk w) : w ≠ [] := by
  cases h with
  | word h _ => exact h
  | sym _ _ _ _ => simp
  | two _ => simp
def okTkB (w : List Nat) : Bool := (!w.isEmpty && w.all isW) || (match w with
  | [c] => !isW c && (!decide (c = 32) && (!decide (c = 61) && !decide (c = 62)))
  | [c, d] => decide (d = 61) && (decide (c = 62) || decide (c = 61))
  | _ => false)
theorem lex_tok {w : List Nat} (h : OkTk w) {ys : List Nat} (hb : lastW w = true → headW ys = false) (a : Nat) : lex a (w ++ ys) = (mkS w, a) :: lex (a + w.length) ys := by
  cases h with
  | @word w hn hw =>
    have hy : headW ys = false := hb (by
      unfold lastW
      cases q : w.reverse with
      | nil => exact (hn (by simpa using q)).elim
      | cons c r => exact hw c (by have : c ∈ w.reverse := by rw [q]; simp
                                   simpa using this))
    cases w with
    | nil => exact (hn rfl).elim
    | cons c w =>
      have hc := hw c (by simp)
      have tw : (w ++ ys).takeWhile isW = w := tw_word (fun d hd => hw d (by simp [hd])) fun d hd => by
        cases ys with
        | nil => cases hd
        | cons e ys => cases hd; exact hy
      have s1 : stepL c (w ++ ys) = (c :: w).length := by unfold stepL; rw [if_pos hc, tw, List.length_cons]; omega
      rw [List.cons_append, lex_cons, if_neg (isW_not hc), s1, ← List.cons_append, List.take_left, List.drop_left]
      rfl
  | @sym c h1 h2 h3 h4 =>
    have s1 : stepL c ys = 1 := by
      unfold stepL
      rw [h1, if_neg Bool.false_ne_true, if_neg]
      unfold twoSgn
      simp [h3, h4]
    show lex a (c :: ys) = _
    rw [lex_cons, if_neg h2, s1]
    rfl
  | @two c hc =>
    have h1 : isW c = false := notW (by rcases hc with rfl | rfl <;> simp)
    have s1 : stepL c (61 :: ys) = 2 := by
      unfold stepL
      rw [h1, if_neg Bool.false_ne_true, if_pos]
      unfold twoSgn
      rcases hc with rfl | rfl <;> simp
    show lex a (c :: 61 :: ys) = _
    rw [lex_cons, if_neg (by rcases hc with rfl | rfl <;> decide), s1]
    rfl
theorem lex_sp {ys : List Nat} (a : Nat) : lex a (32 :: ys) = lex (a + 1) ys := by
  have s1 : stepL 32 ys = 1 := by unfold stepL; rw [notW (.inl rfl), if_neg Bool.false_ne_true, if_neg (by unfold twoSgn; simp)]
  rw [lex_cons, if_pos rfl, List.nil_append, s1]
  rfl
/-- these signs are lexed as these tokens, whatever follows -/
def Lx (xs : List Nat) (ts : List Tk) : Prop := ∀ ys, (lastW xs = true → headW ys = false) → lex 0 (xs ++ ys) = ts ++ lex xs.length ys
theorem Lx.nil : Lx [] [] := fun _ _ => rfl
theorem lastW_sp {xs : List Nat} : lastW (xs ++ [32]) = false := by
  rw [lastW_app (by simp)]; decide +kernel
theorem Lx.sp {xs : List Nat} {ts : List Tk} (h : Lx xs ts) : Lx (xs ++ [32]) ts := fun ys _ => by
  rw [List.append_assoc, h ([32] ++ ys) (fun _ => by show isW 32 = false; exact notW (.inl rfl)), List.length_append]
  show ts ++ lex _ (32 :: ys) = _
  rw [lex_sp]
  rfl
theorem Lx.tok {xs w : List Nat} {ts : List Tk} (h : Lx xs ts) (hw : OkTk w) (hb : lastW xs = true → headW w = false) : Lx (xs ++ w) (ts ++ [(mkS w, xs.length)]) := fun ys hy => by
  rw [lastW_app hw.ne] at hy
  rw [List.append_assoc, h (w ++ ys) (fun z => by rw [headW_app hw.ne]; exact hb z), lex_tok hw hy, List.length_append, List.append_assoc]
  rfl
abbrev sps (n : Nat) : List Nat := List.replicate n 32
theorem Lx.sps {xs : List Nat} {ts : List Tk} (h : Lx xs ts) : ∀ n, Lx (xs ++ sps n) ts
  | 0 => by simpa using h
  | n + 1 => by
    have := (Lx.sps h n).sp
    rw [List.append_assoc] at this
    rw [show Wl.sps (n + 1) = Wl.sps n ++ [32] from List.replicate_succ']
    exact this
abbrev noGl : List Nat := [32, 40, 41, 45, 61]
abbrev tkN : List Str := ["(", ")", "-", ">=", "=="]
def glB (xs : List Nat) (w : Str) : Bool := match xs.getLast? with
  | some c => !decide (c ∈ noGl) && !decide (w ∈ tkN)
  | none => false
def glu (xs : List Nat) (w : Str) : List Nat := if glB xs w = true then xs ++ [32] else xs
theorem lastW_get {xs : List Nat} (h : lastW xs = true) : ∃ c, xs.getLast? = some c ∧ isW c = true := by
  unfold lastW at h
  cases q : xs.reverse with
  | nil => rw [q] at h; cases h
  | cons c r =>
    rw [q] at h
    refine ⟨c, ?_, h⟩
    have e : xs = r.reverse ++ [c] := by have := congrArg List.reverse q; simpa using this
    rw [e, List.getLast?_append]
    rfl
theorem glu_lx {xs : List Nat} {ts : List Tk} {w : Str} (h : Lx xs ts) (hw : OkTk w.cps.toList) : Lx (glu xs w) ts ∧ (lastW (glu xs w) = true → headW w.cps.toList = false) := by
  unfold glu
  by_cases g : glB xs w = true
  · rw [if_pos g]
    exact ⟨h.sp, fun z => by rw [lastW_sp] at z; cases z⟩
  · rw [if_neg g]
    refine ⟨h, fun z => ?_⟩
    obtain ⟨c, e, hc⟩ := lastW_get z
    unfold glB at g
    rw [e] at g
    have hn : c ∉ noGl := fun m => by
      have : isW c = false := by
        simp only [List.mem_cons, List.not_mem_nil, or_false] at m
        rcases m with rfl | rfl | rfl | rfl | rfl <;> decide +kernel
      rw [this] at hc; cases hc
    simp only [decide_eq_false hn, Bool.not_false, Bool.true_and, Bool.not_eq_true, Bool.not_eq_false', decide_eq_true_eq] at g
    simp only [List.mem_cons, List.not_mem_nil, or_false] at g
    rcases g with rfl | rfl | rfl | rfl | rfl <;> decide +kernel
/-- tokens, the text that is made of them, their places -/
inductive Spr : List Str → List Nat → List Nat → Prop
  | nil (n : Nat) : n ≤ 2 → Spr [] (sps n) []
  | snoc {ws : List Str} {xs ps : List Nat} (w : Str) (n : Nat) : Spr ws xs ps → n ≤ 2 → Spr (ws ++ [w]) (glu xs w ++ w.cps.toList ++ sps n) (ps ++ [(glu xs w).length])
theorem Spr.lx {ws : List Str} {xs ps : List Nat} (h : Spr ws xs ps) (hw : ∀ w ∈ ws, OkTk w.cps.toList) : ∃ ts, Lx xs ts ∧ ts.map (·.1) = ws ∧ ts.map (·.2) = ps := by
  induction h with
  | nil n _ =>
    refine ⟨[], ?_, rfl, rfl⟩
    have := Lx.nil.sps n
    rwa [List.nil_append] at this
  | @snoc ws xs ps w n _ _ ih =>
    obtain ⟨ts, h1, h2, h3⟩ := ih fun v hv => hw v (by simp [hv])
    have ow := hw w (by simp)
    obtain ⟨g1, g2⟩ := glu_lx h1 ow
    refine ⟨ts ++ [(w, (glu xs w).length)], ?_, by simp [h2], by simp [h3]⟩
    have z := (g1.tok ow g2).sps n
    rw [mkS_eta] at z
    exact z
theorem glu_len {xs : List Nat} {w : Str} : (glu xs w).length ≤ xs.length + 1 := by
  unfold glu
  split
  · simp
  · omega
theorem Spr.len {ws : List Str} {xs ps : List Nat} (h : Spr ws xs ps) (hw : ∀ w ∈ ws, w.length ≤ 9) : xs.length ≤ 2 + 12 * ws.length ∧ ps.length = ws.length := by
  induction h with
  | nil n h => simp; omega
  | @snoc ws xs ps w n _ hn ih =>
    have ⟨a, a2⟩ := ih fun v hv => hw v (by simp [hv])
    have b := hw w (by simp)
    have c := glu_len (xs := xs) (w := w)
    rw [len_cps] at b
    simp only [List.length_append, List.length_replicate, List.length_cons, List.length_nil]
    omega
theorem Spr.toks {ws : List Str} {xs ps : List Nat} (h : Spr ws xs ps) (hw : ∀ w ∈ ws, OkTk w.cps.toList) : ∃ l0, toksL (mkS xs) = l0 ++ [(("" : Str), xs.length)] ∧ l0.map (·.1) = ws ∧ l0.map (·.2) = ps := by
  obtain ⟨ts, h1, h2, h3⟩ := h.lx hw
  refine ⟨ts, ?_, h2, h3⟩
  have z := h1 [] fun _ => rfl
  rw [List.append_nil, lex_nil, List.append_nil] at z
  unfold toksL
  rw [mkS_cps, z, mkS_len]
abbrev valN : List Int := [0, 1, 2, 3, 4, 999998, 999999]
abbrev valZ : List Int := [-999999, -4, -3, -2, -1, 0, 1, 2, 3, 4, 999998, 999999]
inductive CmpG : D → Prop
  | word (w : Str) : w = "yes" ∨ w = "no" → CmpG (.tup [.str w])
  | least (c : Str) (k : Int) : isCnt c → k ∈ valN → CmpG (.tup [.str "least", .str c, .int k])
  | ahead (c d : Str) (k : Int) : isCnt c → isCnt d → k ∈ valZ → CmpG (.tup [.str "ahead", .str c, .str d, .int k])
  | rest (c : Str) (m n : Int) : isCnt c → m ∈ valN → n ∈ valN → CmpG (.tup [.str "rest", .str c, .int m, .int n])
theorem Cmp.gen {p : D} (h : Cmp p) : CmpG p := by
  have toN : ∀ {k : Int}, 0 ≤ k → k ≤ 4 → k ∈ valN := fun {k} h1 h2 => by
    have : k = 0 ∨ k = 1 ∨ k = 2 ∨ k = 3 ∨ k = 4 := by omega
    rcases this with rfl | rfl | rfl | rfl | rfl <;> decide
  have toZ : ∀ {k : Int}, -3 ≤ k → k ≤ 3 → k ∈ valZ := fun {k} h1 h2 => by
    have : k = -3 ∨ k = -2 ∨ k = -1 ∨ k = 0 ∨ k = 1 ∨ k = 2 ∨ k = 3 := by omega
    rcases this with rfl | rfl | rfl | rfl | rfl | rfl | rfl <;> decide
  rcases cmp_ints h with ⟨w, hw, rfl⟩ | ⟨c, k, hc, h1, h2, rfl⟩ | ⟨c, d, k, hc, hd, h1, h2, rfl⟩ | ⟨c, m, r, hc, h1, h2, h3, h4, rfl⟩
  · exact .word w hw
  · exact .least c k hc (toN h1 (by omega))
  · exact .ahead c d k hc hd (toZ h1 h2)
  · exact .rest c m r hc (toN (by omega) h2) (toN h3 (by omega))
def cmpK : D → List Str
  | .tup [.str w] => [w]
  | .tup [.str _, .str c, .int k] => [c, ">=", iS k]
  | .tup [.str _, .str c, .str d, .int k] => ([c, "-", d, ">="] : List Str) ++ (if k < 0 then ([("-" : Str)] : List Str) else []) ++ [iS (((k.natAbs : Nat) : Int))]
  | .tup [.str _, .str c, .int m, .int n] => [c, "mod", iS m, "==", iS n]
  | _ => []
/-- the tokens of codes -/
def tkAll : List Str := (["yes", "no", "a", "b", "c", ">=", "-", "mod", "==", "not", "and", "or", "(", ")"] : List Str) ++ valN.map iS
theorem valZ_abs : ∀ i ∈ valZ, ((i.natAbs : Nat) : Int) ∈ valN := by decide +kernel
theorem CmpG.toks {p : D} (h : CmpG p) : (∀ w ∈ cmpK p, w ∈ tkAll) ∧ (cmpK p).length ≤ 6 ∧ 1 ≤ (cmpK p).length := by
  have inN : ∀ {k : Int}, k ∈ valN → iS k ∈ tkAll := fun hk => List.mem_append_right _ (List.mem_map_of_mem hk)
  have cc : ∀ {c : Str}, isCnt c → c ∈ tkAll := fun h => by rcases h with rfl | rfl | rfl <;> decide +kernel
  have s1 : (">=" : Str) ∈ tkAll := by decide +kernel
  have s2 : ("-" : Str) ∈ tkAll := by decide +kernel
  have s3 : ("mod" : Str) ∈ tkAll := by decide +kernel
  have s4 : ("==" : Str) ∈ tkAll := by decide +kernel
  cases h with
  | word w hw =>
    refine ⟨fun v hv => ?_, Nat.le_of_ble_eq_true rfl, Nat.le_of_ble_eq_true rfl⟩
    rw [List.mem_singleton.mp hv]
    rcases hw with rfl | rfl <;> decide +kernel
  | least c k hc hk =>
    refine ⟨fun v hv => ?_, Nat.le_of_ble_eq_true rfl, Nat.le_of_ble_eq_true rfl⟩
    have hv : v ∈ [c, ">=", iS k] := hv
    simp only [List.mem_cons, List.not_mem_nil, or_false] at hv
    rcases hv with rfl | rfl | rfl
    · exact cc hc
    · exact s1
    · exact inN hk
  | ahead c d k hc hd hk =>
    have e : cmpK (.tup [.str "ahead", .str c, .str d, .int k]) = ([c, "-", d, ">="] : List Str) ++ (if k < 0 then ([("-" : Str)] : List Str) else []) ++ [iS (((k.natAbs : Nat) : Int))] := rfl
    rw [e]
    refine ⟨fun v hv => ?_, ?_, ?_⟩
    · have hv : v = c ∨ v = "-" ∨ v = d ∨ v = ">=" ∨ v = iS (((k.natAbs : Nat) : Int)) := by
        split at hv
        · simp only [List.mem_append, List.mem_cons, List.not_mem_nil, or_false] at hv
          rcases hv with ((h | h | h | h) | h) | h <;> simp [h]
        · simp only [List.mem_append, List.mem_cons, List.not_mem_nil, or_false] at hv
          rcases hv with (h | h | h | h) | h <;> simp [h]
      rcases hv with rfl | rfl | rfl | rfl | rfl
      · exact cc hc
      · exact s2
      · exact cc hd
      · exact s1
      · exact inN (valZ_abs k hk)
    · split <;> simp
    · simp
  | rest c m n hc hm hn =>
    refine ⟨fun v hv => ?_, Nat.le_of_ble_eq_true rfl, Nat.le_of_ble_eq_true rfl⟩
    have hv : v ∈ [c, "mod", iS m, "==", iS n] := hv
    simp only [List.mem_cons, List.not_mem_nil, or_false] at hv
    rcases hv with rfl | rfl | rfl | rfl | rfl
    · exact cc hc
    · exact s3
    · exact inN hm
    · exact s4
    · exact inN hn
/-- the rank of a tree's text -/
def rkT (t : CT) : Nat := (txtT t).2
def OkWs (t : CT) (ws : List Str) : Prop := Writes (rkT t) t ws ∧ (∀ w ∈ ws, w ∈ tkAll) ∧ ws.length ≤ 16 * t.post.length
def pW (t : CT) (ws : List Str) : D := .tup [.lst (ws.map .str), .int (rkT t : Nat)]
inductive StW : List CT → List D → Prop
  | nil : StW [] []
  | cons {t : CT} {ws : List Str} {st : List CT} {ds : List D} : OkWs t ws → StW st ds → StW (t :: st) (ds ++ [pW t ws])
theorem StW.len {st : List CT} {ds : List D} (h : StW st ds) : ds.length = st.length := by
  induction h with
  | nil => rfl
  | cons _ _ ih => rw [List.length_append, ih]; rfl
theorem StW.one {t : CT} {st : List CT} {ds : List D} (h : StW (t :: st) ds) : ∃ ws es, OkWs t ws ∧ StW st es ∧ ds = es ++ [pW t ws] := by
  cases h with
  | cons h g => exact ⟨_, _, h, g, rfl⟩
theorem StW.two {a b : CT} {st : List CT} {ds : List D} (h : StW (b :: a :: st) ds) : ∃ wa wb es, OkWs a wa ∧ OkWs b wb ∧ StW st es ∧ ds = es ++ [pW a wa, pW b wb] := by
  obtain ⟨wb, es, h1, h2, rfl⟩ := h.one
  obtain ⟨wa, es, h3, h4, rfl⟩ := h2.one
  exact ⟨wa, wb, es, h3, h1, h4, by rw [List.append_assoc]; rfl⟩
end Wl
namespace Wl
open PySem PySem.Spec PyProof.Rows L2 RZ
inductive PartV : D → Prop
  | least (c : Str) (t : Int) : isCnt c → t = 3 ∨ t = 4 ∨ t = 999999 → PartV (.tup [.str "least", .str c, .int t])
  | rest (c : Str) (m n : Int) : isCnt c → (m = 4 ∧ n = 1 ∨ m = 3 ∧ n = 2 ∨ m = 4 ∧ n = 3 ∨ m = 999999 ∧ n = 999998 ∨ m = 3 ∧ n = 3 ∨ m = 3 ∧ n = 4 ∨ m = 3 ∧ n = 999999 ∨ m = 1 ∧ n = 0 ∨ m = 0 ∧ n = 0) → PartV (.tup [.str "rest", .str c, .int m, .int n])
  | ahead (c d : Str) (t : Int) : isCnt c → isCnt d → t = 3 ∨ t = 4 ∨ t = 999999 ∨ t = -3 ∨ t = -4 ∨ t = -999999 → PartV (.tup [.str "ahead", .str c, .str d, .int t])
theorem isCnt.okC {c : Str} (h : isCnt c) : isCountD (.str c) = true := by rcases h with rfl | rfl | rfl <;> decide +kernel
theorem PartV.e_least {c : Str} {t : Int} (hc : isCnt c) : valErr (.tup [.str "least", .str c, .int t]) = errRange (.int t) 0 3 .none := by
  unfold valErr
  dsimp only
  rw [if_pos rfl]
  exact if_pos hc.okC
theorem PartV.e_rest {c : Str} {m n : Int} (hc : isCnt c) : valErr (.tup [.str "rest", .str c, .int m, .int n]) = errRange (.int m) 2 4 (errRange (.int n) 0 (m - 1) .none) := by
  unfold valErr
  dsimp only
  rw [if_neg (by decide +kernel), if_pos rfl]
  exact if_pos hc.okC
theorem PartV.e_ahead {c d : Str} {t : Int} (hc : isCnt c) (hd : isCnt d) : valErr (.tup [.str "ahead", .str c, .str d, .int t]) = if decide (c = d) = true then .count (.str d) else errRange (.int t) (-3) 3 .none := by
  unfold valErr
  dsimp only
  rw [if_pos rfl]
  unfold errCount
  rw [if_pos hc.okC, if_pos hd.okC]
  rfl
theorem PartV.gen {p : D} (h : PartV p) : CmpG p := by
  cases h with
  | least c t hc ht => exact .least c t hc (by rcases ht with rfl | rfl | rfl <;> decide)
  | rest c m n hc hm =>
    refine .rest c m n hc ?_ ?_ <;> rcases hm with ⟨rfl, rfl⟩ | ⟨rfl, rfl⟩ | ⟨rfl, rfl⟩ | ⟨rfl, rfl⟩ | ⟨rfl, rfl⟩ | ⟨rfl, rfl⟩ | ⟨rfl, rfl⟩ | ⟨rfl, rfl⟩ | ⟨rfl, rfl⟩ <;> decide
  | ahead c d t hc hd ht => exact .ahead c d t hc hd (by rcases ht with rfl | rfl | rfl | rfl | rfl | rfl <;> decide)
def nots (m : Nat) : List Str := List.replicate m ("not" : Str)
/-- a tree that can be carried on -/
def CH (t : CT) (ws : List Str) : Prop := Writes 1 t ws ∨ ∃ a b wa wb, t = .bin "or" a b ∧ Writes 2 a wa ∧ Writes 1 b wb ∧ ws = wa ++ ("or" : Str) :: wb
theorem CH.wr {t : CT} {ws : List Str} (h : CH t ws) : Writes 2 t ws := by
  rcases h with h | ⟨a, b, wa, wb, rfl, h1, h2, rfl⟩
  · exact .up h (by decide)
  · exact .or h1 h2
theorem CH.and {t : CT} {ws wp : List Str} {p : D} (h : CH t ws) (hp : CmpW p wp) : ∃ u, CH u (ws ++ ("and" : Str) :: wp) ∧ u.leaves = t.leaves ++ [p] ∧ u.post.length = t.post.length + 2 := by
  rcases h with h | ⟨a, b, wa, wb, rfl, h1, h2, rfl⟩
  · refine ⟨.bin "and" t (.leaf p), .inl (.and h (.leaf hp)), rfl, ?_⟩
    show (t.post ++ [p] ++ [_]).length = _
    simp
  · refine ⟨.bin "or" a (.bin "and" b (.leaf p)), .inr ⟨_, _, _, _, rfl, h1, .and h2 (.leaf hp), by rw [List.append_assoc]; rfl⟩, ?_, ?_⟩
    · show a.leaves ++ (b.leaves ++ [p]) = a.leaves ++ b.leaves ++ [p]
      rw [List.append_assoc]
    · show (a.post ++ (b.post ++ [p] ++ [_]) ++ [_]).length = (a.post ++ b.post ++ [_]).length + 2
      simp only [List.length_append, List.length_singleton]; omega
theorem CH.or {t : CT} {ws wp : List Str} {p : D} (h : CH t ws) (hp : CmpW p wp) : ∃ u, CH u (ws ++ ("or" : Str) :: wp) ∧ u.leaves = t.leaves ++ [p] ∧ u.post.length = t.post.length + 2 := by
  refine ⟨.bin "or" t (.leaf p), .inr ⟨_, _, _, _, rfl, h.wr, .up (.leaf hp) (by decide), rfl⟩, rfl, ?_⟩
  show (t.post ++ [p] ++ [_]).length = _
  simp
/-- comparisons and the row of tokens of their chain, behind any nots -/
def ChW (ps : List D) (ws : List Str) : Prop := ∀ m, ∃ t, CH t (nots m ++ ws) ∧ t.leaves = ps ∧ t.post.length + 1 = 2 * ps.length + m
theorem ChW.one {p : D} {wp : List Str} (hp : CmpW p wp) : ChW [p] wp := fun m => by
  have key : ∃ t, Writes 0 t (nots m ++ wp) ∧ t.leaves = [p] ∧ t.post.length = 1 + m := by
    induction m with
    | zero => exact ⟨.leaf p, .leaf hp, rfl, rfl⟩
    | succ m ih =>
      obtain ⟨t, h1, h2, h3⟩ := ih
      refine ⟨.neg t, .neg h1, h2, ?_⟩
      show (t.post ++ [_]).length = _
      rw [List.length_append, List.length_singleton]; omega
  obtain ⟨t, h1, h2, h3⟩ := key
  exact ⟨t, .inl (.up h1 (by decide)), h2, by rw [h3]; show _ = 2 * 1 + m; omega⟩
theorem ChW.snoc {ps : List D} {ws wp : List Str} {p : D} {w : Str} (hw : w = "and" ∨ w = "or") (h : ChW ps ws) (hp : CmpW p wp) : ChW (ps ++ [p]) (ws ++ w :: wp) := fun m => by
  obtain ⟨t, h1, h2, h3⟩ := h m
  rw [← List.append_assoc]
  have : ∃ u, CH u (nots m ++ ws ++ w :: wp) ∧ u.leaves = t.leaves ++ [p] ∧ u.post.length = t.post.length + 2 := by
    rcases hw with rfl | rfl
    · exact h1.and hp
    · exact h1.or hp
  obtain ⟨u, g1, g2, g3⟩ := this
  exact ⟨u, g1, by rw [g2, h2], by rw [g3, List.length_append, List.length_singleton]; omega⟩
end Wl
namespace Wl
open PySem PySem.Spec PyProof.Rows L2 RZ
theorem Writes.ws {n : Nat} {t : CT} {ws : List Str} (h : Writes n t ws) : t.ws = true := by
  induction h with
  | leaf _ => rfl
  | neg _ ih => exact ih
  | par _ _ ih => exact ih
  | @and a b wa wb _ _ iha ihb =>
    show ((decide (("and" : Str) = "and") || decide (("and" : Str) = "or")) && (a.ws && b.ws)) = true
    rw [iha, ihb]; rfl
  | @or a b wa wb _ _ iha ihb =>
    show ((decide (("or" : Str) = "and") || decide (("or" : Str) = "or")) && (a.ws && b.ws)) = true
    rw [iha, ihb]; rfl
  | up _ _ ih => exact ih
theorem PartV.cmp {p : D} (h : PartV p) (e : valErr p = .none) : Cmp p := by
  cases h with
  | least c t hc ht =>
    rw [PartV.e_least hc] at e
    rcases ht with rfl | rfl | rfl
    · exact .least c 3 hc.okC (by decide) (by decide)
    · cases e
    · cases e
  | rest c m n hc hm =>
    rw [PartV.e_rest hc] at e
    rcases hm with ⟨rfl, rfl⟩ | ⟨rfl, rfl⟩ | ⟨rfl, rfl⟩ | ⟨rfl, rfl⟩ | ⟨rfl, rfl⟩ | ⟨rfl, rfl⟩ | ⟨rfl, rfl⟩ | ⟨rfl, rfl⟩ | ⟨rfl, rfl⟩
    · exact .rest c 4 1 hc.okC (by decide) (by decide) (by decide) (by decide)
    · exact .rest c 3 2 hc.okC (by decide) (by decide) (by decide) (by decide)
    · exact .rest c 4 3 hc.okC (by decide) (by decide) (by decide) (by decide)
    all_goals cases e
  | ahead c d t hc hd ht =>
    rw [PartV.e_ahead hc hd] at e
    by_cases n : c = d
    · rw [decide_eq_true n] at e; cases e
    · rw [decide_eq_false n, if_neg Bool.false_ne_true] at e
      rcases ht with rfl | rfl | rfl | rfl | rfl | rfl
      · exact .ahead c d 3 hc.okC hd.okC n (by decide) (by decide)
      · cases e
      · cases e
      · exact .ahead c d (-3) hc.okC hd.okC n (by decide) (by decide)
      · cases e
      · cases e
/-- tokens, each with a space behind it -/
def pre (ws : List Str) : List Nat := ws.flatMap fun w => w.cps.toList ++ [32]
end Wl
namespace Wl
open PySem PySem.Spec PyProof.Rows L2 RZ
abbrev wordsR : List Str := ["yes", "no", "a", "b", "c", ">=", "-", "mod", "==", "not", "(", ")", "and", "or", ""]
/-- a token that stands nowhere -/
def badU (u : Str) : Prop := u ∉ wordsR ∧ numS u = false
/-- a token that may not stand where w stands -/
def BadW (u : Str) (w : Option Str) : Prop := badU u ∨ (u = ">=" ∧ w = some ("==" : Str))
theorem badU.ne {u w : Str} (h : badU u) (m : w ∈ wordsR) : u ≠ w := fun e => h.1 (by rw [e]; exact m)
theorem BadW.any {u w : Str} (h : BadW u (some w)) (n : w ≠ "==") : badU u := h.elim id fun z => (n (Option.some.inj z.2)).elim
/-- behind a whole chain -/
def tailU (u : Str) : Prop := u ≠ ")" ∧ u ≠ "" ∧ ¬ (u = "and" ∨ u = "or")
theorem badU.tail {u : Str} (h : badU u) : tailU u := ⟨h.ne (by decide +kernel), h.ne (by decide +kernel), fun z => z.elim (h.ne (by decide +kernel)) (h.ne (by decide +kernel))⟩
end Wl
namespace Wl
open PySem PySem.Spec PyProof.Rows L2 RZ
def leG (r s : Sit) : Prop := r.1 ≤ s.1 ∧ r.2.1 ≤ s.2.1 ∧ r.2.2 ≤ s.2.2
theorem leG.trans {a b c : Sit} (h : leG a b) (g : leG b c) : leG a c := ⟨Int.le_trans h.1 g.1, Int.le_trans h.2.1 g.2.1, Int.le_trans h.2.2 g.2.2⟩
end Wl
namespace Wl
open PySem PySem.Spec PyProof.Rows L2 RZ
/-- lists at addresses -/
def InL (K : PySem.W.Frag) (N : Addr → Prop) (H : Hp) : List Addr → List (List D) → Prop
  | [], [] => True
  | c :: cs, ds :: dss => (∃ us, H c = some (.lst us) ∧ HdL N K H us ds) ∧ InL K N H cs dss
  | _, _ => False
section
variable {T : Cxt} {K : PySem.W.Frag} {M : Addr → Prop} {σ : St} {H H' H0 : Hp} {e e' : En} {N N' : Addr → Prop}
theorem InL.tr (t : Tr N H N' H') : ∀ {cs : List Addr} {dss : List (List D)}, (∀ c ∈ cs, H' c = H c) → InL K N H cs dss → InL K N' H' cs dss
  | [], [], _, h => h
  | c :: cs, ds :: dss, s, ⟨⟨us, h1, h2⟩, h⟩ => ⟨⟨us, by rw [s c (by simp)]; exact h1, h2.tr t⟩, InL.tr t (fun d m => s d (by simp [m])) h⟩
  | [], _ :: _, _, h => h.elim
  | _ :: _, [], _, h => h.elim
theorem InL.snoc : ∀ {cs : List Addr} {dss : List (List D)} {b : Addr} {ds : List D}, InL K N H cs dss → (∃ us, H b = some (.lst us) ∧ HdL N K H us ds) → InL K N H (cs ++ [b]) (dss ++ [ds])
  | [], [], _, _, _, q => ⟨q, trivial⟩
  | _ :: cs, _ :: dss, _, _, ⟨a, h⟩, q => ⟨a, InL.snoc h q⟩
  | [], _ :: _, _, _, h, _ => h.elim
  | _ :: _, [], _, _, h, _ => h.elim
theorem InL.back : ∀ {cs : List Addr} {dss : List (List D)} {ds : List D}, InL K N H cs (dss ++ [ds]) → ∃ bs b, cs = bs ++ [b] ∧ InL K N H bs dss ∧ ∃ us, H b = some (.lst us) ∧ HdL N K H us ds
  | [c], [], _, ⟨a, _⟩ => ⟨[], c, rfl, trivial, a⟩
  | c :: c2 :: cs, [], _, ⟨_, h⟩ => h.elim
  | c :: cs, d :: dss, _, ⟨a, h⟩ => by
    obtain ⟨bs, b, rfl, h1, h2⟩ := InL.back (cs := cs) (dss := dss) h
    exact ⟨c :: bs, b, rfl, ⟨a, h1⟩, h2⟩
  | [], [], _, h => h.elim
  | [], _ :: _, _, h => h.elim
theorem InL.len : ∀ {cs : List Addr} {dss : List (List D)}, InL K N H cs dss → cs.length = dss.length
  | [], [], _ => rfl
  | _ :: _, _ :: _, ⟨_, h⟩ => by rw [List.length_cons, List.length_cons, InL.len h]
  | [], _ :: _, h => h.elim
  | _ :: _, [], h => h.elim
abbrev MR (M : Addr → Prop) (r : Addr) (cs : List Addr) : Addr → Prop := fun a => M a ∨ (a = r ∨ a ∈ cs)
structure RowS (T : Cxt) (K : PySem.W.Frag) (M : Addr → Prop) (r : Addr) (cs : List Addr) (dss : List (List D)) (σ : St) (H : Hp) (e : En) : Prop where
  rep : Rep T K (MR M r cs) σ H e
  atR : H r = some (.lst (cs.map .ref))
  ins : InL K (fun a => MR M r cs a ∨ Own σ e a) H cs dss
theorem InL.at_ : ∀ {cs : List Addr} {dss : List (List D)}, InL K N H cs dss → ∀ c ∈ cs, ∃ us, H c = some (.lst us)
  | c :: cs, _ :: _, ⟨⟨us, h1, _⟩, h⟩, d, m => by
    rcases List.mem_cons.mp m with rfl | m
    · exact ⟨us, h1⟩
    · exact InL.at_ h d m
  | [], [], _, _, m => nomatch m
  | [], _ :: _, h, _, _ => h.elim
  | _ :: _, [], h, _, _ => h.elim
theorem RowS.keep {r : Addr} {cs : List Addr} {dss : List (List D)} (h : RowS T K M r cs dss σ H e) (rp : Rep T K (MR M r cs) σ H' e') (k : Keep T (Own σ e) H (Own σ e') H') : RowS T K M r cs dss σ H' e' := by
  have st : ∀ a us, MR M r cs a → H a = some (.lst us) → H' a = some (.lst us) := fun a us m q => k.keep a _ q (h.rep.apart a m) fun _ z => nomatch z
  refine ⟨rp, st r _ (.inr (.inl rfl)) h.atR, h.ins.tr (tr_keep (M := MR M r cs) k) fun c m => ?_⟩
  obtain ⟨us, q⟩ := h.ins.at_ c m
  rw [q, st c us (.inr (.inr m)) q]
/-- the last row grows -/
theorem RowS.put {r b : Addr} {bs : List Addr} {init : List (List D)} {last : List D} {us : List V} {v : V} {x : D} (h : RowS T K M r (bs ++ [b]) (init ++ [last]) σ H e) (hb : H b = some (.lst us)) (nb : b ∉ bs) (nr : r ≠ b) (hv : Hd (fun a => MR M r (bs ++ [b]) a ∨ Own σ e a) K H v x) : RowS T K M r (bs ++ [b]) (init ++ [last ++ [x]]) σ (upd H b (.lst (us ++ [v]))) e := by
  have mb : MR M r (bs ++ [b]) b := .inr (.inr (by simp))
  have t : Tr (fun a => MR M r (bs ++ [b]) a ∨ Own σ e a) H (fun a => MR M r (bs ++ [b]) a ∨ Own σ e a) (upd H b (.lst (us ++ [v]))) :=
    ⟨fun a xs q => by rw [upd_ne fun z => by rw [z, hb] at q; cases q]; exact q, fun a o q n _ => by rw [upd_ne fun z => n (.inl (by rw [z]; exact mb))]; exact q, fun _ _ n => n⟩
  obtain ⟨bs2, b2, e1, h1, us2, h2, h3⟩ := h.ins.back
  obtain ⟨e3, e4⟩ := List.append_inj' e1 rfl
  cases e4
  subst e3
  rw [hb] at h2
  cases h2
  refine ⟨h.rep.updM mb hb, by rw [upd_ne nr]; exact h.atR, .snoc (h1.tr t fun c m => upd_ne fun z => nb (by rw [← z]; exact m)) ⟨_, upd_same, (h3.app (.cons hv .nil)).tr t⟩⟩
/-- a new row -/
theorem RowS.push {r p : Addr} {cs : List Addr} {dss : List (List D)} {v : V} {x : D} (h : RowS T K M r cs dss σ H e) (hp : H p = none) (hr : r ∉ cs) (hv : Hd (fun a => MR M r cs a ∨ Own σ e a) K H v x) : RowS T K M r (cs ++ [p]) (dss ++ [[x]]) σ (upd (upd H p (.lst [v])) r (.lst (cs.map .ref ++ [.ref p]))) e := by
  have np : ∀ c ∈ cs, c ≠ p := fun c m z => by obtain ⟨us, q⟩ := h.ins.at_ c m; rw [z, hp] at q; cases q
  have rp : r ≠ p := fun z => by have := h.atR; rw [z, hp] at this; cases this
  have r1 := h.rep.addM (o := .lst [v]) hp fun _ z => nomatch z
  have sub : ∀ a, MR M r (cs ++ [p]) a → MR M r cs a ∨ a = p := fun a z => by
    rcases z with z | z | z
    · exact .inl (.inl z)
    · exact .inl (.inr (.inl z))
    · rcases List.mem_append.mp z with z | z
      · exact .inl (.inr (.inr z))
      · exact .inr (List.mem_singleton.mp z)
  have r2 : Rep T K (MR M r (cs ++ [p])) σ (upd H p (.lst [v])) e := r1.sub sub
  have a1 : (upd H p (.lst [v])) r = some (.lst (cs.map .ref)) := by rw [upd_ne rp]; exact h.atR
  have t : Tr (fun a => MR M r cs a ∨ Own σ e a) H (fun a => MR M r (cs ++ [p]) a ∨ Own σ e a) (upd (upd H p (.lst [v])) r (.lst (cs.map .ref ++ [.ref p]))) := by
    refine ⟨fun a xs q => ?_, fun a o q n _ => ?_, fun a l n z => ?_⟩
    · rw [upd_ne fun z => (by rw [z, h.atR] at q; cases q), upd_ne fun z => (by rw [z, hp] at q; cases q)]; exact q
    · rw [upd_ne fun z => n (.inl (.inr (.inl z))), upd_ne fun z => (by rw [z, hp] at q; cases q)]; exact q
    · rcases z with z | z
      · rcases sub a z with z | z
        · exact n (.inl z)
        · rw [z] at l; exact l.ne hp
      · exact n (.inr z)
  have old : ∀ c ∈ cs, (upd (upd H p (.lst [v])) r (.lst (cs.map .ref ++ [.ref p]))) c = H c := fun c m => by
    rw [upd_ne fun z => hr (by rw [← z]; exact m), upd_ne (np c m)]
  refine ⟨r2.updM (.inr (.inl rfl)) a1, by rw [upd_same, List.map_append]; rfl, .snoc (h.ins.tr t old) ⟨[v], ?_, .cons (hv.tr t) .nil⟩⟩
  rw [upd_ne fun z => rp z.symm, upd_same]
/-- one result of data, in a run with more addresses that must stay -/
theorem Reps.one {v : V} {x : D} (p : Reps T K M σ H e [v] [.d x]) : Hd (fun a => M a ∨ Own σ e a) K H v x :=
  (show Hd _ K H v x from p.val 0 v _ rfl rfl).sub fun _ z => z.imp .inl id
end
end Wl
namespace Wl
open PySem PySem.Spec PyProof.Rows L2 RZ
abbrev Bd := Str × Int
def cntN (s : Str) : Bool := decide (s ∈ (["a", "b", "c"] : List Str))
def bdN (s : Str) : Bool := cntN s || nameS s
/-- a bound in its range -/
def bdOk (b : Bd) : Bool := if cntN b.1 = true then decide (0 ≤ b.2) && decide (b.2 ≤ 12) else decide (1 ≤ b.2) && decide (b.2 ≤ 5)
end Wl
namespace Wl
open PySem PySem.Spec PyProof.Rows L2 RZ
/-- a bound that is read as it is written -/
structure BdW (b : Bd) : Prop where
  nm : bdN b.1 = true
  num : numS (iS b.2) = true
  val : numV (iS b.2) = b.2
theorem BdW.ne {b : Bd} (h : BdW b) : b.1 ≠ "yes" ∧ b.1 ≠ "no" ∧ b.1 ≠ "" := by
  have n := h.nm
  refine ⟨fun z => ?_, fun z => ?_, fun z => ?_⟩ <;> · rw [z] at n; revert n; decide +kernel
end Wl
namespace Ld
open PySem PySem.Spec L2
open PyProof.Rows (envOfC)
/-- its parameter is its one name of its own -/
structure One (a0 : Str) (sc scope : Scope) : Prop where
  kind : scope.kind = .function
  co : scope.isCoroutine = false
  gen : scope.isGenerator = false
  is : scope.names.lookup a0 = some .local
  all : ∀ y ∈ scope.names, (y.2 = .local → y.1 = a0) ∧ y.2 ≠ .cell ∧ (y.2 = .free → sc.names.lookup y.1 = some .cell ∨ sc.names.lookup y.1 = some .free)
section
variable {X : Cx} {pins : List (Addr × Obj)} {σ : L2.St} {H HZ : Hp} {s s1 : Shared} {scope : Scope} {a0 : Str}
theorem One.has (L : One a0 X.env.scope scope) (ok : X.Ok) : ∀ y ∈ scope.names, y.2 = .free → ∃ c, X.env.cells.lookup y.1 = some c := fun y m f => ok.has _ (((L.all y m).2.2 f).imp id id)
end
end Ld
namespace Wl
open PySem PySem.Spec PyProof.Rows L2 RZ
def rowB (c : Cor) : List Bd := lowT c.1 ++ c.2
abbrev rngB : List Int := [0, 1, 2, 3, 4, 5, 6, 7, 8, 9, 10, 11, 12]
theorem rngB_ok : ∀ i ∈ rngB, (numS (iS i) = true ∧ numV (iS i) = i) ∧ okTkB (iS i).cps.toList = true ∧ (iS i).length ≤ 2 := by decide +kernel
theorem mem_rng {i : Int} (h0 : 0 ≤ i) (h1 : i ≤ 12) : i ∈ rngB := by
  obtain ⟨n, rfl⟩ := Int.eq_ofNat_of_zero_le h0
  have : n ≤ 12 := by omega
  have key : ∀ m ≤ 12, ((m : Nat) : Int) ∈ rngB := by decide
  exact key n this
structure BdR (b : Bd) : Prop where
  nm : bdN b.1 = true
  ok : bdOk b = true
theorem BdR.rng {b : Bd} (h : BdR b) : b.2 ∈ rngB := by
  have k := h.ok
  unfold bdOk at k
  split at k
  · rw [Bool.and_eq_true, decide_eq_true_eq, decide_eq_true_eq] at k; exact mem_rng k.1 k.2
  · rw [Bool.and_eq_true, decide_eq_true_eq, decide_eq_true_eq] at k; exact mem_rng (by omega) (by omega)
theorem BdR.w {b : Bd} (h : BdR b) : BdW b := ⟨h.nm, (rngB_ok _ h.rng).1.1, (rngB_ok _ h.rng).1.2⟩
end Wl
namespace Wl
open PySem PySem.Spec PyProof.Rows L2 RZ
/-- v is at least each bound of s, and 0 -/
def topR (r : List Bd) (s : Str) (v : Int) : Prop := 0 ≤ v ∧ ∀ b ∈ r, b.1 = s → b.2 ≤ v
def simR (r q : List Bd) : Prop := ∀ s v, topR r s v ↔ topR q s v
theorem simR.refl (r : List Bd) : simR r r := fun _ _ => Iff.rfl
theorem simR.trans {r q p : List Bd} (a : simR r q) (b : simR q p) : simR r p := fun s v => (a s v).trans (b s v)
theorem simR.symm {r q : List Bd} (a : simR r q) : simR q r := fun s v => (a s v).symm
theorem BdR.pos {b : Bd} (h : BdR b) : 0 ≤ b.2 := by
  have k := h.ok
  unfold bdOk at k
  split at k
  · rw [Bool.and_eq_true, decide_eq_true_eq] at k; exact k.1
  · rw [Bool.and_eq_true, decide_eq_true_eq] at k; have := k.1; omega
/-- rows, each of a corner -/
structure RowsOf (cs : List Cor) (rows : List (List Bd)) : Prop where
  one : ∀ r ∈ rows, ∃ c ∈ cs, simR r (rowB c)
  all : ∀ c ∈ cs, ∃ r ∈ rows, simR r (rowB c)
  ok : ∀ r ∈ rows, ∀ b ∈ r, BdR b
  ne : ∀ r ∈ rows, r ≠ []
theorem RowsOf.nil : RowsOf [] [] := ⟨nofun, nofun, nofun, nofun⟩
theorem RowsOf.add {cs : List Cor} {rows : List (List Bd)} {c : Cor} {r : List Bd} (h : RowsOf cs rows) (s : simR r (rowB c)) (g : ∀ b ∈ r, BdR b) (n : r ≠ []) : RowsOf (cs ++ [c]) (rows ++ [r]) := by
  refine ⟨fun q m => ?_, fun d m => ?_, fun q m => ?_, fun q m => ?_⟩
  · rcases List.mem_append.mp m with m | m
    · obtain ⟨d, md, z⟩ := h.one q m
      exact ⟨d, List.mem_append_left _ md, z⟩
    · rw [List.mem_singleton.mp m]
      exact ⟨c, by simp, s⟩
  · rcases List.mem_append.mp m with m | m
    · obtain ⟨q, mq, z⟩ := h.all d m
      exact ⟨q, List.mem_append_left _ mq, z⟩
    · rw [List.mem_singleton.mp m]
      exact ⟨r, by simp, s⟩
  · rcases List.mem_append.mp m with m | m
    · exact h.ok q m
    · rw [List.mem_singleton.mp m]; exact g
  · rcases List.mem_append.mp m with m | m
    · exact h.ne q m
    · rw [List.mem_singleton.mp m]; exact n
end Wl
namespace Wl
open PySem PySem.Spec PyProof.Rows L2 RZ My
/-- where a generator's statements lead, with what was handed out -/
structure YEnds where
  nx : En → List D → Prop
  bk : En → List D → Prop
  ct : En → List D → Prop
  ex : Kx
structure YdOk (T : Cxt) (K : PySem.W.Frag) (W : WX) (F : Nat → Option V) (M : Addr → Prop) (σ : St) (H : Hp) (e : En) (k : YEnds) (D : GEnds) : Prop where
  nx : ∀ e' zs, k.nx e' zs → ∀ ys σ' H', FixOk F σ' → Rep T K M σ' H' e' → HdL (fun a => M a ∨ Own σ' e' a) K H' ys zs → Keep T (Own σ e) H (Own σ' e') H' → D.nx ys σ' H'
  bk : ∀ e' zs, k.bk e' zs → ∀ ys σ' H', FixOk F σ' → Rep T K M σ' H' e' → HdL (fun a => M a ∨ Own σ' e' a) K H' ys zs → Keep T (Own σ e) H (Own σ' e') H' → D.bk ys σ' H'
  ct : ∀ e' zs, k.ct e' zs → ∀ ys σ' H', FixOk F σ' → Rep T K M σ' H' e' → HdL (fun a => M a ∨ Own σ' e' a) K H' ys zs → Keep T (Own σ e) H (Own σ' e') H' → D.ct ys σ' H'
  ex : ∀ C fs e', k.ex C fs e' → ∀ dd gs σ' H', FixOk F σ' → Rep T K M σ' H' e' → H' dd = some (.xd gs) → gs.map (·.1) = fs.map (·.1) → HdL (fun a => M a ∨ Own σ' e' a) K H' (gs.map (·.2)) (fs.map (·.2)) → Keep T (Own σ e) H (Own σ' e') H' → W (.ref C) (some dd) σ' H'
section
variable {T : Cxt} {K : PySem.W.Frag} {W : WX} {L : Nat → Bool} {F : Nat → Option V} {M : Addr → Prop} {σ : St} {H : Hp} {e : En} {k : YEnds} {D : GEnds} {ys : List V}
theorem YdOk.step (s : YdOk T K W F M σ H e k D) {σ1 : St} {H1 : Hp} {e1 : En} (q : Keep T (Own σ e) H (Own σ1 e1) H1) : YdOk T K W F M σ1 H1 e1 k D where
  nx e' zs h ys σ' H' x r d c := s.nx e' zs h ys σ' H' x r d (q.trans c)
  bk e' zs h ys σ' H' x r d c := s.bk e' zs h ys σ' H' x r d (q.trans c)
  ct e' zs h ys σ' H' x r d c := s.ct e' zs h ys σ' H' x r d (q.trans c)
  ex C fs e' h dd gs σ' H' x r a b d c := s.ex C fs e' h dd gs σ' H' x r a b d (q.trans c)
end
end Wl
namespace Wl
open PySem PySem.Spec PyProof.Rows L2 RZ My
def weNot : WE := fun _ _ _ => False
theorem pe_not {X : Cx} {e : Expr} {T : Cxt} {K : PySem.W.Frag} {W : WX} : PE X e (lift T K W weNot) := ⟨fun _ _ _ _ _ _ ⟨_, _, _, _, _, h, _⟩ => h.elim⟩
end Wl
namespace Wl
open PySem PySem.Spec PyProof.Rows L2 RZ
/-- an instance in a slot: class, fields, lists -/
def objS : S → Option (Addr × List (Str × D) × List (Addr × List D))
  | .o C fs => some (C, fs, [])
  | .b C fs ls => some (C, fs, ls)
  | _ => none
section
variable {T : Cxt} {K : PySem.W.Frag} {N : Addr → Prop} {M : Addr → Prop} {σ : St} {H : Hp} {e : En} {v : V} {s : S} {C : Addr} {fs : List (Str × D)} {ls : List (Addr × List D)}
theorem RS.obj (q : RS N K H v s) (h : objS s = some (C, fs, ls)) : ∃ a dx gs, v = .ref a ∧ H a = some (.ins C dx gs) ∧ gs.map (·.1) = fs.map (·.1) ∧ HdL N K H (gs.map (·.2)) (fs.map (·.2)) ∧ (ls.map (·.1)).Nodup ∧ ∀ A xs, (A, xs) ∈ ls → ∃ ys, H A = some (.lst ys) ∧ HdL N K H ys xs := by
  cases s with
  | o C' fs' => cases h; obtain ⟨a, dx, gs, e, r⟩ := q; exact ⟨a, dx, gs, e, r.1, r.2.1, r.2.2, .nil, fun _ _ z => nomatch z⟩
  | b C' fs' ls' => cases h; exact q
  | _ => cases h
end
end Wl
namespace Wl
open PySem PySem.Spec PyProof.Rows L2 RZ
/-- o.f = e: data -/
def wStoB (i : Nat) (P : Addr → Prop) (f : Str) (fv : WE) : WS := fun e k => fv e (fun r e1 => ∃ x e2 C fs ls, frz r e1 = some (x, e2) ∧ e2[i]? = some (some (.b C fs ls)) ∧ P C ∧ fs.length < 1000 ∧ k.nx (e2.set i (some (.b C (putD f x fs) ls)))) k.ex
/-- o.f = e: a new list, which o has from now on -/
def wStoL (i : Nat) (P : Addr → Prop) (f : Str) (fv : WE) : WS := fun e k => fv e (fun r e1 => ∃ xs s C fs ls, r = .own (.l xs) ∧ e1[i]? = some (some s) ∧ objS s = some (C, fs, ls) ∧ P C ∧ fs.length < 1000 ∧ ∀ A, k.nx (e1.set i (some (.b C (putD f (.fn A) fs) (ls ++ [(A, xs)]))))) k.ex
/-- o.f.append(e), the n-th of o's lists -/
def wAppB (i n : Nat) (P : Addr → Prop) (f : Str) (fv : WE) : WE := fun e k kx => (∃ C fs ls A xs, e[i]? = some (some (.b C fs ls)) ∧ P C ∧ fs.lookup f = some (.fn A) ∧ ls[n]? = some (A, xs) ∧
  fv e (fun r e1 => ∃ x e2 C' fs' ls' xs', frz r e1 = some (x, e2) ∧ e2[i]? = some (some (.b C' fs' ls')) ∧ ls'[n]? = some (A, xs') ∧ xs'.length < 1000000 ∧ k (.d .non) (e2.set i (some (.b C' fs' (ls'.set n (A, xs' ++ [x])))))) kx)
/-- o.f.clear() -/
def wClrB (i n : Nat) (P : Addr → Prop) (f : Str) : WE := fun e k _ => ∃ C fs ls A xs, e[i]? = some (some (.b C fs ls)) ∧ P C ∧ fs.lookup f = some (.fn A) ∧ ls[n]? = some (A, xs) ∧ k (.d .non) (e.set i (some (.b C fs (ls.set n (A, [])))))
section
variable {T : Cxt} {K : PySem.W.Frag} {W : WX} {L : Nat → Bool} {M : Addr → Prop} {σ : St} {H H' : Hp} {e : En} {Q : VK} {D : Ends} {i n : Nat} {P : Addr → Prop} {f : Str} {fv : WE}
theorem fn_of {N : Addr → Prop} {v : V} {A : Addr} (h : Hd N K H v (.fn A)) : v = .ref A := by
  cases h
  rfl
end
section
variable {e e' : En} {k : R → En → Prop} {kx : Kx} {nx bk ct : En → Prop} {rt : R → En → Prop} {ex : Kx} {i n : Nat} {C A : Addr} {fs : List (Str × D)} {ls : List (Addr × List D)} {f : Str} {x : D} {xs : List D} {fv : WE} {r : R} {s : S}
def StoBK (i : Nat) (P : Addr → Prop) (f : Str) (nx : En → Prop) : R → En → Prop := fun r e1 => ∃ x e2 C fs ls, frz r e1 = some (x, e2) ∧ e2[i]? = some (some (.b C fs ls)) ∧ P C ∧ fs.length < 1000 ∧ nx (e2.set i (some (.b C (putD f x fs) ls)))
theorem z_stoB {P : Addr → Prop} (h : fv e (StoBK i P f nx) ex) : wStoB i P f fv e ⟨nx, rt, bk, ct, ex⟩ := h
theorem z_stoBK {P : Addr → Prop} {e2 : En} (h0 : frz r e = some (x, e2)) (h1 : e2[i]? = some (some (.b C fs ls))) (hP : P C) (h2 : fs.length < 1000) (h3 : e2.set i (some (.b C (putD f x fs) ls)) = e') (h : nx e') : StoBK i P f nx r e := ⟨x, e2, C, fs, ls, h0, h1, hP, h2, by rw [h3]; exact h⟩
def StoLK (i : Nat) (P : Addr → Prop) (f : Str) (nx : En → Prop) : R → En → Prop := fun r e1 => ∃ xs s C fs ls, r = .own (.l xs) ∧ e1[i]? = some (some s) ∧ objS s = some (C, fs, ls) ∧ P C ∧ fs.length < 1000 ∧ ∀ A, nx (e1.set i (some (.b C (putD f (.fn A) fs) (ls ++ [(A, xs)]))))
theorem z_stoL {P : Addr → Prop} (h : fv e (StoLK i P f nx) ex) : wStoL i P f fv e ⟨nx, rt, bk, ct, ex⟩ := h
theorem z_stoLK {P : Addr → Prop} (h1 : e[i]? = some (some s)) (h2 : objS s = some (C, fs, ls)) (hP : P C) (h3 : fs.length < 1000) (h : ∀ A, nx (e.set i (some (.b C (putD f (.fn A) fs) (ls ++ [(A, xs)]))))) : StoLK i P f nx (.own (.l xs)) e := ⟨xs, s, C, fs, ls, rfl, h1, h2, hP, h3, h⟩
def AppBK (i n : Nat) (A : Addr) (k : R → En → Prop) : R → En → Prop := fun r e1 => ∃ x e2 C' fs' ls' xs', frz r e1 = some (x, e2) ∧ e2[i]? = some (some (.b C' fs' ls')) ∧ ls'[n]? = some (A, xs') ∧ xs'.length < 1000000 ∧ k (.d .non) (e2.set i (some (.b C' fs' (ls'.set n (A, xs' ++ [x])))))
theorem z_appB {P : Addr → Prop} (h1 : e[i]? = some (some (.b C fs ls))) (hP : P C) (h2 : fs.lookup f = some (.fn A)) (h3 : ls[n]? = some (A, xs)) (h : fv e (AppBK i n A k) kx) : wAppB i n P f fv e k kx := ⟨C, fs, ls, A, xs, h1, hP, h2, h3, h⟩
theorem z_appBK {e2 : En} (h0 : frz r e = some (x, e2)) (h1 : e2[i]? = some (some (.b C fs ls))) (h2 : ls[n]? = some (A, xs)) (h3 : xs.length < 1000000) (h4 : e2.set i (some (.b C fs (ls.set n (A, xs ++ [x])))) = e') (h : k (.d .non) e') : AppBK i n A k r e := ⟨x, e2, C, fs, ls, xs, h0, h1, h2, h3, by rw [h4]; exact h⟩
theorem z_clrB {P : Addr → Prop} (h1 : e[i]? = some (some (.b C fs ls))) (hP : P C) (h2 : fs.lookup f = some (.fn A)) (h3 : ls[n]? = some (A, xs)) (h5 : e.set i (some (.b C fs (ls.set n (A, [])))) = e') (h : k (.d .non) e') : wClrB i n P f e k kx := ⟨C, fs, ls, A, xs, h1, hP, h2, h3, by rw [h5]; exact h⟩
end
end Wl
namespace Wl
open PySem PySem.Spec PyProof.Rows L2 RZ
def wRaise2 (C : Addr) (f g w : Str) (fr : WA) : WS := fun e k => fr e (fun rs e1 => ∃ x y, allD rs = some [x, y] ∧ k.ex C [("word", .str w), (g, y), (f, x)] e1) k.ex
section
variable {e : En} {nx bk ct : En → Prop} {rt : R → En → Prop} {ex : Kx} {C : Addr} {f g w : Str} {fr : WA}
def Ra2K (C : Addr) (f g w : Str) (ex : Kx) : List R → En → Prop := fun rs e1 => ∃ x y, allD rs = some [x, y] ∧ ex C [("word", .str w), (g, y), (f, x)] e1
theorem z_ra2 (h : fr e (Ra2K C f g w ex) ex) : wRaise2 C f g w fr e ⟨nx, rt, bk, ct, ex⟩ := h
theorem z_ra2K {x y : D} (h : ex C [("word", .str w), (g, y), (f, x)] e) : Ra2K C f g w ex [.d x, .d y] e := ⟨x, y, rfl, h⟩
end
section
variable {e e' : En} {i j : Nat} {C : Addr} {fs : List (Str × D)} {ls : List (Addr × List D)} {as ss : List S} {s : S}
theorem fz_ob : frz (.own (.b C fs ls)) e = some (.ins C fs, e) := rfl
theorem fz_sb (h : e[j]? = some (some (.b C fs ls))) (h2 : e.set j (some (.d (.ins C fs))) = e') : frz (.s j) e = some (.ins C fs, e') := by unfold frz; simp only [h]; rw [← h2]; rfl
theorem oA_b (h : outA as e = some ss) : outA (.b C fs ls :: as) (some s :: e) = some (s :: ss) := by
  show (match outA as e with | some ss => some (s :: ss) | none => none) = _
  rw [h]
theorem se_ob : see e (.own (.b C fs ls)) = some (.ins C fs) := rfl
theorem se_sb (h : e[i]? = some (some (.b C fs ls))) : see e (.s i) = some (.ins C fs) := by unfold see; simp only [h]; rfl
end
def MethN3 (sp : WSp) (j : Nat) (sel : List Nat) (ds dD : List D) (r : R) (k : R → En → Prop) (kx : Kx) : List R → En → Prop := fun ts e3 => ∃ es s0, allD ts = some es ∧ es.length = j ∧ argS e3 [r] = some [s0] ∧
  sp (s0 :: (selL sel .non (ds ++ es ++ dD)).map S.d) (fun r' as' => k r' (putS [r] as' e3)) (fun C fs as' => kx C fs (putS [r] as' e3))
def MethN2 (sp : WSp) (n j : Nat) (sel : List Nat) (dD : List D) (g : WA) (r : R) (k : R → En → Prop) (kx : Kx) : List R → En → Prop := fun rs e2 => ∃ ds, allD rs = some ds ∧ ds.length = n ∧ g e2 (MethN3 sp j sel ds dD r k kx) kx
def MethN1 (C : Addr) (m : Str) (sp : WSp) (n j : Nat) (sel : List Nat) (dD : List D) (f g : WA) (k : R → En → Prop) (kx : Kx) : R → En → Prop := fun r e1 => (∃ fs, see e1 r = some (.ins C fs) ∧ fs.lookup m = none) ∧ f e1 (MethN2 sp n j sel dD g r k kx) kx
def wMethN (C : Addr) (m : Str) (sp : WSp) (n j : Nat) (sel : List Nat) (dD : List D) (fo : WE) (f g : WA) : WE := fun e k kx => fo e (MethN1 C m sp n j sel dD f g k kx) kx
section
variable {e e' : En} {k : R → En → Prop} {kx : Kx} {C : Addr} {m : Str} {sp : WSp} {n j : Nat} {sel : List Nat} {dD ds es : List D} {fo : WE} {f g : WA} {r : R} {rs ts : List R} {s0 : S} {as as' : List S} {fs : List (Str × D)}
def MnK (r : R) (e : En) (k : R → En → Prop) : SK := fun r' as' => k r' (putS [r] as' e)
def MnX (r : R) (e : En) (kx : Kx) : SX := fun C fs as' => kx C fs (putS [r] as' e)
theorem z_methN (h : fo e (MethN1 C m sp n j sel dD f g k kx) kx) : wMethN C m sp n j sel dD fo f g e k kx := h
theorem z_methN1 (h1 : see e r = some (.ins C fs)) (h2 : fs.lookup m = none) (h : f e (MethN2 sp n j sel dD g r k kx) kx) : MethN1 C m sp n j sel dD f g k kx r e := ⟨⟨fs, h1, h2⟩, h⟩
theorem z_methN2 (h1 : allD rs = some ds) (h2 : ds.length = n) (h : g e (MethN3 sp j sel ds dD r k kx) kx) : MethN2 sp n j sel dD g r k kx rs e := ⟨ds, h1, h2, h⟩
theorem z_methN3 (h1 : allD ts = some es) (h2 : es.length = j) (h3 : argS e [r] = some [s0]) (h4 : (selL sel .non (ds ++ es ++ dD)).map S.d = as) (h : sp (s0 :: as) (MnK r e k) (MnX r e kx)) : MethN3 sp j sel ds dD r k kx ts e := by subst h4; exact ⟨es, s0, h1, h2, h3, h⟩
theorem z_mnK {r' : R} (h1 : putS [r] as' e = e') (h : k r' e') : MnK r e k r' as' := by unfold MnK; rw [h1]; exact h
theorem z_mnX {fs : List (Str × D)} (h1 : putS [r] as' e = e') (h : kx C fs e') : MnX r e kx C fs as' := by unfold MnX; rw [h1]; exact h
end
end Wl
namespace Wl
open PySem PySem.Spec
def benF (s : D) (A B : Addr) : List (Str × D) := [("state", s), ("past", .fn A), ("future", .fn B)]
theorem putD_ben {s x : D} {A B : Addr} : putD "state" x (benF s A B) = benF x A B := rfl
end Wl
local macro_rules | `(tactic| walk_at "at") => `(tactic| (first | with_reducible exact My.at0 | with_reducible exact My.at1 | with_reducible exact My.at2 | with_reducible exact My.at3 | with_reducible exact My.at4 | with_reducible exact My.at5 | with_reducible exact My.at6 | with_reducible exact My.at7))
local macro_rules | `(tactic| walk_at "ix") => `(tactic| (first | with_reducible exact My.ix0 | with_reducible exact My.ix1 | with_reducible exact My.ix2 | with_reducible exact My.ix3 | with_reducible exact My.ix4 | with_reducible exact My.ix5 | with_reducible exact My.ix6 | with_reducible exact My.ix7))
local macro_rules | `(tactic| walk_at "tt") => `(tactic| first | exact rfl | exact decide_eq_true (by first | rfl | omega) | exact My.ndec_t (by omega))
local macro_rules | `(tactic| walk_at "ff") => `(tactic| first | exact rfl | exact decide_eq_false (by omega) | exact My.ndec_f (by first | rfl | omega))
local macro_rules | `(tactic| walk_at "rd1") => `(tactic| first
  | with_reducible refine My.s_seq ?_
  | with_reducible refine My.s_asg ?_
  | ((with_reducible apply My.s_var); (focus exact rfl))
  | with_reducible refine My.s_c ?_
  | with_reducible refine My.s_op ?_
  | with_reducible refine My.s_un ?_
  | ((with_reducible apply My.s_name); (focus (simp only [List.set_cons_zero, List.set_cons_succ]; try exact rfl)))
  | with_reducible refine My.s_addI ?_
  | with_reducible refine My.s_rI0 ?_
  | with_reducible refine My.s_eqI ?_
  | with_reducible refine My.s_neI ?_
  | with_reducible refine My.s_eqS ?_
  | with_reducible refine My.s_neS ?_
  | with_reducible refine My.s_eqB ?_
  | with_reducible refine My.s_neB ?_
  | with_reducible refine My.s_rU ?_
  | with_reducible refine My.s_test ?_
  | with_reducible refine My.s_B ?_
  | with_reducible refine My.s_exbP ?_
  | with_reducible refine My.s_exi ?_
  | with_reducible refine My.s_and ?_
  | with_reducible refine My.s_or ?_
  | with_reducible refine My.s_not ?_
  | with_reducible refine My.s_andV ?_
  | with_reducible refine My.s_orV ?_
  | with_reducible refine My.s_notV ?_
  | with_reducible refine My.s_if ?_
  | with_reducible refine My.s_ifS ?_
  | ((with_reducible refine My.ite_t ?_ ?_); (focus (walk_at "tt")))
  | ((with_reducible refine My.ite_f ?_ ?_); (focus (walk_at "ff")))
  | with_reducible refine My.s_isN ?_
  | with_reducible refine My.s_notN ?_
  | with_reducible refine My.s_nil ?_
  | with_reducible refine My.s_cons ?_
  | with_reducible refine My.s_tup ?_
  | with_reducible refine My.s_lst ?_
  | with_reducible refine My.s_CB ?_
  | with_reducible refine My.s_BM ?_
  | with_reducible refine My.s_BM0 ?_
  | with_reducible refine My.s_call ?_
  | with_reducible refine My.s_ret ?_
  | with_reducible refine My.s_retN ?_
  | with_reducible refine My.s_next ?_
  | with_reducible refine My.s_break ?_
  | with_reducible refine My.s_cont ?_
  | with_reducible refine My.s_drop ?_
  | with_reducible refine My.s_par ?_
  | with_reducible refine My.s_sub ?_
  | ((with_reducible apply My.s_ixL); (focus (first | assumption | (apply L2.SqL.of; first | assumption | exact L2.upd_same))); (focus (walk_at "at")))
  | ((with_reducible apply My.s_ixT); (focus (first | assumption | (apply L2.SqT.of; first | assumption | exact L2.upd_same) | (apply My.TupAt.sq; assumption))); (focus (walk_at "at")))
  | ((with_reducible apply My.s_setL); (focus assumption); (focus (walk_at "ix")))
  | ((with_reducible apply My.s_lenL); (focus (first | assumption | (apply L2.SqL.of; first | assumption | exact L2.upd_same))))
  | ((with_reducible apply My.s_lenT); (focus (first | assumption | (apply L2.SqT.of; first | assumption | exact L2.upd_same) | (apply My.TupAt.sq; assumption))))
  | ((with_reducible apply My.s_par2); (focus (simp only [List.set_cons_zero, List.set_cons_succ]; try exact rfl)))
  | with_reducible refine My.s_int1 ?_
  | with_reducible refine My.s_for ?_
  | with_reducible refine My.s_iRng1 ?_
  | with_reducible refine My.s_iRng2 ?_
  | with_reducible refine My.s_iList ?_
  | with_reducible refine My.s_iTup ?_
  | ((with_reducible refine My.s_rng1 ?_ ?_); (focus omega))
  | ((with_reducible refine My.s_rng2 ?_ ?_); (focus omega))
  | ((with_reducible apply My.s_lst1); (focus (first | assumption | (apply L2.SqL.of; first | assumption | exact L2.upd_same))))
  | ((with_reducible apply My.s_tup1); (focus (first | assumption | (apply L2.SqT.of; first | assumption | exact L2.upd_same) | (apply My.TupAt.sq; assumption))))
  | with_reducible refine My.s_sl ?_
  | with_reducible refine My.s_noPart ?_
  | with_reducible refine My.s_part ?_
  | with_reducible refine My.s_bits ?_
  | ((with_reducible refine My.s_mul ?_ ?_); (focus omega))
  | ((with_reducible refine My.s_fdiv ?_ ?_); (focus omega))
  | ((with_reducible refine My.s_mod ?_ ?_); (focus omega))
  | with_reducible refine My.s_pow9 ?_
  | with_reducible refine My.s_pow18 ?_
  | ((with_reducible refine My.s_pow ?_ ?_); (focus (refine ⟨by decide, by decide, by decide⟩))))
local macro_rules | `(tactic| walk_at "rd") => `(tactic| repeat walk_at "rd1")
local macro_rules | `(tactic| walk_at "wipe") => `(tactic| (simp only [L2.wipe, List.map_cons, List.map_nil, List.set_cons_zero, List.set_cons_succ]; try exact rfl))
local macro_rules | `(tactic| walk_at "rd1") => `(tactic| first
  | with_reducible refine My.s_lc ?_
  | with_reducible refine My.s_zipA ?_
  | with_reducible refine My.s_gCons ?_
  | with_reducible refine My.s_gNil ?_
  | with_reducible refine My.s_yes ?_
  | ((with_reducible apply My.s_gTup); (focus (first | assumption | (apply L2.SqT.of; first | assumption | exact L2.upd_same) | (apply My.TupAt.sq; assumption))); (focus exact rfl))
  | ((with_reducible apply My.s_zipL); (focus (first | assumption | (apply L2.SqL.of; first | assumption | exact L2.upd_same))); (focus (first | assumption | (apply L2.SqL.of; first | assumption | exact L2.upd_same))))
  | ((with_reducible apply My.s_zipT); (focus (first | assumption | (apply L2.SqT.of; first | assumption | exact L2.upd_same) | (apply My.TupAt.sq; assumption))); (focus (first | assumption | (apply L2.SqT.of; first | assumption | exact L2.upd_same) | (apply My.TupAt.sq; assumption))))
  | ((with_reducible apply My.s_isi_list); (focus (walk_at "hd")))
  | ((with_reducible apply My.s_isi_tuple); (focus (walk_at "hd")))
  | ((with_reducible apply My.s_isi_dict); (focus (walk_at "hd")))
  | ((with_reducible apply My.s_isi_bool); (focus (walk_at "hd")))
  | ((with_reducible apply My.s_isi_int); (focus (walk_at "hd")))
  | ((with_reducible apply My.s_isi_str); (focus (walk_at "hd"))))
local macro_rules | `(tactic| walk_at "hd") => `(tactic| first
  | with_reducible assumption
  | with_reducible exact My.Hd.int (N := My.N0) _
  | with_reducible exact My.Hd.str (N := My.N0) _
  | with_reducible exact My.Hd.bl (N := My.N0) _
  | with_reducible exact My.Hd.non (N := My.N0))
local macro_rules | `(tactic| walk_at "rd1") => `(tactic| first
  | with_reducible refine My.s_xgR ?_
  | with_reducible refine My.s_callS ?_
  | with_reducible refine My.s_mkO ?_
  | with_reducible refine My.s_ost ?_)
local macro_rules | `(tactic| walk_at "rd1") => `(tactic| first
  | with_reducible refine My.s_gfor ?_
  | with_reducible refine My.s_gthen ?_
  | with_reducible refine My.s_g0 ?_
  | with_reducible refine My.s_gplain ?_
  | with_reducible refine My.s_max2 ?_
  | with_reducible refine My.s_min2 ?_
  | with_reducible refine My.s_listG ?_)
local macro_rules | `(tactic| walk_at "rd1") => `(tactic| first
  | with_reducible refine My.s_fldR ?_
  | with_reducible refine My.s_stoR ?_
  | with_reducible refine My.s_makeR ?_
  | with_reducible refine My.s_methR ?_
  | with_reducible refine My.s_izipG ?_
  | with_reducible refine My.s_ienumG ?_)
local macro_rules | `(tactic| walk_at "rd1") => `(tactic| first
  | with_reducible refine My.s_ckw ?_
  | with_reducible refine My.s_joined ?_
  | with_reducible refine My.s_js ?_
  | with_reducible refine My.s_js0 ?_
  | with_reducible refine My.s_fmt ?_)
local macro_rules | `(tactic| walk_at "rd1") => `(tactic| first
  | with_reducible refine My.s_ifx ?_
  | with_reducible refine My.s_iStr ?_
  | with_reducible refine My.s_str1 ?_
  | with_reducible refine My.s_inSign ?_)
namespace Wl
open PySem PySem.Spec PyProof.Rows L2 RZ My
def top (i : Nat) : Stmt := PySem.Challenge.pw_sparenots_k06_invalid_codes.main.body.getD i (.Pass ⟨0, 0, 0, 0⟩)
abbrev s_InvalidCode____init__ : Stmt := inClass (top 7) 0
abbrev lv_InvalidCode____init__ : Nat := 1
theorem sc_InvalidCode____init__ : FnScope ["self", "position"] ["self", "position"] (defScope s_InvalidCode____init__) := ⟨rfl, rfl, rfl, by decide +kernel, rfl, by decide +kernel, by decide +kernel⟩
abbrev s_LimitExceeded____init__ : Stmt := inClass (top 9) 0
abbrev lv_LimitExceeded____init__ : Nat := 1
theorem sc_LimitExceeded____init__ : FnScope ["self", "limit"] ["self", "limit"] (defScope s_LimitExceeded____init__) := ⟨rfl, rfl, rfl, by decide +kernel, rfl, by decide +kernel, by decide +kernel⟩
abbrev s_InvalidCount____init__ : Stmt := inClass (top 5) 0
abbrev lv_InvalidCount____init__ : Nat := 1
theorem sc_InvalidCount____init__ : FnScope ["self", "value"] ["self", "value"] (defScope s_InvalidCount____init__) := ⟨rfl, rfl, rfl, by decide +kernel, rfl, by decide +kernel, by decide +kernel⟩
abbrev s_is_count : Stmt := top 23
abbrev lv_is_count : Nat := 1
theorem sc_is_count : FnScope ["value"] ["value"] (defScope s_is_count) := ⟨rfl, rfl, rfl, by decide +kernel, rfl, by decide +kernel, by decide +kernel⟩
abbrev s_check_count : Stmt := top 24
abbrev lv_check_count : Nat := 3
theorem sc_check_count : FnScope ["value"] ["value"] (defScope s_check_count) := ⟨rfl, rfl, rfl, by decide +kernel, rfl, by decide +kernel, by decide +kernel⟩
abbrev s_InvalidConstant____init__ : Stmt := inClass (top 6) 0
abbrev lv_InvalidConstant____init__ : Nat := 1
theorem sc_InvalidConstant____init__ : FnScope ["self", "value"] ["self", "value"] (defScope s_InvalidConstant____init__) := ⟨rfl, rfl, rfl, by decide +kernel, rfl, by decide +kernel, by decide +kernel⟩
abbrev s_is_integer : Stmt := top 13
abbrev lv_is_integer : Nat := 1
theorem sc_is_integer : FnScope ["value"] ["value"] (defScope s_is_integer) := ⟨rfl, rfl, rfl, by decide +kernel, rfl, by decide +kernel, by decide +kernel⟩
abbrev s_check_range : Stmt := top 25
abbrev lv_check_range : Nat := 3
theorem sc_check_range : FnScope ["value", "low", "high"] ["value", "low", "high"] (defScope s_check_range) := ⟨rfl, rfl, rfl, by decide +kernel, rfl, by decide +kernel, by decide +kernel⟩
abbrev s_check_values : Stmt := top 26
abbrev lv_check_values : Nat := 5
theorem sc_check_values : FnScope ["part"] ["part"] (defScope s_check_values) := ⟨rfl, rfl, rfl, by decide +kernel, rfl, by decide +kernel, by decide +kernel⟩
abbrev s_part_fits : Stmt := top 27
abbrev lv_part_fits : Nat := 6
theorem sc_part_fits : FnScope ["part", "word"] ["part"] (defScope s_part_fits) := ⟨rfl, rfl, rfl, by decide +kernel, rfl, by decide +kernel, by decide +kernel⟩
abbrev s_check_code : Stmt := top 28
abbrev lv_check_code : Nat := 8
theorem sc_check_code : FnScope ["code", "depth", "index", "part", "needed"] ["code"] (defScope s_check_code) := ⟨rfl, rfl, rfl, by decide +kernel, rfl, by decide +kernel, by decide +kernel⟩
abbrev s_Wish____init__ : Stmt := inClass (top 62) 0
abbrev lv_Wish____init__ : Nat := 9
theorem sc_Wish____init__ : FnScope ["self", "code"] ["self", "code"] (defScope s_Wish____init__) := ⟨rfl, rfl, rfl, by decide +kernel, rfl, by decide +kernel, by decide +kernel⟩
abbrev s__law_bag : Stmt := top 64
abbrev lv__law_bag : Nat := 1
theorem sc__law_bag : FnScope ["_law_script", "_law_salt", "_law_cell"] ["_law_script"] (defScope s__law_bag) := ⟨rfl, rfl, rfl, by decide +kernel, rfl, by decide +kernel, by decide +kernel⟩
abbrev s__law_pull : Stmt := top 65
abbrev lv__law_pull : Nat := 1
theorem sc__law_pull : FnScope ["_law_bag_here", "_law_many", "_law_cell", "_law_got", "_law_seed"] ["_law_bag_here", "_law_many"] (defScope s__law_pull) := ⟨rfl, rfl, rfl, by decide +kernel, rfl, by decide +kernel, by decide +kernel⟩
abbrev s__law_of : Stmt := top 66
abbrev lv__law_of : Nat := 2
theorem sc__law_of : FnScope ["_law_bag_here", "_law_things"] ["_law_bag_here", "_law_things"] (defScope s__law_of) := ⟨rfl, rfl, rfl, by decide +kernel, rfl, by decide +kernel, by decide +kernel⟩
abbrev s__law_field : Stmt := top 67
abbrev lv__law_field : Nat := 1
theorem sc__law_field : FnScope ["_law_e"] ["_law_e"] (defScope s__law_field) := ⟨rfl, rfl, rfl, by decide +kernel, rfl, by decide +kernel, by decide +kernel⟩
abbrev s__law_tried : Stmt := top 68
abbrev lv__law_tried : Nat := 3
theorem sc__law_tried : FnScope ["_law_ask", "_law_e"] ["_law_ask"] (defScope s__law_tried) := ⟨rfl, rfl, rfl, by decide +kernel, rfl, by decide +kernel, by decide +kernel⟩
abbrev s__law_part : Stmt := top 69
abbrev lv__law_part : Nat := 3
theorem sc__law_part : FnScope ["_law_bag_here", "_law_counts", "_law_kinds", "_law_kind", "_law_count", "_law_top", "_law_other", "_law_modulus", "_law_one"] ["_law_bag_here", "_law_counts", "_law_kinds"] (defScope s__law_part) := ⟨rfl, rfl, rfl, by decide +kernel, rfl, by decide +kernel, by decide +kernel⟩
abbrev s__law_maybe : Stmt := top 70
abbrev lv__law_maybe : Nat := 2
theorem sc__law_maybe : FnScope ["_law_bag_here", "_law_code_here"] ["_law_bag_here", "_law_code_here"] (defScope s__law_maybe) := ⟨rfl, rfl, rfl, by decide +kernel, rfl, by decide +kernel, by decide +kernel⟩
abbrev s__law_code : Stmt := top 71
abbrev lv__law_code : Nat := 4
theorem sc__law_code : FnScope ["_law_bag_here", "_law_counts", "_law_kinds", "_law_many", "_law_codes", "_law_turn", "_law_at", "_law_one", "_law_two", "_law_k"] ["_law_bag_here", "_law_counts", "_law_kinds", "_law_many"] (defScope s__law_code) := ⟨rfl, rfl, rfl, by decide +kernel, rfl, by decide +kernel, by decide +kernel⟩
abbrev s__law_all_kinds : Stmt := top 72
abbrev lv__law_all_kinds : Nat := 1
theorem sc__law_all_kinds : FnScope [] [] (defScope s__law_all_kinds) := ⟨rfl, rfl, rfl, by decide +kernel, rfl, by decide +kernel, by decide +kernel⟩
abbrev s__law_whole : Stmt := top 73
abbrev lv__law_whole : Nat := 1
theorem sc__law_whole : FnScope ["_law_value", "_law_low", "_law_high"] ["_law_value", "_law_low", "_law_high"] (defScope s__law_whole) := ⟨rfl, rfl, rfl, by decide +kernel, rfl, by decide +kernel, by decide +kernel⟩
abbrev s__law_fits : Stmt := top 74
abbrev lv__law_fits : Nat := 2
theorem sc__law_fits : FnScope ["_law_part_here", "_law_good"] ["_law_part_here"] (defScope s__law_fits) := ⟨rfl, rfl, rfl, by decide +kernel, rfl, by decide +kernel, by decide +kernel⟩
abbrev s__law_due : Stmt := top 75
abbrev lv__law_due : Nat := 3
theorem sc__law_due : FnScope ["_law_code_here", "_law_depth", "_law_position", "_law_part_here", "_law_needs"] ["_law_code_here"] (defScope s__law_due) := ⟨rfl, rfl, rfl, by decide +kernel, rfl, by decide +kernel, by decide +kernel⟩
abbrev s_law : Stmt := top 76
abbrev lv_law : Nat := 13
theorem sc_law : FnScope ["_law_script", "_law_bag_here", "_law_turn", "_law_code_here", "_law_at", "_law_odd", "_law_item", "_law_kind", "_law_rest", "_law_changed", "_law_due_here", "_law_found", "_law_long", "_law_one"] ["_law_script"] (defScope s_law) := ⟨rfl, rfl, rfl, by decide +kernel, rfl, by decide +kernel, by decide +kernel⟩
set_option autoImplicit false in
structure Txt (K : PySem.W.Frag) (mg : Str → Option Value) : Type where
  f_InvalidCode____init__ : Addr
  fd_InvalidCode____init__ : FuncData
  F_InvalidCode____init__ : Fun K "__init__" "InvalidCode.__init__" s_InvalidCode____init__ f_InvalidCode____init__ fd_InvalidCode____init__
  b_InvalidCode____init__ : Binds K fd_InvalidCode____init__ ["self", "position"] []
  f_LimitExceeded____init__ : Addr
  fd_LimitExceeded____init__ : FuncData
  F_LimitExceeded____init__ : Fun K "__init__" "LimitExceeded.__init__" s_LimitExceeded____init__ f_LimitExceeded____init__ fd_LimitExceeded____init__
  b_LimitExceeded____init__ : Binds K fd_LimitExceeded____init__ ["self", "limit"] []
  f_InvalidCount____init__ : Addr
  fd_InvalidCount____init__ : FuncData
  F_InvalidCount____init__ : Fun K "__init__" "InvalidCount.__init__" s_InvalidCount____init__ f_InvalidCount____init__ fd_InvalidCount____init__
  b_InvalidCount____init__ : Binds K fd_InvalidCount____init__ ["self", "value"] []
  f_is_count : Addr
  fd_is_count : FuncData
  F_is_count : Fun K "is_count" "is_count" s_is_count f_is_count fd_is_count
  g_is_count : mg "is_count" = some (.ref f_is_count)
  b_is_count : Binds K fd_is_count ["value"] []
  f_check_count : Addr
  fd_check_count : FuncData
  F_check_count : Fun K "check_count" "check_count" s_check_count f_check_count fd_check_count
  g_check_count : mg "check_count" = some (.ref f_check_count)
  b_check_count : Binds K fd_check_count ["value"] []
  f_InvalidConstant____init__ : Addr
  fd_InvalidConstant____init__ : FuncData
  F_InvalidConstant____init__ : Fun K "__init__" "InvalidConstant.__init__" s_InvalidConstant____init__ f_InvalidConstant____init__ fd_InvalidConstant____init__
  b_InvalidConstant____init__ : Binds K fd_InvalidConstant____init__ ["self", "value"] []
  f_is_integer : Addr
  fd_is_integer : FuncData
  F_is_integer : Fun K "is_integer" "is_integer" s_is_integer f_is_integer fd_is_integer
  g_is_integer : mg "is_integer" = some (.ref f_is_integer)
  b_is_integer : Binds K fd_is_integer ["value"] []
  f_check_range : Addr
  fd_check_range : FuncData
  F_check_range : Fun K "check_range" "check_range" s_check_range f_check_range fd_check_range
  g_check_range : mg "check_range" = some (.ref f_check_range)
  b_check_range : Binds K fd_check_range ["value", "low", "high"] []
  f_check_values : Addr
  fd_check_values : FuncData
  F_check_values : Fun K "check_values" "check_values" s_check_values f_check_values fd_check_values
  g_check_values : mg "check_values" = some (.ref f_check_values)
  b_check_values : Binds K fd_check_values ["part"] []
  f_part_fits : Addr
  fd_part_fits : FuncData
  F_part_fits : Fun K "part_fits" "part_fits" s_part_fits f_part_fits fd_part_fits
  g_part_fits : mg "part_fits" = some (.ref f_part_fits)
  b_part_fits : Binds K fd_part_fits ["part"] []
  f_check_code : Addr
  fd_check_code : FuncData
  F_check_code : Fun K "check_code" "check_code" s_check_code f_check_code fd_check_code
  g_check_code : mg "check_code" = some (.ref f_check_code)
  b_check_code : Binds K fd_check_code ["code"] []
  f_Wish____init__ : Addr
  fd_Wish____init__ : FuncData
  F_Wish____init__ : Fun K "__init__" "Wish.__init__" s_Wish____init__ f_Wish____init__ fd_Wish____init__
  b_Wish____init__ : Binds K fd_Wish____init__ ["self", "code"] []
  f__law_bag : Addr
  fd__law_bag : FuncData
  F__law_bag : Fun K "_law_bag" "_law_bag" s__law_bag f__law_bag fd__law_bag
  g__law_bag : mg "_law_bag" = some (.ref f__law_bag)
  b__law_bag : Binds K fd__law_bag ["_law_script"] []
  f__law_pull : Addr
  fd__law_pull : FuncData
  F__law_pull : Fun K "_law_pull" "_law_pull" s__law_pull f__law_pull fd__law_pull
  g__law_pull : mg "_law_pull" = some (.ref f__law_pull)
  b__law_pull : Binds K fd__law_pull ["_law_bag_here", "_law_many"] []
  f__law_of : Addr
  fd__law_of : FuncData
  F__law_of : Fun K "_law_of" "_law_of" s__law_of f__law_of fd__law_of
  g__law_of : mg "_law_of" = some (.ref f__law_of)
  b__law_of : Binds K fd__law_of ["_law_bag_here", "_law_things"] []
  f__law_field : Addr
  fd__law_field : FuncData
  F__law_field : Fun K "_law_field" "_law_field" s__law_field f__law_field fd__law_field
  g__law_field : mg "_law_field" = some (.ref f__law_field)
  b__law_field : Binds K fd__law_field ["_law_e"] []
  f__law_tried : Addr
  fd__law_tried : FuncData
  F__law_tried : Fun K "_law_tried" "_law_tried" s__law_tried f__law_tried fd__law_tried
  g__law_tried : mg "_law_tried" = some (.ref f__law_tried)
  b__law_tried : Binds K fd__law_tried ["_law_ask"] []
  f__law_part : Addr
  fd__law_part : FuncData
  F__law_part : Fun K "_law_part" "_law_part" s__law_part f__law_part fd__law_part
  g__law_part : mg "_law_part" = some (.ref f__law_part)
  b__law_part : Binds K fd__law_part ["_law_bag_here", "_law_counts", "_law_kinds"] []
  f__law_maybe : Addr
  fd__law_maybe : FuncData
  F__law_maybe : Fun K "_law_maybe" "_law_maybe" s__law_maybe f__law_maybe fd__law_maybe
  g__law_maybe : mg "_law_maybe" = some (.ref f__law_maybe)
  b__law_maybe : Binds K fd__law_maybe ["_law_bag_here", "_law_code_here"] []
  f__law_code : Addr
  fd__law_code : FuncData
  F__law_code : Fun K "_law_code" "_law_code" s__law_code f__law_code fd__law_code
  g__law_code : mg "_law_code" = some (.ref f__law_code)
  b__law_code : Binds K fd__law_code ["_law_bag_here", "_law_counts", "_law_kinds", "_law_many"] []
  f__law_all_kinds : Addr
  fd__law_all_kinds : FuncData
  F__law_all_kinds : Fun K "_law_all_kinds" "_law_all_kinds" s__law_all_kinds f__law_all_kinds fd__law_all_kinds
  g__law_all_kinds : mg "_law_all_kinds" = some (.ref f__law_all_kinds)
  b__law_all_kinds : Binds K fd__law_all_kinds [] []
  f__law_whole : Addr
  fd__law_whole : FuncData
  F__law_whole : Fun K "_law_whole" "_law_whole" s__law_whole f__law_whole fd__law_whole
  g__law_whole : mg "_law_whole" = some (.ref f__law_whole)
  b__law_whole : Binds K fd__law_whole ["_law_value", "_law_low", "_law_high"] []
  f__law_fits : Addr
  fd__law_fits : FuncData
  F__law_fits : Fun K "_law_fits" "_law_fits" s__law_fits f__law_fits fd__law_fits
  g__law_fits : mg "_law_fits" = some (.ref f__law_fits)
  b__law_fits : Binds K fd__law_fits ["_law_part_here"] []
  f__law_due : Addr
  fd__law_due : FuncData
  F__law_due : Fun K "_law_due" "_law_due" s__law_due f__law_due fd__law_due
  g__law_due : mg "_law_due" = some (.ref f__law_due)
  b__law_due : Binds K fd__law_due ["_law_code_here"] []
  f_law : Addr
  fd_law : FuncData
  F_law : Fun K "law" "law" s_law f_law fd_law
  g_law : mg "law" = some (.ref f_law)
  b_law : Binds K fd_law ["_law_script"] []
  c_law : Addr
  P_law : Addr
  lk_law : ∃ (oc : Value) (od : Option Addr) (kV doc pm : Value) (an : Option Addr) (ct : Value) (osl : Array (Option Value)), fd_law = PySem.W.fnOf "law" "law" (defArgs s_law) (defBody s_law) (defScope s_law) .none kV doc pm an (.ref c_law) ct ∧ K.lookup f_law = some ⟨oc, od, .func fd_law, osl⟩ ∧ PySem.W.codeIn K (.ref c_law) "law" = true
  tk_MAX_CONSTANT : Tok
  g_MAX_CONSTANT : mg "MAX_CONSTANT" = some (.int 3 tk_MAX_CONSTANT)
  tk_MAX_MODULUS : Tok
  g_MAX_MODULUS : mg "MAX_MODULUS" = some (.int 4 tk_MAX_MODULUS)
  tk_MAX_PARTS : Tok
  g_MAX_PARTS : mg "MAX_PARTS" = some (.int 60 tk_MAX_PARTS)
  tk_MIN_MODULUS : Tok
  g_MIN_MODULUS : mg "MIN_MODULUS" = some (.int 2 tk_MIN_MODULUS)
  c_PLAIN_WORDS : Addr
  g_PLAIN_WORDS : mg "PLAIN_WORDS" = some (.ref c_PLAIN_WORDS)
  w_PLAIN_WORDS : ∀ H, My.TupAt K H c_PLAIN_WORDS [.str "yes", .str "no", .str "not", .str "and", .str "or"]
  z_bool : mg "bool" = none
  z_enumerate : mg "enumerate" = none
  z_int : mg "int" = none
  z_isinstance : mg "isinstance" = none
  z_len : mg "len" = none
  z_list : mg "list" = none
  z_range : mg "range" = none
  z_str : mg "str" = none
  z_tuple : mg "tuple" = none
  c_NotsError : Addr
  g_NotsError : mg "NotsError" = some (.ref c_NotsError)
  c_Absent : Addr
  g_Absent : mg "Absent" = some (.ref c_Absent)
  c_Wish : Addr
  g_Wish : mg "Wish" = some (.ref c_Wish)
  K_Wish : Cls K c_Wish
  Mk_Wish : Mk K c_Wish f_Wish____init__
  n_Wish_code : NoAttr K c_Wish "code"
  c_InvalidCode : Addr
  c_LimitExceeded : Addr
  c_InvalidCount : Addr
  c_InvalidConstant : Addr
  g_InvalidCode : mg "InvalidCode" = some (.ref c_InvalidCode)
  T_InvalidCode : OexC K c_InvalidCode
  iC_InvalidCode : PySem.W.findIn K (.ref c_InvalidCode) "__init__" = some (some (.ref f_InvalidCode____init__))
  tI_InvalidCode : PySem.W.typeIn K (.ref f_InvalidCode____init__) = some (.type "function")
  x_InvalidCode : XfC K c_InvalidCode
  n_InvalidCode_position : PySem.W.findIn K (.ref c_InvalidCode) "position" = some none
  n_InvalidCode_word : PySem.W.findIn K (.ref c_InvalidCode) "word" = some none
  e_InvalidCode_NotsError : PySem.W.exmOne K (.ref c_InvalidCode) (.ref c_NotsError) = some true
  e_InvalidCode_Absent : PySem.W.exmOne K (.ref c_InvalidCode) (.ref c_Absent) = some false
  e_InvalidCode_InvalidConstant : PySem.W.exmOne K (.ref c_InvalidCode) (.ref c_InvalidConstant) = some false
  e_InvalidCode_InvalidCount : PySem.W.exmOne K (.ref c_InvalidCode) (.ref c_InvalidCount) = some false
  g_LimitExceeded : mg "LimitExceeded" = some (.ref c_LimitExceeded)
  T_LimitExceeded : OexC K c_LimitExceeded
  iC_LimitExceeded : PySem.W.findIn K (.ref c_LimitExceeded) "__init__" = some (some (.ref f_LimitExceeded____init__))
  tI_LimitExceeded : PySem.W.typeIn K (.ref f_LimitExceeded____init__) = some (.type "function")
  x_LimitExceeded : XfC K c_LimitExceeded
  n_LimitExceeded_limit : PySem.W.findIn K (.ref c_LimitExceeded) "limit" = some none
  n_LimitExceeded_word : PySem.W.findIn K (.ref c_LimitExceeded) "word" = some none
  e_LimitExceeded_NotsError : PySem.W.exmOne K (.ref c_LimitExceeded) (.ref c_NotsError) = some true
  e_LimitExceeded_Absent : PySem.W.exmOne K (.ref c_LimitExceeded) (.ref c_Absent) = some false
  e_LimitExceeded_InvalidConstant : PySem.W.exmOne K (.ref c_LimitExceeded) (.ref c_InvalidConstant) = some false
  e_LimitExceeded_InvalidCount : PySem.W.exmOne K (.ref c_LimitExceeded) (.ref c_InvalidCount) = some false
  g_InvalidCount : mg "InvalidCount" = some (.ref c_InvalidCount)
  T_InvalidCount : OexC K c_InvalidCount
  iC_InvalidCount : PySem.W.findIn K (.ref c_InvalidCount) "__init__" = some (some (.ref f_InvalidCount____init__))
  tI_InvalidCount : PySem.W.typeIn K (.ref f_InvalidCount____init__) = some (.type "function")
  x_InvalidCount : XfC K c_InvalidCount
  n_InvalidCount_value : PySem.W.findIn K (.ref c_InvalidCount) "value" = some none
  n_InvalidCount_word : PySem.W.findIn K (.ref c_InvalidCount) "word" = some none
  e_InvalidCount_NotsError : PySem.W.exmOne K (.ref c_InvalidCount) (.ref c_NotsError) = some true
  e_InvalidCount_Absent : PySem.W.exmOne K (.ref c_InvalidCount) (.ref c_Absent) = some false
  e_InvalidCount_InvalidConstant : PySem.W.exmOne K (.ref c_InvalidCount) (.ref c_InvalidConstant) = some false
  e_InvalidCount_InvalidCount : PySem.W.exmOne K (.ref c_InvalidCount) (.ref c_InvalidCount) = some true
  g_InvalidConstant : mg "InvalidConstant" = some (.ref c_InvalidConstant)
  T_InvalidConstant : OexC K c_InvalidConstant
  iC_InvalidConstant : PySem.W.findIn K (.ref c_InvalidConstant) "__init__" = some (some (.ref f_InvalidConstant____init__))
  tI_InvalidConstant : PySem.W.typeIn K (.ref f_InvalidConstant____init__) = some (.type "function")
  x_InvalidConstant : XfC K c_InvalidConstant
  n_InvalidConstant_value : PySem.W.findIn K (.ref c_InvalidConstant) "value" = some none
  n_InvalidConstant_word : PySem.W.findIn K (.ref c_InvalidConstant) "word" = some none
  e_InvalidConstant_NotsError : PySem.W.exmOne K (.ref c_InvalidConstant) (.ref c_NotsError) = some true
  e_InvalidConstant_Absent : PySem.W.exmOne K (.ref c_InvalidConstant) (.ref c_Absent) = some false
  e_InvalidConstant_InvalidConstant : PySem.W.exmOne K (.ref c_InvalidConstant) (.ref c_InvalidConstant) = some true
  e_InvalidConstant_InvalidCount : PySem.W.exmOne K (.ref c_InvalidConstant) (.ref c_InvalidCount) = some false
abbrev dc_PLAIN_WORDS : D := .tup [.str "yes", .str "no", .str "not", .str "and", .str "or"]
theorem hd_PLAIN_WORDS {K : PySem.W.Frag} {mg : Str → Option Value} (T : Txt K mg) {N : Addr → Prop} {H : Hp} : Hd N K H (.ref T.c_PLAIN_WORDS) dc_PLAIN_WORDS := .tup (T.w_PLAIN_WORDS _) (.cons (.str _) (.cons (.str _) (.cons (.str _) (.cons (.str _) (.cons (.str _) (.nil))))))
abbrev lamQ : Str := (envOfC "law" (defScope s_law) 0 0 .none).qual ++ "<lambda>"
def TLw (P : Addr) : List (Addr × Str) := [(P, lamQ)]
theorem tabs_start {H : Hp} {P : Addr} (h : H P = some (.tbl #[])) : LamX.Tabs (TLw P) H := fun p hp => by rw [List.mem_singleton.mp hp]; exact LamX.TabS.nil h
inductive xcl {K : PySem.W.Frag} {mg : Str → Option Value} (T : Txt K mg) : Addr → Str → Prop where
  | x_InvalidCode : xcl T T.c_InvalidCode "invalidcode"
  | x_LimitExceeded : xcl T T.c_LimitExceeded "limitexceeded"
  | x_InvalidCount : xcl T T.c_InvalidCount "invalidcount"
  | x_InvalidConstant : xcl T T.c_InvalidConstant "invalidconstant"
theorem xcl_ok {K : PySem.W.Frag} {mg : Str → Option Value} (T : Txt K mg) : ∀ C w, xcl T C w → XCls K T.c_NotsError T.c_Absent C w := by
  intro C w h
  cases h with
  | x_InvalidCode => exact ⟨⟨T.x_InvalidCode, T.n_InvalidCode_word, fun n e => by rw [show My.fldName "invalidcode" = some "position" by decide +kernel] at e; cases e; exact T.n_InvalidCode_position, fun e => absurd e (by decide +kernel)⟩, .inl T.e_InvalidCode_NotsError⟩
  | x_LimitExceeded => exact ⟨⟨T.x_LimitExceeded, T.n_LimitExceeded_word, fun n e => by rw [show My.fldName "limitexceeded" = some "limit" by decide +kernel] at e; cases e; exact T.n_LimitExceeded_limit, fun e => absurd e (by decide +kernel)⟩, .inl T.e_LimitExceeded_NotsError⟩
  | x_InvalidCount => exact ⟨⟨T.x_InvalidCount, T.n_InvalidCount_word, fun n e => by rw [show My.fldName "invalidcount" = some "value" by decide +kernel] at e; cases e; exact T.n_InvalidCount_value, fun e => absurd e (by decide +kernel)⟩, .inl T.e_InvalidCount_NotsError⟩
  | x_InvalidConstant => exact ⟨⟨T.x_InvalidConstant, T.n_InvalidConstant_word, fun n e => by rw [show My.fldName "invalidconstant" = some "value" by decide +kernel] at e; cases e; exact T.n_InvalidConstant_value, fun e => absurd e (by decide +kernel)⟩, .inl T.e_InvalidConstant_NotsError⟩
inductive tcl_InvalidCount_InvalidConstant {K : PySem.W.Frag} {mg : Str → Option Value} (T : Txt K mg) : Addr → Bool → Prop where
  | x_InvalidCode : tcl_InvalidCount_InvalidConstant T T.c_InvalidCode false
  | x_LimitExceeded : tcl_InvalidCount_InvalidConstant T T.c_LimitExceeded false
  | x_InvalidCount : tcl_InvalidCount_InvalidConstant T T.c_InvalidCount true
  | x_InvalidConstant : tcl_InvalidCount_InvalidConstant T T.c_InvalidConstant true
theorem tcl_ok_InvalidCount_InvalidConstant {K : PySem.W.Frag} {mg : Str → Option Value} (T : Txt K mg) : ∀ C b, tcl_InvalidCount_InvalidConstant T C b → PySem.W.exmAny K (.ref C) [.ref T.c_InvalidCount, .ref T.c_InvalidConstant] = some b := by
  intro C w h
  cases h with
  | x_InvalidCode => unfold PySem.W.exmAny PySem.W.exmAny PySem.W.exmAny; rw [T.e_InvalidCode_InvalidCount, T.e_InvalidCode_InvalidConstant]; rfl
  | x_LimitExceeded => unfold PySem.W.exmAny PySem.W.exmAny PySem.W.exmAny; rw [T.e_LimitExceeded_InvalidCount, T.e_LimitExceeded_InvalidConstant]; rfl
  | x_InvalidCount => unfold PySem.W.exmAny PySem.W.exmAny PySem.W.exmAny; rw [T.e_InvalidCount_InvalidCount, T.e_InvalidCount_InvalidConstant]; rfl
  | x_InvalidConstant => unfold PySem.W.exmAny PySem.W.exmAny PySem.W.exmAny; rw [T.e_InvalidConstant_InvalidCount, T.e_InvalidConstant_InvalidConstant]; rfl
end Wl
namespace Hk
open PySem PySem.Spec PyProof.Rows L2 He
/-- a def: where its function object is; its text -/
structure Fd where
  at_ : PySem.W.Frag → Addr
  name : Str
  qual : Str
  params : Arguments
  body : List Stmt
  scope : Scope
abbrev FV : Type := Option (Str × Str × Arguments × FuncBody × Scope)
def fv (K : PySem.W.Frag) (a : Addr) : FV := match K.lookup a with
  | some ⟨_, _, .func fd, _⟩ => some (fd.name, fd.qualname, fd.params, fd.body, fd.scope)
  | _ => none
def Fd.val (d : Fd) : FV := some (d.name, d.qual, d.params, .stmts d.body, d.scope)
def dfV (K : PySem.W.Frag) (a : Addr) : Value := match K.lookup a with
  | some ⟨_, _, .func fd, _⟩ => fd.defaults
  | _ => .none
def kdV (K : PySem.W.Frag) (a : Addr) : Value := match K.lookup a with
  | some ⟨_, _, .func fd, _⟩ => fd.kwdefaults
  | _ => .none
def cdV (K : PySem.W.Frag) (a : Addr) : Value := match K.lookup a with
  | some ⟨_, _, .func fd, _⟩ => fd.code
  | _ => .none
def rfA : Value → Addr
  | .ref a => a
  | _ => 0
def fnB (K : PySem.W.Frag) (a : Addr) (q : Str) : Bool := match K.lookup a with
  | some ⟨_, _, .func fd, _⟩ => decide (fd.globals = mainGlobals) && (decide (fd.closure = []) && (decide (fd.builtins = builtinsNs) && PySem.W.codeIn K fd.code q))
  | _ => false
theorem fn_get {K : PySem.W.Frag} {d : Fd} {dV kV cd : Value} (e : fv K (d.at_ K) = d.val) (c : fnB K (d.at_ K) d.qual = true) (hd : dfV K (d.at_ K) = dV) (hk : kdV K (d.at_ K) = kV) (hc : cdV K (d.at_ K) = cd) :
    ∃ oc od osl doc pm an ct, K.lookup (d.at_ K) = some ⟨oc, od, .func (PySem.W.fnOf d.name d.qual d.params d.body d.scope dV kV doc pm an cd ct), osl⟩ ∧ PySem.W.codeIn K cd d.qual = true := by
  unfold fnB at c
  unfold fv at e
  unfold dfV at hd
  unfold kdV at hk
  unfold cdV at hc
  cases q : K.lookup (d.at_ K) with
  | none =>
    rw [q] at c
    cases c
  | some o =>
    obtain ⟨oc, od, dt, osl⟩ := o
    rw [q] at c e hd hk hc
    cases dt with
    | func fd =>
      obtain ⟨n1, n2, n3, n4, n5, n6, n7, n8, n9, n10, n11, n12, n13, n14, n15⟩ := fd
      have e2 : (some (n1, n2, n3, n4, n5) : FV) = some (d.name, d.qual, d.params, .stmts d.body, d.scope) := e
      simp only [Option.some.injEq, Prod.mk.injEq] at e2
      obtain ⟨h1, h2, h3, h4, h5⟩ := e2
      obtain ⟨g1, c⟩ := ba c
      obtain ⟨g2, c⟩ := ba c
      obtain ⟨g3, g4⟩ := ba c
      have p1 : n6 = mainGlobals := of_decide_eq_true g1
      have p2 : n7 = [] := of_decide_eq_true g2
      have p3 : n15 = builtinsNs := of_decide_eq_true g3
      have p4 : n8 = dV := hd
      have p5 : n9 = kV := hk
      have p6 : n13 = cd := hc
      subst h1 h2 h3 h4 h5 p1 p2 p3 p4 p5 p6
      exact ⟨oc, od, osl, n10, n11, n12, n14, rfl, g4⟩
    | _ => cases c
def exB (K : PySem.W.Frag) (C : Addr) (bm : List Value) (newId : String) : Bool := match K.lookup C with
  | some ⟨.type "type", _, .cls cd, sl⟩ => (match cd.mro, sl.toList with
    | .ref C' :: bm', [_, _, _, _, some (.builtin n), _] => decide (C' = C) && (decide (n = newId) && (!cd.hasDel && (cd.hasDict && decide (bm' = bm))))
    | _, _ => false)
  | _ => false
theorem ex_get {K : PySem.W.Frag} {C : Addr} {bm : List Value} {newId : String} (q : exB K C bm newId = true) :
    ∃ nm qn N bs sn sub ab col dd k0 k1 k2 k3 k5, K.lookup C = some (excClassObj nm qn C N bs bm true sn sub ab col dd k0 k1 k2 k3 k5 newId) := by
  unfold exB at q
  split at q
  · rename_i dd cd sl ho
    split at q
    · rename_i C' bm' k0 k1 k2 k3 n k5 hm hs
      obtain ⟨q1, q⟩ := ba q
      obtain ⟨q2, q⟩ := ba q
      obtain ⟨q3, q⟩ := ba q
      obtain ⟨q4, q5⟩ := ba q
      have p1 := of_decide_eq_true q1
      have p2 := of_decide_eq_true q2
      have p5 := of_decide_eq_true q5
      rw [Bool.not_eq_true'] at q3
      obtain ⟨nm, bs, mro, ns, qn, hd, sn, sub, ab, col, del⟩ := cd
      dsimp only at hm q3 q4
      subst hm q3 q4 p1 p2 p5
      have hsl : sl = #[k0, k1, k2, k3, some (.builtin n), k5] := by
        obtain ⟨l⟩ := sl
        simp only at hs
        rw [hs]
      subst hsl
      exact ⟨nm, qn, ns, bs, sn, sub, ab, col, dd, k0, k1, k2, k3, k5, ho⟩
    · cases q
  · cases q
def tpB (K : PySem.W.Frag) (a : Addr) (vs : List V) : Bool := match K.lookup a with
  | some ⟨.type c, _, .seq its _, _⟩ => decide (c = "tuple") && relAll vs its.toList
  | _ => false
theorem tp_get {K : PySem.W.Frag} {a : Addr} {vs : List V} (h : tpB K a vs = true) : ∃ d its n sl, K.lookup a = some ⟨.type "tuple", d, .seq (List.toArray its) n, sl⟩ ∧ Vals vs its := by
  unfold tpB at h
  cases q : K.lookup a with
  | none =>
    rw [q] at h
    cases h
  | some o =>
    obtain ⟨oc, od, dt, osl⟩ := o
    rw [q] at h
    cases oc with
    | type c =>
      cases dt with
      | seq its n =>
        obtain ⟨h1, h2⟩ := ba h
        have p1 := of_decide_eq_true h1
        subst p1
        exact ⟨od, its.toList, n, osl, by simp, relAll_ok h2⟩
      | _ => cases h
    | _ => cases dt <;> cases h
def nsB (K : PySem.W.Frag) (D : Addr) (x : Str) (v : V) : Bool := match PySem.W.nsIn K D x with
  | some (some u) => relB v u
  | _ => false
theorem ns_get {K : PySem.W.Frag} {D : Addr} {x : Str} {v : V} (h : nsB K D x v = true) : ∃ u, PySem.W.nsIn K D x = some (some u) ∧ RelV v u := by
  unfold nsB at h
  cases e : PySem.W.nsIn K D x with
  | none =>
    rw [e] at h
    cases h
  | some r =>
    rw [e] at h
    cases r with
    | none => cases h
    | some u => exact ⟨u, rfl, relB_ok h⟩
def tbB (K : PySem.W.Frag) (c : Addr) : Bool := match K.lookup c with
  | some ⟨_, _, .fields vs, _⟩ => decide (vs[11]? = some (.ref (tabOf K c)))
  | _ => false
theorem tb_get {K : PySem.W.Frag} {c : Addr} (h : tbB K c = true) : ∃ ce cdd cvs csl, K.lookup c = some ⟨ce, cdd, .fields cvs, csl⟩ ∧ cvs[11]? = some (.ref (tabOf K c)) := by
  unfold tbB at h
  split at h
  · rename_i ce cdd cvs csl q
    exact ⟨ce, cdd, cvs, csl, q, of_decide_eq_true h⟩
  · cases h
structure Says (ck : PySem.W.Frag → Bool) (fn : List Fd) (tf : List (PySem.W.Frag → Addr)) (h : Heap) (K : PySem.W.Frag) : Prop where
  ck : ck K = true
  fn : fn.map (fun d => fv K (d.at_ K)) = fn.map Fd.val
  out : ∀ p ∈ tf, K.lookup (p K) = none
  empty : ∀ p ∈ tf, h.get? (p K) = some { cls := .none, data := .fields #[] }
/-- what is looked at: what the module's names reach, n steps of the walk; the statics -/
def asH (g : Addr → Option Obj) : Nat → List Addr → Nat → List Addr
  | 0, _, _ => []
  | _ + 1, [], _ => []
  | n + 1, a :: fr, seen => match Nat.beq (Nat.land (Nat.shiftRight seen a) 1) 1 with
    | true => asH g n fr seen
    | false => HandSHeadRun.frNat (Nat.lor seen (Nat.shiftLeft 1 a)) fun seen => a :: asH g n ((match g a with
      | some o => refsD o
      | none => []) ++ fr) seen
def asK (g : Addr → Option Obj) (n : Nat) : List Addr := asH g n [mainGlobals, cStatics] 0
abbrev Al : Type := Bool × List FV
def tfB (g : Addr → Option Obj) (tf : List (PySem.W.Frag → Addr)) (K : PySem.W.Frag) : Bool := tf.all fun p => match g (p K) with
  | some o => emptyTab o
  | none => false
def look (ck : PySem.W.Frag → Bool) (fn : List Fd) (tf : List (PySem.W.Frag → Addr)) (g : Addr → Option Obj) (K : PySem.W.Frag) : Al := (ck K && tfB g tf K, fn.map fun d => fv K (d.at_ K))
def obs (n : Nat) (ck : PySem.W.Frag → Bool) (fn : List Fd) (tf : List (PySem.W.Frag → Addr)) (g : Addr → Option Obj) : Al := look ck fn tf g (frT g (asK g n))
def val (fn : List Fd) : Al := (true, fn.map Fd.val)
theorem says_of {n : Nat} {ck : PySem.W.Frag → Bool} {fn : List Fd} {tf : List (PySem.W.Frag → Addr)} {h : Heap} (e : obs n ck fn tf h.get? = val fn) : Says ck fn tf h (frT h.get? (asK h.get? n)) := by
  have e1 : (ck (frT h.get? (asK h.get? n)) && tfB h.get? tf (frT h.get? (asK h.get? n))) = true := congrArg (fun z : Al => z.1) e
  have e2 : fn.map (fun d => fv (frT h.get? (asK h.get? n)) (d.at_ (frT h.get? (asK h.get? n)))) = fn.map Fd.val := congrArg (fun z : Al => z.2) e
  obtain ⟨h1, h2⟩ := ba e1
  have key : ∀ p ∈ tf, ∃ o, h.get? (p (frT h.get? (asK h.get? n))) = some o ∧ emptyTab o = true := fun p hp => by
    have h4 := List.all_eq_true.mp h2 p hp
    cases q : h.get? (p (frT h.get? (asK h.get? n))) with
    | none =>
      rw [q] at h4
      cases h4
    | some o =>
      rw [q] at h4
      exact ⟨o, rfl, h4⟩
  exact ⟨h1, e2, fun p hp => by
    obtain ⟨o, q, z⟩ := key p hp
    exact frT_none q z, fun p hp => by
    obtain ⟨o, q, z⟩ := key p hp
    rw [q, emptyTab_eq z]⟩
def hook (n : Nat) (ck : PySem.W.Frag → Bool) (fn : List Fd) (tf : List (PySem.W.Frag → Addr)) : PySem.W.Hook where
  α := Al
  obs := fun s => obs n ck fn tf s.heap.get?
  val := fun _ => val fn
  says := fun _ h => ∃ K : PySem.W.Frag, K.In h ∧ Says ck fn tf h K
  of := fun _ _ e => ⟨_, frT_in, says_of e⟩
  keeps := fun _ _ _ ⟨K, hK, c⟩ k => ⟨K, PySem.W.Frag.In.keeps hK k, ⟨c.ck, c.fn, c.out, fun p hp => k _ _ (c.empty p hp)⟩⟩
theorem obs_eq {n : Nat} {ck : PySem.W.Frag → Bool} {fn : List Fd} {tf : List (PySem.W.Frag → Addr)} {g : Addr → Option Obj} {s : Shared} (h : ∀ a, g a = s.heap.get? a) : obs n ck fn tf g = (hook n ck fn tf).obs s := by
  have e : g = s.heap.get? := funext h
  rw [e] <;> rfl
section
variable {ck : PySem.W.Frag → Bool} {fn : List Fd} {tf : List (PySem.W.Frag → Addr)} {h : Heap} {K : PySem.W.Frag}
theorem Says.def_ (c : Says ck fn tf h K) (i : Nat) {d : Fd} (e0 : fn[i]? = some d := by rfl) : fv K (d.at_ K) = d.val := by
  have e := c.fn
  have e2 : (fn.map fun d => fv K (d.at_ K))[i]? = (fn.map Fd.val)[i]? := by rw [e]
  rw [List.getElem?_map, List.getElem?_map, e0] at e2
  exact Option.some.inj e2
end
/-- the facts, in groups -/
def allB (fs : List (PySem.W.Frag → List Bool)) (K : PySem.W.Frag) : Bool := fs.all fun f => (f K).all id
theorem all_at {fs : List (PySem.W.Frag → List Bool)} {K : PySem.W.Frag} (h : allB fs K = true) (j i : Nat) {f : PySem.W.Frag → List Bool} (ef : fs[j]? = some f := by rfl) {b : Bool} (eb : (f K)[i]? = some b := by rfl) : b = true :=
  List.all_eq_true.mp (List.all_eq_true.mp h f (List.mem_of_getElem? ef)) b (List.mem_of_getElem? eb)
theorem all_app {fs gs : List (PySem.W.Frag → List Bool)} {α : Type} {o : Option α} {K : α → PySem.W.Frag} (h1 : o.map (fun s => allB fs (K s)) = some true) (h2 : o.map (fun s => allB gs (K s)) = some true) : o.map (fun s => allB (fs ++ gs) (K s)) = some true := by
  cases o with
  | none => cases h1
  | some s =>
    have e1 : allB fs (K s) = true := Option.some.inj h1
    have e2 : allB gs (K s) = true := Option.some.inj h2
    show some (allB (fs ++ gs) (K s)) = some true
    unfold allB at e1 e2 ⊢
    rw [List.all_append, e1, e2]
    rfl
theorem map_and {α γ : Type} {o : Option α} {f g : α → Bool} {k : α → γ} {z : γ} (h1 : o.map f = some true) (h2 : o.map (fun s => (g s, k s)) = some (true, z)) : o.map (fun s => (f s && g s, k s)) = some (true, z) := by
  cases o with
  | none => cases h1
  | some s =>
    have e1 : f s = true := Option.some.inj h1
    have e2 : (g s, k s) = (true, z) := Option.some.inj h2
    obtain ⟨e3, e4⟩ := Prod.mk.inj e2
    show some (f s && g s, k s) = some (true, z)
    rw [e1, e3, e4]
    rfl
theorem map_tri {α β γ δ : Type} {o : Option α} {f : α → β} {g : α → γ} {k : α → δ} {x : β} {y : γ} {z : δ} (h1 : o.map (fun s => (f s, g s)) = some (x, y)) (h2 : o.map k = some z) : o.map (fun s => (f s, g s, k s)) = some (x, y, z) := by
  cases o with
  | none => cases h2
  | some s =>
    have e1 : (f s, g s) = (x, y) := Option.some.inj h1
    have e2 : k s = z := Option.some.inj h2
    obtain ⟨e3, e4⟩ := Prod.mk.inj e1
    show some (f s, g s, k s) = some (x, y, z)
    rw [e2, e3, e4]
end Hk
namespace Wl
open PySem PySem.Spec PyProof.Rows L2 RZ My
def ad_CNotsError (K : PySem.W.Frag) : Addr := He.ga K "NotsError"
def ad_CAbsent (K : PySem.W.Frag) : Addr := He.ga K "Absent"
def ad_CInvalidCode (K : PySem.W.Frag) : Addr := He.ga K "InvalidCode"
def ad_CLimitExceeded (K : PySem.W.Frag) : Addr := He.ga K "LimitExceeded"
def ad_CInvalidCount (K : PySem.W.Frag) : Addr := He.ga K "InvalidCount"
def ad_CInvalidConstant (K : PySem.W.Frag) : Addr := He.ga K "InvalidConstant"
def ad_CWish (K : PySem.W.Frag) : Addr := He.ga K "Wish"
def ad_f0 (K : PySem.W.Frag) : Addr := He.ma K (He.ga K "InvalidCode") "__init__"
def ad_f1 (K : PySem.W.Frag) : Addr := He.ma K (He.ga K "LimitExceeded") "__init__"
def ad_f2 (K : PySem.W.Frag) : Addr := He.ma K (He.ga K "InvalidCount") "__init__"
def ad_f3 (K : PySem.W.Frag) : Addr := He.ga K "is_count"
def ad_f4 (K : PySem.W.Frag) : Addr := He.ga K "check_count"
def ad_f5 (K : PySem.W.Frag) : Addr := He.ma K (He.ga K "InvalidConstant") "__init__"
def ad_f6 (K : PySem.W.Frag) : Addr := He.ga K "is_integer"
def ad_f7 (K : PySem.W.Frag) : Addr := He.ga K "check_range"
def ad_f8 (K : PySem.W.Frag) : Addr := He.ga K "check_values"
def ad_f9 (K : PySem.W.Frag) : Addr := He.ga K "part_fits"
def ad_f10 (K : PySem.W.Frag) : Addr := He.ga K "check_code"
def ad_f11 (K : PySem.W.Frag) : Addr := He.ma K (He.ga K "Wish") "__init__"
def ad_f12 (K : PySem.W.Frag) : Addr := He.ga K "_law_bag"
def ad_f13 (K : PySem.W.Frag) : Addr := He.ga K "_law_pull"
def ad_f14 (K : PySem.W.Frag) : Addr := He.ga K "_law_of"
def ad_f15 (K : PySem.W.Frag) : Addr := He.ga K "_law_field"
def ad_f16 (K : PySem.W.Frag) : Addr := He.ga K "_law_tried"
def ad_f17 (K : PySem.W.Frag) : Addr := He.ga K "_law_part"
def ad_f18 (K : PySem.W.Frag) : Addr := He.ga K "_law_maybe"
def ad_f19 (K : PySem.W.Frag) : Addr := He.ga K "_law_code"
def ad_f20 (K : PySem.W.Frag) : Addr := He.ga K "_law_all_kinds"
def ad_f21 (K : PySem.W.Frag) : Addr := He.ga K "_law_whole"
def ad_f22 (K : PySem.W.Frag) : Addr := He.ga K "_law_fits"
def ad_f23 (K : PySem.W.Frag) : Addr := He.ga K "_law_due"
def ad_f24 (K : PySem.W.Frag) : Addr := He.ga K "law"
def ad_cl24 (K : PySem.W.Frag) : Addr := Hk.rfA (Hk.cdV K (ad_f24 K))
def ad_Pl24 (K : PySem.W.Frag) : Addr := He.tabOf K (ad_cl24 K)
def ad_DPLAIN_WORDS (K : PySem.W.Frag) : Addr := He.ga K "PLAIN_WORDS"
abbrev dd_0 : Hk.Fd := ⟨ad_f0, "__init__", "InvalidCode.__init__", defArgs s_InvalidCode____init__, defBody s_InvalidCode____init__, defScope s_InvalidCode____init__⟩
abbrev dd_1 : Hk.Fd := ⟨ad_f1, "__init__", "LimitExceeded.__init__", defArgs s_LimitExceeded____init__, defBody s_LimitExceeded____init__, defScope s_LimitExceeded____init__⟩
abbrev dd_2 : Hk.Fd := ⟨ad_f2, "__init__", "InvalidCount.__init__", defArgs s_InvalidCount____init__, defBody s_InvalidCount____init__, defScope s_InvalidCount____init__⟩
abbrev dd_3 : Hk.Fd := ⟨ad_f3, "is_count", "is_count", defArgs s_is_count, defBody s_is_count, defScope s_is_count⟩
abbrev dd_4 : Hk.Fd := ⟨ad_f4, "check_count", "check_count", defArgs s_check_count, defBody s_check_count, defScope s_check_count⟩
abbrev dd_5 : Hk.Fd := ⟨ad_f5, "__init__", "InvalidConstant.__init__", defArgs s_InvalidConstant____init__, defBody s_InvalidConstant____init__, defScope s_InvalidConstant____init__⟩
abbrev dd_6 : Hk.Fd := ⟨ad_f6, "is_integer", "is_integer", defArgs s_is_integer, defBody s_is_integer, defScope s_is_integer⟩
abbrev dd_7 : Hk.Fd := ⟨ad_f7, "check_range", "check_range", defArgs s_check_range, defBody s_check_range, defScope s_check_range⟩
abbrev dd_8 : Hk.Fd := ⟨ad_f8, "check_values", "check_values", defArgs s_check_values, defBody s_check_values, defScope s_check_values⟩
abbrev dd_9 : Hk.Fd := ⟨ad_f9, "part_fits", "part_fits", defArgs s_part_fits, defBody s_part_fits, defScope s_part_fits⟩
abbrev dd_10 : Hk.Fd := ⟨ad_f10, "check_code", "check_code", defArgs s_check_code, defBody s_check_code, defScope s_check_code⟩
abbrev dd_11 : Hk.Fd := ⟨ad_f11, "__init__", "Wish.__init__", defArgs s_Wish____init__, defBody s_Wish____init__, defScope s_Wish____init__⟩
abbrev dd_12 : Hk.Fd := ⟨ad_f12, "_law_bag", "_law_bag", defArgs s__law_bag, defBody s__law_bag, defScope s__law_bag⟩
abbrev dd_13 : Hk.Fd := ⟨ad_f13, "_law_pull", "_law_pull", defArgs s__law_pull, defBody s__law_pull, defScope s__law_pull⟩
abbrev dd_14 : Hk.Fd := ⟨ad_f14, "_law_of", "_law_of", defArgs s__law_of, defBody s__law_of, defScope s__law_of⟩
abbrev dd_15 : Hk.Fd := ⟨ad_f15, "_law_field", "_law_field", defArgs s__law_field, defBody s__law_field, defScope s__law_field⟩
abbrev dd_16 : Hk.Fd := ⟨ad_f16, "_law_tried", "_law_tried", defArgs s__law_tried, defBody s__law_tried, defScope s__law_tried⟩
abbrev dd_17 : Hk.Fd := ⟨ad_f17, "_law_part", "_law_part", defArgs s__law_part, defBody s__law_part, defScope s__law_part⟩
abbrev dd_18 : Hk.Fd := ⟨ad_f18, "_law_maybe", "_law_maybe", defArgs s__law_maybe, defBody s__law_maybe, defScope s__law_maybe⟩
abbrev dd_19 : Hk.Fd := ⟨ad_f19, "_law_code", "_law_code", defArgs s__law_code, defBody s__law_code, defScope s__law_code⟩
abbrev dd_20 : Hk.Fd := ⟨ad_f20, "_law_all_kinds", "_law_all_kinds", defArgs s__law_all_kinds, defBody s__law_all_kinds, defScope s__law_all_kinds⟩
abbrev dd_21 : Hk.Fd := ⟨ad_f21, "_law_whole", "_law_whole", defArgs s__law_whole, defBody s__law_whole, defScope s__law_whole⟩
abbrev dd_22 : Hk.Fd := ⟨ad_f22, "_law_fits", "_law_fits", defArgs s__law_fits, defBody s__law_fits, defScope s__law_fits⟩
abbrev dd_23 : Hk.Fd := ⟨ad_f23, "_law_due", "_law_due", defArgs s__law_due, defBody s__law_due, defScope s__law_due⟩
abbrev dd_24 : Hk.Fd := ⟨ad_f24, "law", "law", defArgs s_law, defBody s_law, defScope s_law⟩
def hfns : List Hk.Fd := [dd_0, dd_1, dd_2, dd_3, dd_4, dd_5, dd_6, dd_7, dd_8, dd_9, dd_10, dd_11, dd_12, dd_13, dd_14, dd_15, dd_16, dd_17, dd_18, dd_19, dd_20, dd_21, dd_22, dd_23, dd_24]
def ck0 (K : PySem.W.Frag) : List Bool := [
  decide (PySem.W.nsIn K mainGlobals "NotsError" = some (some (.ref (ad_CNotsError K)))),
  decide (PySem.W.subIn K (.ref (ad_CNotsError K)) (.type "BaseException") = some true),
  PySem.W.isClsIn K (ad_CNotsError K),
  decide (PySem.W.typeIn K (.ref (ad_CNotsError K)) = some (.type "type")),
  decide (PySem.W.nsIn K mainGlobals "Absent" = some (some (.ref (ad_CAbsent K)))),
  decide (PySem.W.subIn K (.ref (ad_CAbsent K)) (.type "BaseException") = some true),
  PySem.W.isClsIn K (ad_CAbsent K),
  decide (PySem.W.typeIn K (.ref (ad_CAbsent K)) = some (.type "type")),
  decide (PySem.W.nsIn K mainGlobals "InvalidCode" = some (some (.ref (ad_CInvalidCode K)))),
  decide (PySem.W.nsIn K mainGlobals "LimitExceeded" = some (some (.ref (ad_CLimitExceeded K)))),
  decide (PySem.W.nsIn K mainGlobals "InvalidCount" = some (some (.ref (ad_CInvalidCount K)))),
  decide (PySem.W.nsIn K mainGlobals "InvalidConstant" = some (some (.ref (ad_CInvalidConstant K)))),
  Hk.exB K (ad_CInvalidCode K) [.ref (ad_CNotsError K), .type "ValueError", .type "Exception", .type "BaseException", .type "object"] "ValueError.__new__",
  decide (PySem.W.findIn K (.ref (ad_CInvalidCode K)) "__setattr__" = some (some (.builtin "object.__setattr__"))),
  decide (PySem.W.findIn K (.ref (ad_CInvalidCode K)) "__getattribute__" = some (some (.builtin "BaseException.__getattribute__"))),
  decide (PySem.W.findIn K (.ref (ad_CInvalidCode K)) "__getattr__" = some (none)),
  decide (PySem.W.findIn K (.ref (ad_CInvalidCode K)) "position" = some none),
  decide (PySem.W.findIn K (.ref (ad_CInvalidCode K)) "word" = some none),
  PySem.W.keepIn K (.ref (ad_CInvalidCode K)),
  decide (PySem.W.subIn K (.ref (ad_CInvalidCode K)) (.type "BaseException") = some true)]
def ck1 (K : PySem.W.Frag) : List Bool := [
  decide (PySem.W.typeIn K (.ref (ad_CInvalidCode K)) = some (.type "type")),
  PySem.W.hasDictIn K (ad_CInvalidCode K),
  decide (PySem.W.subIn K (.ref (ad_CInvalidCode K)) (.ref (ad_CNotsError K)) = some true),
  decide (PySem.W.subIn K (.ref (ad_CInvalidCode K)) (.ref (ad_CAbsent K)) = some false),
  decide (PySem.W.subIn K (.ref (ad_CInvalidCode K)) (.ref (ad_CInvalidConstant K)) = some false),
  decide (PySem.W.subIn K (.ref (ad_CInvalidCode K)) (.ref (ad_CInvalidCount K)) = some false),
  Hk.exB K (ad_CLimitExceeded K) [.ref (ad_CNotsError K), .type "ValueError", .type "Exception", .type "BaseException", .type "object"] "ValueError.__new__",
  decide (PySem.W.findIn K (.ref (ad_CLimitExceeded K)) "__setattr__" = some (some (.builtin "object.__setattr__"))),
  decide (PySem.W.findIn K (.ref (ad_CLimitExceeded K)) "__getattribute__" = some (some (.builtin "BaseException.__getattribute__"))),
  decide (PySem.W.findIn K (.ref (ad_CLimitExceeded K)) "__getattr__" = some (none)),
  decide (PySem.W.findIn K (.ref (ad_CLimitExceeded K)) "limit" = some none),
  decide (PySem.W.findIn K (.ref (ad_CLimitExceeded K)) "word" = some none),
  PySem.W.keepIn K (.ref (ad_CLimitExceeded K)),
  decide (PySem.W.subIn K (.ref (ad_CLimitExceeded K)) (.type "BaseException") = some true),
  decide (PySem.W.typeIn K (.ref (ad_CLimitExceeded K)) = some (.type "type")),
  PySem.W.hasDictIn K (ad_CLimitExceeded K),
  decide (PySem.W.subIn K (.ref (ad_CLimitExceeded K)) (.ref (ad_CNotsError K)) = some true),
  decide (PySem.W.subIn K (.ref (ad_CLimitExceeded K)) (.ref (ad_CAbsent K)) = some false),
  decide (PySem.W.subIn K (.ref (ad_CLimitExceeded K)) (.ref (ad_CInvalidConstant K)) = some false),
  decide (PySem.W.subIn K (.ref (ad_CLimitExceeded K)) (.ref (ad_CInvalidCount K)) = some false)]
def ck2 (K : PySem.W.Frag) : List Bool := [
  Hk.exB K (ad_CInvalidCount K) [.ref (ad_CNotsError K), .type "ValueError", .type "Exception", .type "BaseException", .type "object"] "ValueError.__new__",
  decide (PySem.W.findIn K (.ref (ad_CInvalidCount K)) "__setattr__" = some (some (.builtin "object.__setattr__"))),
  decide (PySem.W.findIn K (.ref (ad_CInvalidCount K)) "__getattribute__" = some (some (.builtin "BaseException.__getattribute__"))),
  decide (PySem.W.findIn K (.ref (ad_CInvalidCount K)) "__getattr__" = some (none)),
  decide (PySem.W.findIn K (.ref (ad_CInvalidCount K)) "value" = some none),
  decide (PySem.W.findIn K (.ref (ad_CInvalidCount K)) "word" = some none),
  PySem.W.keepIn K (.ref (ad_CInvalidCount K)),
  decide (PySem.W.subIn K (.ref (ad_CInvalidCount K)) (.type "BaseException") = some true),
  decide (PySem.W.typeIn K (.ref (ad_CInvalidCount K)) = some (.type "type")),
  PySem.W.hasDictIn K (ad_CInvalidCount K),
  PySem.W.isClsIn K (ad_CInvalidCount K),
  decide (PySem.W.subIn K (.ref (ad_CInvalidCount K)) (.ref (ad_CNotsError K)) = some true),
  decide (PySem.W.subIn K (.ref (ad_CInvalidCount K)) (.ref (ad_CAbsent K)) = some false),
  decide (PySem.W.subIn K (.ref (ad_CInvalidCount K)) (.ref (ad_CInvalidConstant K)) = some false),
  decide (PySem.W.subIn K (.ref (ad_CInvalidCount K)) (.ref (ad_CInvalidCount K)) = some true),
  Hk.exB K (ad_CInvalidConstant K) [.ref (ad_CNotsError K), .type "ValueError", .type "Exception", .type "BaseException", .type "object"] "ValueError.__new__",
  decide (PySem.W.findIn K (.ref (ad_CInvalidConstant K)) "__setattr__" = some (some (.builtin "object.__setattr__"))),
  decide (PySem.W.findIn K (.ref (ad_CInvalidConstant K)) "__getattribute__" = some (some (.builtin "BaseException.__getattribute__"))),
  decide (PySem.W.findIn K (.ref (ad_CInvalidConstant K)) "__getattr__" = some (none)),
  decide (PySem.W.findIn K (.ref (ad_CInvalidConstant K)) "value" = some none)]
def ck3 (K : PySem.W.Frag) : List Bool := [
  decide (PySem.W.findIn K (.ref (ad_CInvalidConstant K)) "word" = some none),
  PySem.W.keepIn K (.ref (ad_CInvalidConstant K)),
  decide (PySem.W.subIn K (.ref (ad_CInvalidConstant K)) (.type "BaseException") = some true),
  decide (PySem.W.typeIn K (.ref (ad_CInvalidConstant K)) = some (.type "type")),
  PySem.W.hasDictIn K (ad_CInvalidConstant K),
  PySem.W.isClsIn K (ad_CInvalidConstant K),
  decide (PySem.W.subIn K (.ref (ad_CInvalidConstant K)) (.ref (ad_CNotsError K)) = some true),
  decide (PySem.W.subIn K (.ref (ad_CInvalidConstant K)) (.ref (ad_CAbsent K)) = some false),
  decide (PySem.W.subIn K (.ref (ad_CInvalidConstant K)) (.ref (ad_CInvalidConstant K)) = some true),
  decide (PySem.W.subIn K (.ref (ad_CInvalidConstant K)) (.ref (ad_CInvalidCount K)) = some false),
  decide (PySem.W.nsIn K mainGlobals "Wish" = some (some (.ref (ad_CWish K)))),
  PySem.W.plainGet K (ad_CWish K) Str.empty,
  PySem.W.hasDictIn K (ad_CWish K),
  PySem.W.plainOver K (ad_CWish K),
  decide (PySem.W.findIn K (.ref (ad_CWish K)) "__setattr__" = some (some (.builtin "object.__setattr__"))),
  decide (PySem.W.findIn K (.ref (ad_CWish K)) "code" = some none),
  PySem.W.makesIn K (ad_CWish K),
  PySem.W.keepIn K (.ref (ad_CWish K)),
  decide (PySem.W.findIn K (.ref (ad_CInvalidCode K)) "__init__" = some (some (.ref (ad_f0 K)))),
  decide (PySem.W.typeIn K (.ref (ad_f0 K)) = some (.type "function"))]
def ck4 (K : PySem.W.Frag) : List Bool := [
  decide (Hk.dfV K (ad_f0 K) = .none),
  Hk.fnB K (ad_f0 K) "InvalidCode.__init__",
  PySem.W.keepIn K (.ref (ad_f0 K)),
  decide (PySem.W.findIn K (.ref (ad_CLimitExceeded K)) "__init__" = some (some (.ref (ad_f1 K)))),
  decide (PySem.W.typeIn K (.ref (ad_f1 K)) = some (.type "function")),
  decide (Hk.dfV K (ad_f1 K) = .none),
  Hk.fnB K (ad_f1 K) "LimitExceeded.__init__",
  PySem.W.keepIn K (.ref (ad_f1 K)),
  decide (PySem.W.findIn K (.ref (ad_CInvalidCount K)) "__init__" = some (some (.ref (ad_f2 K)))),
  decide (PySem.W.typeIn K (.ref (ad_f2 K)) = some (.type "function")),
  decide (Hk.dfV K (ad_f2 K) = .none),
  Hk.fnB K (ad_f2 K) "InvalidCount.__init__",
  PySem.W.keepIn K (.ref (ad_f2 K)),
  decide (PySem.W.nsIn K mainGlobals "is_count" = some (some (.ref (ad_f3 K)))),
  decide (Hk.dfV K (ad_f3 K) = .none),
  Hk.fnB K (ad_f3 K) "is_count",
  PySem.W.keepIn K (.ref (ad_f3 K)),
  decide (PySem.W.nsIn K mainGlobals "check_count" = some (some (.ref (ad_f4 K)))),
  decide (Hk.dfV K (ad_f4 K) = .none),
  Hk.fnB K (ad_f4 K) "check_count"]
def ck5 (K : PySem.W.Frag) : List Bool := [
  PySem.W.keepIn K (.ref (ad_f4 K)),
  decide (PySem.W.findIn K (.ref (ad_CInvalidConstant K)) "__init__" = some (some (.ref (ad_f5 K)))),
  decide (PySem.W.typeIn K (.ref (ad_f5 K)) = some (.type "function")),
  decide (Hk.dfV K (ad_f5 K) = .none),
  Hk.fnB K (ad_f5 K) "InvalidConstant.__init__",
  PySem.W.keepIn K (.ref (ad_f5 K)),
  decide (PySem.W.nsIn K mainGlobals "is_integer" = some (some (.ref (ad_f6 K)))),
  decide (Hk.dfV K (ad_f6 K) = .none),
  Hk.fnB K (ad_f6 K) "is_integer",
  PySem.W.keepIn K (.ref (ad_f6 K)),
  decide (PySem.W.nsIn K mainGlobals "check_range" = some (some (.ref (ad_f7 K)))),
  decide (Hk.dfV K (ad_f7 K) = .none),
  Hk.fnB K (ad_f7 K) "check_range",
  PySem.W.keepIn K (.ref (ad_f7 K)),
  decide (PySem.W.nsIn K mainGlobals "check_values" = some (some (.ref (ad_f8 K)))),
  decide (Hk.dfV K (ad_f8 K) = .none),
  Hk.fnB K (ad_f8 K) "check_values",
  PySem.W.keepIn K (.ref (ad_f8 K)),
  decide (PySem.W.nsIn K mainGlobals "part_fits" = some (some (.ref (ad_f9 K)))),
  decide (Hk.dfV K (ad_f9 K) = .none)]
def ck6 (K : PySem.W.Frag) : List Bool := [
  Hk.fnB K (ad_f9 K) "part_fits",
  PySem.W.keepIn K (.ref (ad_f9 K)),
  decide (PySem.W.nsIn K mainGlobals "check_code" = some (some (.ref (ad_f10 K)))),
  decide (Hk.dfV K (ad_f10 K) = .none),
  Hk.fnB K (ad_f10 K) "check_code",
  PySem.W.keepIn K (.ref (ad_f10 K)),
  decide (PySem.W.findIn K (.ref (ad_CWish K)) "__init__" = some (some (.ref (ad_f11 K)))),
  PySem.W.isFn K (.ref (ad_f11 K)),
  decide (Hk.dfV K (ad_f11 K) = .none),
  Hk.fnB K (ad_f11 K) "Wish.__init__",
  PySem.W.keepIn K (.ref (ad_f11 K)),
  decide (PySem.W.nsIn K mainGlobals "_law_bag" = some (some (.ref (ad_f12 K)))),
  decide (Hk.dfV K (ad_f12 K) = .none),
  Hk.fnB K (ad_f12 K) "_law_bag",
  PySem.W.keepIn K (.ref (ad_f12 K)),
  decide (PySem.W.nsIn K mainGlobals "_law_pull" = some (some (.ref (ad_f13 K)))),
  decide (Hk.dfV K (ad_f13 K) = .none),
  Hk.fnB K (ad_f13 K) "_law_pull",
  PySem.W.keepIn K (.ref (ad_f13 K)),
  decide (PySem.W.nsIn K mainGlobals "_law_of" = some (some (.ref (ad_f14 K))))]
def ck7 (K : PySem.W.Frag) : List Bool := [
  decide (Hk.dfV K (ad_f14 K) = .none),
  Hk.fnB K (ad_f14 K) "_law_of",
  PySem.W.keepIn K (.ref (ad_f14 K)),
  decide (PySem.W.nsIn K mainGlobals "_law_field" = some (some (.ref (ad_f15 K)))),
  decide (Hk.dfV K (ad_f15 K) = .none),
  Hk.fnB K (ad_f15 K) "_law_field",
  PySem.W.keepIn K (.ref (ad_f15 K)),
  decide (PySem.W.nsIn K mainGlobals "_law_tried" = some (some (.ref (ad_f16 K)))),
  decide (Hk.dfV K (ad_f16 K) = .none),
  Hk.fnB K (ad_f16 K) "_law_tried",
  PySem.W.keepIn K (.ref (ad_f16 K)),
  decide (PySem.W.nsIn K mainGlobals "_law_part" = some (some (.ref (ad_f17 K)))),
  decide (Hk.dfV K (ad_f17 K) = .none),
  Hk.fnB K (ad_f17 K) "_law_part",
  PySem.W.keepIn K (.ref (ad_f17 K)),
  decide (PySem.W.nsIn K mainGlobals "_law_maybe" = some (some (.ref (ad_f18 K)))),
  decide (Hk.dfV K (ad_f18 K) = .none),
  Hk.fnB K (ad_f18 K) "_law_maybe",
  PySem.W.keepIn K (.ref (ad_f18 K)),
  decide (PySem.W.nsIn K mainGlobals "_law_code" = some (some (.ref (ad_f19 K))))]
def ck8 (K : PySem.W.Frag) : List Bool := [
  decide (Hk.dfV K (ad_f19 K) = .none),
  Hk.fnB K (ad_f19 K) "_law_code",
  PySem.W.keepIn K (.ref (ad_f19 K)),
  decide (PySem.W.nsIn K mainGlobals "_law_all_kinds" = some (some (.ref (ad_f20 K)))),
  decide (Hk.dfV K (ad_f20 K) = .none),
  Hk.fnB K (ad_f20 K) "_law_all_kinds",
  PySem.W.keepIn K (.ref (ad_f20 K)),
  decide (PySem.W.nsIn K mainGlobals "_law_whole" = some (some (.ref (ad_f21 K)))),
  decide (Hk.dfV K (ad_f21 K) = .none),
  Hk.fnB K (ad_f21 K) "_law_whole",
  PySem.W.keepIn K (.ref (ad_f21 K)),
  decide (PySem.W.nsIn K mainGlobals "_law_fits" = some (some (.ref (ad_f22 K)))),
  decide (Hk.dfV K (ad_f22 K) = .none),
  Hk.fnB K (ad_f22 K) "_law_fits",
  PySem.W.keepIn K (.ref (ad_f22 K)),
  decide (PySem.W.nsIn K mainGlobals "_law_due" = some (some (.ref (ad_f23 K)))),
  decide (Hk.dfV K (ad_f23 K) = .none),
  Hk.fnB K (ad_f23 K) "_law_due",
  PySem.W.keepIn K (.ref (ad_f23 K)),
  decide (PySem.W.nsIn K mainGlobals "law" = some (some (.ref (ad_f24 K))))]
def ck9 (K : PySem.W.Frag) : List Bool := [
  decide (Hk.dfV K (ad_f24 K) = .none),
  decide (Hk.cdV K (ad_f24 K) = (.ref (ad_cl24 K))),
  Hk.fnB K (ad_f24 K) "law",
  PySem.W.keepIn K (.ref (ad_f24 K)),
  Hk.tbB K (ad_cl24 K),
  PySem.W.codeHdIn K (ad_cl24 K) (ad_Pl24 K),
  Hk.nsB K mainGlobals "MAX_CONSTANT" (.int 3),
  Hk.nsB K mainGlobals "MAX_MODULUS" (.int 4),
  Hk.nsB K mainGlobals "MAX_PARTS" (.int 60),
  Hk.nsB K mainGlobals "MIN_MODULUS" (.int 2),
  decide (PySem.W.nsIn K mainGlobals "PLAIN_WORDS" = some (some (.ref (ad_DPLAIN_WORDS K)))),
  Hk.tpB K (ad_DPLAIN_WORDS K) [.str "yes", .str "no", .str "not", .str "and", .str "or"],
  decide (PySem.W.nsIn K mainGlobals "bool" = some none),
  decide (PySem.W.nsIn K mainGlobals "enumerate" = some none),
  decide (PySem.W.nsIn K mainGlobals "int" = some none),
  decide (PySem.W.nsIn K mainGlobals "isinstance" = some none),
  decide (PySem.W.nsIn K mainGlobals "len" = some none),
  decide (PySem.W.nsIn K mainGlobals "list" = some none),
  decide (PySem.W.nsIn K mainGlobals "range" = some none),
  decide (PySem.W.nsIn K mainGlobals "str" = some none)]
def ck10 (K : PySem.W.Frag) : List Bool := [
  decide (PySem.W.nsIn K mainGlobals "tuple" = some none)]
def cks0 : List (PySem.W.Frag → List Bool) := [ck0, ck1, ck2, ck3, ck4]
def cks1 : List (PySem.W.Frag → List Bool) := [ck5, ck6, ck7, ck8, ck9]
def cks2 : List (PySem.W.Frag → List Bool) := [ck10]
def cks : List (PySem.W.Frag → List Bool) := cks0 ++ (cks1 ++ (cks2))
def htf : List (PySem.W.Frag → Addr) := [ad_Pl24]
abbrev hR : PySem.W.OpenRow := PySem.W.OpenLaw.row PySem.Challenge.rw_sparenots_k06_invalid_codes
abbrev hk : PySem.W.Hook := Hk.hook 20000 (Hk.allB cks) hfns htf
def hob (s : PySem.W.SharedT) : Hk.Al := Hk.obs 20000 (Hk.allB cks) hfns htf (HandSHeadRun.getT s)
theorem hob_eq (s : PySem.W.SharedT) : hob s = hk.obs s.abs := Hk.obs_eq (HandSHeadRun.getT_eq s)
def hl0 : List PySem.Str := ["_wall", "NotsError", "Absent", "InvalidSituation", "InvalidCount", "InvalidConstant", "InvalidCode", "InvalidText", "LimitExceeded", "COUNTS", "ORIGIN", "is_integer", "check_situation", "value_of", "moved", "MAX_PARTS", "MAX_CONSTANT", "MIN_MODULUS", "MAX_MODULUS", "PLAIN_WORDS"]
def hl1 : List PySem.Str := ["is_count", "check_count", "check_range", "check_values", "part_fits", "check_code", "comparison_holds", "evaluate", "written_comparison", "in_brackets", "written", "MAX_TEXT", "MAX_DIGITS", "SMALL", "FIGURES", "tokens_of", "is_number", "Tokens", "read_comparison", "read_operand"]
def hl2 : List PySem.Str := ["finish_nots", "close_brackets", "read_code", "used_counts", "greatest_constant", "common_multiple", "common_period", "ordered", "with_gaps", "representatives", "first_holding", "NOT_PART", "AND_PART", "OR_PART", "checked_length", "parting_codes", "Wish", "_law_bag", "_law_pull", "_law_of"]
def hl3 : List PySem.Str := ["_law_field", "_law_tried", "_law_part", "_law_maybe", "_law_code", "_law_all_kinds", "_law_whole", "_law_fits", "_law_due"]
def hloose : List PySem.Str := hl0 ++ hl1 ++ hl2 ++ hl3
def hK (s : PySem.W.SharedT) : PySem.W.Frag := He.frT (HandSHeadRun.getT s) (Hk.asK (HandSHeadRun.getT s) 20000)
theorem hAB (w : World) (os : OsState) : (HandSHeadRun.endF (HandSHeadRun.stepQ (HandSHeadRun.denQ HandSHeadRun.tabQ) hR.prog w) 30000 hR.prog w os).map (fun s => (HandSHeadRun.looksF hR.prog (PySem.W.boot_heap w.params) s.abs, HandSHeadRun.seenQ (PySem.W.view hR.prog [76]) hloose (importedModules hR.prog.main.body) (fun s => PySem.W.xlAt (PySem.W.view hR.prog [76]) [] s && PySem.W.recOk hR.toRowW.records s) s.abs)) = some (true, PySem.W.openGood (PySem.W.view hR.prog [76]) hloose) := by kernel_rfl
theorem hTD (w : World) (os : OsState) : (HandSHeadRun.endF (HandSHeadRun.stepQ (HandSHeadRun.denQ HandSHeadRun.tabQ) hR.prog w) 30000 hR.prog w os).map (fun s => (Hk.tfB (HandSHeadRun.getT s) htf (hK s), hfns.map fun d => Hk.fv (hK s) (d.at_ (hK s)))) = some (true, hfns.map Hk.Fd.val) := by kernel_rfl
theorem hC0 (w : World) (os : OsState) : (HandSHeadRun.endF (HandSHeadRun.stepQ (HandSHeadRun.denQ HandSHeadRun.tabQ) hR.prog w) 30000 hR.prog w os).map (fun s => Hk.allB cks0 (hK s)) = some true := by kernel_rfl
theorem hC1 (w : World) (os : OsState) : (HandSHeadRun.endF (HandSHeadRun.stepQ (HandSHeadRun.denQ HandSHeadRun.tabQ) hR.prog w) 30000 hR.prog w os).map (fun s => Hk.allB cks1 (hK s)) = some true := by kernel_rfl
theorem hC2 (w : World) (os : OsState) : (HandSHeadRun.endF (HandSHeadRun.stepQ (HandSHeadRun.denQ HandSHeadRun.tabQ) hR.prog w) 30000 hR.prog w os).map (fun s => Hk.allB cks2 (hK s)) = some true := by kernel_rfl
theorem hrun (w : World) : HandSHeadRun.RunEq hR (PySem.W.view hR.prog [76]) hk hob 30000 hloose w := by
  intro os
  have z := Hk.map_tri (hAB w os) (Hk.map_and (Hk.all_app (hC0 w os) (Hk.all_app (hC1 w os) (hC2 w os))) (hTD w os))
  exact z
end Wl
namespace Wl
open PySem PySem.Spec PyProof.Rows L2 RZ My
theorem ok_InvalidCode____init__ {P : Program} {w : World} {K : PySem.W.Frag} {mg : Str → Option Value} {base : Heap} (T : Txt K mg) : FnOk P w K mg base CX0 lv_InvalidCode____init__ T.f_InvalidCode____init__ T.fd_InvalidCode____init__ ["self", "position"] (spExc1 T.c_InvalidCode "position" "invalidcode") := by
  refine T.F_InvalidCode____init__.ok sc_InvalidCode____init__ (fun vs H Q E h => by obtain ⟨a, v, rfl, _⟩ := h; rfl) (fun cdv A outer s H vs Q E hr h => ?_)
  obtain ⟨a, v, rfl, ha, k⟩ := h
  refine ⟨_, (pss_cons (ps_ost (pv 0) (pv 1))
      (pss_one (ps_ost (pv 0) pe_str))), ?_⟩
  (try dsimp only [cxOf, L2H.cxH, gcxOf, Cx.nox, Cx.wish]); rw [show L2.start _ [(.ref a : V), (v : V)] = [some (.ref a), some (v)] from rfl]
  walk_at "rd"
  try refine s_ost ?_
  walk_at "rd"
  refine s_ost1 T.T_InvalidCode T.n_InvalidCode_position ha fun dx hd hda => ?_
  try refine s_ost ?_
  walk_at "rd"
  refine s_ost2 T.T_InvalidCode T.n_InvalidCode_word upd_same (by rw [upd_ne hda, upd_same]) (Nat.le_of_ble_eq_true rfl) ?_
  exact k dx hd hda
end Wl
namespace Wl
open PySem PySem.Spec PyProof.Rows L2 RZ My
theorem ok_LimitExceeded____init__ {P : Program} {w : World} {K : PySem.W.Frag} {mg : Str → Option Value} {base : Heap} (T : Txt K mg) : FnOk P w K mg base CX0 lv_LimitExceeded____init__ T.f_LimitExceeded____init__ T.fd_LimitExceeded____init__ ["self", "limit"] (spExc1 T.c_LimitExceeded "limit" "limitexceeded") := by
  refine T.F_LimitExceeded____init__.ok sc_LimitExceeded____init__ (fun vs H Q E h => by obtain ⟨a, v, rfl, _⟩ := h; rfl) (fun cdv A outer s H vs Q E hr h => ?_)
  obtain ⟨a, v, rfl, ha, k⟩ := h
  refine ⟨_, (pss_cons (ps_ost (pv 0) (pv 1))
      (pss_one (ps_ost (pv 0) pe_str))), ?_⟩
  (try dsimp only [cxOf, L2H.cxH, gcxOf, Cx.nox, Cx.wish]); rw [show L2.start _ [(.ref a : V), (v : V)] = [some (.ref a), some (v)] from rfl]
  walk_at "rd"
  try refine s_ost ?_
  walk_at "rd"
  refine s_ost1 T.T_LimitExceeded T.n_LimitExceeded_limit ha fun dx hd hda => ?_
  try refine s_ost ?_
  walk_at "rd"
  refine s_ost2 T.T_LimitExceeded T.n_LimitExceeded_word upd_same (by rw [upd_ne hda, upd_same]) (Nat.le_of_ble_eq_true rfl) ?_
  exact k dx hd hda
end Wl
namespace Wl
open PySem PySem.Spec PyProof.Rows L2 RZ My
theorem ok_InvalidCount____init__ {P : Program} {w : World} {K : PySem.W.Frag} {mg : Str → Option Value} {base : Heap} (T : Txt K mg) : FnOk P w K mg base CX0 lv_InvalidCount____init__ T.f_InvalidCount____init__ T.fd_InvalidCount____init__ ["self", "value"] (spExc1 T.c_InvalidCount "value" "invalidcount") := by
  refine T.F_InvalidCount____init__.ok sc_InvalidCount____init__ (fun vs H Q E h => by obtain ⟨a, v, rfl, _⟩ := h; rfl) (fun cdv A outer s H vs Q E hr h => ?_)
  obtain ⟨a, v, rfl, ha, k⟩ := h
  refine ⟨_, (pss_cons (ps_ost (pv 0) (pv 1))
      (pss_one (ps_ost (pv 0) pe_str))), ?_⟩
  (try dsimp only [cxOf, L2H.cxH, gcxOf, Cx.nox, Cx.wish]); rw [show L2.start _ [(.ref a : V), (v : V)] = [some (.ref a), some (v)] from rfl]
  walk_at "rd"
  try refine s_ost ?_
  walk_at "rd"
  refine s_ost1 T.T_InvalidCount T.n_InvalidCount_value ha fun dx hd hda => ?_
  try refine s_ost ?_
  walk_at "rd"
  refine s_ost2 T.T_InvalidCount T.n_InvalidCount_word upd_same (by rw [upd_ne hda, upd_same]) (Nat.le_of_ble_eq_true rfl) ?_
  exact k dx hd hda
end Wl
namespace Wl
open PySem PySem.Spec PyProof.Rows L2 RZ My
theorem ok_InvalidConstant____init__ {P : Program} {w : World} {K : PySem.W.Frag} {mg : Str → Option Value} {base : Heap} (T : Txt K mg) : FnOk P w K mg base CX0 lv_InvalidConstant____init__ T.f_InvalidConstant____init__ T.fd_InvalidConstant____init__ ["self", "value"] (spExc1 T.c_InvalidConstant "value" "invalidconstant") := by
  refine T.F_InvalidConstant____init__.ok sc_InvalidConstant____init__ (fun vs H Q E h => by obtain ⟨a, v, rfl, _⟩ := h; rfl) (fun cdv A outer s H vs Q E hr h => ?_)
  obtain ⟨a, v, rfl, ha, k⟩ := h
  refine ⟨_, (pss_cons (ps_ost (pv 0) (pv 1))
      (pss_one (ps_ost (pv 0) pe_str))), ?_⟩
  (try dsimp only [cxOf, L2H.cxH, gcxOf, Cx.nox, Cx.wish]); rw [show L2.start _ [(.ref a : V), (v : V)] = [some (.ref a), some (v)] from rfl]
  walk_at "rd"
  try refine s_ost ?_
  walk_at "rd"
  refine s_ost1 T.T_InvalidConstant T.n_InvalidConstant_value ha fun dx hd hda => ?_
  try refine s_ost ?_
  walk_at "rd"
  refine s_ost2 T.T_InvalidConstant T.n_InvalidConstant_word upd_same (by rw [upd_ne hda, upd_same]) (Nat.le_of_ble_eq_true rfl) ?_
  exact k dx hd hda
end Wl
namespace Wl
open PySem PySem.Spec PyProof.Rows L2 RZ My
theorem ok__law_field {P : Program} {w : World} {K : PySem.W.Frag} {mg : Str → Option Value} {base : Heap} (T : Txt K mg) : FnP P w K mg base CX0 lv__law_field T.f__law_field T.fd__law_field ["_law_e"] (sp_field K) := by
  refine fun_okP T.F__law_field sc__law_field (fun a c d vs H Q E h => by rw [h.1]; rfl) (fun cdv A outer s H vs Q E a oe cls d hr hz hf h => ?_)
  obtain ⟨rfl, C, dd, fs, w, rfl, rfl, x, hd, hw, told⟩ := h
  refine ⟨_, (pss_cons (ps_if (pt_cmpR (opInK K) (pe_xg (.head _) hz hf (pv 0)) (pe_lst (pa_cons pe_str (pa_cons pe_str (pa_cons pe_str (pa_cons pe_str (pa_cons pe_str (pa_cons pe_str pa_nil))))))) (by first | exact nomark _ | rfl))
        (pss_one (ps_ret (pe_xg (.head _) hz hf (pv 0))))
        pss_nil)
      (pss_cons (ps_if (pt_cmpR (opInK K) (pe_xg (.head _) hz hf (pv 0)) (pe_lst (pa_cons pe_str (pa_cons pe_str (pa_cons pe_str pa_nil)))) (by first | exact nomark _ | rfl))
        (pss_one (ps_ret (pe_xg (.head _) hz hf (pv 0))))
        pss_nil)
      (pss_cons (ps_if (pt_cmpR (opInK K) (pe_xg (.head _) hz hf (pv 0)) (pe_lst (pa_cons pe_str (pa_cons pe_str (pa_cons pe_str pa_nil)))) (by first | exact nomark _ | rfl))
        (pss_one (ps_ret (pe_xg (.head _) hz hf (pv 0))))
        pss_nil)
      (pss_cons (ps_if (pt_cmpR (opInK K) (pe_xg (.head _) hz hf (pv 0)) (pe_lst (pa_cons pe_str (pa_cons pe_str pa_nil))) (by first | exact nomark _ | rfl))
        (pss_one (ps_ret (pe_xg (.head _) hz hf (pv 0))))
        pss_nil)
      (pss_cons (ps_if (pt_cmpR (opEqK K hr.units) (pe_xg (.head _) hz hf (pv 0)) pe_str (by first | exact nomark _ | rfl))
        (pss_one (ps_ret (pe_tup (pa_cons (pe_xg (.head _) hz hf (pv 0)) (pa_cons (pe_xg (.head _) hz hf (pv 0)) pa_nil)))))
        pss_nil)
      (pss_cons (ps_if (pt_cmpR (opEqK K hr.units) (pe_xg (.head _) hz hf (pv 0)) pe_str (by first | exact nomark _ | rfl))
        (pss_one (ps_ret (pe_xg (.head _) hz hf (pv 0))))
        pss_nil)
      (pss_cons (ps_if (pt_cmpR (opEqK K hr.units) (pe_xg (.head _) hz hf (pv 0)) pe_str (by first | exact nomark _ | rfl))
        (pss_one (ps_ret (pe_xg (.head _) hz hf (pv 0))))
        pss_nil)
      (pss_cons (ps_if (pt_cmpR (opEqK K hr.units) (pe_xg (.head _) hz hf (pv 0)) pe_str (by first | exact nomark _ | rfl))
        (pss_one (ps_ret (pe_xg (.head _) hz hf (pv 0))))
        pss_nil)
      (pss_cons (ps_if (pt_cmpR (opEqK K hr.units) (pe_xg (.head _) hz hf (pv 0)) pe_str (by first | exact nomark _ | rfl))
        (pss_one (ps_ret (pe_xg (.head _) hz hf (pv 0))))
        pss_nil)
      (pss_one (ps_ret pe_non))))))))))), ?_⟩
  (try dsimp only [cxOf, L2H.cxH, gcxOf, Cx.nox, Cx.wish]); rw [show L2.start _ [(.ref a : V)] = [some (.ref a)] from rfl]
  rcases told with ⟨v, hv, k⟩ | ⟨hg, n, u, hn, hu, k⟩
  · skip
    have xf := x.fl
    unfold fldVal at hv
    unfold fldName at hv xf
    walk_at "rd"
    refine s_xgV x.xf x.wd hd hw ?_
    walk_at "rd"
    refine ⟨szb rfl, fun p0 n0 => ?_⟩
    have f0 : Fr N0 H (upd H p0 (.lst [.str "invalidsteps", .str "invalidcode", .str "invalidtext", .str "invalidcorner", .str "notquiet", .str "invaliddeed"])) := Fr.new n0
    refine s_inL (SqL.of upd_same) rfl rfl ?_
    have d0 := f0.keep _ _ hd id
    generalize upd H p0 (.lst [.str "invalidsteps", .str "invalidcode", .str "invalidtext", .str "invalidcorner", .str "notquiet", .str "invaliddeed"]) = H0 at f0 d0 ⊢
    walk_at "rd"
    refine if_bl (fun e => ?_) (fun e => ?_)
    · rw [if_pos e] at hv
      walk_at "rd"
      exact s_xgV x.xf (xf _ (by rw [if_pos e])) d0 hv (k _ f0)
    rw [if_neg (by rw [e]; exact Bool.false_ne_true)] at hv xf
    walk_at "rd"
    refine s_xgV x.xf x.wd d0 hw ?_
    walk_at "rd"
    refine ⟨szb rfl, fun p1 n1 => ?_⟩
    have f1 := f0.trans (Fr.new (N := N0) (o := .lst [.str "invalidcount", .str "invalidconstant", .str "invalidbudget"]) n1)
    refine s_inL (SqL.of upd_same) rfl rfl ?_
    have d1 := f1.keep _ _ hd id
    generalize upd H0 p1 (.lst [.str "invalidcount", .str "invalidconstant", .str "invalidbudget"]) = H1 at f1 d1 ⊢
    walk_at "rd"
    refine if_bl (fun e => ?_) (fun e => ?_)
    · rw [if_pos e] at hv
      walk_at "rd"
      exact s_xgV x.xf (xf _ (by rw [if_pos e])) d1 hv (k _ f1)
    rw [if_neg (by rw [e]; exact Bool.false_ne_true)] at hv xf
    walk_at "rd"
    refine s_xgV x.xf x.wd d1 hw ?_
    walk_at "rd"
    refine ⟨szb rfl, fun p2 n2 => ?_⟩
    have f2 := f1.trans (Fr.new (N := N0) (o := .lst [.str "invalidname", .str "duplicatename", .str "unknownname"]) n2)
    refine s_inL (SqL.of upd_same) rfl rfl ?_
    have d2 := f2.keep _ _ hd id
    generalize upd H1 p2 (.lst [.str "invalidname", .str "duplicatename", .str "unknownname"]) = H2 at f2 d2 ⊢
    walk_at "rd"
    refine if_bl (fun e => ?_) (fun e => ?_)
    · rw [if_pos e] at hv
      walk_at "rd"
      exact s_xgV x.xf (xf _ (by rw [if_pos e])) d2 hv (k _ f2)
    rw [if_neg (by rw [e]; exact Bool.false_ne_true)] at hv xf
    walk_at "rd"
    refine s_xgV x.xf x.wd d2 hw ?_
    walk_at "rd"
    refine ⟨szb rfl, fun p3 n3 => ?_⟩
    have f3 := f2.trans (Fr.new (N := N0) (o := .lst [.str "invalidfile", .str "invalidcommand"]) n3)
    refine s_inL (SqL.of upd_same) rfl rfl ?_
    have d3 := f3.keep _ _ hd id
    generalize upd H2 p3 (.lst [.str "invalidfile", .str "invalidcommand"]) = H3 at f3 d3 ⊢
    walk_at "rd"
    refine if_bl (fun e => ?_) (fun e => ?_)
    · rw [if_pos e] at hv
      walk_at "rd"
      exact s_xgV x.xf (xf _ (by rw [if_pos e])) d3 hv (k _ f3)
    rw [if_neg (by rw [e]; exact Bool.false_ne_true)] at hv xf
    walk_at "rd"
    refine s_xgV x.xf x.wd d3 hw ?_
    walk_at "rd"
    refine if_bl (fun e => ?_) (fun e => ?_)
    · rw [if_pos e] at hv
      unfold isGate at hv
      simp only [e, if_true] at hv
      cases hv
    have ng : isGate w = false := e
    rw [if_neg (by rw [e]; exact Bool.false_ne_true)] at hv xf
    walk_at "rd"
    refine s_xgV x.xf x.wd d3 hw ?_
    walk_at "rd"
    refine if_bl (fun e => ?_) (fun e => ?_)
    · rw [if_pos e] at hv
      walk_at "rd"
      exact s_xgV x.xf (xf _ (by rw [if_pos e])) d3 hv (k _ f3)
    rw [if_neg (by rw [e]; exact Bool.false_ne_true)] at hv xf
    walk_at "rd"
    refine s_xgV x.xf x.wd d3 hw ?_
    walk_at "rd"
    refine if_bl (fun e => ?_) (fun e => ?_)
    · rw [if_pos e] at hv
      walk_at "rd"
      exact s_xgV x.xf (xf _ (by rw [if_pos e])) d3 hv (k _ f3)
    rw [if_neg (by rw [e]; exact Bool.false_ne_true)] at hv xf
    walk_at "rd"
    refine s_xgV x.xf x.wd d3 hw ?_
    walk_at "rd"
    refine if_bl (fun e => ?_) (fun e => ?_)
    · rw [if_pos e] at hv
      walk_at "rd"
      exact s_xgV x.xf (xf _ (by rw [if_pos e])) d3 hv (k _ f3)
    rw [if_neg (by rw [e]; exact Bool.false_ne_true)] at hv xf
    walk_at "rd"
    refine s_xgV x.xf x.wd d3 hw ?_
    walk_at "rd"
    refine if_bl (fun e => ?_) (fun e => ?_)
    · rw [if_pos e] at hv
      walk_at "rd"
      exact s_xgV x.xf (xf _ (by rw [if_pos e])) d3 hv (k _ f3)
    rw [if_neg (by rw [e]; exact Bool.false_ne_true)] at hv
    simp only [ng, Bool.false_eq_true, if_false] at hv
    cases hv
    walk_at "rd"
    exact k _ f3
  · have ew : w = "gateinuse" := of_decide_eq_true hg
    subst ew
    have gt := x.gt hg
    walk_at "rd"
    refine s_xgV x.xf x.wd hd hw ?_
    walk_at "rd"
    refine ⟨szb rfl, fun p0 n0 => ?_⟩
    have f0 : Fr N0 H (upd H p0 (.lst [.str "invalidsteps", .str "invalidcode", .str "invalidtext", .str "invalidcorner", .str "notquiet", .str "invaliddeed"])) := Fr.new n0
    refine s_inL (SqL.of upd_same) rfl rfl ?_
    have d0 := f0.keep _ _ hd id
    generalize upd H p0 (.lst [.str "invalidsteps", .str "invalidcode", .str "invalidtext", .str "invalidcorner", .str "notquiet", .str "invaliddeed"]) = H0 at f0 d0 ⊢
    walk_at "rd"
    refine s_xgV x.xf x.wd d0 hw ?_
    walk_at "rd"
    refine ⟨szb rfl, fun p1 n1 => ?_⟩
    have f1 := f0.trans (Fr.new (N := N0) (o := .lst [.str "invalidcount", .str "invalidconstant", .str "invalidbudget"]) n1)
    refine s_inL (SqL.of upd_same) rfl rfl ?_
    have d1 := f1.keep _ _ hd id
    generalize upd H0 p1 (.lst [.str "invalidcount", .str "invalidconstant", .str "invalidbudget"]) = H1 at f1 d1 ⊢
    walk_at "rd"
    refine s_xgV x.xf x.wd d1 hw ?_
    walk_at "rd"
    refine ⟨szb rfl, fun p2 n2 => ?_⟩
    have f2 := f1.trans (Fr.new (N := N0) (o := .lst [.str "invalidname", .str "duplicatename", .str "unknownname"]) n2)
    refine s_inL (SqL.of upd_same) rfl rfl ?_
    have d2 := f2.keep _ _ hd id
    generalize upd H1 p2 (.lst [.str "invalidname", .str "duplicatename", .str "unknownname"]) = H2 at f2 d2 ⊢
    walk_at "rd"
    refine s_xgV x.xf x.wd d2 hw ?_
    walk_at "rd"
    refine ⟨szb rfl, fun p3 n3 => ?_⟩
    have f3 := f2.trans (Fr.new (N := N0) (o := .lst [.str "invalidfile", .str "invalidcommand"]) n3)
    refine s_inL (SqL.of upd_same) rfl rfl ?_
    have d3 := f3.keep _ _ hd id
    generalize upd H2 p3 (.lst [.str "invalidfile", .str "invalidcommand"]) = H3 at f3 d3 ⊢
    walk_at "rd"
    refine s_xgV x.xf x.wd d3 hw ?_
    walk_at "rd"
    first
      | (refine if_bl (fun _ => ?_) (fun e => absurd e (by decide +kernel)); walk_at "rd")
      | skip
    refine s_xgV x.xf gt.1 d3 hn ?_
    walk_at "rd"
    refine s_xgV x.xf gt.2 d3 hu ?_
    walk_at "rd"
    exact ⟨szb rfl, fun p hp => k _ f3 p hp⟩
end Wl
namespace Wl
open PySem PySem.Spec PyProof.Rows L2 RZ My
theorem gives__law_tried {K : PySem.W.Frag} {mg : Str → Option Value} (T : Txt K mg) {X : Cx} (eK : X.K = K) (em : X.mg = mg) (hr : Room lv__law_tried X.A) {q : Str} (cdg : Value) : LamX.GivesTo X ["_law_ask", "_law_e"] "_law_tried" (defScope s__law_tried) T.f__law_tried cdg (defBody s__law_tried) "_law_ask" q (TTt K T.c_NotsError T.c_Absent) := by
  subst eK em
  intro f c' s H Q tl act hc h
  have G__law_field := ok__law_field (P := X.prog) (w := X.w) (base := X.base) T
  have hrF : ∀ a, L2H.RoomH lv__law_field ((X.A.deeper (envOfC "_law_tried" (defScope s__law_tried) s.heap.objs.size T.f__law_tried cdg)).mark (some (.ref a))) := fun a => roomH_mk ((hr.mono (j := lv__law_field + 1) (by decide)).deeper _) _
  refine ⟨_, pss_one (ps_try_manyA (X := cxG X ["_law_ask", "_law_e"] "_law_tried" (defScope s__law_tried) T.f__law_tried cdg s H) (i := 1) (n := "_law_e") (l := [(.ref T.c_NotsError, fun a cls d D σ H => σ.length = 2 → tRet (tTup (tCons (tXg X.K a cls d "word" (tVar 1)) (tCons (tCall (sp_field X.K a cls d) [] C8.E0 (tCons (tVar 1) tNil)) tNil))) D σ H), (.ref T.c_Absent, fun a cls d D σ H => σ.length = 2 → tRet (tTup (tCons (tXg X.K a cls d "word" (tVar 1)) (tCons (tCall (sp_field X.K a cls d) [] C8.E0 (tCons (tVar 1) tNil)) tNil))) D σ H)])
    (tb := fun W D σ H => ∃ Ech : XK, (∀ cls d σ' H', Ech cls d H' → W cls d σ' H') ∧ σ[0]? = some (some (.ref f)) ∧ H c' = some (LamX.CodeO c' q) ∧ tl Ech H (fun v H1 => [V.str "", v].length ≤ sizeLine ∧ ∀ p, H1 p = none → D.rt (.ref p) (upd H1 p (.tup [.str "", v]))))
    rfl rfl sc__law_tried.nd rfl rfl LamX.takes0 (fun W pn xe tk _ => ?_)
    ?_), ?_⟩
  · refine ⟨fun pins s' σ H' D I h' => ?_⟩
    obtain ⟨Ech, hW, h1, h2, h3⟩ := h'
    exact (pss_one (ps_ret (pe_tup (pa_cons pe_str (pa_cons (act W pn xe Ech _ _ tk hW) pa_nil))))).run pins s' σ H' D I ⟨h1, h2, h3⟩
  · refine HdsA.consL (ts := fun a cls d => tRet (tTup (tCons (tXg X.K a cls d "word" (tVar 1)) (tCons (tCall (sp_field X.K a cls d) [] C8.E0 (tCons (tVar 1) tNil)) tNil)))) 2 rfl ⟨rfl, by decide, .inl T.g_NotsError⟩ (fun a oe cls d pn hz hf => ?_) (HdsA.consL (ts := fun a cls d => tRet (tTup (tCons (tXg X.K a cls d "word" (tVar 1)) (tCons (tCall (sp_field X.K a cls d) [] C8.E0 (tCons (tVar 1) tNil)) tNil)))) 2 rfl ⟨rfl, by decide, .inl T.g_Absent⟩ (fun a oe cls d pn hz hf => ?_) .nil)
    · exact pss_one (ps_ret (pe_tup (pa_cons (pe_xg (.head _) hz hf (pv 1)) (pa_cons (pe_callP (X := (cxG X ["_law_ask", "_law_e"] "_law_tried" (defScope s__law_tried) T.f__law_tried cdg s H).suite a ((a, oe) :: pn)) G__law_field (hrF a) (.head _) hz hf (by rfl) T.g__law_field T.F__law_field.kp T.b__law_field pass0 (pa_cons (pv 1) pa_nil)) pa_nil))))
    · exact pss_one (ps_ret (pe_tup (pa_cons (pe_xg (.head _) hz hf (pv 1)) (pa_cons (pe_callP (X := (cxG X ["_law_ask", "_law_e"] "_law_tried" (defScope s__law_tried) T.f__law_tried cdg s H).suite a ((a, oe) :: pn)) G__law_field (hrF a) (.head _) hz hf (by rfl) T.g__law_field T.F__law_field.kp T.b__law_field pass0 (pa_cons (pv 1) pa_nil)) pa_nil))))
  · have fin : ∀ {a : Addr} {cls : Value} {d : Option Addr} {σ : L2.St} {H' : Hp} {C dd : Addr} {fs : List (Str × V)} {w : Str} {nx bk ct : L2.St → Hp → Prop}, σ.length = 2 → cls = .ref C → d = some dd → XOk X.K C w → H' dd = some (.xd fs) → fs.lookup ("word" : Str) = some (.str w) →
        (Told w fs H' fun v H2 => ∀ p, H2 p = none → Q (.ref p) (upd H2 p (.tup [.str w, v]))) →
        tRet (tTup (tCons (tXg X.K a cls d "word" (tVar 1)) (tCons (tCall (sp_field X.K a cls d) [] C8.E0 (tCons (tVar 1) tNil)) tNil))) ⟨nx, Q, bk, ct⟩ (σ.set 1 (some (.ref a))) H' := by
      intro a cls d σ H' C dd fs w nx bk ct hl e1 e2 x hd hw k
      subst e1 e2
      match σ, hl with
      | [y, z], _ =>
        simp only [List.set_cons_zero, List.set_cons_succ]
        walk_at "rd"
        refine s_xgV x.xf x.wd hd hw ?_
        walk_at "rd"
        refine ⟨rfl, C, dd, fs, w, rfl, rfl, x, hd, hw, k.mono fun v H2 q => ?_⟩
        walk_at "rd"
        exact ⟨szb rfl, fun p hp => q p hp⟩
    refine ⟨fun cls d H' => xCase X.K T.c_NotsError T.c_Absent cls d H' Q, fun cls d σ' H' hx => ?_, rfl, hc, ?_⟩
    · obtain ⟨C, dd, fs, w, e1, e2, x, hd, hw, hm, k⟩ := hx
      rcases hm with hm | ⟨hm, hm2⟩
      · exact ⟨true, by rw [e1]; exact hm, fun _ a ha hl => fin (by rw [List.length_set] at hl; exact hl) e1 e2 x hd hw k, fun z => by cases z⟩
      · exact ⟨false, by rw [e1]; exact hm, fun z => (by cases z), fun _ => ⟨true, by rw [e1]; exact hm2, fun _ a ha hl => fin (by rw [List.length_set] at hl; exact hl) e1 e2 x hd hw k, fun z => by cases z⟩⟩
    · exact h
end Wl
local macro_rules | `(tactic| walk_at "tt") => `(tactic| first | exact rfl | exact decide_eq_true (by first | rfl | omega) | exact My.ndec_t (by omega) | decide +kernel)
local macro_rules | `(tactic| walk_at "ff") => `(tactic| first | exact rfl | exact decide_eq_false (by omega) | exact My.ndec_f (by first | rfl | omega) | decide +kernel)
local macro_rules | `(tactic| walk_at "at") => `(tactic| (first | with_reducible exact My.at0 | with_reducible exact My.at1 | with_reducible exact My.at2 | with_reducible exact My.at3 | with_reducible exact My.at4 | with_reducible exact My.at5 | with_reducible exact My.at6 | with_reducible exact My.at7))
local macro_rules | `(tactic| walk_at "ixn") => `(tactic| first | with_reducible exact Wl.wix0 | with_reducible exact Wl.wix1 | with_reducible exact Wl.wix2 | with_reducible exact Wl.wix3 | with_reducible exact Wl.wix4 | with_reducible exact Wl.wix5 | with_reducible exact Wl.wix6 | with_reducible exact Wl.wix7)
local macro_rules | `(tactic| walk_at "ge") => `(tactic| exact rfl)
local macro_rules | `(tactic| walk_at "st") => `(tactic| (simp only [List.set_cons_zero, List.set_cons_succ]; try exact rfl))
local macro_rules | `(tactic| walk_at "wip") => `(tactic| (simp only [Wl.wipeE, List.map_cons, List.map_nil, List.set_cons_zero, List.set_cons_succ]; try exact rfl))
local macro_rules | `(tactic| walk_at "bak") => `(tactic| (simp only [Wl.backE, List.map_cons, List.map_nil, List.set_cons_zero, List.set_cons_succ, List.getElem?_cons_zero, List.getElem?_cons_succ]; try exact rfl))
local macro_rules | `(tactic| walk_at "fz") => `(tactic| ((with_reducible apply Wl.fz_sb); (focus (walk_at "ge")); (focus (walk_at "st"))))
local macro_rules | `(tactic| walk_at "fz") => `(tactic| with_reducible exact Wl.fz_ob)
local macro_rules | `(tactic| walk_at "fz") => `(tactic| ((with_reducible apply Wl.fz_smT); (focus (walk_at "ge")); (focus (walk_at "st"))))
local macro_rules | `(tactic| walk_at "fz") => `(tactic| ((with_reducible apply Wl.fz_sm); (focus (walk_at "ge")); (focus (walk_at "st"))))
local macro_rules | `(tactic| walk_at "fz") => `(tactic| ((with_reducible apply Wl.fz_so); (focus (walk_at "ge")); (focus (walk_at "st"))))
local macro_rules | `(tactic| walk_at "fz") => `(tactic| ((with_reducible apply Wl.fz_sl); (focus (walk_at "ge")); (focus (walk_at "st"))))
local macro_rules | `(tactic| walk_at "fz") => `(tactic| with_reducible exact Wl.fz_omT)
local macro_rules | `(tactic| walk_at "fz") => `(tactic| with_reducible exact Wl.fz_om)
local macro_rules | `(tactic| walk_at "fz") => `(tactic| with_reducible exact Wl.fz_oo)
local macro_rules | `(tactic| walk_at "fz") => `(tactic| with_reducible exact Wl.fz_ol)
local macro_rules | `(tactic| walk_at "fz") => `(tactic| with_reducible exact Wl.fz_d)
local macro_rules | `(tactic| walk_at "asg") => `(tactic| ((with_reducible apply Wl.as_s); (focus (walk_at "fz")); (focus (walk_at "st"))))
local macro_rules | `(tactic| walk_at "asg") => `(tactic| ((with_reducible apply Wl.as_own); (walk_at "st")))
local macro_rules | `(tactic| walk_at "asg") => `(tactic| ((with_reducible apply Wl.as_d); (walk_at "st")))
local macro_rules | `(tactic| walk_at "put") => `(tactic| (simp only [Wl.pS_s, Wl.pS_d, Wl.pS_own, Wl.pS_nil, List.set_cons_zero, List.set_cons_succ]; try exact rfl))
local macro_rules | `(tactic| walk_at "arg") => `(tactic| repeat (first | with_reducible exact Wl.aS_nil | with_reducible apply Wl.aS_d | with_reducible apply Wl.aS_own | ((with_reducible apply Wl.aS_s); (focus (walk_at "ge")))))
local macro_rules | `(tactic| walk_at "out") => `(tactic| repeat (first | with_reducible exact Wl.oA_nil | with_reducible apply Wl.oA_d | with_reducible apply Wl.oA_l | with_reducible apply Wl.oA_o | with_reducible apply Wl.oA_m | with_reducible apply Wl.oA_mT | with_reducible apply Wl.oA_b))
local macro_rules | `(tactic| walk_at "see") => `(tactic| ((with_reducible apply Wl.se_sb); (focus (walk_at "ge"))))
local macro_rules | `(tactic| walk_at "see") => `(tactic| with_reducible exact Wl.se_ob)
local macro_rules | `(tactic| walk_at "see") => `(tactic| ((with_reducible apply Wl.se_smT); (focus (walk_at "ge"))))
local macro_rules | `(tactic| walk_at "see") => `(tactic| ((with_reducible apply Wl.se_sm); (focus (walk_at "ge"))))
local macro_rules | `(tactic| walk_at "see") => `(tactic| ((with_reducible apply Wl.se_sd); (focus (walk_at "ge"))))
local macro_rules | `(tactic| walk_at "see") => `(tactic| ((with_reducible apply Wl.se_so); (focus (walk_at "ge"))))
local macro_rules | `(tactic| walk_at "see") => `(tactic| ((with_reducible apply Wl.se_sl); (focus (walk_at "ge"))))
local macro_rules | `(tactic| walk_at "see") => `(tactic| with_reducible exact Wl.se_omT)
local macro_rules | `(tactic| walk_at "see") => `(tactic| with_reducible exact Wl.se_om)
local macro_rules | `(tactic| walk_at "see") => `(tactic| with_reducible exact Wl.se_oo)
local macro_rules | `(tactic| walk_at "see") => `(tactic| with_reducible exact Wl.se_ol)
local macro_rules | `(tactic| walk_at "see") => `(tactic| with_reducible exact Wl.se_d)
local macro_rules | `(tactic| walk_at "seeL") => `(tactic| repeat (first | with_reducible exact Wl.sL_nil | ((with_reducible apply Wl.sL_c); (focus (walk_at "see")))))
local macro_rules | `(tactic| walk_at "allD") => `(tactic| repeat (first | with_reducible exact Wl.aD_nil | with_reducible apply Wl.aD_c))
local macro_rules | `(tactic| walk_at "seq") => `(tactic| exact rfl)
local macro_rules | `(tactic| walk_at "nb") => `(tactic| first | decide | omega | (simp only [List.length_cons, List.length_nil, List.length_append, List.length_map, List.length_drop, List.length_take]; omega))
local macro_rules | `(tactic| walk_at "ws1") => `(tactic| ((with_reducible apply Wl.z_bor); (focus (walk_at "ge")); (focus (simp only [Wl.blank, List.map_cons, List.map_nil, List.set_cons_zero, List.set_cons_succ]; try exact rfl))))
local macro_rules | `(tactic| walk_at "ws1") => `(tactic| with_reducible refine Wl.z_cnx ?_)
local macro_rules | `(tactic| walk_at "ws1") => `(tactic| with_reducible refine Wl.z_notInS ?_)
local macro_rules | `(tactic| walk_at "ws1") => `(tactic| with_reducible refine Wl.z_cnk ?_)
local macro_rules | `(tactic| walk_at "ws1") => `(tactic| ((with_reducible apply Wl.z_callN2); (focus (walk_at "allD")); (focus (exact rfl)); (focus (simp only [Wl.selL, List.map_cons, List.map_nil, List.cons_append, List.nil_append, List.append_nil, List.getElem?_cons_zero, List.getElem?_cons_succ, Option.getD_some]; exact rfl))))
local macro_rules | `(tactic| walk_at "ws1") => `(tactic| ((with_reducible apply Wl.z_callN1); (focus (walk_at "allD")); (focus (exact rfl))))
local macro_rules | `(tactic| walk_at "ws1") => `(tactic| with_reducible refine Wl.z_callN ?_)
local macro_rules | `(tactic| walk_at "ws1") => `(tactic| ((with_reducible apply Wl.z_itGK); (focus (walk_at "fz"))))
local macro_rules | `(tactic| walk_at "ws1") => `(tactic| with_reducible refine Wl.z_itG ?_)
local macro_rules | `(tactic| walk_at "ws1") => `(tactic| ((with_reducible apply Wl.z_TurnX); (focus (walk_at "wip"))))
local macro_rules | `(tactic| walk_at "ws1") => `(tactic| with_reducible refine Wl.z_elX ?_)
local macro_rules | `(tactic| walk_at "ws1") => `(tactic| with_reducible refine Wl.z_elXT ?_)
local macro_rules | `(tactic| walk_at "ws1") => `(tactic| with_reducible refine Wl.z_turnDX ?_)
local macro_rules | `(tactic| walk_at "ws1") => `(tactic| with_reducible refine Wl.z_lcX ?_)
local macro_rules | `(tactic| walk_at "ws1") => `(tactic| with_reducible refine Wl.z_isi2r ?_)
local macro_rules | `(tactic| walk_at "ws1") => `(tactic| with_reducible refine Wl.z_isi2l ?_)
local macro_rules | `(tactic| walk_at "ws1") => `(tactic| ((with_reducible apply Wl.z_isiWd); (focus (exact rfl))))
local macro_rules | `(tactic| walk_at "ws1") => `(tactic| with_reducible refine Wl.z_isiW2r ?_)
local macro_rules | `(tactic| walk_at "ws1") => `(tactic| with_reducible refine Wl.z_isiW2l ?_)
local macro_rules | `(tactic| walk_at "ws1") => `(tactic| with_reducible refine Wl.z_js0 ?_)
local macro_rules | `(tactic| walk_at "ws1") => `(tactic| with_reducible refine Wl.z_js ?_)
local macro_rules | `(tactic| walk_at "ws1") => `(tactic| with_reducible refine Wl.z_j ?_)
local macro_rules | `(tactic| walk_at "ws1") => `(tactic| ((with_reducible apply Wl.z_binPt); (focus ((walk_at "seeL"); done)); (focus (exact rfl)); (focus (first | assumption | exact .inl rfl | exact .inr rfl))))
local macro_rules | `(tactic| walk_at "ws1") => `(tactic| ((with_reducible apply Wl.z_binPd); (focus ((walk_at "seeL"); done))))
local macro_rules | `(tactic| walk_at "ws1") => `(tactic| ((with_reducible apply Wl.z_binPs); (focus ((walk_at "seeL"); done)); (focus (first | assumption | exact .inl rfl | exact .inr rfl))))
local macro_rules | `(tactic| walk_at "ws1") => `(tactic| with_reducible refine Wl.z_binP ?_)
local macro_rules | `(tactic| walk_at "ws1") => `(tactic| with_reducible refine Wl.z_spLenO ?_)
local macro_rules | `(tactic| walk_at "ws1") => `(tactic| ((with_reducible apply Wl.z_dcV); (focus (walk_at "fz")); (focus (walk_at "wip"))))
local macro_rules | `(tactic| walk_at "ws1") => `(tactic| ((with_reducible apply Wl.z_dcY); (focus (walk_at "fz")); (focus (exact rfl))))
local macro_rules | `(tactic| walk_at "ws1") => `(tactic| ((with_reducible apply Wl.z_dcF); (focus (walk_at "wip"))))
local macro_rules | `(tactic| walk_at "ws1") => `(tactic| with_reducible refine Wl.z_dcT ?_)
local macro_rules | `(tactic| walk_at "ws1") => `(tactic| with_reducible refine Wl.z_turnC ?_)
local macro_rules | `(tactic| walk_at "ws1") => `(tactic| with_reducible refine Wl.z_dc ?_)
local macro_rules | `(tactic| walk_at "ws1") => `(tactic| with_reducible refine Wl.z_strS ?_)
local macro_rules | `(tactic| walk_at "ws1") => `(tactic| with_reducible refine Wl.z_strK ?_)
local macro_rules | `(tactic| walk_at "ws1") => `(tactic| with_reducible refine Wl.z_spStr ?_)
local macro_rules | `(tactic| walk_at "ws1") => `(tactic| ((with_reducible apply Wl.z_textr); (focus (walk_at "see")); (focus (exact rfl))))
local macro_rules | `(tactic| walk_at "ws1") => `(tactic| ((with_reducible apply Wl.z_textl); (focus (walk_at "see")); (focus (exact rfl))))
local macro_rules | `(tactic| walk_at "ws1") => `(tactic| ((with_reducible apply Wl.z_text3); (focus (walk_at "see")); (focus (exact rfl)); (focus (first | assumption | exact .inl rfl | exact .inr rfl))))
local macro_rules | `(tactic| walk_at "ws1") => `(tactic| ((with_reducible apply Wl.z_text1); (focus (walk_at "see")); (focus (exact rfl))))
local macro_rules | `(tactic| walk_at "ws1") => `(tactic| with_reducible refine Wl.z_text ?_)
local macro_rules | `(tactic| walk_at "ws1") => `(tactic| ((with_reducible apply Wl.z_fld); (focus (first | assumption | exact .inl rfl | exact .inr rfl)); (focus (exact rfl))))
local macro_rules | `(tactic| walk_at "ws1") => `(tactic| ((with_reducible apply Wl.z_stoKP); (focus (walk_at "fz")); (focus (walk_at "ge")); (focus (first | assumption | exact .inl rfl | exact .inr rfl)); (focus (walk_at "nb")); (focus (simp (decide := true) only [Wl.putD, List.set_cons_zero, List.set_cons_succ, if_true, if_false]; try exact rfl))))
local macro_rules | `(tactic| walk_at "ws1") => `(tactic| ((with_reducible apply Wl.z_methPr); (focus (walk_at "see")); (focus (exact rfl))))
local macro_rules | `(tactic| walk_at "ws1") => `(tactic| ((with_reducible apply Wl.z_methPl); (focus (walk_at "see")); (focus (exact rfl))))
local macro_rules | `(tactic| walk_at "ws1") => `(tactic| ((with_reducible apply Wl.z_methP3); (focus (walk_at "see")); (focus (exact rfl)); (focus (first | assumption | exact .inl rfl | exact .inr rfl))))
local macro_rules | `(tactic| walk_at "ws1") => `(tactic| with_reducible refine Wl.z_methP ?_)
local macro_rules | `(tactic| walk_at "ws1") => `(tactic| with_reducible refine Wl.z_borKb ?_)
local macro_rules | `(tactic| walk_at "ws1") => `(tactic| with_reducible refine Wl.z_borKi ?_)
local macro_rules | `(tactic| walk_at "ws1") => `(tactic| ((with_reducible apply Wl.z_borM); (focus (walk_at "ge")); (focus (simp only [Wl.blank, List.map_cons, List.map_nil, List.set_cons_zero, List.set_cons_succ]; try exact rfl))))
local macro_rules | `(tactic| walk_at "ws1") => `(tactic| ((with_reducible apply Wl.z_callPVd); (focus ((walk_at "seeL"); done)); (focus (exact rfl))))
local macro_rules | `(tactic| walk_at "ws1") => `(tactic| ((with_reducible apply Wl.z_callPV); (focus ((walk_at "seeL"); done))))
local macro_rules | `(tactic| walk_at "ws1") => `(tactic| with_reducible refine Wl.z_blNt ?_)
local macro_rules | `(tactic| walk_at "ws1") => `(tactic| with_reducible refine Wl.z_blNf ?_)
local macro_rules | `(tactic| walk_at "ws1") => `(tactic| with_reducible refine Wl.z_callBK ?_)
local macro_rules | `(tactic| walk_at "ws1") => `(tactic| with_reducible refine Wl.z_callBV ?_)
local macro_rules | `(tactic| walk_at "ws1") => `(tactic| ((with_reducible refine Wl.z_isiVf ?_ ?_); (focus (exact rfl))))
local macro_rules | `(tactic| walk_at "ws1") => `(tactic| with_reducible refine Wl.z_isiVt ?_)
local macro_rules | `(tactic| walk_at "ws1") => `(tactic| ((with_reducible refine Wl.z_rng3K ?_ ?_); (focus omega)))
local macro_rules | `(tactic| walk_at "ws1") => `(tactic| with_reducible refine Wl.z_rng3 ?_)
local macro_rules | `(tactic| walk_at "ws1") => `(tactic| ((with_reducible apply Wl.z_clrM); (focus (walk_at "ge")); (focus (walk_at "st"))))
local macro_rules | `(tactic| walk_at "ws1") => `(tactic| ((with_reducible apply Wl.z_clr); (focus (walk_at "ge")); (focus (walk_at "st"))))
local macro_rules | `(tactic| walk_at "ws1") => `(tactic| with_reducible refine Wl.z_dput2 ?_)
local macro_rules | `(tactic| walk_at "ws1") => `(tactic| with_reducible refine Wl.z_elST ?_)
local macro_rules | `(tactic| walk_at "ws1") => `(tactic| with_reducible refine Wl.z_turnS ?_)
local macro_rules | `(tactic| walk_at "ws1") => `(tactic| with_reducible refine Wl.z_ss2 ?_)
local macro_rules | `(tactic| walk_at "ws1") => `(tactic| with_reducible refine Wl.z_el2T ?_)
local macro_rules | `(tactic| walk_at "ws1") => `(tactic| with_reducible refine Wl.z_turn2 ?_)
local macro_rules | `(tactic| walk_at "ws1") => `(tactic| with_reducible refine Wl.z_lc2 ?_)
local macro_rules | `(tactic| walk_at "ws1") => `(tactic| with_reducible refine Wl.z_isiO ?_)
local macro_rules | `(tactic| walk_at "ws1") => `(tactic| ((with_reducible refine Wl.z_addTP ?_ ?_); (focus (walk_at "nb"))))
local macro_rules | `(tactic| walk_at "ws1") => `(tactic| with_reducible refine Wl.z_opRK ?_)
local macro_rules | `(tactic| walk_at "ws1") => `(tactic| with_reducible refine Wl.z_opR ?_)
local macro_rules | `(tactic| walk_at "ws1") => `(tactic| with_reducible refine Wl.z_isNotB ?_)
local macro_rules | `(tactic| walk_at "ws1") => `(tactic| with_reducible refine Wl.z_isB ?_)
local macro_rules | `(tactic| walk_at "ws1") => `(tactic| ((with_reducible apply Wl.z_dxV); (focus (walk_at "wip"))))
local macro_rules | `(tactic| walk_at "ws1") => `(tactic| with_reducible refine Wl.z_dxT ?_)
local macro_rules | `(tactic| walk_at "ws1") => `(tactic| with_reducible refine Wl.z_turnX ?_)
local macro_rules | `(tactic| walk_at "ws1") => `(tactic| with_reducible refine Wl.z_dx ?_)
local macro_rules | `(tactic| walk_at "ws1") => `(tactic| with_reducible refine Wl.z_tupP ?_)
local macro_rules | `(tactic| walk_at "ws1") => `(tactic| with_reducible refine Wl.z_lenTP ?_)
local macro_rules | `(tactic| walk_at "ws1") => `(tactic| ((with_reducible apply Wl.z_ixTP); (focus (walk_at "at"))))
local macro_rules | `(tactic| walk_at "ws1") => `(tactic| with_reducible refine Wl.z_dictD ?_)
local macro_rules | `(tactic| walk_at "ws1") => `(tactic| with_reducible refine Wl.z_listD ?_)
local macro_rules | `(tactic| walk_at "ws1") => `(tactic| with_reducible refine Wl.z_listX ?_)
local macro_rules | `(tactic| walk_at "ws1") => `(tactic| ((with_reducible apply Wl.z_itXK); (focus (walk_at "fz"))))
local macro_rules | `(tactic| walk_at "ws1") => `(tactic| with_reducible refine Wl.z_itX ?_)
local macro_rules | `(tactic| walk_at "ws1") => `(tactic| ((with_reducible apply Wl.z_dputK); (focus (walk_at "fz")); (focus (walk_at "ge"))))
local macro_rules | `(tactic| walk_at "ws1") => `(tactic| with_reducible refine Wl.z_dput ?_)
local macro_rules | `(tactic| walk_at "ws1") => `(tactic| with_reducible refine Wl.z_dnewK ?_)
local macro_rules | `(tactic| walk_at "ws1") => `(tactic| with_reducible refine Wl.z_inS ?_)
local macro_rules | `(tactic| walk_at "ws1") => `(tactic| ((with_reducible refine Wl.z_inF ?_ ?_ ?_); (focus (exact rfl)); (focus (exact rfl))))
local macro_rules | `(tactic| walk_at "ws1") => `(tactic| with_reducible refine Wl.z_inT ?_)
local macro_rules | `(tactic| walk_at "ws1") => `(tactic| with_reducible refine Wl.z_inL ?_)
local macro_rules | `(tactic| walk_at "ws1") => `(tactic| ((with_reducible apply Wl.z_isiL); (focus (exact rfl)); (focus (exact rfl))))
local macro_rules | `(tactic| walk_at "ws1") => `(tactic| ((with_reducible refine Wl.z_isi ?_ ?_ ?_); (focus (exact rfl)); (focus (exact rfl))))
local macro_rules | `(tactic| walk_at "ws1") => `(tactic| with_reducible refine Wl.z_isN ?_)
local macro_rules | `(tactic| walk_at "ws1") => `(tactic| with_reducible refine Wl.z_abs ?_)
local macro_rules | `(tactic| walk_at "ws1") => `(tactic| with_reducible refine Wl.z_min2 ?_)
local macro_rules | `(tactic| walk_at "ws1") => `(tactic| with_reducible refine Wl.z_max2 ?_)
local macro_rules | `(tactic| walk_at "ws1") => `(tactic| ((with_reducible apply Wl.z_extK); (focus (walk_at "ge")); (focus (walk_at "st")); (focus (walk_at "nb"))))
local macro_rules | `(tactic| walk_at "ws1") => `(tactic| ((with_reducible apply Wl.z_ext); (focus (walk_at "ge"))))
local macro_rules | `(tactic| walk_at "ws1") => `(tactic| ((with_reducible apply Wl.z_pop); (focus (exact rfl)); (focus (walk_at "st"))))
local macro_rules | `(tactic| walk_at "ws1") => `(tactic| ((with_reducible apply Wl.z_opSA); (focus (walk_at "seeL"))))
local macro_rules | `(tactic| walk_at "ws1") => `(tactic| with_reducible refine Wl.z_opSK ?_)
local macro_rules | `(tactic| walk_at "ws1") => `(tactic| with_reducible refine Wl.z_opS ?_)
local macro_rules | `(tactic| walk_at "ws1") => `(tactic| ((with_reducible apply Wl.z_makeV); (focus (walk_at "ge"))))
local macro_rules | `(tactic| walk_at "ws1") => `(tactic| ((with_reducible apply Wl.z_callVA); (focus (walk_at "see"))))
local macro_rules | `(tactic| walk_at "ws1") => `(tactic| ((with_reducible apply Wl.z_callVK); (focus (walk_at "see"))))
local macro_rules | `(tactic| walk_at "ws1") => `(tactic| with_reducible refine Wl.z_callV ?_)
local macro_rules | `(tactic| walk_at "ws1") => `(tactic| with_reducible refine Wl.z_blK ?_)
local macro_rules | `(tactic| walk_at "ws1") => `(tactic| ((with_reducible apply Wl.z_inO2); (focus (walk_at "see"))))
local macro_rules | `(tactic| walk_at "ws1") => `(tactic| with_reducible refine Wl.z_inO1 ?_)
local macro_rules | `(tactic| walk_at "ws1") => `(tactic| with_reducible refine Wl.z_inO ?_)
local macro_rules | `(tactic| walk_at "ws1") => `(tactic| ((with_reducible apply Wl.z_callO1); (focus (walk_at "seeL"))))
local macro_rules | `(tactic| walk_at "ws1") => `(tactic| ((with_reducible apply Wl.z_callO2); (focus (walk_at "seeL"))))
local macro_rules | `(tactic| walk_at "ws1") => `(tactic| with_reducible refine Wl.z_callO ?_)
local macro_rules | `(tactic| walk_at "ws1") => `(tactic| ((with_reducible refine Wl.z_addS ?_ ?_); (focus (walk_at "nb"))))
local macro_rules | `(tactic| walk_at "ws1") => `(tactic| ((with_reducible refine Wl.z_addT ?_ ?_); (focus (walk_at "nb"))))
local macro_rules | `(tactic| walk_at "ws1") => `(tactic| ((with_reducible refine Wl.z_addL ?_ ?_); (focus (walk_at "nb"))))
local macro_rules | `(tactic| walk_at "ws1") => `(tactic| with_reducible refine Wl.z_try2 ?_)
local macro_rules | `(tactic| walk_at "ws1") => `(tactic| ((with_reducible apply Wl.z_get1); (focus (exact rfl))))
local macro_rules | `(tactic| walk_at "ws1") => `(tactic| ((with_reducible apply Wl.z_get2); (focus (exact rfl)); (focus (exact rfl))))
local macro_rules | `(tactic| walk_at "ws1") => `(tactic| ((with_reducible apply Wl.z_isK); (focus (walk_at "see")); (focus (exact trivial))))
local macro_rules | `(tactic| walk_at "ws1") => `(tactic| with_reducible refine Wl.z_is ?_)
local macro_rules | `(tactic| walk_at "ws1") => `(tactic| ((with_reducible apply Wl.z_dispK); (focus (exact rfl)); (focus (decide))))
local macro_rules | `(tactic| walk_at "ws1") => `(tactic| with_reducible refine Wl.z_pairsN ?_)
local macro_rules | `(tactic| walk_at "ws1") => `(tactic| with_reducible refine Wl.z_pairsC ?_)
local macro_rules | `(tactic| walk_at "ws1") => `(tactic| with_reducible refine Wl.z_disp ?_)
local macro_rules | `(tactic| walk_at "ws1") => `(tactic| ((with_reducible apply Wl.z_fld); (focus (exact rfl)); (focus (exact rfl))))
local macro_rules | `(tactic| walk_at "ws1") => `(tactic| ((with_reducible apply Wl.z_triK); (focus (walk_at "fz"))))
local macro_rules | `(tactic| walk_at "ws1") => `(tactic| with_reducible refine Wl.z_tried ?_)
local macro_rules | `(tactic| walk_at "ws1") => `(tactic| ((with_reducible apply Wl.z_turnK); (focus (walk_at "fz")); (focus (walk_at "wip"))))
local macro_rules | `(tactic| walk_at "ws1") => `(tactic| with_reducible refine Wl.z_el ?_)
local macro_rules | `(tactic| walk_at "ws1") => `(tactic| with_reducible refine Wl.z_elT ?_)
local macro_rules | `(tactic| walk_at "ws1") => `(tactic| with_reducible refine Wl.z_turn ?_)
local macro_rules | `(tactic| walk_at "ws1") => `(tactic| with_reducible refine Wl.z_yes ?_)
local macro_rules | `(tactic| walk_at "ws1") => `(tactic| with_reducible refine Wl.z_lc ?_)
local macro_rules | `(tactic| walk_at "ws1") => `(tactic| ((with_reducible apply Wl.z_enumK); (focus (walk_at "seq"))))
local macro_rules | `(tactic| walk_at "ws1") => `(tactic| with_reducible refine Wl.z_enum ?_)
local macro_rules | `(tactic| walk_at "ws1") => `(tactic| ((with_reducible apply Wl.z_zipK); (focus (walk_at "seq")); (focus (walk_at "seq"))))
local macro_rules | `(tactic| walk_at "ws1") => `(tactic| with_reducible refine Wl.z_zip ?_)
local macro_rules | `(tactic| walk_at "ws1") => `(tactic| ((with_reducible refine Wl.z_rng2K ?_ ?_); (focus omega)))
local macro_rules | `(tactic| walk_at "ws1") => `(tactic| with_reducible refine Wl.z_rng2 ?_)
local macro_rules | `(tactic| walk_at "ws1") => `(tactic| ((with_reducible refine Wl.z_rng1K ?_ ?_); (focus omega)))
local macro_rules | `(tactic| walk_at "ws1") => `(tactic| with_reducible refine Wl.z_rng1 ?_)
local macro_rules | `(tactic| walk_at "ws1") => `(tactic| ((with_reducible apply Wl.z_itK); (focus (walk_at "fz")); (focus (walk_at "seq"))))
local macro_rules | `(tactic| walk_at "ws1") => `(tactic| with_reducible refine Wl.z_it ?_)
local macro_rules | `(tactic| walk_at "ws1") => `(tactic| with_reducible refine Wl.z_for ?_)
local macro_rules | `(tactic| walk_at "ws1") => `(tactic| ((with_reducible apply Wl.z_makeK); (focus (exact rfl)); (focus (exact rfl)); (focus (walk_at "put"))))
local macro_rules | `(tactic| walk_at "ws1") => `(tactic| ((with_reducible apply Wl.z_makeB); (focus (walk_at "arg")); (focus (exact rfl))))
local macro_rules | `(tactic| walk_at "ws1") => `(tactic| with_reducible refine Wl.z_make ?_)
local macro_rules | `(tactic| walk_at "ws1") => `(tactic| ((with_reducible apply Wl.z_methK); (focus (walk_at "see")); (focus (exact rfl))))
local macro_rules | `(tactic| walk_at "ws1") => `(tactic| with_reducible refine Wl.z_meth ?_)
local macro_rules | `(tactic| walk_at "ws1") => `(tactic| ((with_reducible apply Wl.z_appK); (focus (walk_at "fz")); (focus (walk_at "ge")); (focus (walk_at "st")); (focus (walk_at "nb"))))
local macro_rules | `(tactic| walk_at "ws1") => `(tactic| ((with_reducible apply Wl.z_app); (focus (walk_at "ge"))))
local macro_rules | `(tactic| walk_at "ws1") => `(tactic| with_reducible refine Wl.z_slT ?_)
local macro_rules | `(tactic| walk_at "ws1") => `(tactic| with_reducible refine Wl.z_slL ?_)
local macro_rules | `(tactic| walk_at "ws1") => `(tactic| with_reducible refine Wl.z_slLt ?_)
local macro_rules | `(tactic| walk_at "ws1") => `(tactic| with_reducible refine Wl.z_slLd2 ?_)
local macro_rules | `(tactic| walk_at "ws1") => `(tactic| with_reducible refine Wl.z_slLd1 ?_)
local macro_rules | `(tactic| walk_at "ws1") => `(tactic| with_reducible refine Wl.z_slLd ?_)
local macro_rules | `(tactic| walk_at "ws1") => `(tactic| with_reducible refine Wl.z_slTt ?_)
local macro_rules | `(tactic| walk_at "ws1") => `(tactic| with_reducible refine Wl.z_slTd2 ?_)
local macro_rules | `(tactic| walk_at "ws1") => `(tactic| with_reducible refine Wl.z_slTd1 ?_)
local macro_rules | `(tactic| walk_at "ws1") => `(tactic| with_reducible refine Wl.z_slTd ?_)
local macro_rules | `(tactic| walk_at "ws1") => `(tactic| ((with_reducible apply Wl.z_exSee); (focus (walk_at "see"))))
local macro_rules | `(tactic| walk_at "ws1") => `(tactic| with_reducible refine Wl.z_partK ?_)
local macro_rules | `(tactic| walk_at "ws1") => `(tactic| with_reducible refine Wl.z_part ?_)
local macro_rules | `(tactic| walk_at "ws1") => `(tactic| with_reducible refine Wl.z_noP ?_)
local macro_rules | `(tactic| walk_at "ws1") => `(tactic| with_reducible refine Wl.z_sl ?_)
local macro_rules | `(tactic| walk_at "ws1") => `(tactic| ((with_reducible apply Wl.z_raiK); (focus (walk_at "allD")); (focus (exact rfl))))
local macro_rules | `(tactic| walk_at "ws1") => `(tactic| ((with_reducible apply Wl.z_mnX); (focus (walk_at "put"))))
local macro_rules | `(tactic| walk_at "ws1") => `(tactic| ((with_reducible apply Wl.z_mnK); (focus (walk_at "put"))))
local macro_rules | `(tactic| walk_at "ws1") => `(tactic| ((with_reducible apply Wl.z_methN3); (focus (walk_at "allD")); (focus (exact rfl)); (focus (walk_at "arg")); (focus (simp only [Wl.selL, List.map_cons, List.map_nil, List.cons_append, List.nil_append, List.append_nil, List.getElem?_cons_zero, List.getElem?_cons_succ, Option.getD_some]; exact rfl))))
local macro_rules | `(tactic| walk_at "ws1") => `(tactic| ((with_reducible apply Wl.z_methN2); (focus (walk_at "allD")); (focus (exact rfl))))
local macro_rules | `(tactic| walk_at "ws1") => `(tactic| ((with_reducible apply Wl.z_methN1); (focus (walk_at "see")); (focus (exact rfl))))
local macro_rules | `(tactic| walk_at "ws1") => `(tactic| with_reducible refine Wl.z_methN ?_)
local macro_rules | `(tactic| walk_at "ws1") => `(tactic| ((with_reducible apply Wl.z_clrB); (focus (walk_at "ge")); (focus (first | assumption | exact rfl)); (focus (exact rfl)); (focus (exact rfl)); (focus (walk_at "st"))))
local macro_rules | `(tactic| walk_at "ws1") => `(tactic| ((with_reducible apply Wl.z_appBK); (focus (walk_at "fz")); (focus (walk_at "ge")); (focus (exact rfl)); (focus (walk_at "nb")); (focus (walk_at "st"))))
local macro_rules | `(tactic| walk_at "ws1") => `(tactic| ((with_reducible apply Wl.z_appB); (focus (walk_at "ge")); (focus (first | assumption | exact rfl)); (focus (exact rfl)); (focus (exact rfl))))
local macro_rules | `(tactic| walk_at "ws1") => `(tactic| ((with_reducible apply Wl.z_stoLK); (focus (walk_at "ge")); (focus (exact rfl)); (focus (first | assumption | exact rfl)); (focus (walk_at "nb"))))
local macro_rules | `(tactic| walk_at "ws1") => `(tactic| with_reducible refine Wl.z_stoL ?_)
local macro_rules | `(tactic| walk_at "ws1") => `(tactic| ((with_reducible apply Wl.z_stoBK); (focus (walk_at "fz")); (focus (walk_at "ge")); (focus (first | assumption | exact rfl)); (focus (walk_at "nb")); (focus (simp (decide := true) only [Wl.putD_ben, Wl.putD, List.set_cons_zero, List.set_cons_succ, if_true, if_false]; try exact rfl))))
local macro_rules | `(tactic| walk_at "ws1") => `(tactic| with_reducible refine Wl.z_stoB ?_)
local macro_rules | `(tactic| walk_at "ws1") => `(tactic| with_reducible refine Wl.z_ra2K ?_)
local macro_rules | `(tactic| walk_at "ws1") => `(tactic| with_reducible refine Wl.z_ra2 ?_)
local macro_rules | `(tactic| walk_at "ws1") => `(tactic| with_reducible refine Wl.z_raise ?_)
local macro_rules | `(tactic| walk_at "ws1") => `(tactic| ((with_reducible apply Wl.z_stoK); (focus (walk_at "fz")); (focus (walk_at "ge")); (focus (walk_at "nb")); (focus (simp (decide := true) only [Wl.putD, List.set_cons_zero, List.set_cons_succ, if_true, if_false]; try exact rfl))))
local macro_rules | `(tactic| walk_at "ws1") => `(tactic| with_reducible refine Wl.z_sto ?_)
local macro_rules | `(tactic| walk_at "ws1") => `(tactic| ((with_reducible apply Wl.z_setIxJ); (focus (walk_at "ge")); (focus (walk_at "ixn")); (focus (walk_at "st"))))
local macro_rules | `(tactic| walk_at "ws1") => `(tactic| ((with_reducible apply Wl.z_setIxK); (focus (walk_at "fz")); (focus (walk_at "ge"))))
local macro_rules | `(tactic| walk_at "ws1") => `(tactic| with_reducible refine Wl.z_setIx ?_)
local macro_rules | `(tactic| walk_at "ws1") => `(tactic| ((with_reducible apply Wl.z_parK); (focus (exact rfl)); (focus (exact rfl)); (focus (simp only [Wl.asgL, Wl.asg, List.set_cons_zero, List.set_cons_succ]; try exact rfl))))
local macro_rules | `(tactic| walk_at "ws1") => `(tactic| with_reducible refine Wl.z_par ?_)
local macro_rules | `(tactic| walk_at "ws1") => `(tactic| ((with_reducible apply Wl.z_augI); (focus (walk_at "st"))))
local macro_rules | `(tactic| walk_at "ws1") => `(tactic| ((with_reducible apply Wl.z_aug); (focus (walk_at "ge"))))
local macro_rules | `(tactic| walk_at "ws1") => `(tactic| ((with_reducible apply Wl.z_gL); (focus (exact rfl)); (focus (simp only [Wl.setAll, List.set_cons_zero, List.set_cons_succ]; try exact rfl))))
local macro_rules | `(tactic| walk_at "ws1") => `(tactic| ((with_reducible apply Wl.z_gT); (focus (exact rfl)); (focus (simp only [Wl.setAll, List.set_cons_zero, List.set_cons_succ]; try exact rfl))))
local macro_rules | `(tactic| walk_at "ws1") => `(tactic| ((with_reducible apply Wl.z_gN); (focus (walk_at "st"))))
local macro_rules | `(tactic| walk_at "ws1") => `(tactic| ((with_reducible apply Wl.z_unpK); (focus (walk_at "fz"))))
local macro_rules | `(tactic| walk_at "ws1") => `(tactic| with_reducible refine Wl.z_unp ?_)
local macro_rules | `(tactic| walk_at "ws1") => `(tactic| with_reducible refine Wl.z_intB ?_)
local macro_rules | `(tactic| walk_at "ws1") => `(tactic| with_reducible refine Wl.z_intI ?_)
local macro_rules | `(tactic| walk_at "ws1") => `(tactic| with_reducible refine Wl.z_tupleT ?_)
local macro_rules | `(tactic| walk_at "ws1") => `(tactic| with_reducible refine Wl.z_tupleL ?_)
local macro_rules | `(tactic| walk_at "ws1") => `(tactic| with_reducible refine Wl.z_listT ?_)
local macro_rules | `(tactic| walk_at "ws1") => `(tactic| with_reducible refine Wl.z_listL ?_)
local macro_rules | `(tactic| walk_at "ws1") => `(tactic| with_reducible refine Wl.z_lenT ?_)
local macro_rules | `(tactic| walk_at "ws1") => `(tactic| with_reducible refine Wl.z_lenL ?_)
local macro_rules | `(tactic| walk_at "ws1") => `(tactic| ((with_reducible refine Wl.z_lstD ?_ ?_); (focus (walk_at "nb"))))
local macro_rules | `(tactic| walk_at "ws1") => `(tactic| ((with_reducible refine Wl.z_tupD ?_ ?_); (focus (walk_at "nb"))))
local macro_rules | `(tactic| walk_at "ws1") => `(tactic| ((with_reducible apply Wl.z_fzK); (focus (walk_at "fz"))))
local macro_rules | `(tactic| walk_at "ws1") => `(tactic| with_reducible refine Wl.z_fzD ?_)
local macro_rules | `(tactic| walk_at "ws1") => `(tactic| with_reducible refine Wl.z_fz ?_)
local macro_rules | `(tactic| walk_at "ws1") => `(tactic| ((with_reducible apply Wl.z_opDK); (focus (walk_at "allD"))))
local macro_rules | `(tactic| walk_at "ws1") => `(tactic| with_reducible refine Wl.z_opD ?_)
local macro_rules | `(tactic| walk_at "ws1") => `(tactic| ((with_reducible apply Wl.z_callX); (focus (walk_at "put"))))
local macro_rules | `(tactic| walk_at "ws1") => `(tactic| ((with_reducible apply Wl.z_callK); (focus (walk_at "put"))))
local macro_rules | `(tactic| walk_at "ws1") => `(tactic| ((with_reducible apply Wl.z_callB); (focus (walk_at "arg")); (focus (exact rfl))))
local macro_rules | `(tactic| walk_at "ws1") => `(tactic| with_reducible refine Wl.z_call ?_)
local macro_rules | `(tactic| walk_at "ws1") => `(tactic| ((with_reducible apply Wl.z_ixT); (focus (walk_at "at"))))
local macro_rules | `(tactic| walk_at "ws1") => `(tactic| ((with_reducible apply Wl.z_ixL); (focus (walk_at "at"))))
local macro_rules | `(tactic| walk_at "ws1") => `(tactic| with_reducible refine Wl.z_expr ?_)
local macro_rules | `(tactic| walk_at "ws1") => `(tactic| with_reducible refine Wl.z_cont ?_)
local macro_rules | `(tactic| walk_at "ws1") => `(tactic| with_reducible refine Wl.z_break ?_)
local macro_rules | `(tactic| walk_at "ws1") => `(tactic| with_reducible refine Wl.z_next ?_)
local macro_rules | `(tactic| walk_at "ws1") => `(tactic| ((with_reducible apply Wl.z_withA); (focus (walk_at "out"))))
local macro_rules | `(tactic| walk_at "ws1") => `(tactic| with_reducible refine Wl.z_retO ?_)
local macro_rules | `(tactic| walk_at "ws1") => `(tactic| with_reducible refine Wl.z_retD ?_)
local macro_rules | `(tactic| walk_at "ws1") => `(tactic| with_reducible refine Wl.z_retN ?_)
local macro_rules | `(tactic| walk_at "ws1") => `(tactic| with_reducible refine Wl.z_ret ?_)
local macro_rules | `(tactic| walk_at "ws1") => `(tactic| ((with_reducible refine My.ite_f ?_ ?_); (focus (walk_at "ff"))))
local macro_rules | `(tactic| walk_at "ws1") => `(tactic| ((with_reducible refine My.ite_t ?_ ?_); (focus (walk_at "tt"))))
local macro_rules | `(tactic| walk_at "ws1") => `(tactic| ((with_reducible apply Wl.z_orB); (focus (walk_at "ge"))))
local macro_rules | `(tactic| walk_at "ws1") => `(tactic| ((with_reducible apply Wl.z_andB); (focus (walk_at "ge"))))
local macro_rules | `(tactic| walk_at "ws1") => `(tactic| with_reducible refine Wl.z_ch3 ?_)
local macro_rules | `(tactic| walk_at "ws1") => `(tactic| with_reducible refine Wl.z_ch2 ?_)
local macro_rules | `(tactic| walk_at "ws1") => `(tactic| with_reducible refine Wl.z_chain ?_)
local macro_rules | `(tactic| walk_at "ws1") => `(tactic| with_reducible refine Wl.z_notK ?_)
local macro_rules | `(tactic| walk_at "ws1") => `(tactic| with_reducible refine Wl.z_orK ?_)
local macro_rules | `(tactic| walk_at "ws1") => `(tactic| with_reducible refine Wl.z_andK ?_)
local macro_rules | `(tactic| walk_at "ws1") => `(tactic| with_reducible refine Wl.z_notV ?_)
local macro_rules | `(tactic| walk_at "ws1") => `(tactic| with_reducible refine Wl.z_orV ?_)
local macro_rules | `(tactic| walk_at "ws1") => `(tactic| with_reducible refine Wl.z_andV ?_)
local macro_rules | `(tactic| walk_at "ws1") => `(tactic| with_reducible refine Wl.z_if ?_)
local macro_rules | `(tactic| walk_at "ws1") => `(tactic| with_reducible refine Wl.z_not ?_)
local macro_rules | `(tactic| walk_at "ws1") => `(tactic| with_reducible refine Wl.z_or ?_)
local macro_rules | `(tactic| walk_at "ws1") => `(tactic| with_reducible refine Wl.z_and ?_)
local macro_rules | `(tactic| walk_at "ws1") => `(tactic| ((with_reducible refine Wl.z_pow ?_ ?_); (focus (refine ⟨by decide, by decide, by decide⟩))))
local macro_rules | `(tactic| walk_at "ws1") => `(tactic| with_reducible refine Wl.z_pow6 ?_)
local macro_rules | `(tactic| walk_at "ws1") => `(tactic| with_reducible refine Wl.z_pow18 ?_)
local macro_rules | `(tactic| walk_at "ws1") => `(tactic| with_reducible refine Wl.z_pow9 ?_)
local macro_rules | `(tactic| walk_at "ws1") => `(tactic| ((with_reducible refine Wl.z_mod ?_ ?_); (focus omega)))
local macro_rules | `(tactic| walk_at "ws1") => `(tactic| ((with_reducible refine Wl.z_div ?_ ?_); (focus omega)))
local macro_rules | `(tactic| walk_at "ws1") => `(tactic| ((with_reducible refine Wl.z_mul ?_ ?_); (focus omega)))
local macro_rules | `(tactic| walk_at "ws1") => `(tactic| with_reducible refine Wl.z_neg ?_)
local macro_rules | `(tactic| walk_at "ws1") => `(tactic| with_reducible refine Wl.z_sub ?_)
local macro_rules | `(tactic| walk_at "ws1") => `(tactic| with_reducible refine Wl.z_addI ?_)
local macro_rules | `(tactic| walk_at "ws1") => `(tactic| with_reducible refine Wl.z_neB ?_)
local macro_rules | `(tactic| walk_at "ws1") => `(tactic| with_reducible refine Wl.z_eqB ?_)
local macro_rules | `(tactic| walk_at "ws1") => `(tactic| with_reducible refine Wl.z_neS ?_)
local macro_rules | `(tactic| walk_at "ws1") => `(tactic| with_reducible refine Wl.z_eqS ?_)
local macro_rules | `(tactic| walk_at "ws1") => `(tactic| with_reducible refine Wl.z_neI ?_)
local macro_rules | `(tactic| walk_at "ws1") => `(tactic| with_reducible refine Wl.z_eqI ?_)
local macro_rules | `(tactic| walk_at "ws1") => `(tactic| with_reducible refine Wl.z_cmp ?_)
local macro_rules | `(tactic| walk_at "ws1") => `(tactic| with_reducible refine Wl.z_testK ?_)
local macro_rules | `(tactic| walk_at "ws1") => `(tactic| with_reducible refine Wl.z_test ?_)
local macro_rules | `(tactic| walk_at "ws1") => `(tactic| with_reducible refine Wl.z_truK rfl rfl ?_)
local macro_rules | `(tactic| walk_at "ws1") => `(tactic| with_reducible refine Wl.z_tru ?_)
local macro_rules | `(tactic| walk_at "ws1") => `(tactic| with_reducible refine Wl.z_callC ?_)
local macro_rules | `(tactic| walk_at "ws1") => `(tactic| with_reducible refine Wl.z_ifS ?_)
local macro_rules | `(tactic| walk_at "ws1") => `(tactic| ((with_reducible apply Wl.z_asgK); (focus (walk_at "asg")); (focus (first | exact nofun | exact fun h => absurd (Wl.R.s.inj h) (by decide)))))
local macro_rules | `(tactic| walk_at "ws1") => `(tactic| with_reducible refine Wl.z_asg ?_)
local macro_rules | `(tactic| walk_at "ws1") => `(tactic| ((with_reducible apply Wl.z_opK); (focus (walk_at "seeL"))))
local macro_rules | `(tactic| walk_at "ws1") => `(tactic| ((with_reducible apply Wl.z_varM); (focus (walk_at "ge"))))
local macro_rules | `(tactic| walk_at "ws1") => `(tactic| ((with_reducible apply Wl.z_varO); (focus (walk_at "ge"))))
local macro_rules | `(tactic| walk_at "ws1") => `(tactic| ((with_reducible apply Wl.z_varL); (focus (walk_at "ge"))))
local macro_rules | `(tactic| walk_at "ws1") => `(tactic| with_reducible refine Wl.z_nil ?_)
local macro_rules | `(tactic| walk_at "ws1") => `(tactic| with_reducible refine Wl.z_cons ?_)
local macro_rules | `(tactic| walk_at "ws1") => `(tactic| with_reducible refine Wl.z_op ?_)
local macro_rules | `(tactic| walk_at "ws1") => `(tactic| with_reducible refine Wl.z_c ?_)
local macro_rules | `(tactic| walk_at "ws1") => `(tactic| ((with_reducible apply Wl.z_var); (focus (walk_at "ge"))))
local macro_rules | `(tactic| walk_at "ws1") => `(tactic| with_reducible refine Wl.z_seq ?_)
local macro_rules | `(tactic| walk_at "ws") => `(tactic| repeat walk_at "ws1")
/-- an if: its test alone -/
local macro_rules | `(tactic| walk_at "wsTest") => `(tactic| ((with_reducible refine Wl.z_ifS ?_); repeat (first
  | with_reducible refine Wl.z_test ?_ | with_reducible refine Wl.z_testK ?_ | with_reducible refine Wl.z_op ?_ | with_reducible refine Wl.z_cons ?_ | with_reducible refine Wl.z_nil ?_ | with_reducible refine Wl.z_c ?_
  | ((with_reducible apply Wl.z_var); (focus (walk_at "ge")))
  | ((with_reducible apply Wl.z_opK); (focus (walk_at "seeL")))
  | with_reducible refine Wl.z_cmp ?_ | with_reducible refine Wl.z_eqI ?_ | with_reducible refine Wl.z_neI ?_ | with_reducible refine Wl.z_eqS ?_ | with_reducible refine Wl.z_neS ?_ | with_reducible refine Wl.z_not ?_)))
namespace Wl
open PySem PySem.Spec PyProof.Rows L2 RZ
open My (s_rI0 nat0)
def sp_is_count : WSp := fun as k _ => ∃ x, as = [.d x] ∧ (tyD x).isSome = true ∧ k (.d (.bl (isCountD x))) as
theorem c_is_count {x : D} {k : SK} {kx : SX} (h : (tyD x).isSome = true) (q : k (.d (.bl (isCountD x))) [.d x]) : sp_is_count [.d x] k kx := ⟨x, rfl, h, q⟩
theorem ok_is_count {P : Program} {w : World} {K : PySem.W.Frag} {mg : Str → Option Value} {base : Heap} (T : Txt K mg) : FnOk P w K mg base (L2.CX P w) lv_is_count T.f_is_count T.fd_is_count ["value"] (lower K sp_is_count) := by
  refine fn_w T.F_is_count sc_is_count (fun i => Nat.blt i 1) (by decide) (fun as kk kx h => ?_) (fun cdv A outer s H E hr Tt as kk kx h tk uw => ?_)
  · obtain ⟨x, rfl, _⟩ := h; exact ⟨rfl, rfl⟩
  obtain ⟨x, rfl, ht, k⟩ := h
  refine ⟨_, (ws_one (w_ret (w_and (w_callB (callIsi3 K) spIsi (by rfl) T.z_isinstance (by first | exact PySem.boot_isinstance | exact boot_isinstance | decide +kernel) (wa_cons (w_v 0) (wa_cons (w_bltn (n := "str") (by rfl) T.z_str (by first | exact boot_str | decide +kernel)) wa_nil))) (w_one (w_cmp (opIn3 (K := K) (un65 hr)) spIn (w_v 0) (w_tup (wa_cons w_str (wa_cons w_str (wa_cons w_str wa_nil))))))))), ?_⟩
  (rw [show startE _ [(.d x : S)] = [some (.d x)] from rfl]; unfold endsOf)
  walk_at "ws"
  refine z_isi ht rfl ?_
  cases x with
  | str s =>
    walk_at "ws"
    rw [if_neg Bool.false_ne_true, in_count]
    exact k
  | _ => walk_at "ws"; exact k
end Wl
namespace Wl
open PySem PySem.Spec PyProof.Rows L2 RZ
open My (s_rI0 nat0)
def sp_check_count (C : Addr) : WSp := fun as k kx => ∃ x, as = [.d x] ∧ (tyD x).isSome = true ∧ (isCountD x = true → k (.d .non) as) ∧ (isCountD x = false → kx C (excF ["value"] "invalidcount" [x]) as)
theorem c_check_count {C : Addr} {x : D} {k : SK} {kx : SX} (h : (tyD x).isSome = true) (q1 : isCountD x = true → k (.d .non) [.d x]) (q2 : isCountD x = false → kx C (excF ["value"] "invalidcount" [x]) [.d x]) : sp_check_count C [.d x] k kx := ⟨x, rfl, h, q1, q2⟩
theorem ok_check_count {P : Program} {w : World} {K : PySem.W.Frag} {mg : Str → Option Value} {base : Heap} (T : Txt K mg) : FnOk P w K mg base (L2.CX P w) lv_check_count T.f_check_count T.fd_check_count ["value"] (lower K (sp_check_count T.c_InvalidCount)) := by
  refine fn_w T.F_check_count sc_check_count (fun i => Nat.blt i 1) (by decide) (fun as kk kx h => ?_) (fun cdv A outer s H E hr Tt as kk kx h tk uw => ?_)
  · obtain ⟨x, rfl, _⟩ := h; exact ⟨rfl, rfl⟩
  obtain ⟨x, rfl, ht, k1, k2⟩ := h
  have G_InvalidCount____init__ := ok_InvalidCount____init__ (P := P) (w := w) (base := base) T; have G_is_count := ok_is_count (P := P) (w := w) (base := base) T
  refine ⟨_, (ws_one (w_ifS (wt_not (wt_val (w_call G_is_count (hr.mono (by first | decide | omega)) (by rfl) T.g_is_count T.F_is_count.kp T.b_is_count tk (wa_cons (w_v 0) wa_nil))))
        (ws_one (w_raise1 rfl tk (pmk_oex T.T_InvalidCount T.iC_InvalidCount T.tI_InvalidCount G_InvalidCount____init__ (hr.mono (by first | decide | omega)) T.b_InvalidCount____init__ .nil pass0 (by rfl) T.g_InvalidCount (wa_cons (w_fz (w_v 0)) wa_nil))))
        ws_nil)), ?_⟩
  (rw [show startE _ [(.d x : S)] = [some (.d x)] from rfl]; unfold endsOf)
  walk_at "ws"
  refine c_is_count ht ?_
  walk_at "ws"
  cases c : isCountD x with
  | true => walk_at "ws"; exact k1 c
  | false => walk_at "ws"; exact k2 c
end Wl
namespace Wl
open PySem PySem.Spec PyProof.Rows L2 RZ
open My (s_rI0 nat0)
def sp_is_integer : WSp := fun as k _ => ∃ x, as = [.d x] ∧ (tyD x).isSome = true ∧ k (.d (.bl (isIntD x))) as
theorem c_is_integer {x : D} {k : SK} {kx : SX} (h : (tyD x).isSome = true) (q : k (.d (.bl (isIntD x))) [.d x]) : sp_is_integer [.d x] k kx := ⟨x, rfl, h, q⟩
theorem ok_is_integer {P : Program} {w : World} {K : PySem.W.Frag} {mg : Str → Option Value} {base : Heap} (T : Txt K mg) : FnOk P w K mg base (L2.CX P w) lv_is_integer T.f_is_integer T.fd_is_integer ["value"] (lower K sp_is_integer) := by
  refine fn_w T.F_is_integer sc_is_integer (fun i => Nat.blt i 1) (by decide) (fun as kk kx h => ?_) (fun cdv A outer s H E hr Tt as kk kx h tk uw => ?_)
  · obtain ⟨x, rfl, _⟩ := h; exact ⟨rfl, rfl⟩
  obtain ⟨x, rfl, ht, k⟩ := h
  refine ⟨_, (ws_one (w_ret (w_and (w_callB (callIsi3 K) spIsi (by rfl) T.z_isinstance (by first | exact PySem.boot_isinstance | exact boot_isinstance | decide +kernel) (wa_cons (w_v 0) (wa_cons (w_bltn (n := "int") (by rfl) T.z_int (by first | exact boot_int | decide +kernel)) wa_nil))) (w_one (w_not (w_callB (callIsi3 K) spIsi (by rfl) T.z_isinstance (by first | exact PySem.boot_isinstance | exact boot_isinstance | decide +kernel) (wa_cons (w_v 0) (wa_cons (w_bltn (n := "bool") (by rfl) T.z_bool (by first | exact boot_bool | decide +kernel)) wa_nil)))))))), ?_⟩
  (rw [show startE _ [(.d x : S)] = [some (.d x)] from rfl]; unfold endsOf)
  walk_at "ws"
  refine z_isi ht rfl ?_
  cases x with
  | int i => walk_at "ws"; exact k
  | bl b => walk_at "ws"; exact k
  | _ => walk_at "ws"; exact k
end Wl
namespace Wl
open PySem PySem.Spec PyProof.Rows L2 RZ
open My (s_rI0 nat0)
def sp_check_range (C : Addr) : WSp := fun as k kx => ∃ x lo hi, as = [.d x, .d (.int lo), .d (.int hi)] ∧ (tyD x).isSome = true ∧ (inRD x lo hi = true → k (.d .non) as) ∧ (inRD x lo hi = false → kx C (excF ["value"] "invalidconstant" [x]) as)
theorem c_check_range {C : Addr} {x : D} {lo hi : Int} {k : SK} {kx : SX} (h : (tyD x).isSome = true) (q1 : inRD x lo hi = true → k (.d .non) [.d x, .d (.int lo), .d (.int hi)]) (q2 : inRD x lo hi = false → kx C (excF ["value"] "invalidconstant" [x]) [.d x, .d (.int lo), .d (.int hi)]) : sp_check_range C [.d x, .d (.int lo), .d (.int hi)] k kx := ⟨x, lo, hi, rfl, h, q1, q2⟩
theorem ok_check_range {P : Program} {w : World} {K : PySem.W.Frag} {mg : Str → Option Value} {base : Heap} (T : Txt K mg) : FnOk P w K mg base (L2.CX P w) lv_check_range T.f_check_range T.fd_check_range ["value", "low", "high"] (lower K (sp_check_range T.c_InvalidConstant)) := by
  refine fn_w T.F_check_range sc_check_range (fun i => Nat.blt i 3) (by decide) (fun as kk kx h => ?_) (fun cdv A outer s H E hr Tt as kk kx h tk uw => ?_)
  · obtain ⟨x, lo, hi, rfl, _⟩ := h; exact ⟨rfl, rfl⟩
  obtain ⟨x, lo, hi, rfl, ht, k1, k2⟩ := h
  have G_InvalidConstant____init__ := ok_InvalidConstant____init__ (P := P) (w := w) (base := base) T; have G_is_integer := ok_is_integer (P := P) (w := w) (base := base) T
  refine ⟨_, (ws_one (w_ifS (PW.pt (wt_or (wt_not (wt_val (w_call G_is_integer (hr.mono (by first | decide | omega)) (by rfl) T.g_is_integer T.F_is_integer.kp T.b_is_integer tk (wa_cons (w_v 0) wa_nil)))) (wt_or1 (wt_not (wt_chain (p := fun i j => decide (i ≤ j)) (p' := fun i j => decide (i ≤ j)) op_le op_le (fun _ _ _ _ q => My.s_rI0 q) (fun _ _ _ _ q => My.s_rI0 q) (w_v 1) (w_v 0) (w_v 2))))))
        (ws_one (w_raise1 rfl tk (pmk_oex T.T_InvalidConstant T.iC_InvalidConstant T.tI_InvalidConstant G_InvalidConstant____init__ (hr.mono (by first | decide | omega)) T.b_InvalidConstant____init__ .nil pass0 (by rfl) T.g_InvalidConstant (wa_cons (w_fz (w_v 0)) wa_nil))))
        ws_nil)), ?_⟩
  (rw [show startE _ [(.d x : S), (.d (.int lo) : S), (.d (.int hi) : S)] = [some (.d x), some (.d (.int lo)), some (.d (.int hi))] from rfl]; unfold endsOf)
  walk_at "ws"
  refine c_is_integer ht ?_
  walk_at "ws"
  cases x with
  | int i =>
    have e : inRD (.int i) lo hi = (decide (lo ≤ i) && decide (i ≤ hi)) := rfl
    rw [e] at k1 k2
    walk_at "ws"
    refine z_itd (fun h1 => ?_) fun h1 => ?_
    · walk_at "ws"
      refine z_itn (fun h2 => ?_) fun h2 => ?_
      · walk_at "ws"
        exact k2 (by simp [h1, h2])
      · walk_at "ws"
        exact k1 (by simp [h1, h2])
    · walk_at "ws"
      exact k2 (by simp [h1])
  | _ => walk_at "ws"; exact k2 rfl
end Wl
namespace Wl
open PySem PySem.Spec PyProof.Rows L2 RZ
open My (s_rI0 nat0)
def sp_check_values (CC CK : Addr) : WSp := fun as k kx => ∃ p, as = [.d p] ∧ OkVals p ∧ (valErr p = .none → k (.d .non) as) ∧ (∀ x, valErr p = .count x → kx CC (excF ["value"] "invalidcount" [x]) as) ∧ ∀ x, valErr p = .const x → kx CK (excF ["value"] "invalidconstant" [x]) as
theorem c_check_values {CC CK : Addr} {p : D} {k : SK} {kx : SX} (h : OkVals p) (q1 : valErr p = .none → k (.d .non) [.d p]) (q2 : ∀ x, valErr p = .count x → kx CC (excF ["value"] "invalidcount" [x]) [.d p]) (q3 : ∀ x, valErr p = .const x → kx CK (excF ["value"] "invalidconstant" [x]) [.d p]) : sp_check_values CC CK [.d p] k kx := ⟨p, rfl, h, q1, q2, q3⟩
theorem ok_check_values {P : Program} {w : World} {K : PySem.W.Frag} {mg : Str → Option Value} {base : Heap} (T : Txt K mg) : FnOk P w K mg base (L2.CX P w) lv_check_values T.f_check_values T.fd_check_values ["part"] (lower K (sp_check_values T.c_InvalidCount T.c_InvalidConstant)) := by
  refine fn_w T.F_check_values sc_check_values (fun i => Nat.blt i 1) (by decide) (fun as kk kx h => ?_) (fun cdv A outer s H E hr Tt as kk kx h tk uw => ?_)
  · obtain ⟨p, rfl, _⟩ := h; exact ⟨rfl, rfl⟩
  obtain ⟨p, rfl, hp, k1, k2, k3⟩ := h
  have G_InvalidCount____init__ := ok_InvalidCount____init__ (P := P) (w := w) (base := base) T; have G_check_count := ok_check_count (P := P) (w := w) (base := base) T; have G_check_range := ok_check_range (P := P) (w := w) (base := base) T
  refine ⟨_, (ws_one (w_ifS (wt_cmp (My.opEqK K hr.units) spEq (w_ix (My.ixK K) spIx (w_v 0) w_int) w_str)
        (ws_cons (w_expr (w_call G_check_count (hr.mono (by first | decide | omega)) (by rfl) T.g_check_count T.F_check_count.kp T.b_check_count tk (wa_cons (w_ix (My.ixK K) spIx (w_v 0) w_int) wa_nil)))
        (ws_one (w_expr (w_call G_check_range (hr.mono (by first | decide | omega)) (by rfl) T.g_check_range T.F_check_range.kp T.b_check_range tk (wa_cons (w_ix (My.ixK K) spIx (w_v 0) w_int) (wa_cons w_int (wa_cons (w_glob (v := .int 3) (d := .int 3) (by rfl) T.g_MAX_CONSTANT (fun _ _ => .int _) ⟨_, rfl⟩) wa_nil)))))))
        (ws_one (w_ifS (wt_cmp (My.opEqK K hr.units) spEq (w_ix (My.ixK K) spIx (w_v 0) w_int) w_str)
          (ws_cons (w_expr (w_call G_check_count (hr.mono (by first | decide | omega)) (by rfl) T.g_check_count T.F_check_count.kp T.b_check_count tk (wa_cons (w_ix (My.ixK K) spIx (w_v 0) w_int) wa_nil)))
          (ws_cons (w_expr (w_call G_check_count (hr.mono (by first | decide | omega)) (by rfl) T.g_check_count T.F_check_count.kp T.b_check_count tk (wa_cons (w_ix (My.ixK K) spIx (w_v 0) w_int) wa_nil)))
          (ws_cons (w_ifS (wt_cmp (My.opEqK K hr.units) spEq (w_ix (My.ixK K) spIx (w_v 0) w_int) (w_ix (My.ixK K) spIx (w_v 0) w_int))
            (ws_one (w_raise1 rfl tk (pmk_oex T.T_InvalidCount T.iC_InvalidCount T.tI_InvalidCount G_InvalidCount____init__ (hr.mono (by first | decide | omega)) T.b_InvalidCount____init__ .nil pass0 (by rfl) T.g_InvalidCount (wa_cons (w_fz (w_ix (My.ixK K) spIx (w_v 0) w_int)) wa_nil))))
            ws_nil)
          (ws_one (w_expr (w_call G_check_range (hr.mono (by first | decide | omega)) (by rfl) T.g_check_range T.F_check_range.kp T.b_check_range tk (wa_cons (w_ix (My.ixK K) spIx (w_v 0) w_int) (wa_cons (w_un un_neg (spNeg fun _ _ _ q => My.s_rU q) (w_glob (v := .int 3) (d := .int 3) (by rfl) T.g_MAX_CONSTANT (fun _ _ => .int _) ⟨_, rfl⟩)) (wa_cons (w_glob (v := .int 3) (d := .int 3) (by rfl) T.g_MAX_CONSTANT (fun _ _ => .int _) ⟨_, rfl⟩) wa_nil)))))))))
          (ws_one (w_ifS (wt_cmp (My.opEqK K hr.units) spEq (w_ix (My.ixK K) spIx (w_v 0) w_int) w_str)
            (ws_cons (w_expr (w_call G_check_count (hr.mono (by first | decide | omega)) (by rfl) T.g_check_count T.F_check_count.kp T.b_check_count tk (wa_cons (w_ix (My.ixK K) spIx (w_v 0) w_int) wa_nil)))
            (ws_cons (w_expr (w_call G_check_range (hr.mono (by first | decide | omega)) (by rfl) T.g_check_range T.F_check_range.kp T.b_check_range tk (wa_cons (w_ix (My.ixK K) spIx (w_v 0) w_int) (wa_cons (w_glob (v := .int 2) (d := .int 2) (by rfl) T.g_MIN_MODULUS (fun _ _ => .int _) ⟨_, rfl⟩) (wa_cons (w_glob (v := .int 4) (d := .int 4) (by rfl) T.g_MAX_MODULUS (fun _ _ => .int _) ⟨_, rfl⟩) wa_nil)))))
            (ws_one (w_expr (w_call G_check_range (hr.mono (by first | decide | omega)) (by rfl) T.g_check_range T.F_check_range.kp T.b_check_range tk (wa_cons (w_ix (My.ixK K) spIx (w_v 0) w_int) (wa_cons w_int (wa_cons (w_op op_sub (spSub fun _ _ _ _ q => My.s_rI0 q) (w_ix (My.ixK K) spIx (w_v 0) w_int) w_int) wa_nil))))))))
            ws_nil)))))), ?_⟩
  (rw [show startE _ [(.d p : S)] = [some (.d p)] from rfl]; unfold endsOf)
  cases hp with
  | least c k hc hk =>
    rw [valErr_least] at k1 k2 k3
    walk_at "ws"
    refine c_check_count hc (fun h1 => ?_) fun h1 => ?_
    · rw [errCount, if_pos h1] at k1 k2 k3
      walk_at "ws"
      refine c_check_range hk (fun h2 => ?_) fun h2 => ?_
      · rw [errRange, if_pos h2] at k1
        walk_at "ws"
        exact k1 rfl
      · rw [errRange, if_neg (by rw [h2]; exact Bool.false_ne_true)] at k3
        walk_at "ws"
        exact k3 _ rfl
    · rw [errCount, if_neg (by rw [h1]; exact Bool.false_ne_true)] at k2
      walk_at "ws"
      exact k2 _ rfl
  | ahead c d k hc hd hk =>
    rw [valErr_ahead] at k1 k2 k3
    walk_at "ws"
    refine c_check_count hc (fun h1 => ?_) fun h1 => ?_
    · rw [errCount, if_pos h1] at k1 k2 k3
      walk_at "ws"
      refine c_check_count hd (fun h2 => ?_) fun h2 => ?_
      · rw [errCount, if_pos h2] at k1 k2 k3
        obtain ⟨s, rfl⟩ := count_str h1
        obtain ⟨t, rfl⟩ := count_str h2
        walk_at "ws"
        refine z_itd (fun h3 => ?_) fun h3 => ?_
        · rw [if_pos (show sameStr (.str s) (.str t) = true from decide_eq_true h3)] at k2
          walk_at "ws"
          exact k2 _ rfl
        · rw [if_neg (show ¬ sameStr (.str s) (.str t) = true from fun z => h3 (of_decide_eq_true z))] at k1 k3
          walk_at "ws"
          refine c_check_range hk (fun h2 => ?_) fun h2 => ?_
          · rw [errRange, if_pos h2] at k1
            walk_at "ws"
            exact k1 rfl
          · rw [errRange, if_neg (by rw [h2]; exact Bool.false_ne_true)] at k3
            walk_at "ws"
            exact k3 _ rfl
      · rw [errCount, if_neg (by rw [h2]; exact Bool.false_ne_true)] at k2
        walk_at "ws"
        exact k2 _ rfl
    · rw [errCount, if_neg (by rw [h1]; exact Bool.false_ne_true)] at k2
      walk_at "ws"
      exact k2 _ rfl
  | rest c d k hc hd hk =>
    rw [valErr_rest] at k1 k2 k3
    walk_at "ws"
    refine c_check_count hc (fun h1 => ?_) fun h1 => ?_
    · rw [errCount, if_pos h1] at k1 k2 k3
      walk_at "ws"
      refine c_check_range hd (fun h2 => ?_) fun h2 => ?_
      · rw [errRange, if_pos h2] at k1 k2 k3
        obtain ⟨i, rfl, _⟩ := range_int h2
        simp only [intOf] at k1 k2 k3
        walk_at "ws"
        refine c_check_range hk (fun h2 => ?_) fun h2 => ?_
        · rw [errRange, if_pos h2] at k1
          walk_at "ws"
          exact k1 rfl
        · rw [errRange, if_neg (by rw [h2]; exact Bool.false_ne_true)] at k3
          walk_at "ws"
          exact k3 _ rfl
      · rw [errRange, if_neg (by rw [h2]; exact Bool.false_ne_true)] at k3
        walk_at "ws"
        exact k3 _ rfl
    · rw [errCount, if_neg (by rw [h1]; exact Bool.false_ne_true)] at k2
      walk_at "ws"
      exact k2 _ rfl
  | other w r h1 h2 h3 =>
    walk_at "ws"
    exact k1 (valErr_other h1 h2 h3)
end Wl
namespace Wl
open PySem PySem.Spec PyProof.Rows L2 RZ
open My (s_rI0 nat0)
def sp_part_fits : WSp := fun as k _ => ∃ p, as = [.d p] ∧ OkPart p ∧ k (.d (.bl (fitsD p))) as
theorem c_part_fits {p : D} {k : SK} {kx : SX} (h : OkPart p) (q : k (.d (.bl (fitsD p))) [.d p]) : sp_part_fits [.d p] k kx := ⟨p, rfl, h, q⟩
theorem ok_part_fits {P : Program} {w : World} {K : PySem.W.Frag} {mg : Str → Option Value} {base : Heap} (T : Txt K mg) : FnOk P w K mg base (L2.CX P w) lv_part_fits T.f_part_fits T.fd_part_fits ["part"] (lower K sp_part_fits) := by
  refine fn_w T.F_part_fits sc_part_fits (fun i => Nat.blt i 1) (by decide) (fun as kk kx h => ?_) (fun cdv A outer s H E hr Tt as kk kx h tk uw => ?_)
  · obtain ⟨p, rfl, _⟩ := h; exact ⟨rfl, rfl⟩
  obtain ⟨p, rfl, ⟨ht, ⟨y, hy, hs⟩, hi, ntp⟩, k⟩ := h
  have G_check_values := ok_check_values (P := P) (w := w) (base := base) T
  refine ⟨_, (ws_cons (w_ifS (PW.pt (wt_or (wt_not (wt_val (w_callB (callIsi3 K) spIsi (by rfl) T.z_isinstance (by first | exact PySem.boot_isinstance | exact boot_isinstance | decide +kernel) (wa_cons (w_v 0) (wa_cons (w_bltn (n := "tuple") (by rfl) T.z_tuple (by first | exact boot_tuple | decide +kernel)) wa_nil))))) (wt_or1 (wt_cmp (My.opEqK K hr.units) spEq (w_v 0) (w_tup wa_nil)))))
        (ws_one (w_ret w_bl))
        ws_nil)
      (ws_cons (w_set (i := 1) rfl sc_part_fits.nd rfl (by first | exact .inl rfl | exact .inr rfl) (w_ix (My.ixK K) spIx (w_v 0) w_int))
      (ws_cons (w_ifS (wt_cmp (opIn3 (K := K) (un65 hr)) spIn (w_v 1) (w_glob (v := .ref T.c_PLAIN_WORDS) (d := dc_PLAIN_WORDS) (by rfl) T.g_PLAIN_WORDS (fun _ _ => hd_PLAIN_WORDS T) rfl))
        (ws_one (w_ret (w_cmp (My.opEqK K hr.units) spEq (w_callB (My.callLenK K) spLen (by rfl) T.z_len (by first | exact PySem.boot_len | exact boot_len | decide +kernel) (wa_cons (w_v 0) wa_nil)) w_int)))
        ws_nil)
      (ws_cons (w_ifS (wt_cmp (opNotIn3 (K := K) (un65 hr)) spIn (w_tup (wa_cons (w_fz (w_v 1)) (wa_cons (w_fz (w_callB (My.callLenK K) spLen (by rfl) T.z_len (by first | exact PySem.boot_len | exact boot_len | decide +kernel) (wa_cons (w_v 0) wa_nil))) wa_nil))) (w_tup (wa_cons (w_fz (w_tup (wa_cons w_str (wa_cons w_int wa_nil)))) (wa_cons (w_fz (w_tup (wa_cons w_str (wa_cons w_int wa_nil)))) (wa_cons (w_fz (w_tup (wa_cons w_str (wa_cons w_int wa_nil)))) wa_nil)))))
        (ws_one (w_ret w_bl))
        ws_nil)
      (ws_cons (w_try2 (tcl_ok_InvalidCount_InvalidConstant T) ⟨by rfl, by decide, .inl T.g_InvalidCount⟩ ⟨by rfl, by decide, .inl T.g_InvalidConstant⟩ tk (fun W2 pn2 xe2 tk po2 =>
        (ws_one (w_expr (w_call G_check_values (hr.mono (by first | decide | omega)) (by rfl) T.g_check_values T.F_check_values.kp T.b_check_values tk (wa_cons (w_v 0) wa_nil))))) (fun a2 oe2 cls2 d2 pn3 =>
        (ws_one (w_ret w_bl))))
      (ws_one (w_ret w_bl))))))), ?_⟩
  (rw [show startE _ [(.d p : S)] = [some (.d p), none] from rfl]; unfold endsOf)
  walk_at "ws"
  refine z_isi ht rfl ?_
  cases p with
  | tup ps =>
    obtain ⟨hl, hn⟩ := hi ps rfl
    obtain ⟨xs, rfl, hx⟩ := py_tup hy
    walk_at "ws"
    refine z_eqP hy rfl hs (by decide +kernel) ?_
    rw [eq_nil hy]
    walk_at "ws"
    refine z_itd (fun e => ?_) fun e => ?_
    · subst e
      walk_at "ws"
      exact k
    · cases ps with
      | nil => exact (e rfl).elim
      | cons x r =>
        obtain ⟨y, ys, rfl, hy1, hy2⟩ := pyL_cons hx
        walk_at "ws"
        refine z_inP (ps := [.str "yes", .str "no", .str "not", .str "and", .str "or"]) hy1 rfl (shaped_head hs) (by decide +kernel) ?_
        rw [if_neg Bool.false_ne_true, any_plain hy1]
        walk_at "ws"
        refine z_ite (fun hp => ?_) fun hp => ?_
        · cases x with
          | str w =>
            rw [fits_plain hp] at k
            walk_at "ws"
            rw [show decide ((((D.str w :: r).length : Nat) : Int) = 1) = decide (r.length + 1 = 1) from decide_eq_decide.mpr (by rw [List.length_cons]; omega)]
            exact k
          | _ => cases hp
        · walk_at "ws"
          refine z_inP (p := .tuple [y, .int ((x :: r).length : Nat)]) (ps := [.tuple [.str "least", .int 3], .tuple [.str "ahead", .int 4], .tuple [.str "rest", .int 4]]) (by unfold D.py pyL; rw [hy1]; rfl) rfl (shaped_two hs) (by decide +kernel) ?_
          rw [if_pos rfl, any_shape hy1]
          walk_at "ws"
          cases hq : shapeD x ((x :: r).length : Nat) with
          | false =>
            rw [fits_shape hp hq] at k
            walk_at "ws"
            exact k
          | true =>
            obtain ⟨ov, ef⟩ := shape_vals hq fun z hz => hl z (List.mem_cons_of_mem _ hz)
            rw [ef] at k
            walk_at "ws"
            refine c_check_values ov (fun e => ?_) (fun v e => ?_) fun v e => ?_
            · rw [e] at k
              walk_at "ws"
              exact k
            · rw [e] at k
              walk_at "ws"
              refine ⟨true, .x_InvalidCount, fun _ => ?_, nofun⟩
              walk_at "ws"
              exact k
            · rw [e] at k
              walk_at "ws"
              refine ⟨true, .x_InvalidConstant, fun _ => ?_, nofun⟩
              walk_at "ws"
              exact k
  | tupP ds => exact (ntp ds rfl).elim
  | _ => walk_at "ws"; exact k
end Wl
namespace Wl
open PySem PySem.Spec PyProof.Rows L2 RZ
open My (s_rI0 nat0)
def sp_check_code (CL CC : Addr) : WSp := fun as k kx => ∃ ps, as = [.d (.tup ps)] ∧ (∀ p ∈ ps, OkPart p) ∧ (codeErr ps = .none → k (.d .non) as) ∧ (codeErr ps = .limit → kx CL (excF ["limit"] "limitexceeded" [.int 60]) as) ∧ ∀ i, codeErr ps = .at i → kx CC (excF ["position"] "invalidcode" [.int (i : Nat)]) as
theorem c_check_code {CL CC : Addr} {ps : List D} {k : SK} {kx : SX} (h : ∀ p ∈ ps, OkPart p) (q1 : codeErr ps = .none → k (.d .non) [.d (.tup ps)]) (q2 : codeErr ps = .limit → kx CL (excF ["limit"] "limitexceeded" [.int 60]) [.d (.tup ps)]) (q3 : ∀ i, codeErr ps = .at i → kx CC (excF ["position"] "invalidcode" [.int (i : Nat)]) [.d (.tup ps)]) : sp_check_code CL CC [.d (.tup ps)] k kx := ⟨ps, rfl, h, q1, q2, q3⟩
theorem ok_check_code {P : Program} {w : World} {K : PySem.W.Frag} {mg : Str → Option Value} {base : Heap} (T : Txt K mg) : FnOk P w K mg base (L2.CX P w) lv_check_code T.f_check_code T.fd_check_code ["code"] (lower K (sp_check_code T.c_LimitExceeded T.c_InvalidCode)) := by
  refine fn_w T.F_check_code sc_check_code (fun i => Nat.blt i 1) (by decide) (fun as kk kx h => ?_) (fun cdv A outer s H E hr Tt as kk kx h tk uw => ?_)
  · obtain ⟨ps, rfl, _⟩ := h; exact ⟨rfl, rfl⟩
  obtain ⟨ps, rfl, hp, k1, k2, k3⟩ := h
  have G_InvalidCode____init__ := ok_InvalidCode____init__ (P := P) (w := w) (base := base) T; have G_LimitExceeded____init__ := ok_LimitExceeded____init__ (P := P) (w := w) (base := base) T; have G_part_fits := ok_part_fits (P := P) (w := w) (base := base) T
  refine ⟨_, (ws_cons (w_ifS (wt_cmp op_gt (spCmp (p := fun i j => decide (i > j)) fun _ _ _ _ q => My.s_rI0 q) (w_callB (My.callLenK K) spLen (by rfl) T.z_len (by first | exact PySem.boot_len | exact boot_len | decide +kernel) (wa_cons (w_v 0) wa_nil)) (w_glob (v := .int 60) (d := .int 60) (by rfl) T.g_MAX_PARTS (fun _ _ => .int _) ⟨_, rfl⟩))
        (ws_one (w_raise1 rfl tk (pmk_oex T.T_LimitExceeded T.iC_LimitExceeded T.tI_LimitExceeded G_LimitExceeded____init__ (hr.mono (by first | decide | omega)) T.b_LimitExceeded____init__ .nil pass0 (by rfl) T.g_LimitExceeded (wa_cons (w_fz (w_glob (v := .int 60) (d := .int 60) (by rfl) T.g_MAX_PARTS (fun _ _ => .int _) ⟨_, rfl⟩)) wa_nil))))
        ws_nil)
      (ws_cons (w_set (i := 1) rfl sc_check_code.nd rfl (by first | exact .inl rfl | exact .inr rfl) w_int)
      (ws_cons (w_for uw (passes_of rfl) rfl (wi_enum rfl (by rfl) T.z_enumerate (wa_cons (w_fz (w_v 0)) wa_nil)) (w_gT (is := [2, 3])  rfl (by decide) rfl (pgs_cons (pg_name (i := 2) sc_check_code.nd rfl (by first | exact .inl rfl | exact .inr rfl)) (pgs_cons (pg_name (i := 3) sc_check_code.nd rfl (by first | exact .inl rfl | exact .inr rfl)) pgs_nil)))
        (ws_cons (w_ifS (wt_not (wt_val (w_call G_part_fits (hr.mono (by first | decide | omega)) (by rfl) T.g_part_fits T.F_part_fits.kp T.b_part_fits tk (wa_cons (w_v 3) wa_nil))))
          (ws_one (w_raise1 rfl tk (pmk_oex T.T_InvalidCode T.iC_InvalidCode T.tI_InvalidCode G_InvalidCode____init__ (hr.mono (by first | decide | omega)) T.b_InvalidCode____init__ .nil pass0 (by rfl) T.g_InvalidCode (wa_cons (w_fz (w_v 2)) wa_nil))))
          ws_nil)
        (ws_cons (w_set (i := 4) rfl sc_check_code.nd rfl (by first | exact .inl rfl | exact .inr rfl) (w_get2 (un1 hr) (w_disp (wp_cons w_str w_int (wp_cons w_str w_int (wp_cons w_str w_int wp_nil)))) (w_ix (My.ixK K) spIx (w_v 3) w_int) w_int))
        (ws_cons (w_ifS (wt_cmp op_lt (spCmp (p := fun i j => decide (i < j)) fun _ _ _ _ q => My.s_rI0 q) (w_v 1) (w_v 4))
          (ws_one (w_raise1 rfl tk (pmk_oex T.T_InvalidCode T.iC_InvalidCode T.tI_InvalidCode G_InvalidCode____init__ (hr.mono (by first | decide | omega)) T.b_InvalidCode____init__ .nil pass0 (by rfl) T.g_InvalidCode (wa_cons (w_fz (w_v 2)) wa_nil))))
          ws_nil)
        (ws_one (w_set (i := 1) rfl sc_check_code.nd rfl (by first | exact .inl rfl | exact .inr rfl) (w_op op_sub (spSub fun _ _ _ _ q => My.s_rI0 q) (w_op (opAdd3 (K := K)) spAdd (w_v 1) w_int) (w_v 4))))))))
      (ws_one (w_ifS (wt_cmp (My.opNeK K hr.units) spNe (w_v 1) w_int)
        (ws_one (w_raise1 rfl tk (pmk_oex T.T_InvalidCode T.iC_InvalidCode T.tI_InvalidCode G_InvalidCode____init__ (hr.mono (by first | decide | omega)) T.b_InvalidCode____init__ .nil pass0 (by rfl) T.g_InvalidCode (wa_cons (w_fz (w_callB (My.callLenK K) spLen (by rfl) T.z_len (by first | exact PySem.boot_len | exact boot_len | decide +kernel) (wa_cons (w_v 0) wa_nil))) wa_nil))))
        ws_nil))))), ?_⟩
  (rw [show startE _ [(.d (.tup ps) : S)] = [some (.d (.tup ps)), none, none, none, none] from rfl]; unfold endsOf)
  walk_at "ws"
  refine z_itd (fun hl => ?_) fun hl => ?_
  · walk_at "ws"
    exact k2 (codeErr_long hl)
  · rw [codeErr_short hl] at k1 k3
    walk_at "ws"
    refine for_inv (fun i e => ∃ (d : Int) (v1 v2 v3 : Option S), e = [some (.d (.tup ps)), some (.d (.int d)), v1, v2, v3] ∧ codeAt 0 0 ps = codeAt i d (ps.drop i)) ⟨_, _, _, _, rfl, rfl⟩ ?_ ?_
    · rintro i x e N hx hN ⟨d, v1, v2, v3, rfl, hc⟩
      obtain ⟨p, hpi, rfl⟩ := enum_at hx
      rw [drop_at hpi, codeAt_cons] at hc
      walk_at "ws"
      refine c_part_fits (hp p (List.mem_of_getElem? hpi)) ?_
      walk_at "ws"
      cases hf : fitsD p with
      | false =>
        rw [if_pos hf] at hc
        rw [hc] at k3
        walk_at "ws"
        exact k3 i rfl
      | true =>
        rw [if_neg (by rw [hf]; exact fun z => Bool.noConfusion z)] at hc
        obtain ⟨w, r, rfl⟩ := fits_form hf
        walk_at "ws"
        rw [need_val (r := r)]
        walk_at "ws"
        refine z_itd (fun hd => ?_) fun hd => ?_
        · rw [if_pos hd] at hc
          rw [hc] at k3
          walk_at "ws"
          exact k3 i rfl
        · rw [if_neg hd] at hc
          walk_at "ws"
          exact hN _ ⟨_, _, _, _, rfl, hc⟩
    · rintro e ⟨d, v1, v2, v3, rfl, hc⟩
      rw [enumD_len, List.drop_length, codeAt_nil] at hc
      rw [hc] at k1 k3
      walk_at "ws"
      refine z_itn (fun hd => ?_) fun hd => ?_
      · walk_at "ws"
        exact k3 _ (if_neg hd)
      · walk_at "ws"
        exact k1 (if_pos hd)
end Wl
namespace Wl
open PySem PySem.Spec PyProof.Rows L2 RZ
open My (s_rI0 nat0)
/-- a wish of a code -/
def sp_Wish____init__ (C CL CC : Addr) : WSp := fun as k kx => ∃ ps, as = [.o C [], .d (.tup ps)] ∧ (∀ p ∈ ps, OkPart p) ∧ (codeErr ps = .none → k (.d .non) [.o C [("code", .tup ps)], .d (.tup ps)]) ∧ (codeErr ps = .limit → kx CL (excF ["limit"] "limitexceeded" [.int 60]) as) ∧ ∀ i, codeErr ps = .at i → kx CC (excF ["position"] "invalidcode" [.int (i : Nat)]) as
theorem c_Wish {C CL CC : Addr} {ps : List D} {k : SK} {kx : SX} (h : ∀ p ∈ ps, OkPart p) (q1 : codeErr ps = .none → k (.d .non) [.o C [("code", .tup ps)], .d (.tup ps)]) (q2 : codeErr ps = .limit → kx CL (excF ["limit"] "limitexceeded" [.int 60]) [.o C [], .d (.tup ps)]) (q3 : ∀ i, codeErr ps = .at i → kx CC (excF ["position"] "invalidcode" [.int (i : Nat)]) [.o C [], .d (.tup ps)]) : sp_Wish____init__ C CL CC [.o C [], .d (.tup ps)] k kx := ⟨ps, rfl, h, q1, q2, q3⟩
theorem c_WishN {C CL CC : Addr} {ps : List D} {k : SK} {kx : SX} (h : ∀ p ∈ ps, OkPart p) (e : codeErr ps = .none) (q : k (.d .non) [.o C [("code", .tup ps)], .d (.tup ps)]) : sp_Wish____init__ C CL CC [.o C [], .d (.tup ps)] k kx := c_Wish h (fun _ => q) (fun z => by rw [e] at z; cases z) (fun i z => by rw [e] at z; cases z)
theorem c_WishL {C CL CC : Addr} {ps : List D} {k : SK} {kx : SX} (h : ∀ p ∈ ps, OkPart p) (e : codeErr ps = .limit) (q : kx CL (excF ["limit"] "limitexceeded" [.int 60]) [.o C [], .d (.tup ps)]) : sp_Wish____init__ C CL CC [.o C [], .d (.tup ps)] k kx := c_Wish h (fun z => by rw [e] at z; cases z) (fun _ => q) (fun i z => by rw [e] at z; cases z)
theorem c_WishA {C CL CC : Addr} {ps : List D} {i : Nat} {k : SK} {kx : SX} (h : ∀ p ∈ ps, OkPart p) (e : codeErr ps = .at i) (q : kx CC (excF ["position"] "invalidcode" [.int (i : Nat)]) [.o C [], .d (.tup ps)]) : sp_Wish____init__ C CL CC [.o C [], .d (.tup ps)] k kx := c_Wish h (fun z => by rw [e] at z; cases z) (fun z => by rw [e] at z; cases z) (fun j z => by rw [e] at z; cases z; exact q)
theorem ok_Wish____init__ {P : Program} {w : World} {K : PySem.W.Frag} {mg : Str → Option Value} {base : Heap} (T : Txt K mg) : FnOk P w K mg base (L2.CX P w) lv_Wish____init__ T.f_Wish____init__ T.fd_Wish____init__ ["self", "code"] (lower K (sp_Wish____init__ T.c_Wish T.c_LimitExceeded T.c_InvalidCode)) := by
  refine fn_w T.F_Wish____init__ sc_Wish____init__ (fun i => Nat.blt i 2) (by decide) (fun as kk kx h => ?_) (fun cdv A outer s H E hr Tt as kk kx h tk uw => ?_)
  · obtain ⟨ps, rfl, _⟩ := h; exact ⟨rfl, rfl⟩
  obtain ⟨ps, rfl, hp, k1, k2, k3⟩ := h
  have G_check_code := ok_check_code (P := P) (w := w) (base := base) T
  refine ⟨_, (ws_cons (w_expr (w_call G_check_code (hr.mono (by first | decide | omega)) (by rfl) T.g_check_code T.F_check_code.kp T.b_check_code tk (wa_cons (w_v 1) wa_nil)))
      (ws_one (w_sto 0 (P := fun C => C = T.c_Wish) rfl (fun _ h => h ▸ ⟨T.K_Wish, T.n_Wish_code⟩) (w_callTy (My.callTupleK K) spTuple (by rfl) T.z_tuple (by first | exact PySem.boot_tuple | exact boot_tuple | decide +kernel) (wa_cons (w_v 1) wa_nil))))), ?_⟩
  (rw [show startE _ [(.o T.c_Wish [] : S), (.d (.tup ps) : S)] = [some (.o T.c_Wish []), some (.d (.tup ps))] from rfl]; unfold endsOf)
  walk_at "ws"
  refine c_check_code hp (fun e => ?_) (fun e => ?_) fun i e => ?_
  · walk_at "ws"
    exact k1 e
  · walk_at "ws"
    exact k2 e
  · walk_at "ws"
    exact k3 i e
end Wl
namespace Wl
open PySem PySem.Spec PyProof.Rows L2 RZ
open My (s_rI0 nat0)
def sp__law_bag : WSp := fun as k _ => ∃ (ns : List Int), as = [.d (.lst (ns.map .int))] ∧ ns.length ≤ 63 ∧ ∀ xs, BagW xs → k (.own (.l xs)) as
theorem s_bag {ns : List Int} {k : SK} {kx : SX} (hl : ns.length ≤ 63) (h : ∀ xs, BagW xs → k (.own (.l xs)) [.d (.lst (ns.map .int))]) : sp__law_bag [.d (.lst (ns.map .int))] k kx := ⟨ns, rfl, hl, h⟩
theorem ok__law_bag {P : Program} {w : World} {K : PySem.W.Frag} {mg : Str → Option Value} {base : Heap} (T : Txt K mg) : FnOk P w K mg base (L2.CX P w) lv__law_bag T.f__law_bag T.fd__law_bag ["_law_script"] (lower K sp__law_bag) := by
  refine fn_w T.F__law_bag sc__law_bag (fun i => Nat.blt i 1) (by decide) (fun as kk kx h => ?_) (fun cdv A outer s H E hr Tt as kk kx h tk uw => ?_)
  · obtain ⟨ns, rfl, _⟩ := h; exact ⟨rfl, rfl⟩
  obtain ⟨ns, rfl, hl, k⟩ := h
  have hc : cutD (ns.map D.int) none (some 63) = ns.map D.int := cutD_all (by rw [List.length_map]; omega)
  refine ⟨_, (ws_cons (w_set (i := 1) rfl sc__law_bag.nd rfl (by first | exact .inl rfl | exact .inr rfl) w_int)
      (ws_cons (w_for uw (passes_of rfl) rfl (wi_it rfl (w_sl (w_v 0) wo_none (wo_some w_int))) (w_gN (i := 2)  rfl sc__law_bag.nd rfl (by first | exact .inl rfl | exact .inr rfl))
        (ws_one (w_set (i := 1) rfl sc__law_bag.nd rfl (by first | exact .inl rfl | exact .inr rfl) (w_op op_mod spMod (w_callTy My.callInt spInt (by rfl) T.z_int (by first | exact PySem.boot_int | exact boot_int | decide +kernel) (wa_cons (w_op (opAdd3 (K := K)) spAdd (w_op (opAdd3 (K := K)) spAdd (w_op My.opMul spMul (w_v 1) w_int) (w_op op_mod spMod (w_callTy My.callInt spInt (by rfl) T.z_int (by first | exact PySem.boot_int | exact boot_int | decide +kernel) (wa_cons (w_v 2) wa_nil)) w_int)) w_int) wa_nil)) w_int))))
      (ws_one (w_ret (w_lst (wa_cons (w_fz (w_callTy (My.callListK K) spList (by rfl) T.z_list (by first | exact PySem.boot_list | exact boot_list | decide +kernel) (wa_cons (w_sl (w_v 0) wo_none (wo_some w_int)) wa_nil))) (wa_cons w_int (wa_cons w_int (wa_cons (w_fz (w_v 1)) wa_nil))))))))), ?_⟩
  (rw [show startE _ [(.d (.lst (ns.map .int)) : S)] = [some (.d (.lst (ns.map .int))), none, none] from rfl]; unfold endsOf)
  walk_at "ws"
  rw [hc]
  walk_at "ws"
  refine for_inv (fun _ e => ∃ (z : Int) (v : Option S), e = [some (.d (.lst (ns.map .int))), some (.d (.int z)), v] ∧ 0 ≤ z ∧ z < 2147483563) ⟨_, _, rfl, by decide, by decide⟩ ?_ ?_
  · rintro i x e N hx hN ⟨z, v, rfl, h0, h1⟩
    obtain ⟨n, rfl⟩ : ∃ n, x = D.int n := by
      rw [List.getElem?_map] at hx
      cases e : ns[i]? with
      | none => rw [e] at hx; cases hx
      | some n => rw [e] at hx; exact ⟨n, (Option.some.inj hx).symm⟩
    walk_at "ws"
    exact hN _ ⟨_, _, rfl, Int.emod_nonneg _ (by decide), Int.emod_lt_of_pos _ (by decide)⟩
  · rintro e ⟨z, v, rfl, h0, h1⟩
    walk_at "ws"
    rw [hc]
    walk_at "ws"
    exact k _ ⟨ns, 0, 0, z, rfl, hl, by decide, h0, h1⟩
end Wl
namespace Wl
open PySem PySem.Spec PyProof.Rows L2 RZ
open My (s_rI0 nat0)
def sp__law_pull : WSp := fun as k _ => ∃ (xs : List D) (m : Int), as = [.l xs, .d (.int m)] ∧ BagW xs ∧ 0 < m ∧ m < 1073741824 ∧ ∀ (n : Int) (ys : List D), 0 ≤ n → n < m → BagW ys → k (.d (.int n)) [.l ys, .d (.int m)]
theorem s_pull {xs : List D} {m : Int} {k : SK} {kx : SX} (B : BagW xs) (hm : 0 < m ∧ m < 1073741824) (h : ∀ (n : Int) (ys : List D), 0 ≤ n → n < m → BagW ys → k (.d (.int n)) [.l ys, .d (.int m)]) : sp__law_pull [.l xs, .d (.int m)] k kx := ⟨xs, m, rfl, B, hm.1, hm.2, h⟩
theorem ok__law_pull {P : Program} {w : World} {K : PySem.W.Frag} {mg : Str → Option Value} {base : Heap} (T : Txt K mg) : FnOk P w K mg base (L2.CX P w) lv__law_pull T.f__law_pull T.fd__law_pull ["_law_bag_here", "_law_many"] (lower K sp__law_pull) := by
  refine fn_w T.F__law_pull sc__law_pull (fun i => Nat.blt i 2) (by decide) (fun as kk kx h => ?_) (fun cdv A outer s H E hr Tt as kk kx h tk uw => ?_)
  · obtain ⟨xs, m, rfl, _⟩ := h; exact ⟨rfl, rfl⟩
  obtain ⟨xs, m, rfl, B, hm, hm2, k⟩ := h
  refine ⟨_, (ws_cons (w_ifS (PW.pt (wt_and (wt_cmp (My.opEqK K hr.units) spEq (w_ix (My.ixK K) spIx (w_v 0) w_int) w_int) (wt_and1 (wt_cmp op_lt (spCmp (p := fun i j => decide (i < j)) fun _ _ _ _ q => My.s_rI0 q) (w_ix (My.ixK K) spIx (w_v 0) w_int) (w_callB (My.callLenK K) spLen (by rfl) T.z_len (by first | exact PySem.boot_len | exact boot_len | decide +kernel) (wa_cons (w_ix (My.ixK K) spIx (w_v 0) w_int) wa_nil))))))
        (ws_cons (w_set (i := 2) rfl sc__law_pull.nd rfl (by first | exact .inl rfl | exact .inr rfl) (w_ix (My.ixK K) spIx (w_ix (My.ixK K) spIx (w_v 0) w_int) (w_ix (My.ixK K) spIx (w_v 0) w_int)))
        (ws_cons (w_setIx 0 (w_op (opAdd3 (K := K)) spAdd (w_ix (My.ixK K) spIx (w_v 0) w_int) w_int) w_int)
        (ws_one (w_ifS (wt_cmp op_ge (spCmp (p := fun i j => decide (i ≥ j)) fun _ _ _ _ q => My.s_rI0 q) (w_v 2) (w_op op_pow spPow w_int w_int))
          (ws_one (w_setIx 0 (w_op op_sub (spSub fun _ _ _ _ q => My.s_rI0 q) (w_v 2) (w_op op_pow spPow w_int w_int)) w_int))
          (ws_one (w_setIx 0 (w_op op_mod spMod (w_callTy My.callInt spInt (by rfl) T.z_int (by first | exact PySem.boot_int | exact boot_int | decide +kernel) (wa_cons (w_op (opAdd3 (K := K)) spAdd (w_op (opAdd3 (K := K)) spAdd (w_op My.opMul spMul (w_ix (My.ixK K) spIx (w_v 0) w_int) w_int) (w_op My.opMul spMul (w_op op_mod spMod (w_callTy My.callInt spInt (by rfl) T.z_int (by first | exact PySem.boot_int | exact boot_int | decide +kernel) (wa_cons (w_v 2) wa_nil)) w_int) w_int)) w_int) wa_nil)) w_int) w_int))))))
        ws_nil)
      (ws_cons (w_ifS (wt_cmp op_gt (spCmp (p := fun i j => decide (i > j)) fun _ _ _ _ q => My.s_rI0 q) (w_ix (My.ixK K) spIx (w_v 0) w_int) w_int)
        (ws_cons (w_set (i := 3) rfl sc__law_pull.nd rfl (by first | exact .inl rfl | exact .inr rfl) (w_op op_mod spMod (w_callTy My.callInt spInt (by rfl) T.z_int (by first | exact PySem.boot_int | exact boot_int | decide +kernel) (wa_cons (w_ix (My.ixK K) spIx (w_v 0) w_int) wa_nil)) (w_callTy My.callInt spInt (by rfl) T.z_int (by first | exact PySem.boot_int | exact boot_int | decide +kernel) (wa_cons (w_v 1) wa_nil))))
        (ws_cons (w_setIx 0 (w_op My.opDiv spDiv (w_ix (My.ixK K) spIx (w_v 0) w_int) (w_v 1)) w_int)
        (ws_one (w_ret (w_v 3)))))
        ws_nil)
      (ws_cons (w_set (i := 4) rfl sc__law_pull.nd rfl (by first | exact .inl rfl | exact .inr rfl) (w_ix (My.ixK K) spIx (w_v 0) w_int))
      (ws_cons (w_setIx 0 (w_op op_mod spMod (w_callTy My.callInt spInt (by rfl) T.z_int (by first | exact PySem.boot_int | exact boot_int | decide +kernel) (wa_cons (w_op (opAdd3 (K := K)) spAdd (w_op (opAdd3 (K := K)) spAdd (w_op My.opMul spMul (w_op My.opMul spMul (w_v 4) (w_v 4)) w_int) (w_op My.opMul spMul (w_v 4) w_int)) w_int) wa_nil)) w_int) w_int)
      (ws_one (w_ret (w_op op_mod spMod (w_callTy My.callInt spInt (by rfl) T.z_int (by first | exact PySem.boot_int | exact boot_int | decide +kernel) (wa_cons (w_op (opAdd3 (K := K)) spAdd (w_op My.opDiv spDiv (w_ix (My.ixK K) spIx (w_v 0) w_int) w_int) (w_op My.opMul spMul (w_op op_mod spMod (w_callTy My.callInt spInt (by rfl) T.z_int (by first | exact PySem.boot_int | exact boot_int | decide +kernel) (wa_cons (w_ix (My.ixK K) spIx (w_v 0) w_int) wa_nil)) w_int) w_int)) wa_nil)) (w_callTy My.callInt spInt (by rfl) T.z_int (by first | exact PySem.boot_int | exact boot_int | decide +kernel) (wa_cons (w_v 1) wa_nil))))))))), ?_⟩
  (rw [show startE _ [(.l xs : S), (.d (.int m) : S)] = [some (.l xs), some (.d (.int m)), none, none, none] from rfl]; unfold endsOf)
  refine z_cut (fun e => ∃ ys v, BagW ys ∧ e = [some (.l ys), some (.d (.int m)), v, none, none]) (fun N hN => ?_) fun e1 ⟨ys, v, B1, he⟩ => ?_
  · obtain ⟨ns, p, cur, seed, rfl, hl, hc, h0, h1⟩ := B
    walk_at "ws"
    refine z_itd (fun ec => ?_) fun _ => ?_
    · walk_at "ws"
      rw [List.length_map]
      refine z_itd (fun hj => ?_) fun _ => ?_
      · have hj2 : p < ns.length := by omega
        walk_at "ws"
        refine z_ixL (atN (x := .int ns[p]) (by rw [List.getElem?_map, List.getElem?_eq_getElem hj2]; rfl)) ?_
        walk_at "ws"
        refine z_itd (fun hb => ?_) (fun _ => ?_)
        · walk_at "ws"
          exact hN _ ⟨_, _, ⟨ns, p + 1, _, seed, rfl, hl, by omega, h0, h1⟩, rfl⟩
        · walk_at "ws"
          exact hN _ ⟨_, _, ⟨ns, p + 1, _, _, rfl, hl, hc, Int.emod_nonneg _ (by decide), Int.emod_lt_of_pos _ (by decide)⟩, rfl⟩
      · walk_at "ws"
        exact hN _ ⟨_, _, ⟨ns, p, _, seed, rfl, hl, hc, h0, h1⟩, rfl⟩
    · walk_at "ws"
      exact hN _ ⟨_, _, ⟨ns, p, _, seed, rfl, hl, hc, h0, h1⟩, rfl⟩
  · subst he
    obtain ⟨ns, p, cur, seed, rfl, hl, hc, h0, h1⟩ := B1
    walk_at "ws"
    refine z_itd (fun hc2 => ?_) fun _ => ?_
    · walk_at "ws"
      exact k _ _ (Int.emod_nonneg _ (by omega)) (Int.emod_lt_of_pos _ hm) ⟨ns, p, _, _, rfl, hl, Int.ediv_nonneg hc (by omega), h0, h1⟩
    · walk_at "ws"
      exact k _ _ (Int.emod_nonneg _ (by omega)) (Int.emod_lt_of_pos _ hm) ⟨ns, p, _, _, rfl, hl, hc, Int.emod_nonneg _ (by decide), Int.emod_lt_of_pos _ (by decide)⟩
end Wl
namespace Wl
open PySem PySem.Spec PyProof.Rows L2 RZ
open My (s_rI0 nat0)
/-- one of the things of a list or a tuple, as data -/
def sp__law_of : WSp := fun as k _ => ∃ (xs : List D) (x : D) (ds : List D), as = [.l xs, .d x] ∧ BagW xs ∧ (x = .lst ds ∨ x = .tup ds ∨ ∃ t : Str, x = .str t ∧ ds = t.cps.toList.map fun c => .str ⟨#[c]⟩) ∧ 0 < ds.length ∧ ds.length < 1000000 ∧ ∀ y ys, y ∈ ds → BagW ys → k (.d y) [.l ys, .d x]
theorem s_ofL {xs ds : List D} {k : SK} {kx : SX} (B : BagW xs) (h : 0 < ds.length ∧ ds.length < 1000000) (q : ∀ y ys, y ∈ ds → BagW ys → k (.d y) [.l ys, .d (.lst ds)]) : sp__law_of [.l xs, .d (.lst ds)] k kx := ⟨xs, _, ds, rfl, B, .inl rfl, h.1, h.2, q⟩
theorem s_ofS {xs : List D} {t : Str} {k : SK} {kx : SX} (B : BagW xs) (h : 0 < t.cps.size ∧ t.cps.size < 1000000) (q : ∀ c ys, c ∈ t.cps.toList → BagW ys → k (.d (.str ⟨#[c]⟩)) [.l ys, .d (.str t)]) : sp__law_of [.l xs, .d (.str t)] k kx :=
  ⟨xs, _, _, rfl, B, .inr (.inr ⟨t, rfl, rfl⟩), by simpa using h.1, by simpa using h.2, fun y ys hy b => by obtain ⟨c, hc, rfl⟩ := List.mem_map.mp hy; exact q c ys hc b⟩
theorem ok__law_of {P : Program} {w : World} {K : PySem.W.Frag} {mg : Str → Option Value} {base : Heap} (T : Txt K mg) : FnOk P w K mg base (L2.CX P w) lv__law_of T.f__law_of T.fd__law_of ["_law_bag_here", "_law_things"] (lower K sp__law_of) := by
  refine fn_w T.F__law_of sc__law_of (fun i => Nat.blt i 2) (by decide) (fun as kk kx h => ?_) (fun cdv A outer s H E hr Tt as kk kx h tk uw => ?_)
  · obtain ⟨xs, x, ds, rfl, _⟩ := h; exact ⟨rfl, rfl⟩
  obtain ⟨xs, x, ds, rfl, B, hx, h0, h1, k⟩ := h
  have G__law_pull := ok__law_pull (P := P) (w := w) (base := base) T
  refine ⟨_, (ws_one (w_ret (w_ix (My.ixK K) spIx (w_v 1) (w_call G__law_pull (hr.mono (by first | decide | omega)) (by rfl) T.g__law_pull T.F__law_pull.kp T.b__law_pull tk (wa_cons (w_v 0) (wa_cons (w_fz (w_callB (My.callLenK K) spLen (by rfl) T.z_len (by first | exact PySem.boot_len | exact boot_len | decide +kernel) (wa_cons (w_v 1) wa_nil))) wa_nil)))))), ?_⟩
  (rw [show startE _ [(.l xs : S), (.d x : S)] = [some (.l xs), some (.d x)] from rfl]; unfold endsOf)
  rcases hx with rfl | rfl | ⟨t, rfl, rfl⟩
  · walk_at "ws"
    refine s_pull B (by omega) fun n ys r0 r1 B1 => ?_
    walk_at "ws"
    obtain ⟨j, rfl⟩ := nat0 r0
    have hj : j < ds.length := by omega
    refine z_ixL (atN (x := ds[j]) (List.getElem?_eq_getElem hj)) ?_
    walk_at "ws"
    exact k _ _ (List.getElem_mem hj) B1
  · walk_at "ws"
    refine s_pull B (by omega) fun n ys r0 r1 B1 => ?_
    walk_at "ws"
    obtain ⟨j, rfl⟩ := nat0 r0
    have hj : j < ds.length := by omega
    refine z_ixT (atN (x := ds[j]) (List.getElem?_eq_getElem hj)) ?_
    walk_at "ws"
    exact k _ _ (List.getElem_mem hj) B1
  · have hl : t.length = t.cps.toList.length := by simp [Str.length]
    rw [List.length_map] at h0 h1
    walk_at "ws"
    refine z_lenS (by omega) ?_
    walk_at "ws"
    refine s_pull B (by omega) fun n ys r0 r1 B1 => ?_
    walk_at "ws"
    obtain ⟨j, rfl⟩ := nat0 r0
    have hj : j < t.cps.toList.length := by omega
    refine z_ixS (c := t.cps.toList[j]) (by omega) (atI_nat (List.getElem?_eq_getElem hj)) ?_
    walk_at "ws"
    exact k _ _ (List.mem_map.mpr ⟨_, List.getElem_mem hj, rfl⟩) B1
end Wl
namespace Wl
open PySem PySem.Spec PyProof.Rows L2 RZ
open My (s_rI0 nat0)
def sp__law_part : WSp := fun as k _ => ∃ xs cs ks, as = [.l xs, .d (.str cs), .d (.lst ks)] ∧ BagW xs ∧ OkCs cs ∧ OkKs ks ∧ ∀ p ys, CmpIn cs ks p → BagW ys → k (.d p) [.l ys, .d (.str cs), .d (.lst ks)]
theorem c_part {xs ks : List D} {cs : Str} {k : SK} {kx : SX} (B : BagW xs) (hc : OkCs cs) (hk : OkKs ks) (q : ∀ p ys, CmpIn cs ks p → BagW ys → k (.d p) [.l ys, .d (.str cs), .d (.lst ks)]) : sp__law_part [.l xs, .d (.str cs), .d (.lst ks)] k kx := ⟨xs, cs, ks, rfl, B, hc, hk, q⟩
theorem in_yesno {s : Str} : inD (.str s) [.str "yes", .str "no"] = (decide (s = "yes") || decide (s = "no")) := by rw [in_str, in_str, in_nil, Bool.or_false]
theorem other_of {l : List Nat} (h : l.Nodup) (h2 : 1 < l.length) (c : Nat) : ∃ d ∈ l, d ≠ c := by
  match l, h, h2 with
  | a :: b :: _, h, _ =>
    by_cases q : a = c
    · refine ⟨b, by simp, fun z => ?_⟩
      subst q z
      simp at h
    · exact ⟨a, by simp, q⟩
theorem ok__law_part {P : Program} {w : World} {K : PySem.W.Frag} {mg : Str → Option Value} {base : Heap} (T : Txt K mg) : FnOk P w K mg base (L2.CX P w) lv__law_part T.f__law_part T.fd__law_part ["_law_bag_here", "_law_counts", "_law_kinds"] (lower K sp__law_part) := by
  refine fn_w T.F__law_part sc__law_part (fun i => Nat.blt i 3) (by decide) (fun as kk kx h => ?_) (fun cdv A outer s H E hr Tt as kk kx h tk uw => ?_)
  · obtain ⟨xs, cs, ks, rfl, _⟩ := h; exact ⟨rfl, rfl⟩
  obtain ⟨xs, cs, ks, rfl, B, hc, hk, k⟩ := h
  have G__law_of := ok__law_of (P := P) (w := w) (base := base) T; have G__law_pull := ok__law_pull (P := P) (w := w) (base := base) T
  refine ⟨_, (ws_cons (w_parT (is := [3, 4, 5]) rfl (by decide) rfl (pgs_cons (pg_name (i := 3) sc__law_part.nd rfl (by first | exact .inl rfl | exact .inr rfl)) (pgs_cons (pg_name (i := 4) sc__law_part.nd rfl (by first | exact .inl rfl | exact .inr rfl)) (pgs_cons (pg_name (i := 5) sc__law_part.nd rfl (by first | exact .inl rfl | exact .inr rfl)) pgs_nil))) (wa_cons (w_call G__law_of (hr.mono (by first | decide | omega)) (by rfl) T.g__law_of T.F__law_of.kp T.b__law_of tk (wa_cons (w_v 0) (wa_cons (w_fz (w_v 2)) wa_nil))) (wa_cons (w_call G__law_of (hr.mono (by first | decide | omega)) (by rfl) T.g__law_of T.F__law_of.kp T.b__law_of tk (wa_cons (w_v 0) (wa_cons (w_fz (w_v 1)) wa_nil))) (wa_cons (w_if (wt_cmp (My.opEqK K hr.units) spEq (w_v 1) w_str) w_int w_int) wa_nil))))
      (ws_cons (w_ifS (wt_cmp (opIn3 (K := K) (un65 hr)) spIn (w_v 3) (w_tup (wa_cons w_str (wa_cons w_str wa_nil))))
        (ws_one (w_ret (w_tup (wa_cons (w_fz (w_v 3)) wa_nil))))
        ws_nil)
      (ws_cons (w_ifS (PW.pt (wt_and (wt_cmp (My.opEqK K hr.units) spEq (w_v 3) w_str) (wt_and1 (wt_cmp op_gt (spCmp (p := fun i j => decide (i > j)) fun _ _ _ _ q => My.s_rI0 q) (w_callB (My.callLenK K) spLen (by rfl) T.z_len (by first | exact PySem.boot_len | exact boot_len | decide +kernel) (wa_cons (w_v 1) wa_nil)) w_int))))
        (ws_cons (w_set (i := 6) rfl sc__law_part.nd rfl (by first | exact .inl rfl | exact .inr rfl) (w_call G__law_of (hr.mono (by first | decide | omega)) (by rfl) T.g__law_of T.F__law_of.kp T.b__law_of tk (wa_cons (w_v 0) (wa_cons (w_fz (w_lc (own := [("_law_one", 8)]) rfl sc__law_part.nd (wi_it rfl (w_v 1)) (blkOk_by (N := ["_law_bag_here", "_law_counts", "_law_kinds", "_law_kind", "_law_count", "_law_top", "_law_other", "_law_modulus", "_law_one"]) (sc := defScope s__law_part) (by decide +kernel)) (by decide) (fun _ _ _ _ _ => (w_gN (i := 8) (L := fun _ => false) rfl sc__law_part.nd rfl (by first | exact .inl rfl | exact .inr rfl))) (fun _ _ _ _ _ => wts_one (wt_cmp (My.opNeK K hr.units) spNe (w_v 8) (w_v 4))) (fun _ _ _ _ _ => (w_v 8)))) wa_nil))))
        (ws_one (w_ret (w_tup (wa_cons w_str (wa_cons (w_fz (w_v 4)) (wa_cons (w_fz (w_v 6)) (wa_cons (w_fz (w_op op_sub (spSub fun _ _ _ _ q => My.s_rI0 q) (w_call G__law_pull (hr.mono (by first | decide | omega)) (by rfl) T.g__law_pull T.F__law_pull.kp T.b__law_pull tk (wa_cons (w_v 0) (wa_cons (w_fz (w_op (opAdd3 (K := K)) spAdd (w_op My.opMul spMul w_int (w_v 5)) w_int)) wa_nil))) (w_v 5))) wa_nil))))))))
        ws_nil)
      (ws_cons (w_ifS (wt_cmp (My.opEqK K hr.units) spEq (w_v 3) w_str)
        (ws_cons (w_set (i := 7) rfl sc__law_part.nd rfl (by first | exact .inl rfl | exact .inr rfl) (w_if (wt_cmp (My.opEqK K hr.units) spEq (w_v 1) w_str) w_int (w_call G__law_of (hr.mono (by first | decide | omega)) (by rfl) T.g__law_of T.F__law_of.kp T.b__law_of tk (wa_cons (w_v 0) (wa_cons (w_fz (w_lst (wa_cons w_int (wa_cons w_int (wa_cons w_int wa_nil))))) wa_nil)))))
        (ws_one (w_ret (w_tup (wa_cons w_str (wa_cons (w_fz (w_v 4)) (wa_cons (w_fz (w_v 7)) (wa_cons (w_fz (w_call G__law_pull (hr.mono (by first | decide | omega)) (by rfl) T.g__law_pull T.F__law_pull.kp T.b__law_pull tk (wa_cons (w_v 0) (wa_cons (w_fz (w_v 7)) wa_nil)))) wa_nil))))))))
        ws_nil)
      (ws_one (w_ret (w_tup (wa_cons w_str (wa_cons (w_fz (w_v 4)) (wa_cons (w_fz (w_call G__law_pull (hr.mono (by first | decide | omega)) (by rfl) T.g__law_pull T.F__law_pull.kp T.b__law_pull tk (wa_cons (w_v 0) (wa_cons (w_fz (w_op (opAdd3 (K := K)) spAdd (w_v 5) w_int)) wa_nil)))) wa_nil)))))))))), ?_⟩
  (rw [show startE _ [(.l xs : S), (.d (.str cs) : S), (.d (.lst ks) : S)] = [some (.l xs), some (.d (.str cs)), some (.d (.lst ks)), none, none, none, none, none, none] from rfl]; unfold endsOf)
  refine z_cut (fun e => ∃ (s : Str) (c : Nat) (t : Int) (ys : List D), .str s ∈ ks ∧ c ∈ cs.cps.toList ∧ BagW ys ∧ t = (if decide (cs = "cab") = true then 2 else 3) ∧ e = [some (.l ys), some (.d (.str cs)), some (.d (.lst ks)), some (.d (.str s)), some (.d (.str ⟨#[c]⟩)), some (.d (.int t)), none, none, none]) (fun N hN => ?_) fun e1 ⟨s, c, t, ys, hs, hcc, B1, ht, he⟩ => ?_
  · walk_at "ws"
    refine s_ofL B ⟨hk.1, by have := hk.2.1; omega⟩ fun y ys hy B1 => ?_
    obtain ⟨s, rfl⟩ := hk.2.2 y hy
    walk_at "ws"
    refine s_ofS B1 ⟨hc.1, by have := hc.2.1; omega⟩ fun c zs hcc B2 => ?_
    walk_at "ws"
    refine z_ite (fun h => ?_) fun h => ?_
    · walk_at "ws"
      exact hN _ ⟨s, c, 2, zs, hy, hcc, B2, by rw [h]; rfl, rfl⟩
    · walk_at "ws"
      exact hN _ ⟨s, c, 3, zs, hy, hcc, B2, by rw [h]; rfl, rfl⟩
  subst he
  have t2 : 2 ≤ t ∧ t ≤ 3 := by rw [ht]; split <;> decide
  have tc : cs = "cab" → t = 2 := fun e => by rw [ht, decide_eq_true e]; rfl
  refine z_cut (fun e => e = [some (.l ys), some (.d (.str cs)), some (.d (.lst ks)), some (.d (.str s)), some (.d (.str ⟨#[c]⟩)), some (.d (.int t)), none, none, none]) (fun N hN => ?_) fun e1 he => ?_
  · walk_at "ws"
    rw [if_neg Bool.false_ne_true, in_yesno]
    refine z_ite (fun h => ?_) fun h => ?_
    · walk_at "ws"
      rcases Bool.or_eq_true _ _ ▸ h with h | h
      · rw [of_decide_eq_true h] at hs ⊢; exact k _ _ (.yes hs) B1
      · rw [of_decide_eq_true h] at hs ⊢; exact k _ _ (.no hs) B1
    · walk_at "ws"
      exact hN _ rfl
  subst he
  refine z_cut (fun e => ∃ (o : Option S), e = [some (.l ys), some (.d (.str cs)), some (.d (.lst ks)), some (.d (.str s)), some (.d (.str ⟨#[c]⟩)), some (.d (.int t)), o, none, none]) (fun N hN => ?_) fun e1 ⟨o, he⟩ => ?_
  · walk_at "ws"
    refine z_itd (fun h => ?_) fun h => ?_
    · walk_at "ws"
      refine z_lenS (by have := hc.2.1; simp [Str.length]; omega) ?_
      walk_at "ws"
      refine z_itd (fun h1 => ?_) fun h1 => ?_
      · walk_at "ws"
        refine lc_map (fun x => match x with | .str a => if decide (a = ⟨#[c]⟩) = true then none else some x | _ => none) (by rw [List.length_map]; have := hc.2.1; simp; omega) rfl (by walk_at "wip") (fun x hx K hK => ?_) (by walk_at "bak") ?_
        · obtain ⟨d, hd, rfl⟩ := List.mem_map.mp hx
          refine z_turn ?_
          walk_at "ws"
          refine z_itn (fun e => ?_) fun e => ?_
          · rw [show (match D.str ⟨#[d]⟩ with | .str a => if decide (a = (⟨#[c]⟩ : Str)) = true then none else some (D.str ⟨#[d]⟩) | _ => none) = some (D.str ⟨#[d]⟩) from if_neg (by simpa using e)] at hK
            walk_at "ws"
            exact hK
          · rw [show (match D.str ⟨#[d]⟩ with | .str a => if decide (a = (⟨#[c]⟩ : Str)) = true then none else some (D.str ⟨#[d]⟩) | _ => none) = none from if_pos (by simpa using e)] at hK
            walk_at "ws"
            exact hK
        · walk_at "ws"
          have mem : ∀ y ∈ List.filterMap (fun x => match x with | .str a => if decide (a = (⟨#[c]⟩ : Str)) = true then none else some x | _ => none) (List.map (fun c => D.str ⟨#[c]⟩) cs.cps.toList), ∃ d, y = .str ⟨#[d]⟩ ∧ d ∈ cs.cps.toList ∧ c ≠ d := by
            intro y hy
            obtain ⟨x, hx, e⟩ := List.mem_filterMap.mp hy
            obtain ⟨d, hd, rfl⟩ := List.mem_map.mp hx
            by_cases q : (⟨#[d]⟩ : Str) = ⟨#[c]⟩
            · rw [show (match D.str ⟨#[d]⟩ with | .str a => if decide (a = (⟨#[c]⟩ : Str)) = true then none else some (D.str ⟨#[d]⟩) | _ => none) = none from if_pos (by simpa using q)] at e
              cases e
            · rw [show (match D.str ⟨#[d]⟩ with | .str a => if decide (a = (⟨#[c]⟩ : Str)) = true then none else some (D.str ⟨#[d]⟩) | _ => none) = some (D.str ⟨#[d]⟩) from if_neg (by simpa using q)] at e
              cases e
              exact ⟨d, rfl, hd, fun z => q (by rw [z])⟩
          have pos : 0 < (List.filterMap (fun x => match x with | .str a => if decide (a = (⟨#[c]⟩ : Str)) = true then none else some x | _ => none) (List.map (fun c => D.str ⟨#[c]⟩) cs.cps.toList)).length := by
            obtain ⟨d, hd, hne⟩ : ∃ d ∈ cs.cps.toList, d ≠ c := other_of hc.2.2 (by simp [Str.length] at h1; simp; omega) c
            refine List.length_pos_of_mem (a := D.str ⟨#[d]⟩) (List.mem_filterMap.mpr ⟨_, List.mem_map.mpr ⟨d, hd, rfl⟩, if_neg ?_⟩)
            simpa using hne
          refine s_ofL B1 ⟨pos, Nat.lt_of_le_of_lt (List.length_filterMap_le _ _) (by rw [List.length_map]; have := hc.2.1; simp; omega)⟩ fun y zs hy B2 => ?_
          obtain ⟨d, rfl, hd, hne⟩ := mem y hy
          walk_at "ws"
          refine s_pull B2 (by omega) fun n us n0 n1 B3 => ?_
          walk_at "ws"
          rw [h] at hs
          exact k _ _ (.ahead c d (n - t) hs hcc hd hne (by omega) (by omega) (fun e => by have := tc e; omega)) B3
      · walk_at "ws"
        exact hN _ ⟨_, rfl⟩
    · walk_at "ws"
      exact hN _ ⟨_, rfl⟩
  subst he
  refine z_seq ?_
  walk_at "wsTest"
  refine z_itd (fun h => ?_) fun h => ?_
  · refine z_cut (fun e => ∃ (m : Int) (zs : List D), 2 ≤ m ∧ m ≤ 4 ∧ (cs = "cab" → m = 2) ∧ BagW zs ∧ e = [some (.l zs), some (.d (.str cs)), some (.d (.lst ks)), some (.d (.str s)), some (.d (.str ⟨#[c]⟩)), some (.d (.int t)), o, some (.d (.int m)), none]) (fun N hN => ?_) fun e1 ⟨m, zs, m1, m2, m3, B2, he⟩ => ?_
    · walk_at "ws"
      refine z_itd (fun hb => ?_) fun hb => ?_
      · walk_at "ws"
        exact hN _ ⟨2, _, by decide, by decide, fun _ => rfl, B1, rfl⟩
      · walk_at "ws"
        refine s_ofL B1 (by decide) fun y zs hy B2 => ?_
        walk_at "ws"
        have hy : ∃ m : Int, y = .int m ∧ 2 ≤ m ∧ m ≤ 4 := by
          simp only [List.mem_cons, List.not_mem_nil, or_false] at hy
          rcases hy with rfl | rfl | rfl
          · exact ⟨2, rfl, by decide, by decide⟩
          · exact ⟨3, rfl, by decide, by decide⟩
          · exact ⟨4, rfl, by decide, by decide⟩
        obtain ⟨m, rfl, m1, m2⟩ := hy
        exact hN _ ⟨m, _, m1, m2, fun e => (hb e).elim, B2, rfl⟩
    · subst he
      walk_at "ws"
      refine s_pull B2 (by omega) fun n zs n0 n1 B2 => ?_
      walk_at "ws"
      rw [h] at hs
      exact k _ _ (.rest c m n hs hcc m1 m2 m3 n0 n1) B2
  · walk_at "ws"
    refine s_pull B1 (by omega) fun n zs n0 n1 B2 => ?_
    walk_at "ws"
    exact k _ _ (.least c n hcc n0 (by omega) (fun e => by have := tc e; omega)) B2
end Wl
namespace Wl
open PySem PySem.Spec PyProof.Rows L2 RZ
open My (s_rI0 nat0)
def sp__law_maybe : WSp := fun as k _ => ∃ xs ps, as = [.l xs, .d (.tup ps)] ∧ BagW xs ∧ ps.length ≤ 1000 ∧ ∀ ys, BagW ys → k (.d (.tup ps)) [.l ys, .d (.tup ps)] ∧ k (.d (.tup (ps ++ [.tup [.str "not"]]))) [.l ys, .d (.tup ps)]
theorem c_maybe {xs ps : List D} {k : SK} {kx : SX} (B : BagW xs) (hl : ps.length ≤ 1000) (q : ∀ ys, BagW ys → k (.d (.tup ps)) [.l ys, .d (.tup ps)] ∧ k (.d (.tup (ps ++ [.tup [.str "not"]]))) [.l ys, .d (.tup ps)]) : sp__law_maybe [.l xs, .d (.tup ps)] k kx := ⟨xs, ps, rfl, B, hl, q⟩
theorem c_maybeT {xs : List D} {t : CT} {k : SK} {kx : SX} (B : BagW xs) (hl : t.post.length ≤ 1000) (q : ∀ (u : CT) ys, (u = t ∨ u = .neg t) → BagW ys → k (.d (.tup u.post)) [.l ys, .d (.tup t.post)]) : sp__law_maybe [.l xs, .d (.tup t.post)] k kx := c_maybe B hl fun ys b => ⟨q t ys (.inl rfl) b, q (.neg t) ys (.inr rfl) b⟩
theorem ok__law_maybe {P : Program} {w : World} {K : PySem.W.Frag} {mg : Str → Option Value} {base : Heap} (T : Txt K mg) : FnOk P w K mg base (L2.CX P w) lv__law_maybe T.f__law_maybe T.fd__law_maybe ["_law_bag_here", "_law_code_here"] (lower K sp__law_maybe) := by
  refine fn_w T.F__law_maybe sc__law_maybe (fun i => Nat.blt i 2) (by decide) (fun as kk kx h => ?_) (fun cdv A outer s H E hr Tt as kk kx h tk uw => ?_)
  · obtain ⟨xs, ps, rfl, _⟩ := h; exact ⟨rfl, rfl⟩
  obtain ⟨xs, ps, rfl, B, hl, k⟩ := h
  have G__law_pull := ok__law_pull (P := P) (w := w) (base := base) T
  refine ⟨_, (ws_one (w_ret (w_if (wt_cmp (My.opEqK K hr.units) spEq (w_call G__law_pull (hr.mono (by first | decide | omega)) (by rfl) T.g__law_pull T.F__law_pull.kp T.b__law_pull tk (wa_cons (w_v 0) (wa_cons w_int wa_nil))) w_int) (w_op (opAdd3 (K := K)) spAdd (w_v 1) (w_tup (wa_cons (w_fz (w_tup (wa_cons w_str wa_nil))) wa_nil))) (w_v 1)))), ?_⟩
  (rw [show startE _ [(.l xs : S), (.d (.tup ps) : S)] = [some (.l xs), some (.d (.tup ps))] from rfl]; unfold endsOf)
  walk_at "ws"
  refine s_pull B (by decide) fun n ys n0 n1 B1 => ?_
  walk_at "ws"
  refine z_itd (fun h => ?_) fun h => ?_
  · walk_at "ws"
    exact (k ys B1).2
  · walk_at "ws"
    exact (k ys B1).1
end Wl
namespace Wl
open PySem PySem.Spec PyProof.Rows L2 RZ
open My (s_rI0 nat0)
def sp__law_code : WSp := fun as k _ => ∃ (xs : List D) (cs : Str) (ks : List D) (m : Int), as = [.l xs, .d (.str cs), .d (.lst ks), .d (.int m)] ∧ BagW xs ∧ OkCs cs ∧ OkKs ks ∧ (1 ≤ m ∧ m ≤ 60) ∧ ∀ (t : CT) ys, CodeIn cs ks t → (t.n : Int) ≤ m → t.post.length + 2 ≤ 4 * t.n → BagW ys → k (.d (.tup t.post)) [.l ys, .d (.str cs), .d (.lst ks), .d (.int m)]
theorem c_code {xs ks : List D} {cs : Str} {m : Int} {k : SK} {kx : SX} (B : BagW xs) (hc : OkCs cs) (hk : OkKs ks) (hm : 1 ≤ m ∧ m ≤ 60) (q : ∀ (t : CT) ys, CodeIn cs ks t → (t.n : Int) ≤ m → t.post.length + 2 ≤ 4 * t.n → BagW ys → k (.d (.tup t.post)) [.l ys, .d (.str cs), .d (.lst ks), .d (.int m)]) : sp__law_code [.l xs, .d (.str cs), .d (.lst ks), .d (.int m)] k kx := ⟨xs, cs, ks, m, rfl, B, hc, hk, hm, q⟩
def sumN (ts : List CT) : Nat := (ts.map CT.n).sum
theorem sumN_get : ∀ {ts : List CT} {i : Nat} {t : CT}, ts[i]? = some t → t.n ≤ sumN ts
  | [], _, _, h => by simp at h
  | a :: ts, 0, t, h => by simp at h; subst h; simp [sumN]
  | a :: ts, i + 1, t, h => by
    have := sumN_get (ts := ts) (i := i) (by simpa using h)
    simp [sumN] at this ⊢
    omega
theorem sumN_app {a b : List CT} : sumN (a ++ b) = sumN a + sumN b := by simp [sumN]
/-- two neighbours joined -/
theorem join_split {ts : List CT} {i : Nat} {a b : CT} (h1 : ts[i]? = some a) (h2 : ts[i + 1]? = some b) : ts = ts.take i ++ a :: b :: ts.drop (i + 2) := by
  obtain ⟨l1, e1⟩ := List.getElem?_eq_some_iff.mp h1
  obtain ⟨l2, e2⟩ := List.getElem?_eq_some_iff.mp h2
  have := (List.take_append_drop i ts).symm
  rw [List.drop_eq_getElem_cons l1, List.drop_eq_getElem_cons l2, e1, e2] at this
  exact this
theorem ok__law_code {P : Program} {w : World} {K : PySem.W.Frag} {mg : Str → Option Value} {base : Heap} (T : Txt K mg) : FnOk P w K mg base (L2.CX P w) lv__law_code T.f__law_code T.fd__law_code ["_law_bag_here", "_law_counts", "_law_kinds", "_law_many"] (lower K sp__law_code) := by
  refine fn_w T.F__law_code sc__law_code (fun i => Nat.blt i 4) (by decide) (fun as kk kx h => ?_) (fun cdv A outer s H E hr Tt as kk kx h tk uw => ?_)
  · obtain ⟨xs, cs, ks, m, rfl, _⟩ := h; exact ⟨rfl, rfl⟩
  obtain ⟨xs, cs, ks, m, rfl, B, hc, hk, ⟨hm1, hm2⟩, k⟩ := h
  have G__law_maybe := ok__law_maybe (P := P) (w := w) (base := base) T; have G__law_of := ok__law_of (P := P) (w := w) (base := base) T; have G__law_part := ok__law_part (P := P) (w := w) (base := base) T; have G__law_pull := ok__law_pull (P := P) (w := w) (base := base) T
  refine ⟨_, (ws_cons (w_setLc (i := 4) (own := [("_law_k", 9)]) rfl rfl sc__law_code.nd rfl rfl (sw_true rfl rfl rfl (by decide +kernel)) (wi_rng1 (by rfl) T.z_range (wa_cons (w_op (opAdd3 (K := K)) spAdd w_int (w_call G__law_pull (hr.mono (by first | decide | omega)) (by rfl) T.g__law_pull T.F__law_pull.kp T.b__law_pull tk (wa_cons (w_v 0) (wa_cons (w_fz (w_v 3)) wa_nil)))) wa_nil)) (blkOk_by (N := ["_law_bag_here", "_law_counts", "_law_kinds", "_law_many", "_law_codes", "_law_turn", "_law_at", "_law_one", "_law_two", "_law_k"]) (sc := defScope s__law_code) (by decide +kernel)) (by decide) (fun _ _ _ _ _ => (w_gN (i := 9) (L := fun _ => false) rfl sc__law_code.nd rfl (by first | exact .inl rfl | exact .inr rfl))) (fun _ _ _ _ _ => wts_nil) (fun _ _ _ _ _ => (w_tup (wa_cons (w_fz (w_call G__law_part (hr.mono (by first | decide | omega)) (by rfl) T.g__law_part T.F__law_part.kp T.b__law_part takesF (wa_cons (w_v 0) (wa_cons (w_fz (w_v 1)) (wa_cons (w_fz (w_v 2)) wa_nil))))) wa_nil))))
      (ws_cons (w_for uw (passes_of rfl) rfl (wi_rng1 (by rfl) T.z_range (wa_cons (w_op op_sub (spSub fun _ _ _ _ q => My.s_rI0 q) (w_callB (My.callLenK K) spLen (by rfl) T.z_len (by first | exact PySem.boot_len | exact boot_len | decide +kernel) (wa_cons (w_v 4) wa_nil)) w_int) wa_nil)) (w_gN (i := 5)  rfl sc__law_code.nd rfl (by first | exact .inl rfl | exact .inr rfl))
        (ws_cons (w_set (i := 6) rfl sc__law_code.nd rfl (by first | exact .inl rfl | exact .inr rfl) (w_call G__law_pull (hr.mono (by first | decide | omega)) (by rfl) T.g__law_pull T.F__law_pull.kp T.b__law_pull tk (wa_cons (w_v 0) (wa_cons (w_fz (w_op op_sub (spSub fun _ _ _ _ q => My.s_rI0 q) (w_callB (My.callLenK K) spLen (by rfl) T.z_len (by first | exact PySem.boot_len | exact boot_len | decide +kernel) (wa_cons (w_v 4) wa_nil)) w_int)) wa_nil))))
        (ws_cons (w_par (n := 7) (m := 8) rfl sc__law_code.nd rfl rfl rfl rfl (by decide) rfl rfl (wa_cons (w_call G__law_maybe (hr.mono (by first | decide | omega)) (by rfl) T.g__law_maybe T.F__law_maybe.kp T.b__law_maybe tk (wa_cons (w_v 0) (wa_cons (w_fz (w_ix (My.ixK K) spIx (w_v 4) (w_v 6))) wa_nil))) (wa_cons (w_call G__law_maybe (hr.mono (by first | decide | omega)) (by rfl) T.g__law_maybe T.F__law_maybe.kp T.b__law_maybe tk (wa_cons (w_v 0) (wa_cons (w_fz (w_ix (My.ixK K) spIx (w_v 4) (w_op (opAdd3 (K := K)) spAdd (w_v 6) w_int))) wa_nil))) wa_nil)) (by first | rfl | kernel_rfl))
        (ws_one (w_set (i := 4) rfl sc__law_code.nd rfl (by first | exact .inl rfl | exact .inr rfl) (w_op (opAdd3 (K := K)) spAdd (w_op (opAdd3 (K := K)) spAdd (w_sl (w_v 4) wo_none (wo_some (w_v 6))) (w_lst (wa_cons (w_fz (w_op (opAdd3 (K := K)) spAdd (w_op (opAdd3 (K := K)) spAdd (w_v 7) (w_v 8)) (w_tup (wa_cons (w_fz (w_tup (wa_cons (w_fz (w_call G__law_of (hr.mono (by first | decide | omega)) (by rfl) T.g__law_of T.F__law_of.kp T.b__law_of tk (wa_cons (w_v 0) (wa_cons (w_fz (w_lst (wa_cons w_str (wa_cons w_str wa_nil)))) wa_nil)))) wa_nil))) wa_nil)))) wa_nil))) (w_sl (w_v 4) (wo_some (w_op (opAdd3 (K := K)) spAdd (w_v 6) w_int)) wo_none)))))))
      (ws_one (w_ret (w_call G__law_maybe (hr.mono (by first | decide | omega)) (by rfl) T.g__law_maybe T.F__law_maybe.kp T.b__law_maybe tk (wa_cons (w_v 0) (wa_cons (w_fz (w_ix (My.ixK K) spIx (w_v 4) w_int)) wa_nil))))))), ?_⟩
  (rw [show startE _ [(.l xs : S), (.d (.str cs) : S), (.d (.lst ks) : S), (.d (.int m) : S)] = [some (.l xs), some (.d (.str cs)), some (.d (.lst ks)), some (.d (.int m)), none, none, none, none, none, none] from rfl]; unfold endsOf)
  walk_at "ws"
  refine s_pull B ⟨by omega, by omega⟩ fun n ys n0 n1 B1 => ?_
  walk_at "ws"
  have hl : (range0 (1 + n).toNat).length = (1 + n).toNat := range0_len
  refine lc_inv (fun i acc e => ∃ (ts : List CT) (zs : List D), BagW zs ∧ acc = ts.map (fun t => .tup t.post) ∧ ts.length = i ∧ sumN ts = i ∧ (∀ t ∈ ts, CodeIn cs ks t ∧ t.post.length + 3 ≤ 4 * t.n) ∧ e = [some (.l zs), some (.d (.str cs)), some (.d (.lst ks)), some (.d (.int m)), none, none, none, none, none, none]) (by rw [hl]; omega) rfl (by walk_at "wip") ⟨[], _, B1, rfl, rfl, rfl, (by intro t h; cases h), rfl⟩ ?_ ?_
  · rintro i x acc e K hx hK ⟨ts, zs, B2, rfl, h1, h2, h3, rfl⟩
    obtain ⟨hi, rfl⟩ := range0_at hx
    refine z_turn ?_
    walk_at "ws"
    refine c_part B2 hc hk fun p us hp B3 => ?_
    walk_at "ws"
    exact hK _ _ ⟨ts ++ [.leaf p], us, B3, (by simp [CT.post]), by rw [List.length_append]; simp [h1], by rw [sumN_app, h2]; rfl, (by
      intro t ht
      rcases List.mem_append.mp ht with ht | ht
      · exact h3 t ht
      · cases List.mem_singleton.mp ht
        exact ⟨.leaf hp, by simp [CT.post, CT.n]⟩), rfl⟩
  · rintro ds e2 ⟨ts, zs, B2, rfl, h1, h2, h3, rfl⟩
    rw [hl] at h1 h2
    have hm : (List.map (fun t => D.tup (CT.post t)) ts).length = ts.length := List.length_map _
    have post_small : ∀ t ∈ ts, t.post.length ≤ 300 := fun t ht => by
      obtain ⟨j, hj⟩ := List.getElem?_of_mem ht
      have := sumN_get hj
      have := (h3 t ht).2
      omega
    walk_at "bak"
    walk_at "ws"
    refine for_inv (fun i e => ∃ (ts : List CT) (zs : List D) (v5 v6 v7 v8 : Option S), BagW zs ∧ ts.length + i = (1 + n).toNat ∧ sumN ts = (1 + n).toNat ∧ (∀ t ∈ ts, CodeIn cs ks t ∧ t.post.length + 3 ≤ 4 * t.n) ∧ e = [some (.l zs), some (.d (.str cs)), some (.d (.lst ks)), some (.d (.int m)), some (.l (ts.map fun t => .tup t.post)), v5, v6, v7, v8, none]) ⟨ts, zs, _, _, _, _, B2, h1, h2, h3, rfl⟩ ?_ ?_
    · rintro i x e N hx hN ⟨ts, zs, v5, v6, v7, v8, B2, h1, h2, h3, rfl⟩
      obtain ⟨hi, rfl⟩ := range0_at hx
      have hm : (List.map (fun t => D.tup (CT.post t)) ts).length = ts.length := List.length_map _
      walk_at "ws"
      refine s_pull B2 (by omega) fun a us a0 a1 B3 => ?_
      obtain ⟨j, rfl⟩ := nat0 a0
      have hj1 : j < ts.length := by omega
      have hj2 : j + 1 < ts.length := by omega
      obtain ⟨a, ha⟩ : ∃ a, ts[j]? = some a := ⟨_, List.getElem?_eq_getElem hj1⟩
      obtain ⟨b, hb⟩ : ∃ b, ts[j + 1]? = some b := ⟨_, List.getElem?_eq_getElem hj2⟩
      have ga := h3 a (List.mem_of_getElem? ha)
      have gb := h3 b (List.mem_of_getElem? hb)
      have ga2 := ga.2
      have gb2 := gb.2
      have sp := join_split ha hb
      have sn : sumN ts = sumN (ts.take j) + (a.n + (b.n + sumN (ts.drop (j + 2)))) := by
        conv => lhs; rw [sp, sumN_app]
        simp [sumN]
      have sl : (ts.take j).length = j := by rw [List.length_take]; omega
      have sd : (ts.drop (j + 2)).length = ts.length - (j + 2) := List.length_drop
      walk_at "ws"
      refine z_ixL (atN (x := .tup a.post) (by rw [List.getElem?_map, ha]; rfl)) ?_
      walk_at "ws"
      refine c_maybeT B3 (by omega) fun u us hu B4 => ?_
      walk_at "ws"
      refine z_ixL (a := ((j : Nat) : Int) + 1) (atN (n := j + 1) (x := .tup b.post) (by rw [List.getElem?_map, hb]; rfl)) ?_
      walk_at "ws"
      refine c_maybeT B4 (by omega) fun v us hv B5 => ?_
      have gu : CodeIn cs ks u ∧ u.post.length ≤ 4 * a.n - 2 ∧ u.n = a.n := by
        rcases hu with rfl | rfl
        · exact ⟨ga.1, by omega, rfl⟩
        · exact ⟨.neg ga.1, by simp [CT.post]; omega, rfl⟩
      have gv : CodeIn cs ks v ∧ v.post.length ≤ 4 * b.n - 2 ∧ v.n = b.n := by
        rcases hv with rfl | rfl
        · exact ⟨gb.1, by omega, rfl⟩
        · exact ⟨.neg gb.1, by simp [CT.post]; omega, rfl⟩
      have na := a.n_pos
      have nb := b.n_pos
      have gu2 := gu.2
      have gv2 := gv.2
      walk_at "ws"
      refine s_ofL B5 (by decide) fun y zs hy B6 => ?_
      obtain ⟨w, rfl, hw⟩ : ∃ w : Str, y = .str w ∧ (w = "and" ∨ w = "or") := by
        simp only [List.mem_cons, List.not_mem_nil, or_false] at hy
        rcases hy with rfl | rfl
        · exact ⟨_, rfl, .inl rfl⟩
        · exact ⟨_, rfl, .inr rfl⟩
      walk_at "ws"
      rw [← List.map_take, ← List.map_drop, show List.map (fun t => D.tup (CT.post t)) (ts.take j) ++ [D.tup (u.post ++ v.post ++ [D.tup [D.str w]])] ++ List.map (fun t => D.tup (CT.post t)) (ts.drop (j + 2)) = List.map (fun t => D.tup (CT.post t)) (ts.take j ++ .bin w u v :: ts.drop (j + 2)) by simp [CT.post]]
      walk_at "ws"
      refine hN _ ⟨ts.take j ++ .bin w u v :: ts.drop (j + 2), zs, _, _, _, _, B6, ?_, ?_, ?_, rfl⟩
      · rw [List.length_append, List.length_cons, sl, sd]; omega
      · rw [← h2, sn, sumN_app, show sumN (.bin w u v :: ts.drop (j + 2)) = (u.n + v.n) + sumN (ts.drop (j + 2)) by simp [sumN, CT.n], gu.2.2, gv.2.2]
        omega
      · intro t ht
        rcases List.mem_append.mp ht with ht | ht
        · exact h3 t (List.mem_of_mem_take ht)
        · rcases List.mem_cons.mp ht with rfl | ht
          · refine ⟨.bin hw gu.1 gv.1, ?_⟩
            have e1 : (CT.bin w u v).n = a.n + b.n := by show u.n + v.n = _; rw [gu.2.2, gv.2.2]
            have e2 : (CT.bin w u v).post.length = u.post.length + v.post.length + 1 := by simp [CT.post]; omega
            rw [e1, e2]
            have g1 := gu2.1
            have g2 := gv2.1
            omega
          · exact h3 t (List.mem_of_mem_drop ht)
    · rintro e ⟨ts, zs, v5, v6, v7, v8, B2, h1, h2, h3, rfl⟩
      rw [range0_len, hm] at h1
      obtain ⟨t, rfl⟩ : ∃ t, ts = [t] := List.length_eq_one_iff.mp (by omega)
      have gt := h3 t (by simp)
      have gt2 := gt.2
      have hn : t.n = (1 + n).toNat := by rw [← h2]; simp [sumN]
      walk_at "ws"
      refine z_ixL (atN (n := 0) (x := .tup t.post) rfl) ?_
      walk_at "ws"
      refine c_maybeT (t := t) B2 (by omega) fun u us hu B4 => ?_
      walk_at "ws"
      rcases hu with rfl | rfl
      · exact k _ _ gt.1 (by omega) (by omega) B4
      · exact k (.neg t) _ gt.1.neg (by show (t.n : Int) ≤ m; omega) (by simp [CT.post, CT.n]; omega) B4
end Wl
namespace Wl
open PySem PySem.Spec PyProof.Rows L2 RZ
open My (s_rI0 nat0)
abbrev kindsW : List D := [.str "least", .str "least", .str "least", .str "ahead", .str "ahead", .str "rest", .str "yes", .str "no"]
def sp__law_all_kinds : WSp := fun as k _ => as = [] ∧ k (.own (.l kindsW)) []
theorem c_kinds {k : SK} {kx : SX} (q : k (.own (.l kindsW)) []) : sp__law_all_kinds [] k kx := ⟨rfl, q⟩
theorem ok__law_all_kinds {P : Program} {w : World} {K : PySem.W.Frag} {mg : Str → Option Value} {base : Heap} (T : Txt K mg) : FnOk P w K mg base (L2.CX P w) lv__law_all_kinds T.f__law_all_kinds T.fd__law_all_kinds [] (lower K sp__law_all_kinds) := by
  refine fn_w T.F__law_all_kinds sc__law_all_kinds (fun i => Nat.blt i 0) (by decide) (fun as kk kx h => ?_) (fun cdv A outer s H E hr Tt as kk kx h tk uw => ?_)
  · obtain ⟨rfl, _⟩ := h; exact ⟨rfl, rfl⟩
  obtain ⟨rfl, k⟩ := h
  refine ⟨_, (ws_one (w_ret (w_lst (wa_cons w_str (wa_cons w_str (wa_cons w_str (wa_cons w_str (wa_cons w_str (wa_cons w_str (wa_cons w_str (wa_cons w_str wa_nil))))))))))), ?_⟩
  (rw [show startE _ [] = [] from rfl]; unfold endsOf)
  walk_at "ws"
  exact k
end Wl
namespace Wl
open PySem PySem.Spec PyProof.Rows L2 RZ
open My (s_rI0 nat0)
def sp__law_whole : WSp := fun as k _ => ∃ x lo hi, as = [.d x, .d (.int lo), .d (.int hi)] ∧ (tyD x).isSome = true ∧ k (.d (.bl (inRD x lo hi))) as
theorem c_whole {x : D} {lo hi : Int} {k : SK} {kx : SX} (h : (tyD x).isSome = true) (q : k (.d (.bl (inRD x lo hi))) [.d x, .d (.int lo), .d (.int hi)]) : sp__law_whole [.d x, .d (.int lo), .d (.int hi)] k kx := ⟨x, lo, hi, rfl, h, q⟩
theorem ok__law_whole {P : Program} {w : World} {K : PySem.W.Frag} {mg : Str → Option Value} {base : Heap} (T : Txt K mg) : FnOk P w K mg base (L2.CX P w) lv__law_whole T.f__law_whole T.fd__law_whole ["_law_value", "_law_low", "_law_high"] (lower K sp__law_whole) := by
  refine fn_w T.F__law_whole sc__law_whole (fun i => Nat.blt i 3) (by decide) (fun as kk kx h => ?_) (fun cdv A outer s H E hr Tt as kk kx h tk uw => ?_)
  · obtain ⟨x, lo, hi, rfl, _⟩ := h; exact ⟨rfl, rfl⟩
  obtain ⟨x, lo, hi, rfl, ht, k⟩ := h
  refine ⟨_, (ws_one (w_ret (w_and (w_callB (callIsi3 K) spIsi (by rfl) T.z_isinstance (by first | exact PySem.boot_isinstance | exact boot_isinstance | decide +kernel) (wa_cons (w_v 0) (wa_cons (w_bltn (n := "int") (by rfl) T.z_int (by first | exact boot_int | decide +kernel)) wa_nil))) (w_and (w_not (w_callB (callIsi3 K) spIsi (by rfl) T.z_isinstance (by first | exact PySem.boot_isinstance | exact boot_isinstance | decide +kernel) (wa_cons (w_v 0) (wa_cons (w_bltn (n := "bool") (by rfl) T.z_bool (by first | exact boot_bool | decide +kernel)) wa_nil)))) (w_one (w_chain (p := fun i j => decide (i ≤ j)) (p' := fun i j => decide (i ≤ j)) op_le op_le (fun _ _ _ _ q => My.s_rI0 q) (fun _ _ _ _ q => My.s_rI0 q) (w_v 1) (w_v 0) (w_v 2))))))), ?_⟩
  (rw [show startE _ [(.d x : S), (.d (.int lo) : S), (.d (.int hi) : S)] = [some (.d x), some (.d (.int lo)), some (.d (.int hi))] from rfl]; unfold endsOf)
  walk_at "ws"
  refine z_isi ht rfl ?_
  cases x with
  | int i =>
    walk_at "ws"
    refine z_itd (fun h1 => ?_) fun h1 => ?_
    · walk_at "ws"
      rw [show inRD (.int i) lo hi = decide (i ≤ hi) by rw [inRD_int, decide_eq_true h1, Bool.true_and]] at k
      exact k
    · walk_at "ws"
      rw [show inRD (.int i) lo hi = false by rw [inRD_int, decide_eq_false h1, Bool.false_and]] at k
      exact k
  | bl b => walk_at "ws"; exact k
  | _ => walk_at "ws"; exact k
end Wl
namespace Wl
open PySem PySem.Spec PyProof.Rows L2 RZ
open My (s_rI0 nat0)
def sp__law_fits : WSp := fun as k _ => ∃ p, as = [.d p] ∧ OkPart p ∧ k (.d (.bl (fitsD p))) as
theorem c_fits {p : D} {k : SK} {kx : SX} (h : OkPart p) (q : k (.d (.bl (fitsD p))) [.d p]) : sp__law_fits [.d p] k kx := ⟨p, rfl, h, q⟩
theorem ok__law_fits {P : Program} {w : World} {K : PySem.W.Frag} {mg : Str → Option Value} {base : Heap} (T : Txt K mg) : FnOk P w K mg base (L2.CX P w) lv__law_fits T.f__law_fits T.fd__law_fits ["_law_part_here"] (lower K sp__law_fits) := by
  refine fn_w T.F__law_fits sc__law_fits (fun i => Nat.blt i 1) (by decide) (fun as kk kx h => ?_) (fun cdv A outer s H E hr Tt as kk kx h tk uw => ?_)
  · obtain ⟨p, rfl, _⟩ := h; exact ⟨rfl, rfl⟩
  obtain ⟨p, rfl, ⟨ht, ⟨y, hy, hs⟩, hi, ntp⟩, k⟩ := h
  have G__law_whole := ok__law_whole (P := P) (w := w) (base := base) T
  refine ⟨_, (ws_cons (w_ifS (PW.pt (wt_or (wt_not (wt_val (w_callB (callIsi3 K) spIsi (by rfl) T.z_isinstance (by first | exact PySem.boot_isinstance | exact boot_isinstance | decide +kernel) (wa_cons (w_v 0) (wa_cons (w_bltn (n := "tuple") (by rfl) T.z_tuple (by first | exact boot_tuple | decide +kernel)) wa_nil))))) (wt_or1 (wt_cmp (My.opEqK K hr.units) spEq (w_callB (My.callLenK K) spLen (by rfl) T.z_len (by first | exact PySem.boot_len | exact boot_len | decide +kernel) (wa_cons (w_v 0) wa_nil)) w_int))))
        (ws_one (w_ret w_bl))
        ws_nil)
      (ws_cons (w_ifS (wt_cmp (opIn3 (K := K) (un65 hr)) spIn (w_v 0) (w_lst (wa_cons (w_fz (w_tup (wa_cons w_str wa_nil))) (wa_cons (w_fz (w_tup (wa_cons w_str wa_nil))) (wa_cons (w_fz (w_tup (wa_cons w_str wa_nil))) (wa_cons (w_fz (w_tup (wa_cons w_str wa_nil))) (wa_cons (w_fz (w_tup (wa_cons w_str wa_nil))) wa_nil)))))))
        (ws_one (w_ret w_bl))
        ws_nil)
      (ws_cons (w_ifS (PW.pt (wt_and (wt_cmp (My.opEqK K hr.units) spEq (w_callB (My.callLenK K) spLen (by rfl) T.z_len (by first | exact PySem.boot_len | exact boot_len | decide +kernel) (wa_cons (w_v 0) wa_nil)) w_int) (wt_and1 (wt_cmp (My.opEqK K hr.units) spEq (w_ix (My.ixK K) spIx (w_v 0) w_int) w_str))))
        (ws_one (w_ret (w_and (w_cmp (opIn3 (K := K) (un65 hr)) spIn (w_ix (My.ixK K) spIx (w_v 0) w_int) (w_tup (wa_cons w_str (wa_cons w_str (wa_cons w_str wa_nil))))) (w_one (w_call G__law_whole (hr.mono (by first | decide | omega)) (by rfl) T.g__law_whole T.F__law_whole.kp T.b__law_whole tk (wa_cons (w_fz (w_ix (My.ixK K) spIx (w_v 0) w_int)) (wa_cons w_int (wa_cons w_int wa_nil))))))))
        ws_nil)
      (ws_cons (w_ifS (PW.pt (wt_and (wt_cmp (My.opEqK K hr.units) spEq (w_callB (My.callLenK K) spLen (by rfl) T.z_len (by first | exact PySem.boot_len | exact boot_len | decide +kernel) (wa_cons (w_v 0) wa_nil)) w_int) (wt_and1 (wt_cmp (My.opEqK K hr.units) spEq (w_ix (My.ixK K) spIx (w_v 0) w_int) w_str))))
        (ws_cons (w_set (i := 1) rfl sc__law_fits.nd rfl (by first | exact .inl rfl | exact .inr rfl) (w_and (w_cmp (opIn3 (K := K) (un65 hr)) spIn (w_ix (My.ixK K) spIx (w_v 0) w_int) (w_tup (wa_cons w_str (wa_cons w_str (wa_cons w_str wa_nil))))) (w_and (w_cmp (opIn3 (K := K) (un65 hr)) spIn (w_ix (My.ixK K) spIx (w_v 0) w_int) (w_tup (wa_cons w_str (wa_cons w_str (wa_cons w_str wa_nil))))) (w_one (w_cmp (My.opNeK K hr.units) spNe (w_ix (My.ixK K) spIx (w_v 0) w_int) (w_ix (My.ixK K) spIx (w_v 0) w_int))))))
        (ws_one (w_ret (w_and (w_v 1) (w_one (w_call G__law_whole (hr.mono (by first | decide | omega)) (by rfl) T.g__law_whole T.F__law_whole.kp T.b__law_whole tk (wa_cons (w_fz (w_ix (My.ixK K) spIx (w_v 0) w_int)) (wa_cons (w_fz (w_un un_neg (spNeg fun _ _ _ q => My.s_rU q) w_int)) (wa_cons w_int wa_nil)))))))))
        ws_nil)
      (ws_cons (w_ifS (PW.pt (wt_and (wt_cmp (My.opEqK K hr.units) spEq (w_callB (My.callLenK K) spLen (by rfl) T.z_len (by first | exact PySem.boot_len | exact boot_len | decide +kernel) (wa_cons (w_v 0) wa_nil)) w_int) (wt_and1 (wt_cmp (My.opEqK K hr.units) spEq (w_ix (My.ixK K) spIx (w_v 0) w_int) w_str))))
        (ws_one (w_ret (w_and (w_cmp (opIn3 (K := K) (un65 hr)) spIn (w_ix (My.ixK K) spIx (w_v 0) w_int) (w_tup (wa_cons w_str (wa_cons w_str (wa_cons w_str wa_nil))))) (w_and (w_call G__law_whole (hr.mono (by first | decide | omega)) (by rfl) T.g__law_whole T.F__law_whole.kp T.b__law_whole tk (wa_cons (w_fz (w_ix (My.ixK K) spIx (w_v 0) w_int)) (wa_cons w_int (wa_cons w_int wa_nil)))) (w_one (w_call G__law_whole (hr.mono (by first | decide | omega)) (by rfl) T.g__law_whole T.F__law_whole.kp T.b__law_whole tk (wa_cons (w_fz (w_ix (My.ixK K) spIx (w_v 0) w_int)) (wa_cons w_int (wa_cons (w_fz (w_op op_sub (spSub fun _ _ _ _ q => My.s_rI0 q) (w_ix (My.ixK K) spIx (w_v 0) w_int) w_int)) wa_nil)))))))))
        ws_nil)
      (ws_one (w_ret w_bl))))))), ?_⟩
  (rw [show startE _ [(.d p : S)] = [some (.d p), none] from rfl]; unfold endsOf)
  walk_at "ws"
  refine z_isi ht rfl ?_
  cases p with
  | tup ps =>
    obtain ⟨hl, hn⟩ := hi ps rfl
    obtain ⟨xs, rfl, hx⟩ := py_tup hy
    walk_at "ws"
    cases ps with
    | nil => walk_at "ws"; exact k
    | cons x ps =>
    refine My.ite_f (decide_eq_false (by rw [List.length_cons]; omega)) ?_
    walk_at "ws"
    refine z_inP (p := .tuple xs) (ps := [.tuple [.str "yes"], .tuple [.str "no"], .tuple [.str "not"], .tuple [.str "and"], .tuple [.str "or"]]) hy rfl hs (by decide +kernel) ?_
    rw [if_neg Bool.false_ne_true, any_single hx]
    obtain ⟨y, ys, rfl, hy1, hx⟩ := pyL_cons hx
    have hxs := shaped_head hs
    walk_at "ws"
    match ps, hx, k with
    | [], _, k =>
      rw [fits_1] at k
      refine z_ite (fun h => ?_) fun h => ?_
      · rw [show plainD x = true from h] at k
        walk_at "ws"
        exact k
      · rw [show plainD x = false from h] at k
        walk_at "ws"
        exact k
    | [c], _, k =>
      rw [fits_2] at k
      walk_at "ws"
      exact k
    | [c, d], hx, k =>
      obtain ⟨yc, yr, rfl, hc, hx⟩ := pyL_cons hx
      obtain ⟨yd, yr, rfl, hd, hx⟩ := pyL_cons hx
      rw [fits_3] at k
      walk_at "ws"
      refine z_eqP hy1 rfl hxs (by decide +kernel) ?_
      rw [eqv_word hy1]
      walk_at "ws"
      cases h1 : isWord x "least" with
      | false => rw [h1] at k; walk_at "ws"; exact k
      | true =>
        rw [h1] at k
        walk_at "ws"
        refine z_inP (ps := [.str "a", .str "b", .str "c"]) hc rfl (shaped_mem hs (by simp)) (by decide +kernel) ?_
        rw [if_neg Bool.false_ne_true, any_count hc]
        walk_at "ws"
        cases h2 : isCountD c with
        | false => rw [h2] at k; walk_at "ws"; exact k
        | true =>
          rw [h2] at k
          walk_at "ws"
          refine c_whole (hl d (by simp)) ?_
          walk_at "ws"
          exact k
    | [c, d, e], hx, k =>
      obtain ⟨yc, yr, rfl, hc, hx⟩ := pyL_cons hx
      obtain ⟨yd, yr, rfl, hd, hx⟩ := pyL_cons hx
      obtain ⟨ye, yr, rfl, he, hx⟩ := pyL_cons hx
      rw [fits_4] at k
      walk_at "ws"
      refine z_eqP hy1 rfl hxs (by decide +kernel) ?_
      rw [eqv_word hy1]
      walk_at "ws"
      cases h1 : isWord x "ahead" with
      | true =>
        have h1' : isWord x "rest" = false := by
          cases x with
          | str w => have e1 : w = "ahead" := of_decide_eq_true h1; subst e1; decide
          | _ => rfl
        rw [h1, h1', Bool.false_and, Bool.or_false, Bool.true_and] at k
        walk_at "ws"
        refine z_inP (ps := [.str "a", .str "b", .str "c"]) hc rfl (shaped_mem hs (by simp)) (by decide +kernel) ?_
        rw [if_neg Bool.false_ne_true, any_count hc]
        walk_at "ws"
        cases h2 : isCountD c with
        | false => rw [h2] at k; walk_at "ws"; exact k
        | true =>
          rw [h2, Bool.true_and] at k
          walk_at "ws"
          refine z_inP (ps := [.str "a", .str "b", .str "c"]) hd rfl (shaped_mem hs (by simp)) (by decide +kernel) ?_
          rw [if_neg Bool.false_ne_true, any_count hd]
          walk_at "ws"
          cases h3 : isCountD d with
          | false => rw [h3] at k; walk_at "ws"; exact k
          | true =>
            rw [h3, Bool.true_and] at k
            obtain ⟨s1, rfl⟩ := count_str h2
            obtain ⟨s2, rfl⟩ := count_str h3
            walk_at "ws"
            cases h4 : decide (s1 = s2) with
            | true =>
              rw [show sameStr (.str s1) (.str s2) = true from h4] at k
              walk_at "ws"
              exact k
            | false =>
              rw [show sameStr (.str s1) (.str s2) = false from h4] at k
              walk_at "ws"
              refine c_whole (hl e (by simp)) ?_
              walk_at "ws"
              exact k
      | false =>
        rw [h1, Bool.false_and, Bool.false_or] at k
        walk_at "ws"
        refine z_eqP hy1 rfl hxs (by decide +kernel) ?_
        rw [eqv_word hy1]
        walk_at "ws"
        cases h1 : isWord x "rest" with
        | false => rw [h1] at k; walk_at "ws"; exact k
        | true =>
          rw [h1, Bool.true_and] at k
          walk_at "ws"
          refine z_inP (ps := [.str "a", .str "b", .str "c"]) hc rfl (shaped_mem hs (by simp)) (by decide +kernel) ?_
          rw [if_neg Bool.false_ne_true, any_count hc]
          walk_at "ws"
          cases h2 : isCountD c with
          | false => rw [h2] at k; walk_at "ws"; exact k
          | true =>
            rw [h2, Bool.true_and] at k
            walk_at "ws"
            refine c_whole (hl d (by simp)) ?_
            walk_at "ws"
            cases h3 : inRD d 2 4 with
            | false => rw [h3] at k; walk_at "ws"; exact k
            | true =>
              rw [h3, Bool.true_and] at k
              obtain ⟨i, rfl, _⟩ := range_int h3
              walk_at "ws"
              refine c_whole (hl e (by simp)) ?_
              walk_at "ws"
              exact k
    | a :: b :: c :: d :: r, _, k =>
      rw [fits_5] at k
      walk_at "ws"
      exact k
  | tupP ds => exact (ntp ds rfl).elim
  | _ => walk_at "ws"; exact k
end Wl
namespace Wl
open PySem PySem.Spec PyProof.Rows L2 RZ
open My (s_rI0 nat0)
/-- what the law awaits of a code -/
def toldOf : CodeErr → D
  | .none => .tup [.str "", .non]
  | .limit => .tup [.str "limitexceeded", .int 60]
  | .at i => .tup [.str "invalidcode", .int (i : Nat)]
def codeTold (ps : List D) : D := toldOf (codeErr ps)
def sp__law_due : WSp := fun as k _ => ∃ ps, as = [.d (.tup ps)] ∧ (∀ p ∈ ps, OkPart p) ∧ ps.length ≤ 1000 ∧ k (.d (codeTold ps)) as
theorem c_due {ps : List D} {k : SK} {kx : SX} (h : ∀ p ∈ ps, OkPart p) (hl : ps.length ≤ 1000) (q : k (.d (codeTold ps)) [.d (.tup ps)]) : sp__law_due [.d (.tup ps)] k kx := ⟨ps, rfl, h, hl, q⟩
theorem need_word {p : D} {w : Str} {r : List D} (e : p = .tup (.str w :: r)) : needD p = if decide (w = "not") = true then 1 else if inD (.str w) [.str "and", .str "or"] = true then 2 else 0 := by
  subst e
  rw [in_str, in_str, in_nil, Bool.or_false]
  unfold needD
  by_cases h1 : w = "not"
  · simp [h1]
  · by_cases h2 : w = "and"
    · simp [h2]
    · by_cases h3 : w = "or"
      · simp [h3]
      · simp [h1, h2, h3]
theorem ok__law_due {P : Program} {w : World} {K : PySem.W.Frag} {mg : Str → Option Value} {base : Heap} (T : Txt K mg) : FnOk P w K mg base (L2.CX P w) lv__law_due T.f__law_due T.fd__law_due ["_law_code_here"] (lower K sp__law_due) := by
  refine fn_w T.F__law_due sc__law_due (fun i => Nat.blt i 1) (by decide) (fun as kk kx h => ?_) (fun cdv A outer s H E hr Tt as kk kx h tk uw => ?_)
  · obtain ⟨ps, rfl, _⟩ := h; exact ⟨rfl, rfl⟩
  obtain ⟨ps, rfl, hp, hlen, k⟩ := h
  have G__law_fits := ok__law_fits (P := P) (w := w) (base := base) T
  refine ⟨_, (ws_cons (w_ifS (wt_cmp op_gt (spCmp (p := fun i j => decide (i > j)) fun _ _ _ _ q => My.s_rI0 q) (w_callB (My.callLenK K) spLen (by rfl) T.z_len (by first | exact PySem.boot_len | exact boot_len | decide +kernel) (wa_cons (w_v 0) wa_nil)) w_int)
        (ws_one (w_ret (w_tup (wa_cons w_str (wa_cons w_int wa_nil)))))
        ws_nil)
      (ws_cons (w_set (i := 1) rfl sc__law_due.nd rfl (by first | exact .inl rfl | exact .inr rfl) w_int)
      (ws_cons (w_for uw (passes_of rfl) rfl (wi_rng1 (by rfl) T.z_range (wa_cons (w_callB (My.callLenK K) spLen (by rfl) T.z_len (by first | exact PySem.boot_len | exact boot_len | decide +kernel) (wa_cons (w_v 0) wa_nil)) wa_nil)) (w_gN (i := 2)  rfl sc__law_due.nd rfl (by first | exact .inl rfl | exact .inr rfl))
        (ws_cons (w_set (i := 3) rfl sc__law_due.nd rfl (by first | exact .inl rfl | exact .inr rfl) (w_ix (My.ixK K) spIx (w_v 0) (w_v 2)))
        (ws_cons (w_ifS (wt_not (wt_val (w_call G__law_fits (hr.mono (by first | decide | omega)) (by rfl) T.g__law_fits T.F__law_fits.kp T.b__law_fits tk (wa_cons (w_fz (w_v 3)) wa_nil))))
          (ws_one (w_ret (w_tup (wa_cons w_str (wa_cons (w_fz (w_v 2)) wa_nil)))))
          ws_nil)
        (ws_cons (w_set (i := 4) rfl sc__law_due.nd rfl (by first | exact .inl rfl | exact .inr rfl) (w_if (wt_cmp (My.opEqK K hr.units) spEq (w_ix (My.ixK K) spIx (w_v 3) w_int) w_str) w_int (w_if (wt_cmp (opIn3 (K := K) (un65 hr)) spIn (w_ix (My.ixK K) spIx (w_v 3) w_int) (w_tup (wa_cons w_str (wa_cons w_str wa_nil)))) w_int w_int)))
        (ws_cons (w_ifS (wt_cmp op_lt (spCmp (p := fun i j => decide (i < j)) fun _ _ _ _ q => My.s_rI0 q) (w_v 1) (w_v 4))
          (ws_one (w_ret (w_tup (wa_cons w_str (wa_cons (w_fz (w_v 2)) wa_nil)))))
          ws_nil)
        (ws_one (w_set (i := 1) rfl sc__law_due.nd rfl (by first | exact .inl rfl | exact .inr rfl) (w_op op_sub (spSub fun _ _ _ _ q => My.s_rI0 q) (w_op (opAdd3 (K := K)) spAdd (w_v 1) w_int) (w_v 4)))))))))
      (ws_one (w_ret (w_if (wt_cmp (My.opEqK K hr.units) spEq (w_v 1) w_int) (w_tup (wa_cons w_str (wa_cons w_non wa_nil))) (w_tup (wa_cons w_str (wa_cons (w_fz (w_callB (My.callLenK K) spLen (by rfl) T.z_len (by first | exact PySem.boot_len | exact boot_len | decide +kernel) (wa_cons (w_v 0) wa_nil))) wa_nil))))))))), ?_⟩
  (rw [show startE _ [(.d (.tup ps) : S)] = [some (.d (.tup ps)), none, none, none, none] from rfl]; unfold endsOf)
  walk_at "ws"
  refine z_itd (fun hl => ?_) fun hl => ?_
  · walk_at "ws"
    rw [show codeTold ps = .tup [.str "limitexceeded", .int 60] by unfold codeTold; rw [codeErr_long hl]; rfl] at k
    exact k
  · rw [show codeTold ps = toldOf _ from rfl, codeErr_short hl] at k
    walk_at "ws"
    refine for_inv (fun i e => ∃ (d : Int) (v1 v2 v3 : Option S), e = [some (.d (.tup ps)), some (.d (.int d)), v1, v2, v3] ∧ codeAt 0 0 ps = codeAt i d (ps.drop i)) ⟨_, _, _, _, rfl, rfl⟩ ?_ ?_
    · rintro i x e N hx hN ⟨d, v1, v2, v3, rfl, hc⟩
      obtain ⟨hi, rfl⟩ := range0_at hx
      have hi : i < ps.length := by omega
      obtain ⟨p, hpi⟩ : ∃ p, ps[i]? = some p := ⟨_, List.getElem?_eq_getElem hi⟩
      rw [drop_at hpi, codeAt_cons] at hc
      walk_at "ws"
      refine z_ixT (atN hpi) ?_
      walk_at "ws"
      refine c_fits (hp p (List.mem_of_getElem? hpi)) ?_
      walk_at "ws"
      cases hf : fitsD p with
      | false =>
        rw [if_pos hf] at hc
        rw [hc] at k
        walk_at "ws"
        exact k
      | true =>
        rw [if_neg (by rw [hf]; exact fun z => Bool.noConfusion z)] at hc
        obtain ⟨w, r, rfl⟩ := fits_form hf
        walk_at "ws"
        have en := need_word (p := .tup (.str w :: r)) rfl
        cases h1 : decide (w = "not") with
        | true =>
          rw [h1, if_pos rfl] at en
          walk_at "ws"
          refine z_itd (fun hd => ?_) fun hd => ?_
          · rw [if_pos (by rw [en]; exact hd)] at hc
            rw [hc] at k
            walk_at "ws"
            exact k
          · rw [if_neg (by rw [en]; exact hd), en] at hc
            walk_at "ws"
            exact hN _ ⟨_, _, _, _, rfl, hc⟩
        | false =>
          rw [h1, if_neg Bool.false_ne_true] at en
          walk_at "ws"
          rw [if_neg Bool.false_ne_true]
          cases h2 : inD (.str w) [.str "and", .str "or"] with
          | true =>
            rw [h2, if_pos rfl] at en
            walk_at "ws"
            refine z_itd (fun hd => ?_) fun hd => ?_
            · rw [if_pos (by rw [en]; exact hd)] at hc
              rw [hc] at k
              walk_at "ws"
              exact k
            · rw [if_neg (by rw [en]; exact hd), en] at hc
              walk_at "ws"
              exact hN _ ⟨_, _, _, _, rfl, hc⟩
          | false =>
            rw [h2, if_neg Bool.false_ne_true] at en
            walk_at "ws"
            refine z_itd (fun hd => ?_) fun hd => ?_
            · rw [if_pos (by rw [en]; exact hd)] at hc
              rw [hc] at k
              walk_at "ws"
              exact k
            · rw [if_neg (by rw [en]; exact hd), en] at hc
              walk_at "ws"
              exact hN _ ⟨_, _, _, _, rfl, hc⟩
    · rintro e ⟨d, v1, v2, v3, rfl, hc⟩
      rw [range0_len, List.drop_of_length_le (by omega), codeAt_nil] at hc
      rw [hc] at k
      walk_at "ws"
      refine z_itd (fun hd => ?_) fun hd => ?_
      · rw [show toldOf _ = _ from congrArg toldOf (if_pos hd)] at k
        walk_at "ws"
        exact k
      · rw [show toldOf _ = _ from congrArg toldOf (if_neg hd)] at k
        walk_at "ws"
        exact k
end Wl
namespace Wl
open PySem PySem.Spec PyProof.Rows L2 RZ
open My (s_rI0 nat0)
def okPartB (p : D) : Bool := (tyD p).isSome && (okD 64 p && match p with | .tup ps => ps.all (fun x => (tyD x).isSome) && decide (ps.length ≤ 1000) | .tupP _ => false | _ => true)
theorem okPart_of {p : D} (h : okPartB p = true) : OkPart p := by
  unfold okPartB at h
  rw [Bool.and_eq_true, Bool.and_eq_true] at h
  refine ⟨h.1, okD_EqD.mpr h.2.1, fun ps e => ?_, fun ds e => ?_⟩
  · subst e
    have h3 := h.2.2
    rw [Bool.and_eq_true, List.all_eq_true] at h3
    exact ⟨h3.1, of_decide_eq_true h3.2⟩
  · subst e
    cases h.2.2
theorem sign_ok {c : Nat} (h : c ∈ ("abc" : Str).cps.toList) : c = 97 ∨ c = 98 ∨ c = 99 := by
  have : ("abc" : Str).cps.toList = [97, 98, 99] := by decide +kernel
  rw [this] at h
  simpa using h
theorem okPart_cmp {ks : List D} {p : D} (h : CmpIn "abc" ks p) : OkPart p := by
  refine okPart_of ?_
  have sg : ∀ {c : Nat}, c ∈ ("abc" : Str).cps.toList → okD 63 (.str ⟨#[c]⟩) = true := fun h => by
    rcases sign_ok h with rfl | rfl | rfl <;> decide +kernel
  cases h with
  | yes => decide +kernel
  | no => decide +kernel
  | least c k hc => unfold okPartB; rw [okD_cons, okD_cons, okD_cons, sg hc, okD_int, okD_nil, show okD 63 (.str "least") = true by decide +kernel]; rfl
  | ahead c d k _ hc hd => unfold okPartB; rw [okD_cons, okD_cons, okD_cons, okD_cons, sg hc, sg hd, okD_int, okD_nil, show okD 63 (.str "ahead") = true by decide +kernel]; rfl
  | rest c m r _ hc => unfold okPartB; rw [okD_cons, okD_cons, okD_cons, okD_cons, sg hc, okD_int, okD_int, okD_nil, show okD 63 (.str "rest") = true by decide +kernel]; rfl
theorem okPart_post {ks : List D} : ∀ {t : CT}, CodeIn "abc" ks t → ∀ p ∈ t.post, OkPart p
  | .leaf q, h, p, m => by cases List.mem_singleton.mp m; exact okPart_cmp (h.lv q (by simp [CT.leaves]))
  | .neg t, h, p, m => by
    rcases List.mem_append.mp m with m | m
    · exact okPart_post (t := t) ⟨h.ws, h.lv⟩ p m
    · cases List.mem_singleton.mp m; exact okPart_of (by decide +kernel)
  | .bin w a b, h, p, m => by
    have hw := h.ws
    simp only [CT.ws, Bool.and_eq_true, Bool.or_eq_true, decide_eq_true_eq] at hw
    rcases List.mem_append.mp m with m | m
    · rcases List.mem_append.mp m with m | m
      · exact okPart_post (t := a) ⟨hw.2.1, fun p hp => h.lv p (List.mem_append.mpr (.inl hp))⟩ p m
      · exact okPart_post (t := b) ⟨hw.2.2, fun p hp => h.lv p (List.mem_append.mpr (.inr hp))⟩ p m
    · cases List.mem_singleton.mp m
      rcases hw.1 with rfl | rfl <;> exact okPart_of (by decide +kernel)
def φW (C : List D) (j : Nat) : D → Option D
  | .tup ds => some (.tup (C.take j ++ ds))
  | _ => none
theorem changed_ok {C : List D} {y : D} {j kd : Nat} (hC : ∀ p ∈ C, OkPart p) (hy : OkPart y) (hl : C.length ≤ 300) (hk : kd < 4) : ∃ qs, (List.filterMap (φW C j) [.tup (C.drop (j + 1)), .tup ([y] ++ C.drop j), .tup ([y] ++ C.drop (j + 1)), .tup (C.drop j)])[kd]? = some (.tup qs) ∧ (∀ p ∈ qs, OkPart p) ∧ qs.length ≤ 1000 := by
  have hd : ∀ n, ∀ p ∈ C.drop n, OkPart p := fun n p m => hC p (List.mem_of_mem_drop m)
  have ht : ∀ p ∈ C.take j, OkPart p := fun p m => hC p (List.mem_of_mem_take m)
  have hy1 : ∀ n, ∀ p ∈ [y] ++ C.drop n, OkPart p := fun n p m => by
    rcases List.mem_append.mp m with m | m
    · cases List.mem_singleton.mp m; exact hy
    · exact hd n p m
  have ap : ∀ ds : List D, (∀ p ∈ ds, OkPart p) → ∀ p ∈ C.take j ++ ds, OkPart p := fun ds h p m => (List.mem_append.mp m).elim (ht p) (h p)
  have l1 : ∀ n, (C.take j ++ C.drop n).length ≤ 1000 := fun n => by rw [List.length_append, List.length_take, List.length_drop]; omega
  have l2 : ∀ n, (C.take j ++ ([y] ++ C.drop n)).length ≤ 1000 := fun n => by rw [List.length_append, List.length_append, List.length_take, List.length_drop, List.length_singleton]; omega
  match kd, hk with
  | 0, _ => exact ⟨_, rfl, ap _ (hd _), l1 _⟩
  | 1, _ => exact ⟨_, rfl, ap _ (hy1 _), l2 _⟩
  | 2, _ => exact ⟨_, rfl, ap _ (hy1 _), l2 _⟩
  | 3, _ => exact ⟨_, rfl, ap _ (hd _), l1 _⟩
theorem codeAt_nots : ∀ (m i : Nat), codeAt i 1 (List.replicate m (.tup [.str "not"])) = .ok 1
  | 0, i => rfl
  | m + 1, i => by
    rw [List.replicate_succ, codeAt_cons, if_neg (by decide +kernel), if_neg (by decide +kernel), show (1 : Int) + 1 - needD (.tup [.str "not"]) = 1 by decide +kernel]
    exact codeAt_nots m (i + 1)
theorem long_err (m i : Nat) : codeErr ([.tup [.str "yes"]] ++ List.replicate m (.tup [.str "not"])) ≠ .at i := by
  intro h
  unfold codeErr at h
  split at h
  · cases h
  · rw [List.singleton_append, codeAt_cons, if_neg (by decide +kernel), if_neg (by decide +kernel), show (0 : Int) + 1 - needD (.tup [.str "yes"]) = 1 by decide +kernel, codeAt_nots] at h
    cases h
theorem ok_law {P : Program} {w : World} {K : PySem.W.Frag} {mg : Str → Option Value} {base : Heap} (T : Txt K mg) (TB : LamX.TabB base mg T.c_law T.P_law) : FnOk P w K mg base (L2.CX P w) lv_law T.f_law T.fd_law ["_law_script"] (sp_lawW K (TLw T.P_law)) := by
  (obtain ⟨oc, od, kV, doc, pm, an, ct, osl, hfd, lk, hcd⟩ := T.lk_law); (rw [hfd] at lk ⊢); refine fn_lawL lk hcd sc_law (TLw T.P_law) (fun A outer s H E hr ns hl tk uw => ?_)
  have G_Wish____init__ := ok_Wish____init__ (P := P) (w := w) (base := base) T; have G__law_all_kinds := ok__law_all_kinds (P := P) (w := w) (base := base) T; have G__law_bag := ok__law_bag (P := P) (w := w) (base := base) T; have G__law_code := ok__law_code (P := P) (w := w) (base := base) T; have G__law_due := ok__law_due (P := P) (w := w) (base := base) T; have G__law_of := ok__law_of (P := P) (w := w) (base := base) T; have G__law_pull := ok__law_pull (P := P) (w := w) (base := base) T
  refine ⟨_, (ws_cons (w_set (i := 1) rfl sc_law.nd rfl (by first | exact .inl rfl | exact .inr rfl) (w_call G__law_bag (hr.mono (by first | decide | omega)) (by rfl) T.g__law_bag T.F__law_bag.kp T.b__law_bag tk (wa_cons (w_fz (w_v 0)) wa_nil)))
      (ws_cons (w_for uw (passes_of rfl) rfl (wi_rng1 (by rfl) T.z_range (wa_cons w_int wa_nil)) (w_gN (i := 2)  rfl sc_law.nd rfl (by first | exact .inl rfl | exact .inr rfl))
        (ws_cons (w_set (i := 3) rfl sc_law.nd rfl (by first | exact .inl rfl | exact .inr rfl) (w_call G__law_code (hr.mono (by first | decide | omega)) (by rfl) T.g__law_code T.F__law_code.kp T.b__law_code tk (wa_cons (w_v 1) (wa_cons w_str (wa_cons (w_fz (w_call0 (E := _) rfl G__law_all_kinds (hr.mono (by first | decide | omega)) (by rfl) T.g__law_all_kinds T.F__law_all_kinds.kp T.b__law_all_kinds tk)) (wa_cons w_int wa_nil))))))
        (ws_cons (w_set (i := 4) rfl sc_law.nd rfl (by first | exact .inl rfl | exact .inr rfl) (w_call G__law_pull (hr.mono (by first | decide | omega)) (by rfl) T.g__law_pull T.F__law_pull.kp T.b__law_pull tk (wa_cons (w_v 1) (wa_cons (w_fz (w_callB (My.callLenK K) spLen (by rfl) T.z_len (by first | exact PySem.boot_len | exact boot_len | decide +kernel) (wa_cons (w_v 3) wa_nil))) wa_nil))))
        (ws_cons (w_set (i := 5) rfl sc_law.nd rfl (by first | exact .inl rfl | exact .inr rfl) (w_lst (wa_cons (w_fz (w_tup (wa_cons w_str wa_nil))) (wa_cons (w_fz (w_tup wa_nil)) (wa_cons w_str (wa_cons (w_fz (w_tup (wa_cons w_str (wa_cons w_str (wa_cons w_int wa_nil))))) (wa_cons (w_fz (w_tup (wa_cons w_str (wa_cons w_str (wa_cons w_int wa_nil))))) (wa_cons (w_fz (w_tup (wa_cons w_str (wa_cons w_str (wa_cons (w_fz (w_un un_neg (spNeg fun _ _ _ q => My.s_rU q) w_int)) wa_nil))))) wa_nil))))))))
        (ws_cons (w_set (i := 5) rfl sc_law.nd rfl (by first | exact .inl rfl | exact .inr rfl) (w_op (opAdd3 (K := K)) spAdd (w_v 5) (w_lst (wa_cons (w_fz (w_tup (wa_cons w_str (wa_cons w_str (wa_cons w_str (wa_cons (w_fz (w_un un_neg (spNeg fun _ _ _ q => My.s_rU q) w_int)) wa_nil)))))) (wa_cons (w_fz (w_tup (wa_cons w_str (wa_cons w_str (wa_cons w_int (wa_cons w_int wa_nil)))))) (wa_cons (w_fz (w_tup (wa_cons w_str (wa_cons w_str (wa_cons w_int (wa_cons w_int wa_nil)))))) (wa_cons (w_fz (w_tup (wa_cons w_str (wa_cons w_str (wa_cons w_int (wa_cons w_int wa_nil)))))) wa_nil)))))))
        (ws_cons (w_set (i := 5) rfl sc_law.nd rfl (by first | exact .inl rfl | exact .inr rfl) (w_op (opAdd3 (K := K)) spAdd (w_v 5) (w_lst (wa_cons (w_fz (w_tup (wa_cons w_str (wa_cons w_int wa_nil)))) (wa_cons (w_fz (w_tup (wa_cons w_str (wa_cons w_str wa_nil)))) (wa_cons (w_fz (w_tup (wa_cons w_str (wa_cons w_str (wa_cons w_str wa_nil))))) (wa_cons (w_fz (w_tup (wa_cons w_str wa_nil))) (wa_cons (w_fz (w_tup (wa_cons w_str wa_nil))) (wa_cons (w_fz (w_tup (wa_cons w_str wa_nil))) (wa_cons w_non (wa_cons w_int wa_nil)))))))))))
        (ws_cons (w_set (i := 5) rfl sc_law.nd rfl (by first | exact .inl rfl | exact .inr rfl) (w_op (opAdd3 (K := K)) spAdd (w_v 5) (w_lst (wa_cons (w_fz (w_tup (wa_cons w_str (wa_cons w_str (wa_cons w_str (wa_cons w_int wa_nil)))))) wa_nil))))
        (ws_cons (w_set (i := 5) rfl sc_law.nd rfl (by first | exact .inl rfl | exact .inr rfl) (w_op (opAdd3 (K := K)) spAdd (w_v 5) (w_lst (wa_cons (w_fz (w_tup (wa_cons w_str (wa_cons w_str (wa_cons w_str (wa_cons w_int wa_nil)))))) (wa_cons (w_fz (w_tup (wa_cons w_str (wa_cons w_str (wa_cons w_int wa_nil))))) (wa_cons (w_fz (w_tup (wa_cons w_str (wa_cons w_str (wa_cons w_str (wa_cons (w_fz (w_un un_neg (spNeg fun _ _ _ q => My.s_rU q) w_int)) wa_nil)))))) (wa_cons (w_fz (w_tup (wa_cons w_str wa_nil))) wa_nil)))))))
        (ws_cons (w_set (i := 5) rfl sc_law.nd rfl (by first | exact .inl rfl | exact .inr rfl) (w_op (opAdd3 (K := K)) spAdd (w_v 5) (w_lst (wa_cons (w_fz (w_tup (wa_cons w_str (wa_cons w_str (wa_cons w_int (wa_cons w_int wa_nil)))))) (wa_cons (w_fz (w_tup (wa_cons w_str (wa_cons w_str (wa_cons w_bl wa_nil))))) (wa_cons (w_fz (w_tup (wa_cons w_str (wa_cons w_str (wa_cons w_str (wa_cons w_bl wa_nil)))))) (wa_cons (w_fz (w_tup (wa_cons w_str (wa_cons w_str (wa_cons w_int (wa_cons w_bl wa_nil)))))) wa_nil)))))))
        (ws_cons (w_set (i := 5) rfl sc_law.nd rfl (by first | exact .inl rfl | exact .inr rfl) (w_op (opAdd3 (K := K)) spAdd (w_v 5) (w_lst (wa_cons (w_fz (w_tup (wa_cons w_str (wa_cons w_str (wa_cons w_bl (wa_cons w_int wa_nil)))))) (wa_cons (w_fz (w_tup (wa_cons w_str (wa_cons w_str (wa_cons w_str (wa_cons w_str wa_nil)))))) (wa_cons (w_fz (w_tup (wa_cons w_str (wa_cons w_int (wa_cons w_int wa_nil))))) (wa_cons (w_fz (w_tup (wa_cons w_str (wa_cons (w_fz (w_tup (wa_cons w_str wa_nil))) (wa_cons w_int wa_nil))))) (wa_cons (w_fz (w_tup (wa_cons w_bl wa_nil))) wa_nil))))))))
        (ws_cons (w_set (i := 5) rfl sc_law.nd rfl (by first | exact .inl rfl | exact .inr rfl) (w_op (opAdd3 (K := K)) spAdd (w_v 5) (w_lst (wa_cons (w_fz (w_tup (wa_cons w_str (wa_cons w_non (wa_cons w_int (wa_cons w_int wa_nil)))))) (wa_cons (w_fz (w_tup (wa_cons w_str (wa_cons w_str (wa_cons w_non wa_nil))))) (wa_cons (w_fz (w_lst (wa_cons w_str wa_nil))) (wa_cons (w_fz (w_tup (wa_cons (w_fz (w_tup (wa_cons w_str wa_nil))) wa_nil))) wa_nil)))))))
        (ws_cons (w_set (i := 6) rfl sc_law.nd rfl (by first | exact .inl rfl | exact .inr rfl) (w_call G__law_of (hr.mono (by first | decide | omega)) (by rfl) T.g__law_of T.F__law_of.kp T.b__law_of tk (wa_cons (w_v 1) (wa_cons (w_fz (w_v 5)) wa_nil))))
        (ws_cons (w_set (i := 7) rfl sc_law.nd rfl (by first | exact .inl rfl | exact .inr rfl) (w_call G__law_pull (hr.mono (by first | decide | omega)) (by rfl) T.g__law_pull T.F__law_pull.kp T.b__law_pull tk (wa_cons (w_v 1) (wa_cons w_int wa_nil))))
        (ws_cons (w_set (i := 8) rfl sc_law.nd rfl (by first | exact .inl rfl | exact .inr rfl) (w_lst (wa_cons (w_fz (w_sl (w_v 3) (wo_some (w_op (opAdd3 (K := K)) spAdd (w_v 4) w_int)) wo_none)) (wa_cons (w_fz (w_op (opAdd3 (K := K)) spAdd (w_tup (wa_cons (w_fz (w_v 6)) wa_nil)) (w_sl (w_v 3) (wo_some (w_v 4)) wo_none))) (wa_cons (w_fz (w_op (opAdd3 (K := K)) spAdd (w_tup (wa_cons (w_fz (w_v 6)) wa_nil)) (w_sl (w_v 3) (wo_some (w_op (opAdd3 (K := K)) spAdd (w_v 4) w_int)) wo_none))) (wa_cons (w_fz (w_sl (w_v 3) (wo_some (w_v 4)) wo_none)) wa_nil))))))
        (ws_cons (w_set (i := 9) rfl sc_law.nd rfl (by first | exact .inl rfl | exact .inr rfl) (w_lc (own := [("_law_one", 13)]) rfl sc_law.nd (wi_it rfl (w_v 8)) (blkOk_by (N := ["_law_script", "_law_bag_here", "_law_turn", "_law_code_here", "_law_at", "_law_odd", "_law_item", "_law_kind", "_law_rest", "_law_changed", "_law_due_here", "_law_found", "_law_long", "_law_one"]) (sc := defScope s_law) (by decide +kernel)) (by decide) (fun _ _ _ _ _ => (w_gN (i := 13) (L := fun _ => false) rfl sc_law.nd rfl (by first | exact .inl rfl | exact .inr rfl))) (fun _ _ _ _ _ => wts_nil) (fun _ _ _ _ _ => (w_op (opAdd3 (K := K)) spAdd (w_sl (w_v 3) wo_none (wo_some (w_v 4))) (w_v 13)))))
        (ws_cons (w_set (i := 10) rfl sc_law.nd rfl (by first | exact .inl rfl | exact .inr rfl) (w_call G__law_due (hr.mono (by first | decide | omega)) (by rfl) T.g__law_due T.F__law_due.kp T.b__law_due tk (wa_cons (w_fz (w_ix (My.ixK K) spIx (w_v 9) (w_v 7))) wa_nil)))
        (ws_cons (w_set (i := 11) rfl sc_law.nd rfl (by first | exact .inl rfl | exact .inr rfl) (w_tried (c := T.c_law) (P := T.P_law) (k := lv_law - 3) (PX := xcl T) T.F__law_tried T.b__law_tried sc__law_tried T.g__law_tried (by rfl) rfl (.inl rfl) (gives__law_tried T rfl rfl (hr.mono (by decide))) (hr.mono (by decide)) (xcl_ok T) TB rfl (LamX.lamS_by (show LamX.lamSB (defScope s_law) _ = true by decide +kernel)) rfl (fun _ _ _ _ _ => rfl) (fun A2 outer2 s2 H2 E2 f2 c2 hr2 => (w_make (E := _) rfl T.Mk_Wish G_Wish____init__ (hr2.mono (by first | decide | omega)) (by rfl) T.g_Wish T.b_Wish____init__ (takes_of rfl rfl rfl rfl) (wa_cons (w_ix (My.ixK K) spIx (w_v 9) (w_v 7)) wa_nil)))))
        (ws_one (w_ifS (PW.pt (wt_or (wt_cmp (My.opNeK K hr.units) spNe (w_ix (My.ixK K) spIx (w_v 11) w_int) (w_ix (My.ixK K) spIx (w_v 10) w_int)) (wt_or1 (PW.pt (wt_and (wt_cmp (My.opNeK K hr.units) spNe (w_ix (My.ixK K) spIx (w_v 10) w_int) w_str) (wt_and1 (wt_cmp (My.opNeK K hr.units) spNe (w_v 11) (w_v 10))))))))
          (ws_one (w_ret w_bl))
          ws_nil)))))))))))))))))))
      (ws_cons (w_set (i := 12) rfl sc_law.nd rfl (by first | exact .inl rfl | exact .inr rfl) (w_op (opAdd3 (K := K)) spAdd (w_tup (wa_cons (w_fz (w_tup (wa_cons w_str wa_nil))) wa_nil)) (w_op (opMulT (K := K)) spMulT (w_tup (wa_cons (w_fz (w_tup (wa_cons w_str wa_nil))) wa_nil)) (w_op (opAdd3 (K := K)) spAdd w_int (w_call G__law_pull (hr.mono (by first | decide | omega)) (by rfl) T.g__law_pull T.F__law_pull.kp T.b__law_pull tk (wa_cons (w_v 1) (wa_cons w_int wa_nil)))))))
      (ws_cons (w_set (i := 11) rfl sc_law.nd rfl (by first | exact .inl rfl | exact .inr rfl) (w_tried (c := T.c_law) (P := T.P_law) (k := lv_law - 3) (PX := xcl T) T.F__law_tried T.b__law_tried sc__law_tried T.g__law_tried (by rfl) rfl (.inl rfl) (gives__law_tried T rfl rfl (hr.mono (by decide))) (hr.mono (by decide)) (xcl_ok T) TB rfl (LamX.lamS_by (show LamX.lamSB (defScope s_law) _ = true by decide +kernel)) rfl (fun _ _ _ _ _ => rfl) (fun A2 outer2 s2 H2 E2 f2 c2 hr2 => (w_make (E := _) rfl T.Mk_Wish G_Wish____init__ (hr2.mono (by first | decide | omega)) (by rfl) T.g_Wish T.b_Wish____init__ (takes_of rfl rfl rfl rfl) (wa_cons (w_v 12) wa_nil)))))
      (ws_one (w_ret (w_and (w_cmp (My.opEqK K hr.units) spEq (w_glob (v := .int 60) (d := .int 60) (by rfl) T.g_MAX_PARTS (fun _ _ => .int _) ⟨_, rfl⟩) w_int) (w_and (w_cmp (My.opEqK K hr.units) spEq (w_ix (My.ixK K) spIx (w_v 11) w_int) (w_ix (My.ixK K) spIx (w_call G__law_due (hr.mono (by first | decide | omega)) (by rfl) T.g__law_due T.F__law_due.kp T.b__law_due tk (wa_cons (w_fz (w_v 12)) wa_nil)) w_int)) (w_one (w_or (w_cmp (My.opEqK K hr.units) spEq (w_ix (My.ixK K) spIx (w_v 11) w_int) w_str) (w_one (w_cmp (My.opEqK K hr.units) spEq (w_ix (My.ixK K) spIx (w_v 11) w_int) w_int)))))))))))), ?_⟩
  (rw [show startE _ [(.d (.lst (ns.map .int)) : S)] = [some (.d (.lst (ns.map .int))), none, none, none, none, none, none, none, none, none, none, none, none, none] from rfl]; unfold lawEnds)
  walk_at "ws"
  refine s_bag hl fun xs B => ?_
  walk_at "ws"
  refine for_inv (fun _ e => ∃ (ys : List D) (v2 v3 v4 v5 v6 v7 v8 v9 v10 v11 : Option S), BagW ys ∧ e = [some (.d (.lst (ns.map .int))), some (.l ys), v2, v3, v4, v5, v6, v7, v8, v9, v10, v11, none, none]) ⟨_, _, _, _, _, _, _, _, _, _, _, B, rfl⟩ ?_ ?_
  · rintro i x e N hx hN ⟨ys, v2, v3, v4, v5, v6, v7, v8, v9, v10, v11, B1, rfl⟩
    walk_at "ws"
    refine c_kinds ?_
    walk_at "ws"
    refine c_code B1 ⟨by decide, by decide, by decide⟩ ⟨by decide, by decide, by intro x h; simp only [List.mem_cons, List.not_mem_nil, or_false] at h; rcases h with rfl | rfl | rfl | rfl | rfl | rfl | rfl | rfl <;> exact ⟨_, rfl⟩⟩ (by decide) fun t zs ht hn hl B2 => ?_
    have hp := t.post_len_pos
    walk_at "ws"
    refine s_pull B2 (by omega) fun a us a0 a1 B3 => ?_
    obtain ⟨j, rfl⟩ := nat0 a0
    walk_at "ws"
    refine s_ofL B3 (by decide) fun y us hy B4 => ?_
    have oy : OkPart y := okPart_of (List.all_eq_true.mp (by decide +kernel) y hy)
    walk_at "ws"
    refine s_pull B4 (by decide) fun b us b0 b1 B5 => ?_
    obtain ⟨kd, rfl⟩ := nat0 b0
    walk_at "ws"
    have hpl : t.post.length ≤ 300 := by omega
    refine lc_map (φW t.post j) (by show 4 ≤ 1000000; decide) rfl (by walk_at "wip") (fun x hx K hK => ?_) (by walk_at "bak") ?_
    · obtain ⟨ds, rfl, hd⟩ : ∃ ds, x = .tup ds ∧ ds.length ≤ 1000 := by
        simp only [List.mem_cons, List.not_mem_nil, or_false] at hx
        rcases hx with rfl | rfl | rfl | rfl
        · exact ⟨_, rfl, by rw [List.length_drop]; omega⟩
        · exact ⟨_, rfl, by rw [List.length_append, List.length_drop]; simp; omega⟩
        · exact ⟨_, rfl, by rw [List.length_append, List.length_drop]; simp; omega⟩
        · exact ⟨_, rfl, by rw [List.length_drop]; omega⟩
      refine z_turn ?_
      walk_at "bak"
      walk_at "ws"
      exact hK
    · obtain ⟨qs, hq, oq, lq⟩ := changed_ok (C := t.post) (y := y) (j := j) (kd := kd) (okPart_post ht) oy hpl (by omega)
      walk_at "ws"
      refine z_ixL (atN hq) ?_
      walk_at "ws"
      refine c_due oq lq ?_
      walk_at "ws"
      refine z_ixL (atN hq) ?_
      walk_at "ws"
      cases hc : codeErr qs with
      | none =>
        rw [show codeTold qs = .tup [.str "", .non] from congrArg toldOf hc]
        refine c_WishN oq hc ?_
        walk_at "ws"
        exact hN _ ⟨_, _, _, _, _, _, _, _, _, _, _, B5, rfl⟩
      | limit =>
        rw [show codeTold qs = .tup [.str "limitexceeded", .int 60] from congrArg toldOf hc]
        refine c_WishL oq hc ?_
        walk_at "ws"
        refine z_triX stayB_refl .x_LimitExceeded rfl rfl ?_
        walk_at "ws"
        refine z_neD (by decide +kernel) (by decide +kernel) ?_
        walk_at "ws"
        exact hN _ ⟨_, _, _, _, _, _, _, _, _, _, _, B5, rfl⟩
      | «at» i =>
        rw [show codeTold qs = .tup [.str "invalidcode", .int (i : Nat)] from congrArg toldOf hc]
        refine c_WishA oq hc ?_
        walk_at "ws"
        refine z_triX stayB_refl .x_InvalidCode rfl rfl ?_
        walk_at "ws"
        have o1 : okD 64 (.tup [.str "invalidcode", .int (i : Nat)]) = true := by rw [okD_cons, okD_cons, okD_nil, okD_int, show okD 63 (.str "invalidcode") = true by decide +kernel]; rfl
        refine z_neD o1 o1 ?_
        rw [show eqD (.tup [.str "invalidcode", .int (i : Nat)]) (.tup [.str "invalidcode", .int (i : Nat)]) = true by rw [eqD_cc, eqD_cc, eqD_str, eqD_int, eqD_tt]; simp]
        walk_at "ws"
        exact hN _ ⟨_, _, _, _, _, _, _, _, _, _, _, B5, rfl⟩
  · rintro e ⟨ys, v2, v3, v4, v5, v6, v7, v8, v9, v10, v11, B1, rfl⟩
    walk_at "ws"
    refine s_pull B1 (by decide) fun n zs n0 n1 B2 => ?_
    walk_at "ws"
    refine z_mulT (by simp) (by simp; omega) ?_
    have hr : (List.replicate (58 + n).toNat [D.tup [.str "not"]]).flatten = List.replicate (58 + n).toNat (D.tup [.str "not"]) := by simp
    rw [hr]
    have lr : (List.replicate (58 + n).toNat (D.tup [.str "not"])).length = (58 + n).toNat := List.length_replicate
    walk_at "ws"
    have oq : ∀ p ∈ [D.tup [.str "yes"]] ++ List.replicate (58 + n).toNat (D.tup [.str "not"]), OkPart p := fun p m => by
      rcases List.mem_append.mp m with m | m
      · cases List.mem_singleton.mp m; exact okPart_of (by decide +kernel)
      · rw [(List.mem_replicate.mp m).2]; exact okPart_of (by decide +kernel)
    have lq : ([D.tup [.str "yes"]] ++ List.replicate (58 + n).toNat (D.tup [.str "not"])).length ≤ 1000 := by rw [List.length_append, lr]; show 1 + (58 + n).toNat ≤ 1000; omega
    have nq := long_err (58 + n).toNat
    generalize [D.tup [.str "yes"]] ++ List.replicate (58 + n).toNat (D.tup [.str "not"]) = qs at oq lq nq ⊢
    cases hc : codeErr qs with
    | none =>
      refine c_WishN oq hc ?_
      walk_at "ws"
      refine c_due oq lq ?_
      rw [show codeTold qs = .tup [.str "", .non] from congrArg toldOf hc]
      walk_at "ws"
      rfl
    | limit =>
      refine c_WishL oq hc ?_
      walk_at "ws"
      refine z_triX stayB_refl .x_LimitExceeded rfl rfl ?_
      walk_at "ws"
      refine c_due oq lq ?_
      rw [show codeTold qs = .tup [.str "limitexceeded", .int 60] from congrArg toldOf hc]
      walk_at "ws"
      rfl
    | «at» i => exact (nq i hc).elim
end Wl
namespace Wl
open PySem PySem.Spec PyProof.Rows L2 RZ My
theorem all_mk {l : PySem.W.OpenLaw} {w : World} {K : PySem.W.Frag} {h : Heap} {mg : Str → Option Value} {fa : Addr} (X : K.In h) (G : h.Ns mainGlobals mg) (hfa : mg "law" = some (.ref fa))
    {CNotsError : Addr} {CAbsent : Addr} {CInvalidCode : Addr} {qInvalidCode nmInvalidCode : Str} {NInvalidCode : Addr} {bsInvalidCode suInvalidCode : List Value} {snInvalidCode : List Str} {abInvalidCode : Bool} {coInvalidCode : Option Bool} {ddInvalidCode : Option Addr} {m0InvalidCode m1InvalidCode m2InvalidCode m3InvalidCode m5InvalidCode : Option Value} {CLimitExceeded : Addr} {qLimitExceeded nmLimitExceeded : Str} {NLimitExceeded : Addr} {bsLimitExceeded suLimitExceeded : List Value} {snLimitExceeded : List Str} {abLimitExceeded : Bool} {coLimitExceeded : Option Bool} {ddLimitExceeded : Option Addr} {m0LimitExceeded m1LimitExceeded m2LimitExceeded m3LimitExceeded m5LimitExceeded : Option Value} {CInvalidCount : Addr} {qInvalidCount nmInvalidCount : Str} {NInvalidCount : Addr} {bsInvalidCount suInvalidCount : List Value} {snInvalidCount : List Str} {abInvalidCount : Bool} {coInvalidCount : Option Bool} {ddInvalidCount : Option Addr} {m0InvalidCount m1InvalidCount m2InvalidCount m3InvalidCount m5InvalidCount : Option Value} {CInvalidConstant : Addr} {qInvalidConstant nmInvalidConstant : Str} {NInvalidConstant : Addr} {bsInvalidConstant suInvalidConstant : List Value} {snInvalidConstant : List Str} {abInvalidConstant : Bool} {coInvalidConstant : Option Bool} {ddInvalidConstant : Option Addr} {m0InvalidConstant m1InvalidConstant m2InvalidConstant m3InvalidConstant m5InvalidConstant : Option Value} {CWish : Addr} {od0 an0 : Option Addr} {sl0 : Array (Option Value)} {oc0 kV0 dc0 pm0 ct0 : Value} {f0 : Addr} {cd0 : Value} {od1 an1 : Option Addr} {sl1 : Array (Option Value)} {oc1 kV1 dc1 pm1 ct1 : Value} {f1 : Addr} {cd1 : Value} {od2 an2 : Option Addr} {sl2 : Array (Option Value)} {oc2 kV2 dc2 pm2 ct2 : Value} {f2 : Addr} {cd2 : Value} {od3 an3 : Option Addr} {sl3 : Array (Option Value)} {oc3 kV3 dc3 pm3 ct3 : Value} {f3 : Addr} {cd3 : Value} {od4 an4 : Option Addr} {sl4 : Array (Option Value)} {oc4 kV4 dc4 pm4 ct4 : Value} {f4 : Addr} {cd4 : Value} {od5 an5 : Option Addr} {sl5 : Array (Option Value)} {oc5 kV5 dc5 pm5 ct5 : Value} {f5 : Addr} {cd5 : Value} {od6 an6 : Option Addr} {sl6 : Array (Option Value)} {oc6 kV6 dc6 pm6 ct6 : Value} {f6 : Addr} {cd6 : Value} {od7 an7 : Option Addr} {sl7 : Array (Option Value)} {oc7 kV7 dc7 pm7 ct7 : Value} {f7 : Addr} {cd7 : Value} {od8 an8 : Option Addr} {sl8 : Array (Option Value)} {oc8 kV8 dc8 pm8 ct8 : Value} {f8 : Addr} {cd8 : Value} {od9 an9 : Option Addr} {sl9 : Array (Option Value)} {oc9 kV9 dc9 pm9 ct9 : Value} {f9 : Addr} {cd9 : Value} {od10 an10 : Option Addr} {sl10 : Array (Option Value)} {oc10 kV10 dc10 pm10 ct10 : Value} {f10 : Addr} {cd10 : Value} {od11 an11 : Option Addr} {sl11 : Array (Option Value)} {oc11 kV11 dc11 pm11 ct11 : Value} {f11 : Addr} {cd11 : Value} {od12 an12 : Option Addr} {sl12 : Array (Option Value)} {oc12 kV12 dc12 pm12 ct12 : Value} {f12 : Addr} {cd12 : Value} {od13 an13 : Option Addr} {sl13 : Array (Option Value)} {oc13 kV13 dc13 pm13 ct13 : Value} {f13 : Addr} {cd13 : Value} {od14 an14 : Option Addr} {sl14 : Array (Option Value)} {oc14 kV14 dc14 pm14 ct14 : Value} {f14 : Addr} {cd14 : Value} {od15 an15 : Option Addr} {sl15 : Array (Option Value)} {oc15 kV15 dc15 pm15 ct15 : Value} {f15 : Addr} {cd15 : Value} {od16 an16 : Option Addr} {sl16 : Array (Option Value)} {oc16 kV16 dc16 pm16 ct16 : Value} {f16 : Addr} {cd16 : Value} {od17 an17 : Option Addr} {sl17 : Array (Option Value)} {oc17 kV17 dc17 pm17 ct17 : Value} {f17 : Addr} {cd17 : Value} {od18 an18 : Option Addr} {sl18 : Array (Option Value)} {oc18 kV18 dc18 pm18 ct18 : Value} {f18 : Addr} {cd18 : Value} {od19 an19 : Option Addr} {sl19 : Array (Option Value)} {oc19 kV19 dc19 pm19 ct19 : Value} {f19 : Addr} {cd19 : Value} {od20 an20 : Option Addr} {sl20 : Array (Option Value)} {oc20 kV20 dc20 pm20 ct20 : Value} {f20 : Addr} {cd20 : Value} {od21 an21 : Option Addr} {sl21 : Array (Option Value)} {oc21 kV21 dc21 pm21 ct21 : Value} {f21 : Addr} {cd21 : Value} {od22 an22 : Option Addr} {sl22 : Array (Option Value)} {oc22 kV22 dc22 pm22 ct22 : Value} {f22 : Addr} {cd22 : Value} {od23 an23 : Option Addr} {sl23 : Array (Option Value)} {oc23 kV23 dc23 pm23 ct23 : Value} {f23 : Addr} {cd23 : Value} {od24 an24 : Option Addr} {sl24 : Array (Option Value)} {oc24 kV24 dc24 pm24 ct24 : Value} {f24 : Addr} {cl24 Pl24 : Addr} {ce24 : Value} {cdd24 : Option Addr} {cvs24 : Array Value} {csl24 : Array (Option Value)} {tk0 : Tok} {tk1 : Tok} {tk2 : Tok} {tk3 : Tok} {DPLAIN_WORDS : Addr} {DdPLAIN_WORDS : Option Addr} {DnPLAIN_WORDS : Nat} {DsPLAIN_WORDS : Array (Option Value)} {DtPLAIN_WORDS_0 : Tok} {DtPLAIN_WORDS_1 : Tok} {DtPLAIN_WORDS_2 : Tok} {DtPLAIN_WORDS_3 : Tok} {DtPLAIN_WORDS_4 : Tok}
    (aNotsError : PySem.W.nsIn K mainGlobals "NotsError" = some (some (.ref CNotsError)))
    (uNotsError : PySem.W.subIn K (.ref CNotsError) (.type "BaseException") = some true)
    (iNotsError : PySem.W.isClsIn K CNotsError = true)
    (tNotsError : PySem.W.typeIn K (.ref CNotsError) = some (.type "type"))
    (aAbsent : PySem.W.nsIn K mainGlobals "Absent" = some (some (.ref CAbsent)))
    (uAbsent : PySem.W.subIn K (.ref CAbsent) (.type "BaseException") = some true)
    (iAbsent : PySem.W.isClsIn K CAbsent = true)
    (tAbsent : PySem.W.typeIn K (.ref CAbsent) = some (.type "type"))
    (aInvalidCode : PySem.W.nsIn K mainGlobals "InvalidCode" = some (some (.ref CInvalidCode)))
    (aLimitExceeded : PySem.W.nsIn K mainGlobals "LimitExceeded" = some (some (.ref CLimitExceeded)))
    (aInvalidCount : PySem.W.nsIn K mainGlobals "InvalidCount" = some (some (.ref CInvalidCount)))
    (aInvalidConstant : PySem.W.nsIn K mainGlobals "InvalidConstant" = some (some (.ref CInvalidConstant)))
    (xInvalidCode : K.lookup CInvalidCode = some (excClassObj nmInvalidCode qInvalidCode CInvalidCode NInvalidCode bsInvalidCode [.ref CNotsError, .type "ValueError", .type "Exception", .type "BaseException", .type "object"] true snInvalidCode suInvalidCode abInvalidCode coInvalidCode ddInvalidCode m0InvalidCode m1InvalidCode m2InvalidCode m3InvalidCode m5InvalidCode "ValueError.__new__"))
    (saInvalidCode : PySem.W.findIn K (.ref CInvalidCode) "__setattr__" = some (some (.builtin "object.__setattr__")))
    (gaInvalidCode : PySem.W.findIn K (.ref CInvalidCode) "__getattribute__" = some (some (.builtin "BaseException.__getattribute__")))
    (ggInvalidCode : PySem.W.findIn K (.ref CInvalidCode) "__getattr__" = some (none))
    (nInvalidCode_position : PySem.W.findIn K (.ref CInvalidCode) "position" = some none)
    (nInvalidCode_word : PySem.W.findIn K (.ref CInvalidCode) "word" = some none)
    (kInvalidCode : PySem.W.keepIn K (.ref CInvalidCode) = true)
    (eInvalidCode : PySem.W.subIn K (.ref CInvalidCode) (.type "BaseException") = some true)
    (tInvalidCode : PySem.W.typeIn K (.ref CInvalidCode) = some (.type "type"))
    (hInvalidCode : PySem.W.hasDictIn K CInvalidCode = true)
    (sInvalidCode_NotsError : PySem.W.subIn K (.ref CInvalidCode) (.ref CNotsError) = some true)
    (sInvalidCode_Absent : PySem.W.subIn K (.ref CInvalidCode) (.ref CAbsent) = some false)
    (sInvalidCode_InvalidConstant : PySem.W.subIn K (.ref CInvalidCode) (.ref CInvalidConstant) = some false)
    (sInvalidCode_InvalidCount : PySem.W.subIn K (.ref CInvalidCode) (.ref CInvalidCount) = some false)
    (xLimitExceeded : K.lookup CLimitExceeded = some (excClassObj nmLimitExceeded qLimitExceeded CLimitExceeded NLimitExceeded bsLimitExceeded [.ref CNotsError, .type "ValueError", .type "Exception", .type "BaseException", .type "object"] true snLimitExceeded suLimitExceeded abLimitExceeded coLimitExceeded ddLimitExceeded m0LimitExceeded m1LimitExceeded m2LimitExceeded m3LimitExceeded m5LimitExceeded "ValueError.__new__"))
    (saLimitExceeded : PySem.W.findIn K (.ref CLimitExceeded) "__setattr__" = some (some (.builtin "object.__setattr__")))
    (gaLimitExceeded : PySem.W.findIn K (.ref CLimitExceeded) "__getattribute__" = some (some (.builtin "BaseException.__getattribute__")))
    (ggLimitExceeded : PySem.W.findIn K (.ref CLimitExceeded) "__getattr__" = some (none))
    (nLimitExceeded_limit : PySem.W.findIn K (.ref CLimitExceeded) "limit" = some none)
    (nLimitExceeded_word : PySem.W.findIn K (.ref CLimitExceeded) "word" = some none)
    (kLimitExceeded : PySem.W.keepIn K (.ref CLimitExceeded) = true)
    (eLimitExceeded : PySem.W.subIn K (.ref CLimitExceeded) (.type "BaseException") = some true)
    (tLimitExceeded : PySem.W.typeIn K (.ref CLimitExceeded) = some (.type "type"))
    (hLimitExceeded : PySem.W.hasDictIn K CLimitExceeded = true)
    (sLimitExceeded_NotsError : PySem.W.subIn K (.ref CLimitExceeded) (.ref CNotsError) = some true)
    (sLimitExceeded_Absent : PySem.W.subIn K (.ref CLimitExceeded) (.ref CAbsent) = some false)
    (sLimitExceeded_InvalidConstant : PySem.W.subIn K (.ref CLimitExceeded) (.ref CInvalidConstant) = some false)
    (sLimitExceeded_InvalidCount : PySem.W.subIn K (.ref CLimitExceeded) (.ref CInvalidCount) = some false)
    (xInvalidCount : K.lookup CInvalidCount = some (excClassObj nmInvalidCount qInvalidCount CInvalidCount NInvalidCount bsInvalidCount [.ref CNotsError, .type "ValueError", .type "Exception", .type "BaseException", .type "object"] true snInvalidCount suInvalidCount abInvalidCount coInvalidCount ddInvalidCount m0InvalidCount m1InvalidCount m2InvalidCount m3InvalidCount m5InvalidCount "ValueError.__new__"))
    (saInvalidCount : PySem.W.findIn K (.ref CInvalidCount) "__setattr__" = some (some (.builtin "object.__setattr__")))
    (gaInvalidCount : PySem.W.findIn K (.ref CInvalidCount) "__getattribute__" = some (some (.builtin "BaseException.__getattribute__")))
    (ggInvalidCount : PySem.W.findIn K (.ref CInvalidCount) "__getattr__" = some (none))
    (nInvalidCount_value : PySem.W.findIn K (.ref CInvalidCount) "value" = some none)
    (nInvalidCount_word : PySem.W.findIn K (.ref CInvalidCount) "word" = some none)
    (kInvalidCount : PySem.W.keepIn K (.ref CInvalidCount) = true)
    (eInvalidCount : PySem.W.subIn K (.ref CInvalidCount) (.type "BaseException") = some true)
    (tInvalidCount : PySem.W.typeIn K (.ref CInvalidCount) = some (.type "type"))
    (hInvalidCount : PySem.W.hasDictIn K CInvalidCount = true)
    (iInvalidCount : PySem.W.isClsIn K CInvalidCount = true)
    (sInvalidCount_NotsError : PySem.W.subIn K (.ref CInvalidCount) (.ref CNotsError) = some true)
    (sInvalidCount_Absent : PySem.W.subIn K (.ref CInvalidCount) (.ref CAbsent) = some false)
    (sInvalidCount_InvalidConstant : PySem.W.subIn K (.ref CInvalidCount) (.ref CInvalidConstant) = some false)
    (sInvalidCount_InvalidCount : PySem.W.subIn K (.ref CInvalidCount) (.ref CInvalidCount) = some true)
    (xInvalidConstant : K.lookup CInvalidConstant = some (excClassObj nmInvalidConstant qInvalidConstant CInvalidConstant NInvalidConstant bsInvalidConstant [.ref CNotsError, .type "ValueError", .type "Exception", .type "BaseException", .type "object"] true snInvalidConstant suInvalidConstant abInvalidConstant coInvalidConstant ddInvalidConstant m0InvalidConstant m1InvalidConstant m2InvalidConstant m3InvalidConstant m5InvalidConstant "ValueError.__new__"))
    (saInvalidConstant : PySem.W.findIn K (.ref CInvalidConstant) "__setattr__" = some (some (.builtin "object.__setattr__")))
    (gaInvalidConstant : PySem.W.findIn K (.ref CInvalidConstant) "__getattribute__" = some (some (.builtin "BaseException.__getattribute__")))
    (ggInvalidConstant : PySem.W.findIn K (.ref CInvalidConstant) "__getattr__" = some (none))
    (nInvalidConstant_value : PySem.W.findIn K (.ref CInvalidConstant) "value" = some none)
    (nInvalidConstant_word : PySem.W.findIn K (.ref CInvalidConstant) "word" = some none)
    (kInvalidConstant : PySem.W.keepIn K (.ref CInvalidConstant) = true)
    (eInvalidConstant : PySem.W.subIn K (.ref CInvalidConstant) (.type "BaseException") = some true)
    (tInvalidConstant : PySem.W.typeIn K (.ref CInvalidConstant) = some (.type "type"))
    (hInvalidConstant : PySem.W.hasDictIn K CInvalidConstant = true)
    (iInvalidConstant : PySem.W.isClsIn K CInvalidConstant = true)
    (sInvalidConstant_NotsError : PySem.W.subIn K (.ref CInvalidConstant) (.ref CNotsError) = some true)
    (sInvalidConstant_Absent : PySem.W.subIn K (.ref CInvalidConstant) (.ref CAbsent) = some false)
    (sInvalidConstant_InvalidConstant : PySem.W.subIn K (.ref CInvalidConstant) (.ref CInvalidConstant) = some true)
    (sInvalidConstant_InvalidCount : PySem.W.subIn K (.ref CInvalidConstant) (.ref CInvalidCount) = some false)
    (aWish : PySem.W.nsIn K mainGlobals "Wish" = some (some (.ref CWish)))
    (pgWish : PySem.W.plainGet K CWish Str.empty = true)
    (hdWish : PySem.W.hasDictIn K CWish = true)
    (poWish : PySem.W.plainOver K CWish = true)
    (saWish : PySem.W.findIn K (.ref CWish) "__setattr__" = some (some (.builtin "object.__setattr__")))
    (nWish_code : PySem.W.findIn K (.ref CWish) "code" = some none)
    (mkWish : PySem.W.makesIn K CWish = true)
    (kcWish : PySem.W.keepIn K (.ref CWish) = true)
    (a0 : PySem.W.findIn K (.ref CInvalidCode) "__init__" = some (some (.ref f0)))
    (t0 : PySem.W.typeIn K (.ref f0) = some (.type "function"))
    (l0 : K.lookup f0 = some ⟨oc0, od0, .func (PySem.W.fnOf "__init__" "InvalidCode.__init__" (defArgs s_InvalidCode____init__) (defBody s_InvalidCode____init__) (defScope s_InvalidCode____init__) .none kV0 dc0 pm0 an0 cd0 ct0), sl0⟩)
    (c0 : PySem.W.codeIn K cd0 "InvalidCode.__init__" = true)
    (k0 : PySem.W.keepIn K (.ref f0) = true)
    (a1 : PySem.W.findIn K (.ref CLimitExceeded) "__init__" = some (some (.ref f1)))
    (t1 : PySem.W.typeIn K (.ref f1) = some (.type "function"))
    (l1 : K.lookup f1 = some ⟨oc1, od1, .func (PySem.W.fnOf "__init__" "LimitExceeded.__init__" (defArgs s_LimitExceeded____init__) (defBody s_LimitExceeded____init__) (defScope s_LimitExceeded____init__) .none kV1 dc1 pm1 an1 cd1 ct1), sl1⟩)
    (c1 : PySem.W.codeIn K cd1 "LimitExceeded.__init__" = true)
    (k1 : PySem.W.keepIn K (.ref f1) = true)
    (a2 : PySem.W.findIn K (.ref CInvalidCount) "__init__" = some (some (.ref f2)))
    (t2 : PySem.W.typeIn K (.ref f2) = some (.type "function"))
    (l2 : K.lookup f2 = some ⟨oc2, od2, .func (PySem.W.fnOf "__init__" "InvalidCount.__init__" (defArgs s_InvalidCount____init__) (defBody s_InvalidCount____init__) (defScope s_InvalidCount____init__) .none kV2 dc2 pm2 an2 cd2 ct2), sl2⟩)
    (c2 : PySem.W.codeIn K cd2 "InvalidCount.__init__" = true)
    (k2 : PySem.W.keepIn K (.ref f2) = true)
    (a3 : PySem.W.nsIn K mainGlobals "is_count" = some (some (.ref f3)))
    (l3 : K.lookup f3 = some ⟨oc3, od3, .func (PySem.W.fnOf "is_count" "is_count" (defArgs s_is_count) (defBody s_is_count) (defScope s_is_count) .none kV3 dc3 pm3 an3 cd3 ct3), sl3⟩)
    (c3 : PySem.W.codeIn K cd3 "is_count" = true)
    (k3 : PySem.W.keepIn K (.ref f3) = true)
    (a4 : PySem.W.nsIn K mainGlobals "check_count" = some (some (.ref f4)))
    (l4 : K.lookup f4 = some ⟨oc4, od4, .func (PySem.W.fnOf "check_count" "check_count" (defArgs s_check_count) (defBody s_check_count) (defScope s_check_count) .none kV4 dc4 pm4 an4 cd4 ct4), sl4⟩)
    (c4 : PySem.W.codeIn K cd4 "check_count" = true)
    (k4 : PySem.W.keepIn K (.ref f4) = true)
    (a5 : PySem.W.findIn K (.ref CInvalidConstant) "__init__" = some (some (.ref f5)))
    (t5 : PySem.W.typeIn K (.ref f5) = some (.type "function"))
    (l5 : K.lookup f5 = some ⟨oc5, od5, .func (PySem.W.fnOf "__init__" "InvalidConstant.__init__" (defArgs s_InvalidConstant____init__) (defBody s_InvalidConstant____init__) (defScope s_InvalidConstant____init__) .none kV5 dc5 pm5 an5 cd5 ct5), sl5⟩)
    (c5 : PySem.W.codeIn K cd5 "InvalidConstant.__init__" = true)
    (k5 : PySem.W.keepIn K (.ref f5) = true)
    (a6 : PySem.W.nsIn K mainGlobals "is_integer" = some (some (.ref f6)))
    (l6 : K.lookup f6 = some ⟨oc6, od6, .func (PySem.W.fnOf "is_integer" "is_integer" (defArgs s_is_integer) (defBody s_is_integer) (defScope s_is_integer) .none kV6 dc6 pm6 an6 cd6 ct6), sl6⟩)
    (c6 : PySem.W.codeIn K cd6 "is_integer" = true)
    (k6 : PySem.W.keepIn K (.ref f6) = true)
    (a7 : PySem.W.nsIn K mainGlobals "check_range" = some (some (.ref f7)))
    (l7 : K.lookup f7 = some ⟨oc7, od7, .func (PySem.W.fnOf "check_range" "check_range" (defArgs s_check_range) (defBody s_check_range) (defScope s_check_range) .none kV7 dc7 pm7 an7 cd7 ct7), sl7⟩)
    (c7 : PySem.W.codeIn K cd7 "check_range" = true)
    (k7 : PySem.W.keepIn K (.ref f7) = true)
    (a8 : PySem.W.nsIn K mainGlobals "check_values" = some (some (.ref f8)))
    (l8 : K.lookup f8 = some ⟨oc8, od8, .func (PySem.W.fnOf "check_values" "check_values" (defArgs s_check_values) (defBody s_check_values) (defScope s_check_values) .none kV8 dc8 pm8 an8 cd8 ct8), sl8⟩)
    (c8 : PySem.W.codeIn K cd8 "check_values" = true)
    (k8 : PySem.W.keepIn K (.ref f8) = true)
    (a9 : PySem.W.nsIn K mainGlobals "part_fits" = some (some (.ref f9)))
    (l9 : K.lookup f9 = some ⟨oc9, od9, .func (PySem.W.fnOf "part_fits" "part_fits" (defArgs s_part_fits) (defBody s_part_fits) (defScope s_part_fits) .none kV9 dc9 pm9 an9 cd9 ct9), sl9⟩)
    (c9 : PySem.W.codeIn K cd9 "part_fits" = true)
    (k9 : PySem.W.keepIn K (.ref f9) = true)
    (a10 : PySem.W.nsIn K mainGlobals "check_code" = some (some (.ref f10)))
    (l10 : K.lookup f10 = some ⟨oc10, od10, .func (PySem.W.fnOf "check_code" "check_code" (defArgs s_check_code) (defBody s_check_code) (defScope s_check_code) .none kV10 dc10 pm10 an10 cd10 ct10), sl10⟩)
    (c10 : PySem.W.codeIn K cd10 "check_code" = true)
    (k10 : PySem.W.keepIn K (.ref f10) = true)
    (a11 : PySem.W.findIn K (.ref CWish) "__init__" = some (some (.ref f11)))
    (fn11 : PySem.W.isFn K (.ref f11) = true)
    (l11 : K.lookup f11 = some ⟨oc11, od11, .func (PySem.W.fnOf "__init__" "Wish.__init__" (defArgs s_Wish____init__) (defBody s_Wish____init__) (defScope s_Wish____init__) .none kV11 dc11 pm11 an11 cd11 ct11), sl11⟩)
    (c11 : PySem.W.codeIn K cd11 "Wish.__init__" = true)
    (k11 : PySem.W.keepIn K (.ref f11) = true)
    (a12 : PySem.W.nsIn K mainGlobals "_law_bag" = some (some (.ref f12)))
    (l12 : K.lookup f12 = some ⟨oc12, od12, .func (PySem.W.fnOf "_law_bag" "_law_bag" (defArgs s__law_bag) (defBody s__law_bag) (defScope s__law_bag) .none kV12 dc12 pm12 an12 cd12 ct12), sl12⟩)
    (c12 : PySem.W.codeIn K cd12 "_law_bag" = true)
    (k12 : PySem.W.keepIn K (.ref f12) = true)
    (a13 : PySem.W.nsIn K mainGlobals "_law_pull" = some (some (.ref f13)))
    (l13 : K.lookup f13 = some ⟨oc13, od13, .func (PySem.W.fnOf "_law_pull" "_law_pull" (defArgs s__law_pull) (defBody s__law_pull) (defScope s__law_pull) .none kV13 dc13 pm13 an13 cd13 ct13), sl13⟩)
    (c13 : PySem.W.codeIn K cd13 "_law_pull" = true)
    (k13 : PySem.W.keepIn K (.ref f13) = true)
    (a14 : PySem.W.nsIn K mainGlobals "_law_of" = some (some (.ref f14)))
    (l14 : K.lookup f14 = some ⟨oc14, od14, .func (PySem.W.fnOf "_law_of" "_law_of" (defArgs s__law_of) (defBody s__law_of) (defScope s__law_of) .none kV14 dc14 pm14 an14 cd14 ct14), sl14⟩)
    (c14 : PySem.W.codeIn K cd14 "_law_of" = true)
    (k14 : PySem.W.keepIn K (.ref f14) = true)
    (a15 : PySem.W.nsIn K mainGlobals "_law_field" = some (some (.ref f15)))
    (l15 : K.lookup f15 = some ⟨oc15, od15, .func (PySem.W.fnOf "_law_field" "_law_field" (defArgs s__law_field) (defBody s__law_field) (defScope s__law_field) .none kV15 dc15 pm15 an15 cd15 ct15), sl15⟩)
    (c15 : PySem.W.codeIn K cd15 "_law_field" = true)
    (k15 : PySem.W.keepIn K (.ref f15) = true)
    (a16 : PySem.W.nsIn K mainGlobals "_law_tried" = some (some (.ref f16)))
    (l16 : K.lookup f16 = some ⟨oc16, od16, .func (PySem.W.fnOf "_law_tried" "_law_tried" (defArgs s__law_tried) (defBody s__law_tried) (defScope s__law_tried) .none kV16 dc16 pm16 an16 cd16 ct16), sl16⟩)
    (c16 : PySem.W.codeIn K cd16 "_law_tried" = true)
    (k16 : PySem.W.keepIn K (.ref f16) = true)
    (a17 : PySem.W.nsIn K mainGlobals "_law_part" = some (some (.ref f17)))
    (l17 : K.lookup f17 = some ⟨oc17, od17, .func (PySem.W.fnOf "_law_part" "_law_part" (defArgs s__law_part) (defBody s__law_part) (defScope s__law_part) .none kV17 dc17 pm17 an17 cd17 ct17), sl17⟩)
    (c17 : PySem.W.codeIn K cd17 "_law_part" = true)
    (k17 : PySem.W.keepIn K (.ref f17) = true)
    (a18 : PySem.W.nsIn K mainGlobals "_law_maybe" = some (some (.ref f18)))
    (l18 : K.lookup f18 = some ⟨oc18, od18, .func (PySem.W.fnOf "_law_maybe" "_law_maybe" (defArgs s__law_maybe) (defBody s__law_maybe) (defScope s__law_maybe) .none kV18 dc18 pm18 an18 cd18 ct18), sl18⟩)
    (c18 : PySem.W.codeIn K cd18 "_law_maybe" = true)
    (k18 : PySem.W.keepIn K (.ref f18) = true)
    (a19 : PySem.W.nsIn K mainGlobals "_law_code" = some (some (.ref f19)))
    (l19 : K.lookup f19 = some ⟨oc19, od19, .func (PySem.W.fnOf "_law_code" "_law_code" (defArgs s__law_code) (defBody s__law_code) (defScope s__law_code) .none kV19 dc19 pm19 an19 cd19 ct19), sl19⟩)
    (c19 : PySem.W.codeIn K cd19 "_law_code" = true)
    (k19 : PySem.W.keepIn K (.ref f19) = true)
    (a20 : PySem.W.nsIn K mainGlobals "_law_all_kinds" = some (some (.ref f20)))
    (l20 : K.lookup f20 = some ⟨oc20, od20, .func (PySem.W.fnOf "_law_all_kinds" "_law_all_kinds" (defArgs s__law_all_kinds) (defBody s__law_all_kinds) (defScope s__law_all_kinds) .none kV20 dc20 pm20 an20 cd20 ct20), sl20⟩)
    (c20 : PySem.W.codeIn K cd20 "_law_all_kinds" = true)
    (k20 : PySem.W.keepIn K (.ref f20) = true)
    (a21 : PySem.W.nsIn K mainGlobals "_law_whole" = some (some (.ref f21)))
    (l21 : K.lookup f21 = some ⟨oc21, od21, .func (PySem.W.fnOf "_law_whole" "_law_whole" (defArgs s__law_whole) (defBody s__law_whole) (defScope s__law_whole) .none kV21 dc21 pm21 an21 cd21 ct21), sl21⟩)
    (c21 : PySem.W.codeIn K cd21 "_law_whole" = true)
    (k21 : PySem.W.keepIn K (.ref f21) = true)
    (a22 : PySem.W.nsIn K mainGlobals "_law_fits" = some (some (.ref f22)))
    (l22 : K.lookup f22 = some ⟨oc22, od22, .func (PySem.W.fnOf "_law_fits" "_law_fits" (defArgs s__law_fits) (defBody s__law_fits) (defScope s__law_fits) .none kV22 dc22 pm22 an22 cd22 ct22), sl22⟩)
    (c22 : PySem.W.codeIn K cd22 "_law_fits" = true)
    (k22 : PySem.W.keepIn K (.ref f22) = true)
    (a23 : PySem.W.nsIn K mainGlobals "_law_due" = some (some (.ref f23)))
    (l23 : K.lookup f23 = some ⟨oc23, od23, .func (PySem.W.fnOf "_law_due" "_law_due" (defArgs s__law_due) (defBody s__law_due) (defScope s__law_due) .none kV23 dc23 pm23 an23 cd23 ct23), sl23⟩)
    (c23 : PySem.W.codeIn K cd23 "_law_due" = true)
    (k23 : PySem.W.keepIn K (.ref f23) = true)
    (a24 : PySem.W.nsIn K mainGlobals "law" = some (some (.ref f24)))
    (l24 : K.lookup f24 = some ⟨oc24, od24, .func (PySem.W.fnOf "law" "law" (defArgs s_law) (defBody s_law) (defScope s_law) .none kV24 dc24 pm24 an24 (.ref cl24) ct24), sl24⟩)
    (c24 : PySem.W.codeIn K (.ref cl24) "law" = true)
    (k24 : PySem.W.keepIn K (.ref f24) = true)
    (ca24 : K.lookup cl24 = some ⟨ce24, cdd24, .fields cvs24, csl24⟩)
    (cb24 : cvs24[11]? = some (.ref Pl24))
    (cc24 : PySem.W.codeHdIn K cl24 Pl24 = true)
    (cn24 : K.lookup Pl24 = none)
    (cz24 : h.get? Pl24 = some { cls := .none, data := .fields #[] })
    (gk0 : PySem.W.nsIn K mainGlobals "MAX_CONSTANT" = some (some (.int 3 tk0)))
    (gk1 : PySem.W.nsIn K mainGlobals "MAX_MODULUS" = some (some (.int 4 tk1)))
    (gk2 : PySem.W.nsIn K mainGlobals "MAX_PARTS" = some (some (.int 60 tk2)))
    (gk3 : PySem.W.nsIn K mainGlobals "MIN_MODULUS" = some (some (.int 2 tk3)))
    (a_PLAIN_WORDS : PySem.W.nsIn K mainGlobals "PLAIN_WORDS" = some (some (.ref DPLAIN_WORDS)))
    (l_PLAIN_WORDS : K.lookup DPLAIN_WORDS = some ⟨.type "tuple", DdPLAIN_WORDS, .seq #[.str "yes" DtPLAIN_WORDS_0, .str "no" DtPLAIN_WORDS_1, .str "not" DtPLAIN_WORDS_2, .str "and" DtPLAIN_WORDS_3, .str "or" DtPLAIN_WORDS_4] DnPLAIN_WORDS, DsPLAIN_WORDS⟩)
    (z0 : PySem.W.nsIn K mainGlobals "bool" = some none)
    (z1 : PySem.W.nsIn K mainGlobals "enumerate" = some none)
    (z2 : PySem.W.nsIn K mainGlobals "int" = some none)
    (z3 : PySem.W.nsIn K mainGlobals "isinstance" = some none)
    (z4 : PySem.W.nsIn K mainGlobals "len" = some none)
    (z5 : PySem.W.nsIn K mainGlobals "list" = some none)
    (z6 : PySem.W.nsIn K mainGlobals "range" = some none)
    (z7 : PySem.W.nsIn K mainGlobals "str" = some none)
    (z8 : PySem.W.nsIn K mainGlobals "tuple" = some none) :
    LamX.LawAtS l w K (L2.CX l.prog w) lv_law 63 "_law_script" mg fa h := by
  have e := hfa.symm.trans (PySem.W.mg_of X G a24)
  cases e
  have F0 := fun_mk (st := s_InvalidCode____init__) l0 c0 k0
  have b0 := F0.binds (ps := ["self", "position"]) fun _ _ _ _ _ _ us hl => match us, hl with | [_, _], _ => rfl
  have F1 := fun_mk (st := s_LimitExceeded____init__) l1 c1 k1
  have b1 := F1.binds (ps := ["self", "limit"]) fun _ _ _ _ _ _ us hl => match us, hl with | [_, _], _ => rfl
  have F2 := fun_mk (st := s_InvalidCount____init__) l2 c2 k2
  have b2 := F2.binds (ps := ["self", "value"]) fun _ _ _ _ _ _ us hl => match us, hl with | [_, _], _ => rfl
  have F3 := fun_mk (st := s_is_count) l3 c3 k3
  have b3 := F3.binds (ps := ["value"]) fun _ _ _ _ _ _ us hl => match us, hl with | [_], _ => rfl
  have F4 := fun_mk (st := s_check_count) l4 c4 k4
  have b4 := F4.binds (ps := ["value"]) fun _ _ _ _ _ _ us hl => match us, hl with | [_], _ => rfl
  have F5 := fun_mk (st := s_InvalidConstant____init__) l5 c5 k5
  have b5 := F5.binds (ps := ["self", "value"]) fun _ _ _ _ _ _ us hl => match us, hl with | [_, _], _ => rfl
  have F6 := fun_mk (st := s_is_integer) l6 c6 k6
  have b6 := F6.binds (ps := ["value"]) fun _ _ _ _ _ _ us hl => match us, hl with | [_], _ => rfl
  have F7 := fun_mk (st := s_check_range) l7 c7 k7
  have b7 := F7.binds (ps := ["value", "low", "high"]) fun _ _ _ _ _ _ us hl => match us, hl with | [_, _, _], _ => rfl
  have F8 := fun_mk (st := s_check_values) l8 c8 k8
  have b8 := F8.binds (ps := ["part"]) fun _ _ _ _ _ _ us hl => match us, hl with | [_], _ => rfl
  have F9 := fun_mk (st := s_part_fits) l9 c9 k9
  have b9 := F9.binds (ps := ["part"]) fun _ _ _ _ _ _ us hl => match us, hl with | [_], _ => rfl
  have F10 := fun_mk (st := s_check_code) l10 c10 k10
  have b10 := F10.binds (ps := ["code"]) fun _ _ _ _ _ _ us hl => match us, hl with | [_], _ => rfl
  have F11 := fun_mk (st := s_Wish____init__) l11 c11 k11
  have b11 := F11.binds (ps := ["self", "code"]) fun _ _ _ _ _ _ us hl => match us, hl with | [_, _], _ => rfl
  have F12 := fun_mk (st := s__law_bag) l12 c12 k12
  have b12 := F12.binds (ps := ["_law_script"]) fun _ _ _ _ _ _ us hl => match us, hl with | [_], _ => rfl
  have F13 := fun_mk (st := s__law_pull) l13 c13 k13
  have b13 := F13.binds (ps := ["_law_bag_here", "_law_many"]) fun _ _ _ _ _ _ us hl => match us, hl with | [_, _], _ => rfl
  have F14 := fun_mk (st := s__law_of) l14 c14 k14
  have b14 := F14.binds (ps := ["_law_bag_here", "_law_things"]) fun _ _ _ _ _ _ us hl => match us, hl with | [_, _], _ => rfl
  have F15 := fun_mk (st := s__law_field) l15 c15 k15
  have b15 := F15.binds (ps := ["_law_e"]) fun _ _ _ _ _ _ us hl => match us, hl with | [_], _ => rfl
  have F16 := fun_mk (st := s__law_tried) l16 c16 k16
  have b16 := F16.binds (ps := ["_law_ask"]) fun _ _ _ _ _ _ us hl => match us, hl with | [_], _ => rfl
  have F17 := fun_mk (st := s__law_part) l17 c17 k17
  have b17 := F17.binds (ps := ["_law_bag_here", "_law_counts", "_law_kinds"]) fun _ _ _ _ _ _ us hl => match us, hl with | [_, _, _], _ => rfl
  have F18 := fun_mk (st := s__law_maybe) l18 c18 k18
  have b18 := F18.binds (ps := ["_law_bag_here", "_law_code_here"]) fun _ _ _ _ _ _ us hl => match us, hl with | [_, _], _ => rfl
  have F19 := fun_mk (st := s__law_code) l19 c19 k19
  have b19 := F19.binds (ps := ["_law_bag_here", "_law_counts", "_law_kinds", "_law_many"]) fun _ _ _ _ _ _ us hl => match us, hl with | [_, _, _, _], _ => rfl
  have F20 := fun_mk (st := s__law_all_kinds) l20 c20 k20
  have b20 := F20.binds (ps := []) fun _ _ _ _ _ _ us hl => match us, hl with | [], _ => rfl
  have F21 := fun_mk (st := s__law_whole) l21 c21 k21
  have b21 := F21.binds (ps := ["_law_value", "_law_low", "_law_high"]) fun _ _ _ _ _ _ us hl => match us, hl with | [_, _, _], _ => rfl
  have F22 := fun_mk (st := s__law_fits) l22 c22 k22
  have b22 := F22.binds (ps := ["_law_part_here"]) fun _ _ _ _ _ _ us hl => match us, hl with | [_], _ => rfl
  have F23 := fun_mk (st := s__law_due) l23 c23 k23
  have b23 := F23.binds (ps := ["_law_code_here"]) fun _ _ _ _ _ _ us hl => match us, hl with | [_], _ => rfl
  have F24 := fun_mk (st := s_law) l24 c24 k24
  have b24 := F24.binds (ps := ["_law_script"]) fun _ _ _ _ _ _ us hl => match us, hl with | [_], _ => rfl
  let T : Txt K mg := { c_NotsError := CNotsError, g_NotsError := PySem.W.mg_of X G aNotsError, c_Absent := CAbsent, g_Absent := PySem.W.mg_of X G aAbsent, c_InvalidCode := CInvalidCode, g_InvalidCode := PySem.W.mg_of X G aInvalidCode, T_InvalidCode := ⟨⟨nmInvalidCode, qInvalidCode, NInvalidCode, bsInvalidCode, _, snInvalidCode, suInvalidCode, abInvalidCode, coInvalidCode, ddInvalidCode, m0InvalidCode, m1InvalidCode, m2InvalidCode, m3InvalidCode, m5InvalidCode, xInvalidCode, rfl⟩, saInvalidCode, eInvalidCode, tInvalidCode, kInvalidCode⟩, x_InvalidCode := ⟨gaInvalidCode, ggInvalidCode, eInvalidCode, hInvalidCode⟩, n_InvalidCode_position := nInvalidCode_position, n_InvalidCode_word := nInvalidCode_word, e_InvalidCode_NotsError := exm_self uNotsError iNotsError tNotsError sInvalidCode_NotsError, e_InvalidCode_Absent := exm_self uAbsent iAbsent tAbsent sInvalidCode_Absent, e_InvalidCode_InvalidConstant := exm_self eInvalidConstant iInvalidConstant tInvalidConstant sInvalidCode_InvalidConstant, e_InvalidCode_InvalidCount := exm_self eInvalidCount iInvalidCount tInvalidCount sInvalidCode_InvalidCount, c_LimitExceeded := CLimitExceeded, g_LimitExceeded := PySem.W.mg_of X G aLimitExceeded, T_LimitExceeded := ⟨⟨nmLimitExceeded, qLimitExceeded, NLimitExceeded, bsLimitExceeded, _, snLimitExceeded, suLimitExceeded, abLimitExceeded, coLimitExceeded, ddLimitExceeded, m0LimitExceeded, m1LimitExceeded, m2LimitExceeded, m3LimitExceeded, m5LimitExceeded, xLimitExceeded, rfl⟩, saLimitExceeded, eLimitExceeded, tLimitExceeded, kLimitExceeded⟩, x_LimitExceeded := ⟨gaLimitExceeded, ggLimitExceeded, eLimitExceeded, hLimitExceeded⟩, n_LimitExceeded_limit := nLimitExceeded_limit, n_LimitExceeded_word := nLimitExceeded_word, e_LimitExceeded_NotsError := exm_self uNotsError iNotsError tNotsError sLimitExceeded_NotsError, e_LimitExceeded_Absent := exm_self uAbsent iAbsent tAbsent sLimitExceeded_Absent, e_LimitExceeded_InvalidConstant := exm_self eInvalidConstant iInvalidConstant tInvalidConstant sLimitExceeded_InvalidConstant, e_LimitExceeded_InvalidCount := exm_self eInvalidCount iInvalidCount tInvalidCount sLimitExceeded_InvalidCount, c_InvalidCount := CInvalidCount, g_InvalidCount := PySem.W.mg_of X G aInvalidCount, T_InvalidCount := ⟨⟨nmInvalidCount, qInvalidCount, NInvalidCount, bsInvalidCount, _, snInvalidCount, suInvalidCount, abInvalidCount, coInvalidCount, ddInvalidCount, m0InvalidCount, m1InvalidCount, m2InvalidCount, m3InvalidCount, m5InvalidCount, xInvalidCount, rfl⟩, saInvalidCount, eInvalidCount, tInvalidCount, kInvalidCount⟩, x_InvalidCount := ⟨gaInvalidCount, ggInvalidCount, eInvalidCount, hInvalidCount⟩, n_InvalidCount_value := nInvalidCount_value, n_InvalidCount_word := nInvalidCount_word, e_InvalidCount_NotsError := exm_self uNotsError iNotsError tNotsError sInvalidCount_NotsError, e_InvalidCount_Absent := exm_self uAbsent iAbsent tAbsent sInvalidCount_Absent, e_InvalidCount_InvalidConstant := exm_self eInvalidConstant iInvalidConstant tInvalidConstant sInvalidCount_InvalidConstant, e_InvalidCount_InvalidCount := exm_self eInvalidCount iInvalidCount tInvalidCount sInvalidCount_InvalidCount, c_InvalidConstant := CInvalidConstant, g_InvalidConstant := PySem.W.mg_of X G aInvalidConstant, T_InvalidConstant := ⟨⟨nmInvalidConstant, qInvalidConstant, NInvalidConstant, bsInvalidConstant, _, snInvalidConstant, suInvalidConstant, abInvalidConstant, coInvalidConstant, ddInvalidConstant, m0InvalidConstant, m1InvalidConstant, m2InvalidConstant, m3InvalidConstant, m5InvalidConstant, xInvalidConstant, rfl⟩, saInvalidConstant, eInvalidConstant, tInvalidConstant, kInvalidConstant⟩, x_InvalidConstant := ⟨gaInvalidConstant, ggInvalidConstant, eInvalidConstant, hInvalidConstant⟩, n_InvalidConstant_value := nInvalidConstant_value, n_InvalidConstant_word := nInvalidConstant_word, e_InvalidConstant_NotsError := exm_self uNotsError iNotsError tNotsError sInvalidConstant_NotsError, e_InvalidConstant_Absent := exm_self uAbsent iAbsent tAbsent sInvalidConstant_Absent, e_InvalidConstant_InvalidConstant := exm_self eInvalidConstant iInvalidConstant tInvalidConstant sInvalidConstant_InvalidConstant, e_InvalidConstant_InvalidCount := exm_self eInvalidCount iInvalidCount tInvalidCount sInvalidConstant_InvalidCount, c_Wish := CWish, g_Wish := PySem.W.mg_of X G aWish, K_Wish := ⟨pgWish, hdWish, poWish, saWish⟩, n_Wish_code := nWish_code, Mk_Wish := ⟨mkWish, a11, fn11, kcWish⟩, f_InvalidCode____init__ := f0, fd_InvalidCode____init__ := _, F_InvalidCode____init__ := F0, b_InvalidCode____init__ := b0, iC_InvalidCode := a0, tI_InvalidCode := t0, f_LimitExceeded____init__ := f1, fd_LimitExceeded____init__ := _, F_LimitExceeded____init__ := F1, b_LimitExceeded____init__ := b1, iC_LimitExceeded := a1, tI_LimitExceeded := t1, f_InvalidCount____init__ := f2, fd_InvalidCount____init__ := _, F_InvalidCount____init__ := F2, b_InvalidCount____init__ := b2, iC_InvalidCount := a2, tI_InvalidCount := t2, f_is_count := f3, fd_is_count := _, F_is_count := F3, b_is_count := b3, g_is_count := PySem.W.mg_of X G a3, f_check_count := f4, fd_check_count := _, F_check_count := F4, b_check_count := b4, g_check_count := PySem.W.mg_of X G a4, f_InvalidConstant____init__ := f5, fd_InvalidConstant____init__ := _, F_InvalidConstant____init__ := F5, b_InvalidConstant____init__ := b5, iC_InvalidConstant := a5, tI_InvalidConstant := t5, f_is_integer := f6, fd_is_integer := _, F_is_integer := F6, b_is_integer := b6, g_is_integer := PySem.W.mg_of X G a6, f_check_range := f7, fd_check_range := _, F_check_range := F7, b_check_range := b7, g_check_range := PySem.W.mg_of X G a7, f_check_values := f8, fd_check_values := _, F_check_values := F8, b_check_values := b8, g_check_values := PySem.W.mg_of X G a8, f_part_fits := f9, fd_part_fits := _, F_part_fits := F9, b_part_fits := b9, g_part_fits := PySem.W.mg_of X G a9, f_check_code := f10, fd_check_code := _, F_check_code := F10, b_check_code := b10, g_check_code := PySem.W.mg_of X G a10, f_Wish____init__ := f11, fd_Wish____init__ := _, F_Wish____init__ := F11, b_Wish____init__ := b11, f__law_bag := f12, fd__law_bag := _, F__law_bag := F12, b__law_bag := b12, g__law_bag := PySem.W.mg_of X G a12, f__law_pull := f13, fd__law_pull := _, F__law_pull := F13, b__law_pull := b13, g__law_pull := PySem.W.mg_of X G a13, f__law_of := f14, fd__law_of := _, F__law_of := F14, b__law_of := b14, g__law_of := PySem.W.mg_of X G a14, f__law_field := f15, fd__law_field := _, F__law_field := F15, b__law_field := b15, g__law_field := PySem.W.mg_of X G a15, f__law_tried := f16, fd__law_tried := _, F__law_tried := F16, b__law_tried := b16, g__law_tried := PySem.W.mg_of X G a16, f__law_part := f17, fd__law_part := _, F__law_part := F17, b__law_part := b17, g__law_part := PySem.W.mg_of X G a17, f__law_maybe := f18, fd__law_maybe := _, F__law_maybe := F18, b__law_maybe := b18, g__law_maybe := PySem.W.mg_of X G a18, f__law_code := f19, fd__law_code := _, F__law_code := F19, b__law_code := b19, g__law_code := PySem.W.mg_of X G a19, f__law_all_kinds := f20, fd__law_all_kinds := _, F__law_all_kinds := F20, b__law_all_kinds := b20, g__law_all_kinds := PySem.W.mg_of X G a20, f__law_whole := f21, fd__law_whole := _, F__law_whole := F21, b__law_whole := b21, g__law_whole := PySem.W.mg_of X G a21, f__law_fits := f22, fd__law_fits := _, F__law_fits := F22, b__law_fits := b22, g__law_fits := PySem.W.mg_of X G a22, f__law_due := f23, fd__law_due := _, F__law_due := F23, b__law_due := b23, g__law_due := PySem.W.mg_of X G a23, f_law := fa, fd_law := _, F_law := F24, b_law := b24, g_law := PySem.W.mg_of X G a24, c_law := cl24, P_law := Pl24, lk_law := ⟨oc24, od24, kV24, dc24, pm24, an24, ct24, sl24, rfl, l24, c24⟩, tk_MAX_CONSTANT := tk0, g_MAX_CONSTANT := PySem.W.mg_of X G gk0, tk_MAX_MODULUS := tk1, g_MAX_MODULUS := PySem.W.mg_of X G gk1, tk_MAX_PARTS := tk2, g_MAX_PARTS := PySem.W.mg_of X G gk2, tk_MIN_MODULUS := tk3, g_MIN_MODULUS := PySem.W.mg_of X G gk3, g_PLAIN_WORDS := PySem.W.mg_of X G a_PLAIN_WORDS, c_PLAIN_WORDS := DPLAIN_WORDS, w_PLAIN_WORDS := tupK l_PLAIN_WORDS (Nat.le_of_ble_eq_true rfl) (.cons ⟨_, rfl⟩ (.cons ⟨_, rfl⟩ (.cons ⟨_, rfl⟩ (.cons ⟨_, rfl⟩ (.cons ⟨_, rfl⟩ (.nil)))))), z_bool := PySem.W.mg_none_of X G z0, z_enumerate := PySem.W.mg_none_of X G z1, z_int := PySem.W.mg_none_of X G z2, z_isinstance := PySem.W.mg_none_of X G z3, z_len := PySem.W.mg_none_of X G z4, z_list := PySem.W.mg_none_of X G z5, z_range := PySem.W.mg_none_of X G z6, z_str := PySem.W.mg_none_of X G z7, z_tuple := PySem.W.mg_none_of X G z8 }
  refine ⟨PySem.W.fnOf "law" "law" (defArgs s_law) (defBody s_law) (defScope s_law) .none kV24 dc24 pm24 an24 (.ref cl24) ct24, [(cl24, Pl24)], sp_lawW K (TLw Pl24), fun p hp => ?_, fun p hp => ?_, fun p hp => ?_, fun s v => .of_eq rfl, fun H a ns hl hb hT hS => ⟨a, ns, rfl, hS, hl, tabs_start (hT _ (List.mem_singleton.mpr rfl)), fun _ => rfl⟩, fun base _ _ TB => ok_law T (TB _ (List.mem_singleton.mpr rfl))⟩
  · rw [List.mem_singleton.mp hp]; exact cz24
  · rw [List.mem_singleton.mp hp]; exact cn24
  · rw [List.mem_singleton.mp hp]; exact PySem.W.codeHd_of_K X cc24
theorem facts {l : PySem.W.OpenLaw} {w : World} {K : PySem.W.Frag} {h : Heap} {mg : Str → Option Value} {fa : Addr} (X : K.In h) (G : h.Ns mainGlobals mg) (hfa : mg "law" = some (.ref fa)) (c : Hk.Says (Hk.allB cks) hfns htf h K) :
    LamX.LawAtS l w K (L2.CX l.prog w) lv_law 63 "_law_script" mg fa h := by
  have aNotsError : PySem.W.nsIn K mainGlobals "NotsError" = some (some (.ref (ad_CNotsError K))) := of_decide_eq_true (Hk.all_at (f := ck0) c.ck 0 0 rfl rfl)
  have uNotsError : PySem.W.subIn K (.ref (ad_CNotsError K)) (.type "BaseException") = some true := of_decide_eq_true (Hk.all_at (f := ck0) c.ck 0 1 rfl rfl)
  have iNotsError : PySem.W.isClsIn K (ad_CNotsError K) = true := (Hk.all_at (f := ck0) c.ck 0 2 rfl rfl)
  have tNotsError : PySem.W.typeIn K (.ref (ad_CNotsError K)) = some (.type "type") := of_decide_eq_true (Hk.all_at (f := ck0) c.ck 0 3 rfl rfl)
  have aAbsent : PySem.W.nsIn K mainGlobals "Absent" = some (some (.ref (ad_CAbsent K))) := of_decide_eq_true (Hk.all_at (f := ck0) c.ck 0 4 rfl rfl)
  have uAbsent : PySem.W.subIn K (.ref (ad_CAbsent K)) (.type "BaseException") = some true := of_decide_eq_true (Hk.all_at (f := ck0) c.ck 0 5 rfl rfl)
  have iAbsent : PySem.W.isClsIn K (ad_CAbsent K) = true := (Hk.all_at (f := ck0) c.ck 0 6 rfl rfl)
  have tAbsent : PySem.W.typeIn K (.ref (ad_CAbsent K)) = some (.type "type") := of_decide_eq_true (Hk.all_at (f := ck0) c.ck 0 7 rfl rfl)
  have aInvalidCode : PySem.W.nsIn K mainGlobals "InvalidCode" = some (some (.ref (ad_CInvalidCode K))) := of_decide_eq_true (Hk.all_at (f := ck0) c.ck 0 8 rfl rfl)
  have aLimitExceeded : PySem.W.nsIn K mainGlobals "LimitExceeded" = some (some (.ref (ad_CLimitExceeded K))) := of_decide_eq_true (Hk.all_at (f := ck0) c.ck 0 9 rfl rfl)
  have aInvalidCount : PySem.W.nsIn K mainGlobals "InvalidCount" = some (some (.ref (ad_CInvalidCount K))) := of_decide_eq_true (Hk.all_at (f := ck0) c.ck 0 10 rfl rfl)
  have aInvalidConstant : PySem.W.nsIn K mainGlobals "InvalidConstant" = some (some (.ref (ad_CInvalidConstant K))) := of_decide_eq_true (Hk.all_at (f := ck0) c.ck 0 11 rfl rfl)
  obtain ⟨nmInvalidCode, qInvalidCode, NInvalidCode, bsInvalidCode, snInvalidCode, suInvalidCode, abInvalidCode, coInvalidCode, ddInvalidCode, m0InvalidCode, m1InvalidCode, m2InvalidCode, m3InvalidCode, m5InvalidCode, xInvalidCode⟩ := Hk.ex_get (bm := [.ref (ad_CNotsError K), .type "ValueError", .type "Exception", .type "BaseException", .type "object"]) (Hk.all_at (f := ck0) c.ck 0 12 rfl rfl)
  have saInvalidCode : PySem.W.findIn K (.ref (ad_CInvalidCode K)) "__setattr__" = some (some (.builtin "object.__setattr__")) := of_decide_eq_true (Hk.all_at (f := ck0) c.ck 0 13 rfl rfl)
  have gaInvalidCode : PySem.W.findIn K (.ref (ad_CInvalidCode K)) "__getattribute__" = some (some (.builtin "BaseException.__getattribute__")) := of_decide_eq_true (Hk.all_at (f := ck0) c.ck 0 14 rfl rfl)
  have ggInvalidCode : PySem.W.findIn K (.ref (ad_CInvalidCode K)) "__getattr__" = some (none) := of_decide_eq_true (Hk.all_at (f := ck0) c.ck 0 15 rfl rfl)
  have nInvalidCode_position : PySem.W.findIn K (.ref (ad_CInvalidCode K)) "position" = some none := of_decide_eq_true (Hk.all_at (f := ck0) c.ck 0 16 rfl rfl)
  have nInvalidCode_word : PySem.W.findIn K (.ref (ad_CInvalidCode K)) "word" = some none := of_decide_eq_true (Hk.all_at (f := ck0) c.ck 0 17 rfl rfl)
  have kInvalidCode : PySem.W.keepIn K (.ref (ad_CInvalidCode K)) = true := (Hk.all_at (f := ck0) c.ck 0 18 rfl rfl)
  have eInvalidCode : PySem.W.subIn K (.ref (ad_CInvalidCode K)) (.type "BaseException") = some true := of_decide_eq_true (Hk.all_at (f := ck0) c.ck 0 19 rfl rfl)
  have tInvalidCode : PySem.W.typeIn K (.ref (ad_CInvalidCode K)) = some (.type "type") := of_decide_eq_true (Hk.all_at (f := ck1) c.ck 1 0 rfl rfl)
  have hInvalidCode : PySem.W.hasDictIn K (ad_CInvalidCode K) = true := (Hk.all_at (f := ck1) c.ck 1 1 rfl rfl)
  have sInvalidCode_NotsError : PySem.W.subIn K (.ref (ad_CInvalidCode K)) (.ref (ad_CNotsError K)) = some true := of_decide_eq_true (Hk.all_at (f := ck1) c.ck 1 2 rfl rfl)
  have sInvalidCode_Absent : PySem.W.subIn K (.ref (ad_CInvalidCode K)) (.ref (ad_CAbsent K)) = some false := of_decide_eq_true (Hk.all_at (f := ck1) c.ck 1 3 rfl rfl)
  have sInvalidCode_InvalidConstant : PySem.W.subIn K (.ref (ad_CInvalidCode K)) (.ref (ad_CInvalidConstant K)) = some false := of_decide_eq_true (Hk.all_at (f := ck1) c.ck 1 4 rfl rfl)
  have sInvalidCode_InvalidCount : PySem.W.subIn K (.ref (ad_CInvalidCode K)) (.ref (ad_CInvalidCount K)) = some false := of_decide_eq_true (Hk.all_at (f := ck1) c.ck 1 5 rfl rfl)
  obtain ⟨nmLimitExceeded, qLimitExceeded, NLimitExceeded, bsLimitExceeded, snLimitExceeded, suLimitExceeded, abLimitExceeded, coLimitExceeded, ddLimitExceeded, m0LimitExceeded, m1LimitExceeded, m2LimitExceeded, m3LimitExceeded, m5LimitExceeded, xLimitExceeded⟩ := Hk.ex_get (bm := [.ref (ad_CNotsError K), .type "ValueError", .type "Exception", .type "BaseException", .type "object"]) (Hk.all_at (f := ck1) c.ck 1 6 rfl rfl)
  have saLimitExceeded : PySem.W.findIn K (.ref (ad_CLimitExceeded K)) "__setattr__" = some (some (.builtin "object.__setattr__")) := of_decide_eq_true (Hk.all_at (f := ck1) c.ck 1 7 rfl rfl)
  have gaLimitExceeded : PySem.W.findIn K (.ref (ad_CLimitExceeded K)) "__getattribute__" = some (some (.builtin "BaseException.__getattribute__")) := of_decide_eq_true (Hk.all_at (f := ck1) c.ck 1 8 rfl rfl)
  have ggLimitExceeded : PySem.W.findIn K (.ref (ad_CLimitExceeded K)) "__getattr__" = some (none) := of_decide_eq_true (Hk.all_at (f := ck1) c.ck 1 9 rfl rfl)
  have nLimitExceeded_limit : PySem.W.findIn K (.ref (ad_CLimitExceeded K)) "limit" = some none := of_decide_eq_true (Hk.all_at (f := ck1) c.ck 1 10 rfl rfl)
  have nLimitExceeded_word : PySem.W.findIn K (.ref (ad_CLimitExceeded K)) "word" = some none := of_decide_eq_true (Hk.all_at (f := ck1) c.ck 1 11 rfl rfl)
  have kLimitExceeded : PySem.W.keepIn K (.ref (ad_CLimitExceeded K)) = true := (Hk.all_at (f := ck1) c.ck 1 12 rfl rfl)
  have eLimitExceeded : PySem.W.subIn K (.ref (ad_CLimitExceeded K)) (.type "BaseException") = some true := of_decide_eq_true (Hk.all_at (f := ck1) c.ck 1 13 rfl rfl)
  have tLimitExceeded : PySem.W.typeIn K (.ref (ad_CLimitExceeded K)) = some (.type "type") := of_decide_eq_true (Hk.all_at (f := ck1) c.ck 1 14 rfl rfl)
  have hLimitExceeded : PySem.W.hasDictIn K (ad_CLimitExceeded K) = true := (Hk.all_at (f := ck1) c.ck 1 15 rfl rfl)
  have sLimitExceeded_NotsError : PySem.W.subIn K (.ref (ad_CLimitExceeded K)) (.ref (ad_CNotsError K)) = some true := of_decide_eq_true (Hk.all_at (f := ck1) c.ck 1 16 rfl rfl)
  have sLimitExceeded_Absent : PySem.W.subIn K (.ref (ad_CLimitExceeded K)) (.ref (ad_CAbsent K)) = some false := of_decide_eq_true (Hk.all_at (f := ck1) c.ck 1 17 rfl rfl)
  have sLimitExceeded_InvalidConstant : PySem.W.subIn K (.ref (ad_CLimitExceeded K)) (.ref (ad_CInvalidConstant K)) = some false := of_decide_eq_true (Hk.all_at (f := ck1) c.ck 1 18 rfl rfl)
  have sLimitExceeded_InvalidCount : PySem.W.subIn K (.ref (ad_CLimitExceeded K)) (.ref (ad_CInvalidCount K)) = some false := of_decide_eq_true (Hk.all_at (f := ck1) c.ck 1 19 rfl rfl)
  obtain ⟨nmInvalidCount, qInvalidCount, NInvalidCount, bsInvalidCount, snInvalidCount, suInvalidCount, abInvalidCount, coInvalidCount, ddInvalidCount, m0InvalidCount, m1InvalidCount, m2InvalidCount, m3InvalidCount, m5InvalidCount, xInvalidCount⟩ := Hk.ex_get (bm := [.ref (ad_CNotsError K), .type "ValueError", .type "Exception", .type "BaseException", .type "object"]) (Hk.all_at (f := ck2) c.ck 2 0 rfl rfl)
  have saInvalidCount : PySem.W.findIn K (.ref (ad_CInvalidCount K)) "__setattr__" = some (some (.builtin "object.__setattr__")) := of_decide_eq_true (Hk.all_at (f := ck2) c.ck 2 1 rfl rfl)
  have gaInvalidCount : PySem.W.findIn K (.ref (ad_CInvalidCount K)) "__getattribute__" = some (some (.builtin "BaseException.__getattribute__")) := of_decide_eq_true (Hk.all_at (f := ck2) c.ck 2 2 rfl rfl)
  have ggInvalidCount : PySem.W.findIn K (.ref (ad_CInvalidCount K)) "__getattr__" = some (none) := of_decide_eq_true (Hk.all_at (f := ck2) c.ck 2 3 rfl rfl)
  have nInvalidCount_value : PySem.W.findIn K (.ref (ad_CInvalidCount K)) "value" = some none := of_decide_eq_true (Hk.all_at (f := ck2) c.ck 2 4 rfl rfl)
  have nInvalidCount_word : PySem.W.findIn K (.ref (ad_CInvalidCount K)) "word" = some none := of_decide_eq_true (Hk.all_at (f := ck2) c.ck 2 5 rfl rfl)
  have kInvalidCount : PySem.W.keepIn K (.ref (ad_CInvalidCount K)) = true := (Hk.all_at (f := ck2) c.ck 2 6 rfl rfl)
  have eInvalidCount : PySem.W.subIn K (.ref (ad_CInvalidCount K)) (.type "BaseException") = some true := of_decide_eq_true (Hk.all_at (f := ck2) c.ck 2 7 rfl rfl)
  have tInvalidCount : PySem.W.typeIn K (.ref (ad_CInvalidCount K)) = some (.type "type") := of_decide_eq_true (Hk.all_at (f := ck2) c.ck 2 8 rfl rfl)
  have hInvalidCount : PySem.W.hasDictIn K (ad_CInvalidCount K) = true := (Hk.all_at (f := ck2) c.ck 2 9 rfl rfl)
  have iInvalidCount : PySem.W.isClsIn K (ad_CInvalidCount K) = true := (Hk.all_at (f := ck2) c.ck 2 10 rfl rfl)
  have sInvalidCount_NotsError : PySem.W.subIn K (.ref (ad_CInvalidCount K)) (.ref (ad_CNotsError K)) = some true := of_decide_eq_true (Hk.all_at (f := ck2) c.ck 2 11 rfl rfl)
  have sInvalidCount_Absent : PySem.W.subIn K (.ref (ad_CInvalidCount K)) (.ref (ad_CAbsent K)) = some false := of_decide_eq_true (Hk.all_at (f := ck2) c.ck 2 12 rfl rfl)
  have sInvalidCount_InvalidConstant : PySem.W.subIn K (.ref (ad_CInvalidCount K)) (.ref (ad_CInvalidConstant K)) = some false := of_decide_eq_true (Hk.all_at (f := ck2) c.ck 2 13 rfl rfl)
  have sInvalidCount_InvalidCount : PySem.W.subIn K (.ref (ad_CInvalidCount K)) (.ref (ad_CInvalidCount K)) = some true := of_decide_eq_true (Hk.all_at (f := ck2) c.ck 2 14 rfl rfl)
  obtain ⟨nmInvalidConstant, qInvalidConstant, NInvalidConstant, bsInvalidConstant, snInvalidConstant, suInvalidConstant, abInvalidConstant, coInvalidConstant, ddInvalidConstant, m0InvalidConstant, m1InvalidConstant, m2InvalidConstant, m3InvalidConstant, m5InvalidConstant, xInvalidConstant⟩ := Hk.ex_get (bm := [.ref (ad_CNotsError K), .type "ValueError", .type "Exception", .type "BaseException", .type "object"]) (Hk.all_at (f := ck2) c.ck 2 15 rfl rfl)
  have saInvalidConstant : PySem.W.findIn K (.ref (ad_CInvalidConstant K)) "__setattr__" = some (some (.builtin "object.__setattr__")) := of_decide_eq_true (Hk.all_at (f := ck2) c.ck 2 16 rfl rfl)
  have gaInvalidConstant : PySem.W.findIn K (.ref (ad_CInvalidConstant K)) "__getattribute__" = some (some (.builtin "BaseException.__getattribute__")) := of_decide_eq_true (Hk.all_at (f := ck2) c.ck 2 17 rfl rfl)
  have ggInvalidConstant : PySem.W.findIn K (.ref (ad_CInvalidConstant K)) "__getattr__" = some (none) := of_decide_eq_true (Hk.all_at (f := ck2) c.ck 2 18 rfl rfl)
  have nInvalidConstant_value : PySem.W.findIn K (.ref (ad_CInvalidConstant K)) "value" = some none := of_decide_eq_true (Hk.all_at (f := ck2) c.ck 2 19 rfl rfl)
  have nInvalidConstant_word : PySem.W.findIn K (.ref (ad_CInvalidConstant K)) "word" = some none := of_decide_eq_true (Hk.all_at (f := ck3) c.ck 3 0 rfl rfl)
  have kInvalidConstant : PySem.W.keepIn K (.ref (ad_CInvalidConstant K)) = true := (Hk.all_at (f := ck3) c.ck 3 1 rfl rfl)
  have eInvalidConstant : PySem.W.subIn K (.ref (ad_CInvalidConstant K)) (.type "BaseException") = some true := of_decide_eq_true (Hk.all_at (f := ck3) c.ck 3 2 rfl rfl)
  have tInvalidConstant : PySem.W.typeIn K (.ref (ad_CInvalidConstant K)) = some (.type "type") := of_decide_eq_true (Hk.all_at (f := ck3) c.ck 3 3 rfl rfl)
  have hInvalidConstant : PySem.W.hasDictIn K (ad_CInvalidConstant K) = true := (Hk.all_at (f := ck3) c.ck 3 4 rfl rfl)
  have iInvalidConstant : PySem.W.isClsIn K (ad_CInvalidConstant K) = true := (Hk.all_at (f := ck3) c.ck 3 5 rfl rfl)
  have sInvalidConstant_NotsError : PySem.W.subIn K (.ref (ad_CInvalidConstant K)) (.ref (ad_CNotsError K)) = some true := of_decide_eq_true (Hk.all_at (f := ck3) c.ck 3 6 rfl rfl)
  have sInvalidConstant_Absent : PySem.W.subIn K (.ref (ad_CInvalidConstant K)) (.ref (ad_CAbsent K)) = some false := of_decide_eq_true (Hk.all_at (f := ck3) c.ck 3 7 rfl rfl)
  have sInvalidConstant_InvalidConstant : PySem.W.subIn K (.ref (ad_CInvalidConstant K)) (.ref (ad_CInvalidConstant K)) = some true := of_decide_eq_true (Hk.all_at (f := ck3) c.ck 3 8 rfl rfl)
  have sInvalidConstant_InvalidCount : PySem.W.subIn K (.ref (ad_CInvalidConstant K)) (.ref (ad_CInvalidCount K)) = some false := of_decide_eq_true (Hk.all_at (f := ck3) c.ck 3 9 rfl rfl)
  have aWish : PySem.W.nsIn K mainGlobals "Wish" = some (some (.ref (ad_CWish K))) := of_decide_eq_true (Hk.all_at (f := ck3) c.ck 3 10 rfl rfl)
  have pgWish : PySem.W.plainGet K (ad_CWish K) Str.empty = true := (Hk.all_at (f := ck3) c.ck 3 11 rfl rfl)
  have hdWish : PySem.W.hasDictIn K (ad_CWish K) = true := (Hk.all_at (f := ck3) c.ck 3 12 rfl rfl)
  have poWish : PySem.W.plainOver K (ad_CWish K) = true := (Hk.all_at (f := ck3) c.ck 3 13 rfl rfl)
  have saWish : PySem.W.findIn K (.ref (ad_CWish K)) "__setattr__" = some (some (.builtin "object.__setattr__")) := of_decide_eq_true (Hk.all_at (f := ck3) c.ck 3 14 rfl rfl)
  have nWish_code : PySem.W.findIn K (.ref (ad_CWish K)) "code" = some none := of_decide_eq_true (Hk.all_at (f := ck3) c.ck 3 15 rfl rfl)
  have mkWish : PySem.W.makesIn K (ad_CWish K) = true := (Hk.all_at (f := ck3) c.ck 3 16 rfl rfl)
  have kcWish : PySem.W.keepIn K (.ref (ad_CWish K)) = true := (Hk.all_at (f := ck3) c.ck 3 17 rfl rfl)
  have a0 : PySem.W.findIn K (.ref (ad_CInvalidCode K)) "__init__" = some (some (.ref (ad_f0 K))) := of_decide_eq_true (Hk.all_at (f := ck3) c.ck 3 18 rfl rfl)
  have t0 : PySem.W.typeIn K (.ref (ad_f0 K)) = some (.type "function") := of_decide_eq_true (Hk.all_at (f := ck3) c.ck 3 19 rfl rfl)
  obtain ⟨oc0, od0, sl0, dc0, pm0, an0, ct0, l0, c0⟩ := Hk.fn_get (d := dd_0) (c.def_ 0 rfl) (Hk.all_at (f := ck4) c.ck 4 1 rfl rfl) (of_decide_eq_true (Hk.all_at (f := ck4) c.ck 4 0 rfl rfl)) (rfl) (rfl)
  have k0 : PySem.W.keepIn K (.ref (ad_f0 K)) = true := (Hk.all_at (f := ck4) c.ck 4 2 rfl rfl)
  have a1 : PySem.W.findIn K (.ref (ad_CLimitExceeded K)) "__init__" = some (some (.ref (ad_f1 K))) := of_decide_eq_true (Hk.all_at (f := ck4) c.ck 4 3 rfl rfl)
  have t1 : PySem.W.typeIn K (.ref (ad_f1 K)) = some (.type "function") := of_decide_eq_true (Hk.all_at (f := ck4) c.ck 4 4 rfl rfl)
  obtain ⟨oc1, od1, sl1, dc1, pm1, an1, ct1, l1, c1⟩ := Hk.fn_get (d := dd_1) (c.def_ 1 rfl) (Hk.all_at (f := ck4) c.ck 4 6 rfl rfl) (of_decide_eq_true (Hk.all_at (f := ck4) c.ck 4 5 rfl rfl)) (rfl) (rfl)
  have k1 : PySem.W.keepIn K (.ref (ad_f1 K)) = true := (Hk.all_at (f := ck4) c.ck 4 7 rfl rfl)
  have a2 : PySem.W.findIn K (.ref (ad_CInvalidCount K)) "__init__" = some (some (.ref (ad_f2 K))) := of_decide_eq_true (Hk.all_at (f := ck4) c.ck 4 8 rfl rfl)
  have t2 : PySem.W.typeIn K (.ref (ad_f2 K)) = some (.type "function") := of_decide_eq_true (Hk.all_at (f := ck4) c.ck 4 9 rfl rfl)
  obtain ⟨oc2, od2, sl2, dc2, pm2, an2, ct2, l2, c2⟩ := Hk.fn_get (d := dd_2) (c.def_ 2 rfl) (Hk.all_at (f := ck4) c.ck 4 11 rfl rfl) (of_decide_eq_true (Hk.all_at (f := ck4) c.ck 4 10 rfl rfl)) (rfl) (rfl)
  have k2 : PySem.W.keepIn K (.ref (ad_f2 K)) = true := (Hk.all_at (f := ck4) c.ck 4 12 rfl rfl)
  have a3 : PySem.W.nsIn K mainGlobals "is_count" = some (some (.ref (ad_f3 K))) := of_decide_eq_true (Hk.all_at (f := ck4) c.ck 4 13 rfl rfl)
  obtain ⟨oc3, od3, sl3, dc3, pm3, an3, ct3, l3, c3⟩ := Hk.fn_get (d := dd_3) (c.def_ 3 rfl) (Hk.all_at (f := ck4) c.ck 4 15 rfl rfl) (of_decide_eq_true (Hk.all_at (f := ck4) c.ck 4 14 rfl rfl)) (rfl) (rfl)
  have k3 : PySem.W.keepIn K (.ref (ad_f3 K)) = true := (Hk.all_at (f := ck4) c.ck 4 16 rfl rfl)
  have a4 : PySem.W.nsIn K mainGlobals "check_count" = some (some (.ref (ad_f4 K))) := of_decide_eq_true (Hk.all_at (f := ck4) c.ck 4 17 rfl rfl)
  obtain ⟨oc4, od4, sl4, dc4, pm4, an4, ct4, l4, c4⟩ := Hk.fn_get (d := dd_4) (c.def_ 4 rfl) (Hk.all_at (f := ck4) c.ck 4 19 rfl rfl) (of_decide_eq_true (Hk.all_at (f := ck4) c.ck 4 18 rfl rfl)) (rfl) (rfl)
  have k4 : PySem.W.keepIn K (.ref (ad_f4 K)) = true := (Hk.all_at (f := ck5) c.ck 5 0 rfl rfl)
  have a5 : PySem.W.findIn K (.ref (ad_CInvalidConstant K)) "__init__" = some (some (.ref (ad_f5 K))) := of_decide_eq_true (Hk.all_at (f := ck5) c.ck 5 1 rfl rfl)
  have t5 : PySem.W.typeIn K (.ref (ad_f5 K)) = some (.type "function") := of_decide_eq_true (Hk.all_at (f := ck5) c.ck 5 2 rfl rfl)
  obtain ⟨oc5, od5, sl5, dc5, pm5, an5, ct5, l5, c5⟩ := Hk.fn_get (d := dd_5) (c.def_ 5 rfl) (Hk.all_at (f := ck5) c.ck 5 4 rfl rfl) (of_decide_eq_true (Hk.all_at (f := ck5) c.ck 5 3 rfl rfl)) (rfl) (rfl)
  have k5 : PySem.W.keepIn K (.ref (ad_f5 K)) = true := (Hk.all_at (f := ck5) c.ck 5 5 rfl rfl)
  have a6 : PySem.W.nsIn K mainGlobals "is_integer" = some (some (.ref (ad_f6 K))) := of_decide_eq_true (Hk.all_at (f := ck5) c.ck 5 6 rfl rfl)
  obtain ⟨oc6, od6, sl6, dc6, pm6, an6, ct6, l6, c6⟩ := Hk.fn_get (d := dd_6) (c.def_ 6 rfl) (Hk.all_at (f := ck5) c.ck 5 8 rfl rfl) (of_decide_eq_true (Hk.all_at (f := ck5) c.ck 5 7 rfl rfl)) (rfl) (rfl)
  have k6 : PySem.W.keepIn K (.ref (ad_f6 K)) = true := (Hk.all_at (f := ck5) c.ck 5 9 rfl rfl)
  have a7 : PySem.W.nsIn K mainGlobals "check_range" = some (some (.ref (ad_f7 K))) := of_decide_eq_true (Hk.all_at (f := ck5) c.ck 5 10 rfl rfl)
  obtain ⟨oc7, od7, sl7, dc7, pm7, an7, ct7, l7, c7⟩ := Hk.fn_get (d := dd_7) (c.def_ 7 rfl) (Hk.all_at (f := ck5) c.ck 5 12 rfl rfl) (of_decide_eq_true (Hk.all_at (f := ck5) c.ck 5 11 rfl rfl)) (rfl) (rfl)
  have k7 : PySem.W.keepIn K (.ref (ad_f7 K)) = true := (Hk.all_at (f := ck5) c.ck 5 13 rfl rfl)
  have a8 : PySem.W.nsIn K mainGlobals "check_values" = some (some (.ref (ad_f8 K))) := of_decide_eq_true (Hk.all_at (f := ck5) c.ck 5 14 rfl rfl)
  obtain ⟨oc8, od8, sl8, dc8, pm8, an8, ct8, l8, c8⟩ := Hk.fn_get (d := dd_8) (c.def_ 8 rfl) (Hk.all_at (f := ck5) c.ck 5 16 rfl rfl) (of_decide_eq_true (Hk.all_at (f := ck5) c.ck 5 15 rfl rfl)) (rfl) (rfl)
  have k8 : PySem.W.keepIn K (.ref (ad_f8 K)) = true := (Hk.all_at (f := ck5) c.ck 5 17 rfl rfl)
  have a9 : PySem.W.nsIn K mainGlobals "part_fits" = some (some (.ref (ad_f9 K))) := of_decide_eq_true (Hk.all_at (f := ck5) c.ck 5 18 rfl rfl)
  obtain ⟨oc9, od9, sl9, dc9, pm9, an9, ct9, l9, c9⟩ := Hk.fn_get (d := dd_9) (c.def_ 9 rfl) (Hk.all_at (f := ck6) c.ck 6 0 rfl rfl) (of_decide_eq_true (Hk.all_at (f := ck5) c.ck 5 19 rfl rfl)) (rfl) (rfl)
  have k9 : PySem.W.keepIn K (.ref (ad_f9 K)) = true := (Hk.all_at (f := ck6) c.ck 6 1 rfl rfl)
  have a10 : PySem.W.nsIn K mainGlobals "check_code" = some (some (.ref (ad_f10 K))) := of_decide_eq_true (Hk.all_at (f := ck6) c.ck 6 2 rfl rfl)
  obtain ⟨oc10, od10, sl10, dc10, pm10, an10, ct10, l10, c10⟩ := Hk.fn_get (d := dd_10) (c.def_ 10 rfl) (Hk.all_at (f := ck6) c.ck 6 4 rfl rfl) (of_decide_eq_true (Hk.all_at (f := ck6) c.ck 6 3 rfl rfl)) (rfl) (rfl)
  have k10 : PySem.W.keepIn K (.ref (ad_f10 K)) = true := (Hk.all_at (f := ck6) c.ck 6 5 rfl rfl)
  have a11 : PySem.W.findIn K (.ref (ad_CWish K)) "__init__" = some (some (.ref (ad_f11 K))) := of_decide_eq_true (Hk.all_at (f := ck6) c.ck 6 6 rfl rfl)
  have fn11 : PySem.W.isFn K (.ref (ad_f11 K)) = true := (Hk.all_at (f := ck6) c.ck 6 7 rfl rfl)
  obtain ⟨oc11, od11, sl11, dc11, pm11, an11, ct11, l11, c11⟩ := Hk.fn_get (d := dd_11) (c.def_ 11 rfl) (Hk.all_at (f := ck6) c.ck 6 9 rfl rfl) (of_decide_eq_true (Hk.all_at (f := ck6) c.ck 6 8 rfl rfl)) (rfl) (rfl)
  have k11 : PySem.W.keepIn K (.ref (ad_f11 K)) = true := (Hk.all_at (f := ck6) c.ck 6 10 rfl rfl)
  have a12 : PySem.W.nsIn K mainGlobals "_law_bag" = some (some (.ref (ad_f12 K))) := of_decide_eq_true (Hk.all_at (f := ck6) c.ck 6 11 rfl rfl)
  obtain ⟨oc12, od12, sl12, dc12, pm12, an12, ct12, l12, c12⟩ := Hk.fn_get (d := dd_12) (c.def_ 12 rfl) (Hk.all_at (f := ck6) c.ck 6 13 rfl rfl) (of_decide_eq_true (Hk.all_at (f := ck6) c.ck 6 12 rfl rfl)) (rfl) (rfl)
  have k12 : PySem.W.keepIn K (.ref (ad_f12 K)) = true := (Hk.all_at (f := ck6) c.ck 6 14 rfl rfl)
  have a13 : PySem.W.nsIn K mainGlobals "_law_pull" = some (some (.ref (ad_f13 K))) := of_decide_eq_true (Hk.all_at (f := ck6) c.ck 6 15 rfl rfl)
  obtain ⟨oc13, od13, sl13, dc13, pm13, an13, ct13, l13, c13⟩ := Hk.fn_get (d := dd_13) (c.def_ 13 rfl) (Hk.all_at (f := ck6) c.ck 6 17 rfl rfl) (of_decide_eq_true (Hk.all_at (f := ck6) c.ck 6 16 rfl rfl)) (rfl) (rfl)
  have k13 : PySem.W.keepIn K (.ref (ad_f13 K)) = true := (Hk.all_at (f := ck6) c.ck 6 18 rfl rfl)
  have a14 : PySem.W.nsIn K mainGlobals "_law_of" = some (some (.ref (ad_f14 K))) := of_decide_eq_true (Hk.all_at (f := ck6) c.ck 6 19 rfl rfl)
  obtain ⟨oc14, od14, sl14, dc14, pm14, an14, ct14, l14, c14⟩ := Hk.fn_get (d := dd_14) (c.def_ 14 rfl) (Hk.all_at (f := ck7) c.ck 7 1 rfl rfl) (of_decide_eq_true (Hk.all_at (f := ck7) c.ck 7 0 rfl rfl)) (rfl) (rfl)
  have k14 : PySem.W.keepIn K (.ref (ad_f14 K)) = true := (Hk.all_at (f := ck7) c.ck 7 2 rfl rfl)
  have a15 : PySem.W.nsIn K mainGlobals "_law_field" = some (some (.ref (ad_f15 K))) := of_decide_eq_true (Hk.all_at (f := ck7) c.ck 7 3 rfl rfl)
  obtain ⟨oc15, od15, sl15, dc15, pm15, an15, ct15, l15, c15⟩ := Hk.fn_get (d := dd_15) (c.def_ 15 rfl) (Hk.all_at (f := ck7) c.ck 7 5 rfl rfl) (of_decide_eq_true (Hk.all_at (f := ck7) c.ck 7 4 rfl rfl)) (rfl) (rfl)
  have k15 : PySem.W.keepIn K (.ref (ad_f15 K)) = true := (Hk.all_at (f := ck7) c.ck 7 6 rfl rfl)
  have a16 : PySem.W.nsIn K mainGlobals "_law_tried" = some (some (.ref (ad_f16 K))) := of_decide_eq_true (Hk.all_at (f := ck7) c.ck 7 7 rfl rfl)
  obtain ⟨oc16, od16, sl16, dc16, pm16, an16, ct16, l16, c16⟩ := Hk.fn_get (d := dd_16) (c.def_ 16 rfl) (Hk.all_at (f := ck7) c.ck 7 9 rfl rfl) (of_decide_eq_true (Hk.all_at (f := ck7) c.ck 7 8 rfl rfl)) (rfl) (rfl)
  have k16 : PySem.W.keepIn K (.ref (ad_f16 K)) = true := (Hk.all_at (f := ck7) c.ck 7 10 rfl rfl)
  have a17 : PySem.W.nsIn K mainGlobals "_law_part" = some (some (.ref (ad_f17 K))) := of_decide_eq_true (Hk.all_at (f := ck7) c.ck 7 11 rfl rfl)
  obtain ⟨oc17, od17, sl17, dc17, pm17, an17, ct17, l17, c17⟩ := Hk.fn_get (d := dd_17) (c.def_ 17 rfl) (Hk.all_at (f := ck7) c.ck 7 13 rfl rfl) (of_decide_eq_true (Hk.all_at (f := ck7) c.ck 7 12 rfl rfl)) (rfl) (rfl)
  have k17 : PySem.W.keepIn K (.ref (ad_f17 K)) = true := (Hk.all_at (f := ck7) c.ck 7 14 rfl rfl)
  have a18 : PySem.W.nsIn K mainGlobals "_law_maybe" = some (some (.ref (ad_f18 K))) := of_decide_eq_true (Hk.all_at (f := ck7) c.ck 7 15 rfl rfl)
  obtain ⟨oc18, od18, sl18, dc18, pm18, an18, ct18, l18, c18⟩ := Hk.fn_get (d := dd_18) (c.def_ 18 rfl) (Hk.all_at (f := ck7) c.ck 7 17 rfl rfl) (of_decide_eq_true (Hk.all_at (f := ck7) c.ck 7 16 rfl rfl)) (rfl) (rfl)
  have k18 : PySem.W.keepIn K (.ref (ad_f18 K)) = true := (Hk.all_at (f := ck7) c.ck 7 18 rfl rfl)
  have a19 : PySem.W.nsIn K mainGlobals "_law_code" = some (some (.ref (ad_f19 K))) := of_decide_eq_true (Hk.all_at (f := ck7) c.ck 7 19 rfl rfl)
  obtain ⟨oc19, od19, sl19, dc19, pm19, an19, ct19, l19, c19⟩ := Hk.fn_get (d := dd_19) (c.def_ 19 rfl) (Hk.all_at (f := ck8) c.ck 8 1 rfl rfl) (of_decide_eq_true (Hk.all_at (f := ck8) c.ck 8 0 rfl rfl)) (rfl) (rfl)
  have k19 : PySem.W.keepIn K (.ref (ad_f19 K)) = true := (Hk.all_at (f := ck8) c.ck 8 2 rfl rfl)
  have a20 : PySem.W.nsIn K mainGlobals "_law_all_kinds" = some (some (.ref (ad_f20 K))) := of_decide_eq_true (Hk.all_at (f := ck8) c.ck 8 3 rfl rfl)
  obtain ⟨oc20, od20, sl20, dc20, pm20, an20, ct20, l20, c20⟩ := Hk.fn_get (d := dd_20) (c.def_ 20 rfl) (Hk.all_at (f := ck8) c.ck 8 5 rfl rfl) (of_decide_eq_true (Hk.all_at (f := ck8) c.ck 8 4 rfl rfl)) (rfl) (rfl)
  have k20 : PySem.W.keepIn K (.ref (ad_f20 K)) = true := (Hk.all_at (f := ck8) c.ck 8 6 rfl rfl)
  have a21 : PySem.W.nsIn K mainGlobals "_law_whole" = some (some (.ref (ad_f21 K))) := of_decide_eq_true (Hk.all_at (f := ck8) c.ck 8 7 rfl rfl)
  obtain ⟨oc21, od21, sl21, dc21, pm21, an21, ct21, l21, c21⟩ := Hk.fn_get (d := dd_21) (c.def_ 21 rfl) (Hk.all_at (f := ck8) c.ck 8 9 rfl rfl) (of_decide_eq_true (Hk.all_at (f := ck8) c.ck 8 8 rfl rfl)) (rfl) (rfl)
  have k21 : PySem.W.keepIn K (.ref (ad_f21 K)) = true := (Hk.all_at (f := ck8) c.ck 8 10 rfl rfl)
  have a22 : PySem.W.nsIn K mainGlobals "_law_fits" = some (some (.ref (ad_f22 K))) := of_decide_eq_true (Hk.all_at (f := ck8) c.ck 8 11 rfl rfl)
  obtain ⟨oc22, od22, sl22, dc22, pm22, an22, ct22, l22, c22⟩ := Hk.fn_get (d := dd_22) (c.def_ 22 rfl) (Hk.all_at (f := ck8) c.ck 8 13 rfl rfl) (of_decide_eq_true (Hk.all_at (f := ck8) c.ck 8 12 rfl rfl)) (rfl) (rfl)
  have k22 : PySem.W.keepIn K (.ref (ad_f22 K)) = true := (Hk.all_at (f := ck8) c.ck 8 14 rfl rfl)
  have a23 : PySem.W.nsIn K mainGlobals "_law_due" = some (some (.ref (ad_f23 K))) := of_decide_eq_true (Hk.all_at (f := ck8) c.ck 8 15 rfl rfl)
  obtain ⟨oc23, od23, sl23, dc23, pm23, an23, ct23, l23, c23⟩ := Hk.fn_get (d := dd_23) (c.def_ 23 rfl) (Hk.all_at (f := ck8) c.ck 8 17 rfl rfl) (of_decide_eq_true (Hk.all_at (f := ck8) c.ck 8 16 rfl rfl)) (rfl) (rfl)
  have k23 : PySem.W.keepIn K (.ref (ad_f23 K)) = true := (Hk.all_at (f := ck8) c.ck 8 18 rfl rfl)
  have a24 : PySem.W.nsIn K mainGlobals "law" = some (some (.ref (ad_f24 K))) := of_decide_eq_true (Hk.all_at (f := ck8) c.ck 8 19 rfl rfl)
  obtain ⟨oc24, od24, sl24, dc24, pm24, an24, ct24, l24, c24⟩ := Hk.fn_get (d := dd_24) (c.def_ 24 rfl) (Hk.all_at (f := ck9) c.ck 9 2 rfl rfl) (of_decide_eq_true (Hk.all_at (f := ck9) c.ck 9 0 rfl rfl)) (rfl) (of_decide_eq_true (Hk.all_at (f := ck9) c.ck 9 1 rfl rfl))
  have k24 : PySem.W.keepIn K (.ref (ad_f24 K)) = true := (Hk.all_at (f := ck9) c.ck 9 3 rfl rfl)
  obtain ⟨ce24, cdd24, cvs24, csl24, ca24, cb24⟩ := Hk.tb_get (Hk.all_at (f := ck9) c.ck 9 4 rfl rfl)
  have cc24 : PySem.W.codeHdIn K (ad_cl24 K) (ad_Pl24 K) = true := (Hk.all_at (f := ck9) c.ck 9 5 rfl rfl)
  have cn24 : K.lookup (ad_Pl24 K) = none := c.out ad_Pl24 (List.mem_singleton.mpr rfl)
  have cz24 : h.get? (ad_Pl24 K) = some { cls := .none, data := .fields #[] } := c.empty ad_Pl24 (List.mem_singleton.mpr rfl)
  obtain ⟨_, gk0, tk0, rfl⟩ := Hk.ns_get (v := .int 3) (Hk.all_at (f := ck9) c.ck 9 6 rfl rfl)
  obtain ⟨_, gk1, tk1, rfl⟩ := Hk.ns_get (v := .int 4) (Hk.all_at (f := ck9) c.ck 9 7 rfl rfl)
  obtain ⟨_, gk2, tk2, rfl⟩ := Hk.ns_get (v := .int 60) (Hk.all_at (f := ck9) c.ck 9 8 rfl rfl)
  obtain ⟨_, gk3, tk3, rfl⟩ := Hk.ns_get (v := .int 2) (Hk.all_at (f := ck9) c.ck 9 9 rfl rfl)
  have a_PLAIN_WORDS : PySem.W.nsIn K mainGlobals "PLAIN_WORDS" = some (some (.ref (ad_DPLAIN_WORDS K))) := of_decide_eq_true (Hk.all_at (f := ck9) c.ck 9 10 rfl rfl)
  obtain ⟨DdPLAIN_WORDS, its_l_PLAIN_WORDS, DnPLAIN_WORDS, DsPLAIN_WORDS, l_PLAIN_WORDS, vs_l_PLAIN_WORDS⟩ := Hk.tp_get (vs := [.str "yes", .str "no", .str "not", .str "and", .str "or"]) (Hk.all_at (f := ck9) c.ck 9 11 rfl rfl)
  obtain _ | ⟨⟨DtPLAIN_WORDS_0, rfl⟩, l_PLAIN_WORDS_0⟩ := vs_l_PLAIN_WORDS
  obtain _ | ⟨⟨DtPLAIN_WORDS_1, rfl⟩, l_PLAIN_WORDS_1⟩ := l_PLAIN_WORDS_0
  obtain _ | ⟨⟨DtPLAIN_WORDS_2, rfl⟩, l_PLAIN_WORDS_2⟩ := l_PLAIN_WORDS_1
  obtain _ | ⟨⟨DtPLAIN_WORDS_3, rfl⟩, l_PLAIN_WORDS_3⟩ := l_PLAIN_WORDS_2
  obtain _ | ⟨⟨DtPLAIN_WORDS_4, rfl⟩, l_PLAIN_WORDS_4⟩ := l_PLAIN_WORDS_3
  cases l_PLAIN_WORDS_4
  have z0 : PySem.W.nsIn K mainGlobals "bool" = some none := of_decide_eq_true (Hk.all_at (f := ck9) c.ck 9 12 rfl rfl)
  have z1 : PySem.W.nsIn K mainGlobals "enumerate" = some none := of_decide_eq_true (Hk.all_at (f := ck9) c.ck 9 13 rfl rfl)
  have z2 : PySem.W.nsIn K mainGlobals "int" = some none := of_decide_eq_true (Hk.all_at (f := ck9) c.ck 9 14 rfl rfl)
  have z3 : PySem.W.nsIn K mainGlobals "isinstance" = some none := of_decide_eq_true (Hk.all_at (f := ck9) c.ck 9 15 rfl rfl)
  have z4 : PySem.W.nsIn K mainGlobals "len" = some none := of_decide_eq_true (Hk.all_at (f := ck9) c.ck 9 16 rfl rfl)
  have z5 : PySem.W.nsIn K mainGlobals "list" = some none := of_decide_eq_true (Hk.all_at (f := ck9) c.ck 9 17 rfl rfl)
  have z6 : PySem.W.nsIn K mainGlobals "range" = some none := of_decide_eq_true (Hk.all_at (f := ck9) c.ck 9 18 rfl rfl)
  have z7 : PySem.W.nsIn K mainGlobals "str" = some none := of_decide_eq_true (Hk.all_at (f := ck9) c.ck 9 19 rfl rfl)
  have z8 : PySem.W.nsIn K mainGlobals "tuple" = some none := of_decide_eq_true (Hk.all_at (f := ck10) c.ck 10 0 rfl rfl)
  exact all_mk (l := l) (w := w) X G hfa aNotsError uNotsError iNotsError tNotsError aAbsent uAbsent iAbsent tAbsent aInvalidCode aLimitExceeded aInvalidCount aInvalidConstant xInvalidCode saInvalidCode gaInvalidCode ggInvalidCode nInvalidCode_position nInvalidCode_word kInvalidCode eInvalidCode tInvalidCode hInvalidCode sInvalidCode_NotsError sInvalidCode_Absent sInvalidCode_InvalidConstant sInvalidCode_InvalidCount xLimitExceeded saLimitExceeded gaLimitExceeded ggLimitExceeded nLimitExceeded_limit nLimitExceeded_word kLimitExceeded eLimitExceeded tLimitExceeded hLimitExceeded sLimitExceeded_NotsError sLimitExceeded_Absent sLimitExceeded_InvalidConstant sLimitExceeded_InvalidCount xInvalidCount saInvalidCount gaInvalidCount ggInvalidCount nInvalidCount_value nInvalidCount_word kInvalidCount eInvalidCount tInvalidCount hInvalidCount iInvalidCount sInvalidCount_NotsError sInvalidCount_Absent sInvalidCount_InvalidConstant sInvalidCount_InvalidCount xInvalidConstant saInvalidConstant gaInvalidConstant ggInvalidConstant nInvalidConstant_value nInvalidConstant_word kInvalidConstant eInvalidConstant tInvalidConstant hInvalidConstant iInvalidConstant sInvalidConstant_NotsError sInvalidConstant_Absent sInvalidConstant_InvalidConstant sInvalidConstant_InvalidCount aWish pgWish hdWish poWish saWish nWish_code mkWish kcWish a0 t0 l0 c0 k0 a1 t1 l1 c1 k1 a2 t2 l2 c2 k2 a3 l3 c3 k3 a4 l4 c4 k4 a5 t5 l5 c5 k5 a6 l6 c6 k6 a7 l7 c7 k7 a8 l8 c8 k8 a9 l9 c9 k9 a10 l10 c10 k10 a11 fn11 l11 c11 k11 a12 l12 c12 k12 a13 l13 c13 k13 a14 l14 c14 k14 a15 l15 c15 k15 a16 l16 c16 k16 a17 l17 c17 k17 a18 l18 c18 k18 a19 l19 c19 k19 a20 l20 c20 k20 a21 l21 c21 k21 a22 l22 c22 k22 a23 l23 c23 k23 a24 l24 c24 k24 ca24 cb24 cc24 cn24 cz24 gk0 gk1 gk2 gk3 a_PLAIN_WORDS l_PLAIN_WORDS z0 z1 z2 z3 z4 z5 z6 z7 z8
end Wl
open PySem PySem.W PySem.Calls PyProof.Rows
set_option maxRecDepth 100000 in
set_option maxHeartbeats 0 in
theorem PySem.Challenge.cw_sparenots_k06_invalid_codes_holds : PySem.Challenge.rw_sparenots_k06_invalid_codes.Holds := by
  w_on; o_law
  refine HandSHeadRun.head_any (r := OpenLaw.row PySem.Challenge.rw_sparenots_k06_invalid_codes) (q := view (OpenLaw.row PySem.Challenge.rw_sparenots_k06_invalid_codes).prog [76]) (H := Wl.hk) (ob := Wl.hob) (M := 30000) (loose := Wl.hloose) (d := HandSHeadRun.topDef (OpenLaw.row PySem.Challenge.rw_sparenots_k06_invalid_codes).prog 76) (kwd := []) Wl.hob_eq
    (by kernel_rfl) (fun s => by kernel_rfl) Wl.hrun (by kernel_rfl) (by kernel_rfl) (by kernel_rfl) (by rfl) (by first | assumption | decide +kernel) (by decide +kernel) ⟨rfl, rfl, rfl, rfl, rfl, by decide +kernel⟩ ?hw ?hc
  case hw => w_witness2
  case hc =>
    refine LamX.walk_ofTsE (l := PySem.Challenge.rw_sparenots_k06_invalid_codes) (n := 63) (k := Wl.lv_law) (x := "_law_script") (CX := fun w => L2.CX (PySem.Challenge.rw_sparenots_k06_invalid_codes).prog w) rfl (by decide) (by kernel_rfl) ⟨rfl, by decide, by decide⟩ ?F (fun _ _ _ _ _ ⟨_, _, _, _, _, _, _, _, _, _, _, _, h⟩ => h)
    intro w mg fa h Y G hmg0
    obtain ⟨K, KX, c⟩ := Y
    have hmg : mg ("law" : PySem.Str) = some (.ref fa) := by
      have e : (HandSHeadRun.topDef (OpenLaw.row PySem.Challenge.rw_sparenots_k06_invalid_codes).prog 76).name = ("law" : PySem.Str) := by kernel_rfl
      rw [← e]
      exact hmg0
    exact ⟨K, KX, Wl.facts KX G hmg c⟩
