import PyProof.Rows.All
import Wide.All
import OpenK.AllK
import Wide.FinOn
import HandS.ForMost
import HandS.Wide
import HandS.IsInst
import HandS.TupAny
import HandS.Conv
import HandS.EndBits
import PySem.Challenge.RW_doorsturned_k10_texts_of_scripts
import HandS.ExcInit
import HandS.ExcSuper
import HandS.ExcField
import HandS.ExcIs
import HandS.TryOnly
import HandS.Nested
import HandS.WordsExc
import KE.KExcSuper
import KE.KExcIs
import HandS.Text
import HandS.Deep
import HandS.RaiseMore
set_option Elab.async false
set_option linter.all false
set_option maxRecDepth 100000
set_option maxHeartbeats 4000000
namespace Dt
open PySem PySem.Spec PyProof.Rows L2
/-! ### rules in apply form -/
section
variable {K : PySem.W.Frag} {σ : L2.St} {H : Hp} {Q : VK} {D : Ends}
theorem r_var {i : Nat} {v : V} (e : σ[i]? = some (some v)) (h : Q v H) : tVar i σ H Q := ⟨v, e, h⟩
theorem r_C {v : V} (h : Q v H) : tC v σ H Q := h
theorem r_op {r : R2} {ta tb : TE} (h : ta σ H fun x H1 => tb σ H1 fun y H2 => r x y H2 Q) : tOp r ta tb σ H Q := h
theorem r_un {r : V → Hp → VK → Prop} {ta : TE} (h : ta σ H fun x H1 => r x H1 Q) : tUn r ta σ H Q := h
theorem r_I0 {g : Int → Int → V} {i j : Int} (h : Q (g i j) H) : rI0 g (.int i) (.int j) H Q := ⟨i, j, rfl, rfl, h⟩
theorem r_I {C : Int → Int → Prop} {g : Int → Int → V} {i j : Int} (hc : C i j) (h : Q (g i j) H) : rI C g (.int i) (.int j) H Q := ⟨i, j, rfl, rfl, hc, h⟩
theorem r_U {g : Int → V} {i : Int} (h : Q (g i) H) : rU g (.int i) H Q := ⟨i, rfl, h⟩
theorem r_eq {x y : V} (e : scal x y = true) (h : Q (.bl (decide (x = y))) H) : rEq x y H Q := ⟨e, h⟩
theorem r_ne {x y : V} (e : scal x y = true) (h : Q (.bl (!decide (x = y))) H) : rNe x y H Q := ⟨e, h⟩
def asB (R : Bool → Hp → Prop) : VK := fun x H' => ∃ k, x = .bl k ∧ R k H'
theorem r_asB {R : Bool → Hp → Prop} {k : Bool} (h : R k H) : asB R (.bl k) H := ⟨k, rfl, h⟩
theorem r_test {t : TE} {R : Bool → Hp → Prop} (h : t σ H (asB R)) : tTest t σ H R := h
theorem r_tB {t : TE} {R : Bool → Hp → Prop} (h : t σ H (asB R)) : tB t σ H R := h
theorem r_and {t u : TT} {R : Bool → Hp → Prop} (h : t σ H fun c H1 => if c = true then u σ H1 R else R false H1) : tAnd t u σ H R := h
theorem r_or {t u : TT} {R : Bool → Hp → Prop} (h : t σ H fun c H1 => if c = true then R true H1 else u σ H1 R) : tOr t u σ H R := h
theorem r_not {t : TT} {R : Bool → Hp → Prop} (h : t σ H fun c H1 => R (!c) H1) : tNot t σ H R := h
theorem r_andV {ta tb : TE} (h : ta σ H (asB fun c H1 => if c = true then tb σ H1 Q else Q (.bl false) H1)) : tAndV ta tb σ H Q := h
theorem r_orV {ta tb : TE} (h : ta σ H (asB fun c H1 => if c = true then Q (.bl true) H1 else tb σ H1 Q)) : tOrV ta tb σ H Q := h
theorem r_notV {ta : TE} (h : ta σ H (asB fun c H1 => Q (.bl (!c)) H1)) : tNotV ta σ H Q := h
theorem r_if {t : TT} {ta tb : TE} (h : t σ H fun c H1 => if c = true then ta σ H1 Q else tb σ H1 Q) : tIf t ta tb σ H Q := h
theorem r_ifS {t : TT} {ta tb : TS} (h : t σ H fun c H1 => if c = true then ta D σ H1 else tb D σ H1) : tIfS t ta tb D σ H := h
theorem r_next (h : D.nx σ H) : tNext D σ H := h
theorem r_seq {t u : TS} (h : t { D with nx := u D } σ H) : tSeq t u D σ H := h
theorem r_brk (h : D.bk σ H) : tBreak D σ H := h
theorem r_cont (h : D.ct σ H) : tCont D σ H := h
theorem r_drop {te : TE} (h : te σ H fun _ H1 => D.nx σ H1) : tDrop te D σ H := h
theorem r_ret {te : TE} (h : te σ H D.rt) : tRet te D σ H := h
theorem r_retN (h : D.rt .non H) : tRetN D σ H := h
theorem r_gName {R : L2.St → Hp → Prop} {i : Nat} {v : V} (h : R (σ.set i (some v)) H) : gName i v σ H R := h
theorem r_asg {te : TE} {g : TG} (h : te σ H fun x H1 => g x σ H1 D.nx) : tAsg te g D σ H := h
theorem r_par {i j : Nat} {ta : TA} (h : ta σ H fun vs H1 => ∃ v w, vs = [v, w] ∧ D.nx ((σ.set i (some v)).set j (some w)) H1) : tPar i j ta D σ H := h
theorem r_par2 {R : L2.St → Hp → Prop} {i j : Nat} {x y : V} (h : R ((σ.set i (some x)).set j (some y)) H) : ∃ v w, [x, y] = [v, w] ∧ R ((σ.set i (some v)).set j (some w)) H := ⟨x, y, rfl, h⟩
theorem r_nil {R : List V → Hp → Prop} (h : R [] H) : tNil σ H R := h
theorem r_cons {ta : TE} {tr : TA} {R : List V → Hp → Prop} (h : ta σ H fun x H1 => tr σ H1 fun xs H2 => R (x :: xs) H2) : tCons ta tr σ H R := h
theorem r_call {sp : Sp} {dvs : List V} {E : XK} {t : TA} (h : t σ H fun vs H1 => sp (vs ++ dvs) H1 Q E) : tCall sp dvs E t σ H Q := h
theorem r_CB {r : List V → Hp → VK → Prop} {t : TA} (h : t σ H fun vs H1 => r vs H1 Q) : tCB r t σ H Q := h
theorem r_chain {r r' : R2} {ta tb tc : TE} (h : ta σ H fun x H1 => tb σ H1 fun y H2 => r x y H2 (asB fun k H3 => if k = true then tc σ H3 fun w' H4 => r' y w' H4 Q else Q (.bl false) H3)) : tChain r r' ta tb tc σ H Q := by
  refine h
theorem same_upd {H : Hp} {p : Addr} {o : HO} (h : H p = none) : Same H (upd H p o) := fun b x e => by
  rw [upd_ne (ne_of_none e h)]
  exact e
/-- a new tuple, a new list -/
def newT (Q : VK) : List V → Hp → Prop := fun xs H1 => xs.length ≤ sizeLine ∧ ∀ p, H1 p = none → Q (.ref p) (upd H1 p (.tup xs))
def newL (Q : VK) : List V → Hp → Prop := fun xs H1 => xs.length ≤ sizeLine ∧ ∀ p, H1 p = none → Q (.ref p) (upd H1 p (.lst xs))
theorem r_tup {t : TA} (h : t σ H (newT Q)) : tTup t σ H Q := h
theorem r_lst {t : TA} (h : t σ H (newL Q)) : tLst t σ H Q := h
theorem small1 {n : Nat} (h : Nat.ble n 1000 = true) : n ≤ 1000 := Nat.le_of_ble_eq_true h
theorem r_newT {xs : List V} (hn : xs.length ≤ sizeLine) (h : ∀ p H', H p = none → Same H H' → H' p = some (.tup xs) → (∀ q, q ≠ p → H' q = H q) → Q (.ref p) H') : newT Q xs H :=
  ⟨hn, fun p hp => h p _ hp (same_upd hp) upd_same fun _ hne => upd_ne hne⟩
theorem r_newL {xs : List V} (hn : xs.length ≤ sizeLine) (h : ∀ p H', H p = none → Same H H' → H' p = some (.lst xs) → (∀ q, q ≠ p → H' q = H q) → Q (.ref p) H') : newL Q xs H :=
  ⟨hn, fun p hp => h p _ hp (same_upd hp) upd_same fun _ hne => upd_ne hne⟩
theorem small_b {n : Nat} (h : Nat.ble n 10000000 = true) : n ≤ sizeLine := Nat.le_trans (Nat.le_of_ble_eq_true h) (by decide)
theorem small_bt {n : Nat} (h : Nat.ble n 10000000 = true) : n < sizeLine := Nat.lt_of_le_of_lt (Nat.le_of_ble_eq_true h) (by decide)
theorem r_true {A B : Prop} (h : A) : if true = true then A else B := iteT h
theorem r_false {A B : Prop} (h : B) : if false = true then A else B := iteF h
theorem r_notTrue {A B : Prop} (h : B) : if (!true) = true then A else B := iteF h
theorem r_notFalse {A B : Prop} (h : A) : if (!false) = true then A else B := iteT h
theorem if_T {c : Bool} {A B : Prop} (hc : c = true) (h : A) : if c = true then A else B := by rw [if_pos hc]; exact h
theorem if_F {c : Bool} {A B : Prop} (hc : c = false) (h : B) : if c = true then A else B := by rw [hc]; exact iteF h
theorem if_b {c : Bool} {A B : Prop} (h1 : c = true → A) (h2 : c = false → B) : if c = true then A else B := by
  cases c with
  | true => exact iteT (h1 rfl)
  | false => exact iteF (h2 rfl)
theorem if_d {p : Prop} [Decidable p] {A B : Prop} (h1 : p → A) (h2 : ¬ p → B) : if decide p = true then A else B := by
  by_cases h : p
  · rw [decide_eq_true h]; exact iteT (h1 h)
  · rw [decide_eq_false h]; exact iteF (h2 h)
theorem if_nd {p : Prop} [Decidable p] {A B : Prop} (h1 : ¬ p → A) (h2 : p → B) : if (!decide p) = true then A else B := by
  by_cases h : p
  · rw [decide_eq_true h]; exact iteF (h2 h)
  · rw [decide_eq_false h]; exact iteT (h1 h)
/-! ### what is carried along -/
theorem Same.sqT {H H' : Hp} {a : Addr} {xs : List V} (e : Same H H') (h : SqT K H a xs) : SqT K H' a xs := by
  rcases h with (h | ⟨o, h⟩) | h
  · exact .inl (.inl (e _ _ h))
  · exact .inl (.inr ⟨o, e _ _ h⟩)
  · exact .inr h
mutual
theorem Dp.mono {H H' : Hp} (e : Same H H') : ∀ {v : V} {d : PyData}, Dp K H v d → Dp K H' v d
  | _, _, .non => .non
  | _, _, .bl b => .bl b
  | _, _, .int i => .int i
  | _, _, .str x => .str x
  | _, _, .lst h a => .lst (e.seq h) (DpAll.mono e a)
  | _, _, .tup h a => .tup (Same.sqT e h) (DpAll.mono e a)
theorem DpAll.mono {H H' : Hp} (e : Same H H') : ∀ {v : List V} {d : List PyData}, DpAll K H v d → DpAll K H' v d
  | _, _, .nil => .nil
  | _, _, .cons a b => .cons (Dp.mono e a) (DpAll.mono e b)
end
theorem r_ixT {p : Addr} {xs : List V} {i : Int} {v : V} (hs : SqT K H p xs) (e : atI xs i = some v) (h : Q v H) : rIxT K (.ref p) (.int i) H Q := ⟨p, xs, i, v, rfl, rfl, hs, e, h⟩
theorem r_ixL {p : Addr} {xs : List V} {i : Int} {v : V} (hs : SqL K H p xs) (e : atI xs i = some v) (h : Q v H) : rIxL K (.ref p) (.int i) H Q := ⟨p, xs, i, v, rfl, rfl, hs, e, h⟩
theorem r_gTup {R : L2.St → Hp → Prop} {a : Addr} {xs : List V} {n : Nat} {t : TGs} (hs : SqT K H a xs) (hl : xs.length = n) (h : t xs σ H R) : gTup K n t (.ref a) σ H R := ⟨a, xs, rfl, hs, hl, h⟩
theorem r_gCons {R : L2.St → Hp → Prop} {t : TG} {u : TGs} {v : V} {r : List V} (h : t v σ H fun σ' H' => u r σ' H' R) : gCons t u (v :: r) σ H R := ⟨v, r, rfl, h⟩
theorem r_gNil {R : L2.St → Hp → Prop} (h : R σ H) : gNil [] σ H R := ⟨rfl, h⟩
end
/-! ### the library's rules under names of their own -/
def rIsN : R2 := fun x y H Q => y = .non ∧ Q (.bl (decide (x = .non))) H
def rNotN : R2 := fun x y H Q => y = .non ∧ Q (.bl (!decide (x = .non))) H
def rLenS (K : PySem.W.Frag) : List V → Hp → VK → Prop := fun xs H Q => ∃ p ys, xs = [V.ref p] ∧ (SqL K H p ys ∨ SqT K H p ys) ∧ Q (.int ys.length) H
def rLenStr : List V → Hp → VK → Prop := fun xs H Q => ∃ z, xs = [.str z] ∧ z.length ≤ sizeLine ∧ Q (.int z.length) H
def rInt1 : List V → Hp → VK → Prop := fun xs H Q => (∃ i, xs = [.int i] ∧ Q (.int i) H) ∨ ∃ k, xs = [.bl k] ∧ Q (.int (if k then 1 else 0)) H
def rBool1 : List V → Hp → VK → Prop := fun xs H Q => (∃ i, xs = [.int i] ∧ Q (.bl (i != 0)) H) ∨ ∃ k, xs = [.bl k] ∧ Q (.bl k) H
def rAbs : List V → Hp → VK → Prop := fun xs H Q => ∃ i, xs = [.int i] ∧ Q (.int (if i < 0 then -i else i)) H
def rMax2 : List V → Hp → VK → Prop := fun xs H Q => ∃ i j, xs = [.int i, .int j] ∧ Q (.int (if j > i then j else i)) H
def rMin2 : List V → Hp → VK → Prop := fun xs H Q => ∃ i j, xs = [.int i, .int j] ∧ Q (.int (if j < i then j else i)) H
def rStrI : List V → Hp → VK → Prop := fun xs H Q => ∃ i, xs = [.int i] ∧ i.natAbs.log2 < 1920 ∧ Q (.str (toString i)) H
def rListOf (K : PySem.W.Frag) : List V → Hp → VK → Prop := fun xs H Q => ∃ p ys, xs = [.ref p] ∧ (SqL K H p ys ∨ SqT K H p ys) ∧ ∀ l, H l = none → Q (.ref l) (upd H l (.lst ys))
def rTupOf (K : PySem.W.Frag) : List V → Hp → VK → Prop := fun xs H Q => ∃ p ys, xs = [.ref p] ∧ ((SqL K H p ys ∧ ∀ l, H l = none → Q (.ref l) (upd H l (.tup ys))) ∨ (SqT K H p ys ∧ Q (.ref p) H))
def rAddS : R2 := fun x y H Q => ∃ i j, x = .str i ∧ y = .str j ∧ i.length + j.length ≤ sizeLine ∧ Q (.str (i ++ j)) H
section
variable {X : Cx}
theorem o_isN : OpR X (compareOp .Is) rIsN := op_isN
theorem o_notN : OpR X (compareOp .IsNot) rNotN := op_notN
theorem c_len : CallR X (.builtin "len") (rLenS X.K) := call_len_seq
theorem c_lenStr : CallR X (.builtin "len") rLenStr := call_len_str
theorem c_int1 : CallR X (.type "int") rInt1 := call_int1
theorem c_bool1 : CallR X (.type "bool") rBool1 := call_bool1
theorem c_abs : CallR X (.builtin "abs") rAbs := call_abs
theorem c_max2 (hc : X.calm = true) : CallR X (.builtin "max") rMax2 := call_max2 hc
theorem c_min2 (hc : X.calm = true) : CallR X (.builtin "min") rMin2 := call_min2 hc
theorem c_strI : CallR X (.type "str") rStrI := call_str_int
theorem c_listOf : CallR X (.type "list") (rListOf X.K) := call_list_of
theorem c_tupOf : CallR X (.type "tuple") (rTupOf X.K) := call_tuple_of
theorem o_addS : OpR X (binaryOp .Add) rAddS := op_add_str
end
section
variable {K : PySem.W.Frag} {σ : L2.St} {H : Hp} {Q : VK} {D : Ends}
theorem r_isN {x : V} (h : Q (.bl (decide (x = .non))) H) : rIsN x .non H Q := ⟨rfl, h⟩
theorem r_notN {x : V} (h : Q (.bl (!decide (x = .non))) H) : rNotN x .non H Q := ⟨rfl, h⟩
theorem r_lenT {p : Addr} {xs : List V} (hs : SqT K H p xs) (h : Q (.int xs.length) H) : rLenS K [.ref p] H Q := ⟨p, xs, rfl, .inr hs, h⟩
theorem r_lenL {p : Addr} {xs : List V} (hs : SqL K H p xs) (h : Q (.int xs.length) H) : rLenS K [.ref p] H Q := ⟨p, xs, rfl, .inl hs, h⟩
theorem r_int {i : Int} (h : Q (.int i) H) : rInt1 [.int i] H Q := .inl ⟨i, rfl, h⟩
theorem r_intB {i : Bool} (h : Q (.int (if i then 1 else 0)) H) : rInt1 [.bl i] H Q := .inr ⟨i, rfl, h⟩
theorem r_abs {i : Int} (h : Q (.int (if i < 0 then -i else i)) H) : rAbs [.int i] H Q := ⟨i, rfl, h⟩
theorem r_min2 {i j : Int} (h : Q (.int (if j < i then j else i)) H) : rMin2 [.int i, .int j] H Q := ⟨i, j, rfl, h⟩
theorem r_max2 {i j : Int} (h : Q (.int (if j > i then j else i)) H) : rMax2 [.int i, .int j] H Q := ⟨i, j, rfl, h⟩
theorem r_listL {p : Addr} {ys : List V} (hs : SqL K H p ys) (h : ∀ p H', H p = none → Same H H' → H' p = some (.lst ys) → (∀ q, q ≠ p → H' q = H q) → Q (.ref p) H') : rListOf K [.ref p] H Q := ⟨p, ys, rfl, .inl hs, fun p hp => h p _ hp (same_upd hp) upd_same fun _ hne => upd_ne hne⟩
theorem r_tupL {p : Addr} {ys : List V} (hs : SqL K H p ys) (h : ∀ p H', H p = none → Same H H' → H' p = some (.tup ys) → (∀ q, q ≠ p → H' q = H q) → Q (.ref p) H') : rTupOf K [.ref p] H Q := ⟨p, ys, rfl, .inl ⟨hs, fun p hp => h p _ hp (same_upd hp) upd_same fun _ hne => upd_ne hne⟩⟩
/-! ### loops and comprehensions in apply form -/
def forT (K : PySem.W.Frag) (g : TG) (tb : TS) (D : Ends) (σ : L2.St) : VK := fun x H1 => ∃ a, x = .ref a ∧ (∃ xs, SqT K H1 a xs) ∧ ∃ W : Nat → Nat → L2.St → Hp → Prop, (∃ m, W 0 m σ H1) ∧ ∀ i m σ H, W i m σ H →
  ((Itt K a).stop i H ∧ D.nx σ H) ∨ ((Itt K a).go i H ∧ ∃ N : L2.St → Hp → Prop, (∀ σ' H', N σ' H' → ∃ m', m' < m ∧ W (i + 1) m' σ' H') ∧ ∀ x H', (Itt K a).yld i H x H' → g x σ H' fun σ2 H2 => tb { D with nx := N, ct := N, bk := D.nx } σ2 H2)
def forL (K : PySem.W.Frag) (g : TG) (tb : TS) (D : Ends) (σ : L2.St) : VK := fun x H1 => ∃ a, x = .ref a ∧ (∃ xs, SqL K H1 a xs) ∧ ∃ W : Nat → Nat → L2.St → Hp → Prop, (∃ m, W 0 m σ H1) ∧ ∀ i m σ H, W i m σ H →
  ((Itl K a).stop i H ∧ D.nx σ H) ∨ ((Itl K a).go i H ∧ ∃ N : L2.St → Hp → Prop, (∀ σ' H', N σ' H' → ∃ m', m' < m ∧ W (i + 1) m' σ' H') ∧ ∀ x H', (Itl K a).yld i H x H' → g x σ H' fun σ2 H2 => tb { D with nx := N, ct := N, bk := D.nx } σ2 H2)
def forR (g : TG) (tb : TS) (D : Ends) (σ : L2.St) (J : It) (H1 : Hp) : Prop := ∃ W : Nat → Nat → L2.St → Hp → Prop, (∃ m, W 0 m σ H1) ∧ ∀ i m σ H, W i m σ H →
  (J.stop i H ∧ D.nx σ H) ∨ (J.go i H ∧ ∃ N : L2.St → Hp → Prop, (∀ σ' H', N σ' H' → ∃ m', m' < m ∧ W (i + 1) m' σ' H') ∧ ∀ x H', J.yld i H x H' → g x σ H' fun σ2 H2 => tb { D with nx := N, ct := N, bk := D.nx } σ2 H2)
def forR1 (g : TG) (tb : TS) (D : Ends) (σ : L2.St) : List V → Hp → Prop := fun vs H1 => ∃ j : Int, vs = [.int j] ∧ -(2 ^ 62) ≤ j ∧ j < 2 ^ 62 ∧ forR g tb D σ (Itr 0 j.toNat) H1
def forR2 (g : TG) (tb : TS) (D : Ends) (σ : L2.St) : List V → Hp → Prop := fun vs H1 => ∃ i j : Int, vs = [.int i, .int j] ∧ (-(2 ^ 62) ≤ i ∧ i < 2 ^ 62 ∧ -(2 ^ 62) ≤ j ∧ j < 2 ^ 62) ∧ forR g tb D σ (Itr i (j - i).toNat) H1
theorem r_forT {tl : TE} {g : TG} {tb : TS} (h : tl σ H (forT K g tb D σ)) : tFor (iTup K tl) g tb D σ H := h
theorem r_forL {tl : TE} {g : TG} {tb : TS} (h : tl σ H (forL K g tb D σ)) : tFor (iList K tl) g tb D σ H := h
theorem r_forR1 {ta : TA} {g : TG} {tb : TS} (h : ta σ H (forR1 g tb D σ)) : tFor (iRng1 ta) g tb D σ H := h
theorem r_forR2 {ta : TA} {g : TG} {tb : TS} (h : ta σ H (forR2 g tb D σ)) : tFor (iRng2 ta) g tb D σ H := h
theorem forT_by {a : Addr} {xs : List V} {g : TG} {tb : TS} (Pv : Nat → L2.St → Hp → Prop) (hS : SqT K H a xs) (h0 : Pv 0 σ H) (hl : ∀ i σ H, i ≤ xs.length → Pv i σ H → SqT K H a xs)
    (hs : ∀ i x σ H, xs[i]? = some x → Pv i σ H → g x σ H fun σ2 H2 => tb { D with nx := Pv (i + 1), ct := Pv (i + 1), bk := D.nx } σ2 H2) (hd : ∀ σ H, Pv xs.length σ H → D.nx σ H) : forT K g tb D σ (.ref a) H :=
  ⟨a, rfl, ⟨_, hS⟩, for_tup Pv h0 hl hs hd⟩
theorem forL_by {a : Addr} {xs : List V} {g : TG} {tb : TS} (Pv : Nat → L2.St → Hp → Prop) (hS : SqL K H a xs) (h0 : Pv 0 σ H) (hl : ∀ i σ H, i ≤ xs.length → Pv i σ H → SqL K H a xs)
    (hs : ∀ i x σ H, xs[i]? = some x → Pv i σ H → g x σ H fun σ2 H2 => tb { D with nx := Pv (i + 1), ct := Pv (i + 1), bk := D.nx } σ2 H2) (hd : ∀ σ H, Pv xs.length σ H → D.nx σ H) : forL K g tb D σ (.ref a) H :=
  ⟨a, rfl, ⟨_, hS⟩, for_list Pv h0 hl hs hd⟩
theorem forR1_by {j : Int} {g : TG} {tb : TS} (Pv : Nat → L2.St → Hp → Prop) (h1 : -(2 ^ 62) ≤ j) (h2 : j < 2 ^ 62) (h0 : Pv 0 σ H)
    (hs : ∀ (i : Nat) σ H, (i : Int) < j → Pv i σ H → g (.int i) σ H fun σ2 H2 => tb { D with nx := Pv (i + 1), ct := Pv (i + 1), bk := D.nx } σ2 H2) (hd : ∀ σ H, Pv j.toNat σ H → D.nx σ H) : forR1 g tb D σ [.int j] H :=
  ⟨j, rfl, h1, h2, for_range Pv h0 (fun i σ H hi p => by rw [Int.zero_add]; exact hs i σ H (by omega) p) hd⟩
theorem forR2_by {i₀ j : Int} {g : TG} {tb : TS} (Pv : Nat → L2.St → Hp → Prop) (hb : -(2 ^ 62) ≤ i₀ ∧ i₀ < 2 ^ 62 ∧ -(2 ^ 62) ≤ j ∧ j < 2 ^ 62) (h0 : Pv 0 σ H)
    (hs : ∀ (i : Nat) σ H, i₀ + (i : Int) < j → Pv i σ H → g (.int (i₀ + i)) σ H fun σ2 H2 => tb { D with nx := Pv (i + 1), ct := Pv (i + 1), bk := D.nx } σ2 H2) (hd : ∀ σ H, Pv (j - i₀).toNat σ H → D.nx σ H) : forR2 g tb D σ [.int i₀, .int j] H :=
  ⟨i₀, j, rfl, hb, for_range Pv h0 (fun i σ H hi p => hs i σ H (by omega) p) hd⟩
def lcW (g : TG) (tt : TT) (te : TE) (vs : List Nat) (σ : L2.St) (Q : VK) (J : It) (H1 : Hp) : Prop := ∀ D, H1 D = none → ∃ W : Nat → Nat → Hp → Prop, (∃ m, W 0 m (upd H1 D (.lst []))) ∧ ∀ i m H, W i m H →
  (J.stop i H ∧ Q (.ref D) H) ∨ (J.go i H ∧ ∃ Nx : Hp → Prop, (∀ H', Nx H' → ∃ m', m' < m ∧ W (i + 1) m' H') ∧ ∀ x H', J.yld i H x H' → g x (wipe σ vs) H' fun σ2 H2 => wipe σ2 vs = wipe σ vs ∧ tt σ2 H2 fun b H3 =>
    if b = true then te σ2 H3 fun y H4 => ∃ acc, H4 D = some (.lst acc) ∧ acc.length < sizeLine ∧ Nx (upd H4 D (.lst (acc ++ [y]))) else Nx H3)
def lcT (K : PySem.W.Frag) (g : TG) (tt : TT) (te : TE) (vs : List Nat) (σ : L2.St) (Q : VK) : VK := fun x H1 => ∃ a, x = .ref a ∧ (∃ xs, SqT K H1 a xs) ∧ lcW g tt te vs σ Q (Itt K a) H1
def lcL (K : PySem.W.Frag) (g : TG) (tt : TT) (te : TE) (vs : List Nat) (σ : L2.St) (Q : VK) : VK := fun x H1 => ∃ a, x = .ref a ∧ (∃ xs, SqL K H1 a xs) ∧ lcW g tt te vs σ Q (Itl K a) H1
def lcR1 (g : TG) (tt : TT) (te : TE) (vs : List Nat) (σ : L2.St) (Q : VK) : List V → Hp → Prop := fun xs H1 => ∃ j : Int, xs = [.int j] ∧ -(2 ^ 62) ≤ j ∧ j < 2 ^ 62 ∧ lcW g tt te vs σ Q (Itr 0 j.toNat) H1
def lcR2 (g : TG) (tt : TT) (te : TE) (vs : List Nat) (σ : L2.St) (Q : VK) : List V → Hp → Prop := fun xs H1 => ∃ i j : Int, xs = [.int i, .int j] ∧ (-(2 ^ 62) ≤ i ∧ i < 2 ^ 62 ∧ -(2 ^ 62) ≤ j ∧ j < 2 ^ 62) ∧ lcW g tt te vs σ Q (Itr i (j - i).toNat) H1
theorem r_lcT {tl : TE} {g : TG} {tt : TT} {te : TE} {vs : List Nat} (h : tl σ H (lcT K g tt te vs σ Q)) : tLc (iTup K tl) g tt te vs σ H Q := h
theorem r_lcL {tl : TE} {g : TG} {tt : TT} {te : TE} {vs : List Nat} (h : tl σ H (lcL K g tt te vs σ Q)) : tLc (iList K tl) g tt te vs σ H Q := h
theorem r_lcR1 {ta : TA} {g : TG} {tt : TT} {te : TE} {vs : List Nat} (h : ta σ H (lcR1 g tt te vs σ Q)) : tLc (iRng1 ta) g tt te vs σ H Q := h
theorem r_lcR2 {ta : TA} {g : TG} {tt : TT} {te : TE} {vs : List Nat} (h : ta σ H (lcR2 g tt te vs σ Q)) : tLc (iRng2 ta) g tt te vs σ H Q := h
/-- one turn of a comprehension behind its target -/
def lcB (tt : TT) (te : TE) (D : Addr) (Nx : Hp → Prop) (σ2 : L2.St) (H2 : Hp) : Prop := tt σ2 H2 fun b H3 =>
    if b = true then te σ2 H3 fun y H4 => ∃ acc, H4 D = some (.lst acc) ∧ acc.length < sizeLine ∧ Nx (upd H4 D (.lst (acc ++ [y]))) else Nx H3
def addTo (D : Addr) (Nx : Hp → Prop) : VK := fun y H4 => ∃ acc, H4 D = some (.lst acc) ∧ acc.length < sizeLine ∧ Nx (upd H4 D (.lst (acc ++ [y])))
theorem r_lcB1 {te : TE} {E : Addr} {Nx : Hp → Prop} (h : te σ H (addTo E Nx)) : lcB tYes te E Nx σ H := by
  show (if true = true then te σ H (addTo E Nx) else Nx H)
  exact iteT h
theorem r_lcB {tt : TT} {te : TE} {E : Addr} {Nx : Hp → Prop} (h : tt σ H fun b H3 => if b = true then te σ H3 (addTo E Nx) else Nx H3) : lcB tt te E Nx σ H := h
/-- in every comprehension: all that stands in G stands still (G is H, or H without what the turns change); acc tells the list so far and what else holds -/
theorem lcT_by {G : Hp} {a : Addr} {xs : List V} {i₀ : Nat} {tt : TT} {te : TE} {vs : List Nat} (acc : Nat → Hp → List V → Prop) (sG : Same G H) (hS : SqT K G a xs) (h0 : ∀ H' D, H D = none → Same H H' → (∀ q, q ≠ D → H' q = H q) → acc 0 H' [])
    (hw : ∀ x : V, wipe ((wipe σ vs).set i₀ (some x)) vs = wipe σ vs)
    (hs : ∀ i x H' D ys, xs[i]? = some x → H D = none → Same G H' → H' D = some (.lst ys) → acc i H' ys → lcB tt te D (fun H2 => Same G H2 ∧ ∃ zs, H2 D = some (.lst zs) ∧ acc (i + 1) H2 zs) ((wipe σ vs).set i₀ (some x)) H')
    (hd : ∀ H' D ys, H D = none → Same G H' → H' D = some (.lst ys) → acc xs.length H' ys → Q (.ref D) H') : lcT K (gName i₀) tt te vs σ Q (.ref a) H :=
  ⟨a, rfl, ⟨_, Same.sqT sG hS⟩, fun D hD => lc_tup (fun i H' => Same G H' ∧ ∃ ys, H' D = some (.lst ys) ∧ acc i H' ys) ⟨sG.trans (same_upd hD), _, upd_same, h0 _ D hD (same_upd hD) (fun _ hq => upd_ne hq)⟩ (fun i H' _ h => Same.sqT h.1 hS)
    (fun i x H' hi ⟨sm, ys, hy, ha⟩ => ⟨hw x, hs i x H' D ys hi hD sm hy ha⟩) (fun H' ⟨sm, ys, hy, ha⟩ => hd H' D ys hD sm hy ha)⟩
theorem lcL_by {G : Hp} {a : Addr} {xs : List V} {i₀ : Nat} {tt : TT} {te : TE} {vs : List Nat} (acc : Nat → Hp → List V → Prop) (sG : Same G H) (hS : SqL K G a xs) (h0 : ∀ H' D, H D = none → Same H H' → (∀ q, q ≠ D → H' q = H q) → acc 0 H' [])
    (hw : ∀ x : V, wipe ((wipe σ vs).set i₀ (some x)) vs = wipe σ vs)
    (hs : ∀ i x H' D ys, xs[i]? = some x → H D = none → Same G H' → H' D = some (.lst ys) → acc i H' ys → lcB tt te D (fun H2 => Same G H2 ∧ ∃ zs, H2 D = some (.lst zs) ∧ acc (i + 1) H2 zs) ((wipe σ vs).set i₀ (some x)) H')
    (hd : ∀ H' D ys, H D = none → Same G H' → H' D = some (.lst ys) → acc xs.length H' ys → Q (.ref D) H') : lcL K (gName i₀) tt te vs σ Q (.ref a) H :=
  ⟨a, rfl, ⟨_, sG.seq hS⟩, fun D hD => lc_list (fun i H' => Same G H' ∧ ∃ ys, H' D = some (.lst ys) ∧ acc i H' ys) ⟨sG.trans (same_upd hD), _, upd_same, h0 _ D hD (same_upd hD) (fun _ hq => upd_ne hq)⟩ (fun i H' _ h => h.1.seq hS)
    (fun i x H' hi ⟨sm, ys, hy, ha⟩ => ⟨hw x, hs i x H' D ys hi hD sm hy ha⟩) (fun H' ⟨sm, ys, hy, ha⟩ => hd H' D ys hD sm hy ha)⟩
theorem lcR1_by {G : Hp} {j : Int} {i₀ : Nat} {tt : TT} {te : TE} {vs : List Nat} (acc : Nat → Hp → List V → Prop) (sG : Same G H) (h1 : -(2 ^ 62) ≤ j) (h2 : j < 2 ^ 62) (h0 : ∀ H' D, H D = none → Same H H' → (∀ q, q ≠ D → H' q = H q) → acc 0 H' [])
    (hw : ∀ x : V, wipe ((wipe σ vs).set i₀ (some x)) vs = wipe σ vs)
    (hs : ∀ (i : Nat) H' D ys, (i : Int) < j → H D = none → Same G H' → H' D = some (.lst ys) → acc i H' ys → lcB tt te D (fun H2 => Same G H2 ∧ ∃ zs, H2 D = some (.lst zs) ∧ acc (i + 1) H2 zs) ((wipe σ vs).set i₀ (some (.int i))) H')
    (hd : ∀ H' D ys, H D = none → Same G H' → H' D = some (.lst ys) → acc j.toNat H' ys → Q (.ref D) H') : lcR1 (gName i₀) tt te vs σ Q [.int j] H :=
  ⟨j, rfl, h1, h2, fun D hD => lc_range (fun i H' => Same G H' ∧ ∃ ys, H' D = some (.lst ys) ∧ acc i H' ys) ⟨sG.trans (same_upd hD), _, upd_same, h0 _ D hD (same_upd hD) (fun _ hq => upd_ne hq)⟩
    (fun i H' hi ⟨sm, ys, hy, ha⟩ => by rw [Int.zero_add]; exact ⟨hw _, hs i H' D ys (by omega) hD sm hy ha⟩) (fun H' ⟨sm, ys, hy, ha⟩ => hd H' D ys hD sm hy ha)⟩
/-- what a turn hands on: the item stands behind the others -/
theorem addTo_by {H₀ H' : Hp} {E : Addr} {ys : List V} {y : V} {A : Hp → List V → Prop} (hE : H₀ E = none) (sm : Same H₀ H') (hy : H' E = some (.lst ys)) (hz : ys.length < sizeLine)
    (h : ∀ H2, Same H₀ H2 → (∀ q, q ≠ E → H2 q = H' q) → H2 E = some (.lst (ys ++ [y])) → A H2 (ys ++ [y])) : addTo E (fun H2 => Same H₀ H2 ∧ ∃ zs, H2 E = some (.lst zs) ∧ A H2 zs) y H' := by
  have s2 : Same H₀ (upd H' E (.lst (ys ++ [y]))) := fun b o e => by
    rw [upd_ne (ne_of_none e hE)]
    exact sm _ _ e
  exact ⟨ys, hy, hz, s2, _, upd_same, h _ s2 (fun q hq => upd_ne hq) upd_same⟩
/-! ### slices, +, list(range(a, b, c)), [x] * n -/
def partK (Q : Option Int → Hp → Prop) : VK := fun x H1 => ∃ i, x = .int i ∧ Q (some i) H1
theorem r_part {t : TE} {R : Option Int → Hp → Prop} (h : t σ H (partK R)) : tPart t σ H R := h
theorem r_partK {i : Int} {R : Option Int → Hp → Prop} (h : R (some i) H) : partK R (.int i) H := ⟨i, rfl, h⟩
theorem r_noPart {R : Option Int → Hp → Prop} (h : R none H) : tNoPart σ H R := h
theorem r_sl {r : V → Option Int → Option Int → Hp → VK → Prop} {te : TE} {tl th : TO} (h : te σ H fun x H1 => tl σ H1 fun l H2 => th σ H2 fun u H3 => r x l u H3 Q) : tSl r te tl th σ H Q := h
def IsT (K : PySem.W.Frag) (H : Hp) (v : V) (xs : List V) : Prop := ∃ p, v = .ref p ∧ SqT K H p xs
theorem cutV_all {xs : List V} {lo hi : Option Int} (h : HT.sIx xs.length 0 lo = 0 ∧ HT.sIx xs.length xs.length hi = xs.length) : cutV xs lo hi = xs := by
  unfold cutV
  rw [h.1, h.2, List.drop_zero, Nat.sub_zero, List.take_length]
theorem r_slT {a : Addr} {xs : List V} {lo hi : Option Int} (hs : SqT K H a xs) (h : ∀ v H', Same H H' → IsT K H' v (cutV xs lo hi) → Q v H') : rSlA K (.ref a) lo hi H Q :=
  ⟨a, xs, rfl, hs, fun e => h _ _ (Same.refl H) ⟨a, rfl, by rw [cutV_all e]; exact hs⟩, fun _ p hp => h _ _ (same_upd hp) ⟨p, rfl, SqT.of upd_same⟩⟩
theorem r_slL {a : Addr} {xs : List V} {lo hi : Option Int} (hs : SqL K H a xs) (h : ∀ p H', H p = none → Same H H' → H' p = some (.lst (cutV xs lo hi)) → (∀ q, q ≠ p → H' q = H q) → Q (.ref p) H') : rSlL K (.ref a) lo hi H Q :=
  ⟨a, xs, rfl, hs, fun p hp => h p _ hp (same_upd hp) upd_same fun _ hne => upd_ne hne⟩
theorem r_catT {a b : Addr} {xs ys : List V} (ha : SqT K H a xs) (hb : SqT K H b ys) (hn : xs.length + ys.length ≤ sizeLine) (h : ∀ v H', Same H H' → IsT K H' v (xs ++ ys) → Q v H') : rCatA K (.ref a) (.ref b) H Q :=
  ⟨a, b, xs, ys, rfl, rfl, ha, hb, hn, fun e => h _ _ (Same.refl H) ⟨b, rfl, by rw [e, List.nil_append]; exact hb⟩, fun _ e => h _ _ (Same.refl H) ⟨a, rfl, by rw [e, List.append_nil]; exact ha⟩,
    fun _ _ p hp => h _ _ (same_upd hp) ⟨p, rfl, SqT.of upd_same⟩⟩
theorem cutV_to (xs : List V) (i : Nat) : cutV xs none (some (i : Int)) = xs.take i := by
  unfold cutV
  rw [HT.sIx_none, HT.sIx_nat, List.drop_zero, Nat.sub_zero]
  by_cases h : i ≤ xs.length
  · rw [Nat.min_eq_left h]
  · rw [Nat.min_eq_right (by omega), List.take_length, List.take_of_length_le (by omega)]
theorem cutV_from (xs : List V) (i : Nat) : cutV xs (some (i : Int)) none = xs.drop i := by
  unfold cutV
  rw [HT.sIx_none, HT.sIx_nat]
  by_cases h : i ≤ xs.length
  · rw [Nat.min_eq_left h]
    exact List.take_of_length_le (by rw [List.length_drop]; exact Nat.le_refl _)
  · rw [Nat.min_eq_right (by omega), Nat.sub_self, List.take_zero, List.drop_eq_nil_of_le (by omega)]
theorem r_rep {l : Addr} {k : Int} {xs : List V} (h : H l = some (.lst xs)) (h1 : -(2 ^ 63) ≤ k) (h2 : k < 2 ^ 63) (h3 : xs.length * k.toNat ≤ sizeLine)
    (q : ∀ p H', H p = none → Same H H' → H' p = some (.lst (List.replicate k.toNat xs).flatten) → (∀ q, q ≠ p → H' q = H q) → Q (.ref p) H') : rRep (.ref l) (.int k) H Q :=
  ⟨l, k, xs, rfl, rfl, h, h1, h2, h3, fun p hp => q p _ hp (same_upd hp) upd_same fun _ hne => upd_ne hne⟩
def rgV3 (a c : Int) (n : Nat) : List V := (List.range n).map fun i => V.int (a + (i : Nat) * c)
def lst3 (Q : VK) : List V → Hp → Prop := fun vs H1 => ∃ (i j c : Int) (n : Nat), vs = [.int i, .int j, .int c] ∧ RgC i j c n ∧ n ≤ 2 ^ 24 ∧ ∀ q, H1 q = none → Q (.ref q) (upd H1 q (.lst (rgV3 i c n)))
def tLst3 (ta : TA) : TE := fun σ H Q => ta σ H (lst3 Q)
theorem r_lst3 {ta : TA} (h : ta σ H (lst3 Q)) : tLst3 ta σ H Q := h
theorem r_lst3K {i j c : Int} {n : Nat} (hc : RgC i j c n) (hn : n ≤ 2 ^ 24) (h : ∀ p H', H p = none → Same H H' → H' p = some (.lst (rgV3 i c n)) → (∀ q, q ≠ p → H' q = H q) → Q (.ref p) H') : lst3 Q [.int i, .int j, .int c] H :=
  ⟨i, j, c, n, rfl, hc, hn, fun p hp => h p _ hp (same_upd hp) upd_same fun _ hne => upd_ne hne⟩
theorem vals_rg3 {a c : Int} {n : Nat} {acc : Array Value} (h : ItemsOf (fun i v => ∃ t, v = .int (a + i * c) t) acc n) : Vals (rgV3 a c n) acc.toList := by
  have e : acc.toList.length = n := by rw [Array.length_toList]; exact h.1
  unfold rgV3
  rw [← e]
  refine vals_of_get acc.toList _ fun j u hj => ?_
  obtain ⟨t, rfl⟩ := h.2 j u (by rw [← hj, Array.getElem?_toList])
  exact ⟨t, rfl⟩
theorem pe_list3 {X : Cx} {a b c : Expr} {ta : TA} {p pos p2 pos2 : Pos} (hc : X.calm = true) (hgl : Gl X "list") (hml : X.mg "list" = none) (hg : Gl X "range") (hm : X.mg "range" = none) (ha : PA X [a, b, c] ta)
    (hs : starEach [a, b, c] X.env = (false, eval a X.env) :: starEach [b, c] X.env := by rfl) (hpl : (backTo pos2 (starEach [b, c] X.env)).any (·.1) = false := by rfl)
    (na : starEach [.Call (.Name "range" p2) [a, b, c] [] pos2] X.env = (false, eval (.Call (.Name "range" p2) [a, b, c] [] pos2) X.env) :: starEach [] X.env := by rfl) :
    PE X (.Call (.Name "list" p) [.Call (.Name "range" p2) [a, b, c] [] pos2] [] pos) (tLst3 ta) := by
  refine ⟨fun pins s σ H Q I h => ?_⟩
  refine Call_ (ld_blt I hgl hml boot_list (PyProof.Rows.callWith_type1 (args_cons (Q := fun us s' => wpAny _ _ (call (.type "list") us) _ _ s') (thn (Q := fun x s1 => ∃ r i j k n t u v H1, x = .ref r ∧ IsRange s1.heap r i j k t u v ∧ Inv X pins σ H1 s1 ∧ RgC i j k n ∧ n ≤ 2 ^ 24 ∧ ∀ q, H1 q = none → Q (.ref q) (upd H1 q (.lst (rgV3 i k n)))) ?_ fun x s1 ⟨r, i, j, k, n, t, u, v, H1, ex, hr, I1, ok, hn, q⟩ => args_nil ?_) na) na))
  · refine Call_ (ld_blt I hg hm boot_range (PyProof.Rows.callWith_type1 (thn (ha.run pos2 pins s σ H _ I h) fun us s1 ⟨vs, H1, I1, r1, q1⟩ => ?_) hs hpl))
    obtain ⟨i, j, k, n, e, ok, hn, q⟩ := q1
    subst e
    cases r1 with
    | cons r rr =>
      cases rr with
      | cons r' rr =>
        cases rr with
        | cons r'' rr =>
          cases rr
          obtain ⟨t, rfl⟩ := r
          obtain ⟨t', rfl⟩ := r'
          obtain ⟨t'', rfl⟩ := r''
          refine call_range_3 ok.1 ?_ (.inl (PyProof.noPylong_small ok.2.1))
          exact ⟨_, i, j, k, n, _, _, _, H1, rfl, IsRange.new .., I1.kept (t' := s1.toks) fun b o e => Heap.get?_push_of_some _ e, ok, hn, q⟩
  · subst ex
    refine call_list_range (n := n) (I1.ok.hd hc) hr ok.2.2.1 ok.2.2.2 hn fun h' tk acc c' hk e' hi => ?_
    refine ⟨.ref s1.heap.objs.size, upd H1 s1.heap.objs.size (.lst (rgV3 i k n)), I1.laid hk (Nat.le_refl _) (show ObjOk X.prog X.w _ _ _ (.lst (rgV3 i k n)) from ⟨?_, acc.toList, c', vals_rg3 hi, ?_⟩), rfl, q _ (I1.hok.fresh (Nat.le_refl _))⟩
    · unfold rgV3
      rw [List.length_map, List.length_range, sizeLine_eq]
      exact hn
    · rw [Array.toArray_toList]
      exact e'
theorem r_gSub {to ti : TE} {t : TSet} {v : V} {R : L2.St → Hp → Prop} (h : to σ H fun o H1 => ti σ H1 fun i H2 => t o i v H2 fun H3 => R σ H3) : gSub to ti t v σ H R := h
theorem r_setL {p : Addr} {xs : List V} {k : Int} {i : Nat} {v : V} {R : Hp → Prop} (h : H p = some (.lst xs)) (e : ixN xs.length k = some i) (q : R (upd H p (.lst (xs.set i v)))) : rSetL (.ref p) (.int k) v H R := ⟨p, xs, k, i, rfl, rfl, h, e, q⟩
/-! ### a heap without one object that changes -/
def hide (p : Addr) (H : Hp) : Hp := fun b => if b = p then none else H b
theorem hide_at {p : Addr} {H : Hp} : hide p H p = none := if_pos rfl
theorem hide_ne {p b : Addr} {H : Hp} (h : b ≠ p) : hide p H b = H b := if_neg h
theorem hide_same {p : Addr} {H : Hp} : Same (hide p H) H := fun b o e => by
  by_cases h : b = p
  · rw [h, hide_at] at e
    cases e
  · rwa [hide_ne h] at e
/-- all but the object at p stands -/
def SX (p : Addr) (H H' : Hp) : Prop := Same (hide p H) (hide p H')
theorem SX.refl {p : Addr} {H : Hp} : SX p H H := Same.refl _
theorem SX.trans {p : Addr} {H H1 H2 : Hp} (a : SX p H H1) (b : SX p H1 H2) : SX p H H2 := Same.trans a b
theorem SX.of {p : Addr} {H H' : Hp} (s : Same H H') : SX p H H' := fun b o e => by
  by_cases h : b = p
  · rw [h, hide_at] at e
    cases e
  · rw [hide_ne h] at e ⊢
    exact s _ _ e
theorem SX.trans' {p : Addr} {H H1 : Hp} {H2 : Hp} (a : SX p H H1) (b : Same (hide p H1) H2) : Same (hide p H) H2 := Same.trans (show Same _ _ from a) b
theorem SX.at {p b : Addr} {H H' : Hp} {o : HO} (s : SX p H H') (hb : b ≠ p) (e : H b = some o) : H' b = some o := by
  have := s b o (by rw [hide_ne hb]; exact e)
  rwa [hide_ne hb] at this
theorem SX.same {p : Addr} {G H H' : Hp} (s : SX p H H') (hG : Same G H) (hp : G p = none) : Same G H' := fun b o e => s.at (ne_of_none e hp) (hG b o e)
theorem SX.to {p : Addr} {H H' : Hp} (s : SX p H H') : Same (hide p H) H' := Same.trans (show Same (hide p H) (hide p H') from s) hide_same
theorem hide_up {p q : Addr} {H' : Hp} {o : HO} (h : H' q = some o) (hq : q ≠ p) : hide p H' q = some o := by rw [hide_ne hq]; exact h
theorem SX.upd {p : Addr} {H : Hp} {o : HO} : SX p H (upd H p o) := fun b u e => by
  by_cases h : b = p
  · rw [h, hide_at] at e
    cases e
  · rw [hide_ne h] at e ⊢
    rw [upd_ne h]
    exact e
/-- the source of draws: a cell that is not negative, and a small number -/
def Src (H : Hp) (p : Addr) : Prop := ∃ c s : Int, H p = some (.lst [.int c, .int s]) ∧ 0 ≤ c ∧ 0 ≤ s ∧ s < 4294967296
theorem Src.some {H : Hp} {p : Addr} (h : Src H p) : ∃ o, H p = some o := let ⟨_, _, e, _⟩ := h; ⟨_, e⟩
theorem Src.same {H H' : Hp} {p : Addr} (h : Src H p) (s : Same H H') : Src H' p := let ⟨c, z, e, r⟩ := h; ⟨c, z, s _ _ e, r⟩
theorem Src.ne {H : Hp} {p q : Addr} (h : Src H p) (hq : H q = none) : q ≠ p := fun e => by
  obtain ⟨o, h⟩ := h.some
  rw [← e, hq] at h
  cases h
/-! ### what never changes: tuples and locked things -/
def imm : HO → Bool
  | .tup _ => true
  | .frz _ _ => true
  | _ => false
/-- all that never changes stands -/
def ST (H H' : Hp) : Prop := ∀ b o, H b = some o → imm o = true → H' b = some o
theorem ST.refl {H : Hp} : ST H H := fun _ _ e _ => e
theorem ST.trans {H H1 H2 : Hp} (a : ST H H1) (b : ST H1 H2) : ST H H2 := fun c o e i => b c o (a c o e i) i
theorem Same.st {H H' : Hp} (s : Same H H') : ST H H' := fun b o e _ => s b o e
theorem SX.st {H H' : Hp} {p : Addr} (s : SX p H H') (h : Src H p) : ST H H' := fun b o e i => by
  obtain ⟨c, z, hp, _⟩ := h
  refine s.at (fun q => ?_) e
  rw [q, hp] at e
  cases e
  cases i
theorem ST.ofUpd {H H' : Hp} {D : Addr} {ys : List V} (hD : H D = some (.lst ys)) (hf : ∀ q, q ≠ D → H' q = H q) : ST H H' := fun b o e i => by
  rw [hf b (fun q => by rw [q, hD] at e; cases e; cases i)]
  exact e
theorem ST.sqT {H H' : Hp} {a : Addr} {xs : List V} (e : ST H H') (h : SqT K H a xs) : SqT K H' a xs := by
  rcases h with (h | ⟨o, h⟩) | h
  · exact .inl (.inl (e _ _ h rfl))
  · exact .inl (.inr ⟨o, e _ _ h rfl⟩)
  · exact .inr h
end
/-! ### join -/
def rJoin (K : PySem.W.Frag) : V → List V → Hp → VK → Prop := fun x xs H Q => ∃ a p, ∃ ys : List Str, x = .str a ∧ xs = [.ref p] ∧ (SqL K H p (ys.map V.str) ∨ SqT K H p (ys.map V.str)) ∧ (ys.map (·.length)).sum + ys.length * a.length ≤ 16777216 ∧ Q (.str (Txt.join a ys)) H
theorem p_join {X : Cx} {o e : Expr} {to te : TE} {apos pos : Pos} (ho : PE X o to) (he : PE X e te) (hs : starEach [e] X.env = [(false, eval e X.env)] := by rfl) (hbase : attributeBase o "join" X.env (eval o X.env) = eval o X.env := by rfl) (hline : (apos.endLine == pos.line) = true := by rfl) :
    PE X (.Call (.Attribute o "join" apos) [e] [] pos) (tM1 (rJoin X.K) to te) := pe_join ho he hs hbase hline
section
variable {K : PySem.W.Frag} {σ : L2.St} {H : Hp} {Q : VK} {D : Ends}
def m1K (r : V → List V → Hp → VK → Prop) (te : TE) (σ : L2.St) (Q : VK) : VK := fun x H1 => (∃ a, x = .str a) ∧ te σ H1 fun y H2 => r x [y] H2 Q
theorem r_m1 {r : V → List V → Hp → VK → Prop} {to te : TE} (h : to σ H (m1K r te σ Q)) : tM1 r to te σ H Q := h
theorem r_m1K {r : V → List V → Hp → VK → Prop} {te : TE} {a : Str} (h : te σ H fun y H2 => r (.str a) [y] H2 Q) : m1K r te σ Q (.str a) H := ⟨⟨a, rfl⟩, h⟩
theorem r_joinL {a : Str} {p : Addr} {ys : List Str} (hs : SqL K H p (ys.map V.str)) (hz : (ys.map (·.length)).sum + ys.length * a.length ≤ 16777216) (h : Q (.str (Txt.join a ys)) H) : rJoin K (.str a) [.ref p] H Q := ⟨a, p, ys, rfl, rfl, .inl hs, hz, h⟩
theorem r_joinT {a : Str} {p : Addr} {ys : List Str} (hs : SqT K H p (ys.map V.str)) (hz : (ys.map (·.length)).sum + ys.length * a.length ≤ 16777216) (h : Q (.str (Txt.join a ys)) H) : rJoin K (.str a) [.ref p] H Q := ⟨a, p, ys, rfl, rfl, .inr hs, hz, h⟩
theorem r_catL {l b : Addr} {xs zs : List V} (hl : H l = some (.lst xs)) (hb : H b = some (.lst zs)) (hn : xs.length + zs.length ≤ sizeLine)
    (h : ∀ p H', H p = none → Same H H' → H' p = some (.lst (xs ++ zs)) → (∀ q, q ≠ p → H' q = H q) → Q (.ref p) H') : rCat (.ref l) (.ref b) H Q :=
  ⟨l, b, xs, zs, rfl, rfl, hl, hb, hn, fun p hp => h p _ hp (same_upd hp) upd_same fun _ hne => upd_ne hne⟩
theorem r_listT {p : Addr} {ys : List V} (hs : SqT K H p ys) (h : ∀ p H', H p = none → Same H H' → H' p = some (.lst ys) → (∀ q, q ≠ p → H' q = H q) → Q (.ref p) H') : rListOf K [.ref p] H Q := ⟨p, ys, rfl, .inr hs, fun p hp => h p _ hp (same_upd hp) upd_same fun _ hne => upd_ne hne⟩
theorem r_eqD {x y : V} {d e : PyData} (h1 : Dp K H x d) (h2 : Dp K H y e) (s1 : SeqAt.shaped d = true) (s2 : SeqAt.shaped e = true) (q : Q (.bl (PyData.eqv d e)) H) : rEqD K x y H Q := ⟨d, e, h1, h2, s1, s2, q⟩
theorem r_neD {x y : V} {d e : PyData} (h1 : Dp K H x d) (h2 : Dp K H y e) (s1 : SeqAt.shaped d = true) (s2 : SeqAt.shaped e = true) (q : Q (.bl (!PyData.eqv d e)) H) : rNeD K x y H Q := ⟨d, e, h1, h2, s1, s2, q⟩
/-- an int or a bool, plus an int -/
def numV : V → Option Int
  | .int i => some i
  | .bl b => some (if b = true then (1 : Int) else 0)
  | _ => none
def rAddN : R2 := fun x y H Q => ∃ i j, numV x = some i ∧ y = .int j ∧ Q (.int (i + j)) H
end
theorem o_addN {X : Cx} : OpR X (binaryOp .Add) rAddN := by
  intro pins s σ H x y v u Q I rx ry h
  obtain ⟨i, j, hi, rfl, q⟩ := h
  obtain ⟨t', rfl⟩ := ry
  cases x with
  | int k =>
    cases hi
    obtain ⟨t, rfl⟩ := rx
    exact add_int ⟨.int _, H, I.tok _, ⟨_, rfl⟩, q⟩
  | bl k =>
    cases hi
    cases rx
    exact PySem.IntBool.add_bool_int ⟨.int ((if k = true then (1 : Int) else 0) + j), H, I.tok _, ⟨_, rfl⟩, q⟩
  | _ => cases hi
section
variable {K : PySem.W.Frag} {σ : L2.St} {H : Hp} {Q : VK} {D : Ends}
theorem SqT.hide {p a : Addr} {xs : List V} (hp : Src H p) (h : SqT K H a xs) : SqT K (hide p H) a xs := by
  obtain ⟨c, z, e, _⟩ := hp
  rcases h with (h | ⟨o, h⟩) | h
  · exact .inl (.inl (hide_up h (fun q => by rw [q, e] at h; cases h)))
  · exact .inl (.inr ⟨o, hide_up h (fun q => by rw [q, e] at h; cases h)⟩)
  · exact .inr h
theorem IsT.hide {p : Addr} {v : V} {xs : List V} (hp : Src H p) (h : IsT K H v xs) : IsT K (Dt.hide p H) v xs := by
  obtain ⟨a, e, h⟩ := h
  exact ⟨a, e, SqT.hide hp h⟩
theorem r_cb2 {R : List V → Hp → Prop} (h : R [] H) : R [] H := h
end
end Dt
namespace Dt
open PySem PySem.Spec PyProof.Rows L2
/-! ### walkers and scripts -/
inductive Deed where | op | sh | tu
  deriving DecidableEq
structure Wk where
  left : Bool
  deed : Deed
  first : Int
  step : Int
  many : Option Int
  deriving DecidableEq
structure Wk.Ok (w : Wk) : Prop where
  f0 : 0 ≤ w.first
  f5 : w.first ≤ 5
  s1 : 1 ≤ w.step
  s6 : w.step ≤ 6
  m : ∀ m, w.many = some m → 1 ≤ m ∧ m ≤ 9
abbrev Scr := List Wk
structure ScrOk (s : Scr) : Prop where
  len : s.length ≤ 8
  ok : ∀ w ∈ s, w.Ok
def endS (l : Bool) : Str := if l then "left" else "right"
def Deed.s : Deed → Str
  | .op => "open"
  | .sh => "shut"
  | .tu => "turn"
def Deed.pr : Deed → Bool × Bool
  | .op => (true, true)
  | .sh => (false, false)
  | .tu => (true, false)
def manyV : Option Int → V
  | none => .non
  | some m => .int m
def Wk.vs (w : Wk) : List V := [.str (endS w.left), .str w.deed.s, .int w.first, .int w.step, manyV w.many]
def far (w : Wk) (n door : Int) : Int := (if w.left then door else n - 1 - door) - w.first
def manyOk (w : Wk) (f : Int) : Bool := match w.many with
  | none => true
  | some m => decide (f / w.step < m)
def comesTo (w : Wk) (n door : Int) : Bool := decide (0 ≤ far w n door) && (decide (far w n door % w.step = 0) && manyOk w (far w n door))
def then_ (a b : Bool × Bool) : Bool × Bool := (if a.1 then b.2 else b.1, if a.2 then b.2 else b.1)
def stepTo (n door : Int) (f : Bool × Bool) (w : Wk) : Bool × Bool := if comesTo w n door then then_ f w.deed.pr else f
def doneTo (s : Scr) (n door : Int) : Bool × Bool := s.foldl (stepTo n door) (false, true)
def openSo (s : Scr) (n door : Int) : Bool := (doneTo s n door).1
def perStep (f : Int) (w : Wk) : Int := f * w.step / (Int.gcd f w.step : Nat)
def periodOf (ss : List Scr) : Int := ss.flatten.foldl perStep 1
def edgeStep (f : Int) (w : Wk) : Int := max f (w.first + match w.many with | none => 0 | some m => w.step * m)
def reachOf (ss : List Scr) : Int := ss.flatten.foldl edgeStep 0
def edgeOf (ss : List Scr) : Int := (reachOf ss / periodOf ss + 1) * periodOf ss
section
variable (K : PySem.W.Frag) (H : Hp)
def IsWk (v : V) (w : Wk) : Prop := ∃ a, v = .ref a ∧ SqT K H a w.vs
def IsScr (v : V) (s : Scr) : Prop := ∃ a vs, v = .ref a ∧ SqT K H a vs ∧ Paired (IsWk K H) vs s
def IsScrs (v : V) (ss : List Scr) : Prop := ∃ a vs, v = .ref a ∧ SqT K H a vs ∧ Paired (IsScr K H) vs ss
def IsPr (v : V) (p : Bool × Bool) : Prop := ∃ a, v = .ref a ∧ SqT K H a [.bl p.1, .bl p.2]
end
section
variable {K : PySem.W.Frag} {H H' : Hp}
theorem IsWk.mono (e : Same H H') {v : V} {w : Wk} : IsWk K H v w → IsWk K H' v w := fun ⟨a, h, q⟩ => ⟨a, h, Same.sqT e q⟩
theorem IsScr.mono (e : Same H H') {v : V} {w : Scr} : IsScr K H v w → IsScr K H' v w := fun ⟨a, vs, h, q, r⟩ => ⟨a, vs, h, Same.sqT e q, Paired.mapP r fun _ _ => IsWk.mono e⟩
theorem IsScrs.mono (e : Same H H') {v : V} {w : List Scr} : IsScrs K H v w → IsScrs K H' v w := fun ⟨a, vs, h, q, r⟩ => ⟨a, vs, h, Same.sqT e q, Paired.mapP r fun _ _ => IsScr.mono e⟩
theorem IsPr.mono (e : Same H H') {v : V} {w : Bool × Bool} : IsPr K H v w → IsPr K H' v w := fun ⟨a, h, q⟩ => ⟨a, h, Same.sqT e q⟩
theorem IsWk.st (e : ST H H') {v : V} {w : Wk} : IsWk K H v w → IsWk K H' v w := fun ⟨a, h, q⟩ => ⟨a, h, e.sqT q⟩
theorem IsScr.st (e : ST H H') {v : V} {w : Scr} : IsScr K H v w → IsScr K H' v w := fun ⟨a, vs, h, q, r⟩ => ⟨a, vs, h, e.sqT q, Paired.mapP r fun _ _ => IsWk.st e⟩
theorem IsScrs.st (e : ST H H') {v : V} {w : List Scr} : IsScrs K H v w → IsScrs K H' v w := fun ⟨a, vs, h, q, r⟩ => ⟨a, vs, h, e.sqT q, Paired.mapP r fun _ _ => IsScr.st e⟩
theorem IsPr.st (e : ST H H') {v : V} {w : Bool × Bool} : IsPr K H v w → IsPr K H' v w := fun ⟨a, h, q⟩ => ⟨a, h, e.sqT q⟩
theorem paired_get {α β : Type} {F : α → β → Prop} : ∀ {xs : List α} {ys : List β} {i : Nat} {x : α}, Paired F xs ys → xs[i]? = some x → ∃ y, ys[i]? = some y ∧ F x y
  | _, _, _, _, .nil, e => by simp at e
  | _, _, 0, _, .cons r _, e => by simp at e; subst e; exact ⟨_, rfl, r⟩
  | _, _, i + 1, x, .cons _ t, e => by
    obtain ⟨u, h1, h2⟩ := paired_get (i := i) (x := x) t (by simpa using e)
    exact ⟨u, by simpa using h1, h2⟩
theorem paired_get' {α β : Type} {F : α → β → Prop} : ∀ {xs : List α} {ys : List β} {i : Nat} {y : β}, Paired F xs ys → ys[i]? = some y → ∃ x, xs[i]? = some x ∧ F x y
  | _, _, _, _, .nil, e => by simp at e
  | _, _, 0, _, .cons r _, e => by simp at e; subst e; exact ⟨_, rfl, r⟩
  | _, _, i + 1, x, .cons _ t, e => by
    obtain ⟨u, h1, h2⟩ := paired_get' (i := i) (y := x) t (by simpa using e)
    exact ⟨u, by simpa using h1, h2⟩
theorem paired_len {α β : Type} {F : α → β → Prop} {xs : List α} {ys : List β} (h : Paired F xs ys) : xs.length = ys.length := Paired.length h
theorem paired_take {α β : Type} {F : α → β → Prop} : ∀ {xs : List α} {ys : List β} (n : Nat), Paired F xs ys → Paired F (xs.take n) (ys.take n)
  | _, _, 0, _ => .nil
  | _, _, _ + 1, .nil => .nil
  | _, _, n + 1, .cons r t => .cons r (paired_take n t)
theorem paired_drop {α β : Type} {F : α → β → Prop} : ∀ {xs : List α} {ys : List β} (n : Nat), Paired F xs ys → Paired F (xs.drop n) (ys.drop n)
  | _, _, 0, r => r
  | _, _, _ + 1, .nil => .nil
  | _, _, n + 1, .cons _ t => paired_drop n t
theorem paired_app {α β : Type} {F : α → β → Prop} : ∀ {xs xs' : List α} {ys ys' : List β}, Paired F xs ys → Paired F xs' ys' → Paired F (xs ++ xs') (ys ++ ys')
  | _, _, _, _, .nil, r => r
  | _, _, _, _, .cons r t, q => .cons r (paired_app t q)
theorem take_more {α : Type} : ∀ {l : List α} {i : Nat} {x : α}, l[i]? = some x → l.take (i + 1) = l.take i ++ [x]
  | [], i, x, h => by simp at h
  | a :: l, 0, x, h => by
    have e : a = x := Option.some.inj h
    subst e
    rfl
  | a :: l, i + 1, x, h => by
    have ih := take_more (l := l) (i := i) (x := x) h
    show a :: l.take (i + 1) = a :: l.take i ++ [x]
    rw [ih]
    rfl
theorem foldl_more {α β : Type} {f : β → α → β} {b : β} {l : List α} {i : Nat} {x : α} (h : l[i]? = some x) : (l.take (i + 1)).foldl f b = f ((l.take i).foldl f b) x := by
  rw [take_more h, List.foldl_append]
  rfl
theorem gcd_turn {x y : Int} (hx : 0 ≤ x) (hy : 0 ≤ y) : Int.gcd y (x % y) = Int.gcd x y := by
  obtain ⟨m, rfl⟩ := Int.eq_ofNat_of_zero_le hx
  obtain ⟨n, rfl⟩ := Int.eq_ofNat_of_zero_le hy
  rw [← Int.natCast_emod]
  show Nat.gcd n (m % n) = Nat.gcd m n
  rw [Nat.gcd_comm n, ← Nat.gcd_rec, Nat.gcd_comm]
theorem small_line {n : Nat} (h : n ≤ 10000000) : n ≤ sizeLine := Nat.le_trans h (by decide)
theorem small_lt {n : Nat} (h : n ≤ 10000000) : n < sizeLine := Nat.lt_of_le_of_lt h (by decide)
theorem getI {σ : L2.St} {i : Nat} {v : V} (h : σ[i]? = some (some v)) : σ[i]? = some (some v) := h
/-! ### periods -/
def PerOk (f : Int) : Prop := 1 ≤ f ∧ f ≤ 60 ∧ f ∣ 60
theorem per_one : PerOk 1 := ⟨by decide, by decide, by decide⟩
theorem per_all : ∀ f : Fin 61, ∀ s : Fin 7, 1 ≤ f.val → f.val ∣ 60 → 1 ≤ s.val → 1 ≤ f.val * s.val / Nat.gcd f.val s.val ∧ f.val * s.val / Nat.gcd f.val s.val ≤ 60 ∧ f.val * s.val / Nat.gcd f.val s.val ∣ 60 ∧ f.val ∣ f.val * s.val / Nat.gcd f.val s.val ∧ s.val ∣ f.val * s.val / Nat.gcd f.val s.val := by decide +kernel
theorem perStep_nat (f s : Nat) (w : Wk) (h : w.step = (s : Int)) : perStep (f : Int) w = ((f * s / Nat.gcd f s : Nat) : Int) := by
  unfold perStep
  rw [h, Int.natCast_ediv, Int.natCast_mul]
  rfl
theorem perStep_all {f : Int} {w : Wk} (h : PerOk f) (ok : w.Ok) : PerOk (perStep f w) ∧ f ∣ perStep f w ∧ w.step ∣ perStep f w := by
  obtain ⟨h1, h2, h3⟩ := h
  obtain ⟨m, rfl⟩ := Int.eq_ofNat_of_zero_le (show 0 ≤ f by omega)
  have s1 := ok.s1
  have s6 := ok.s6
  obtain ⟨s, hs⟩ := Int.eq_ofNat_of_zero_le (show 0 ≤ w.step by omega)
  rw [perStep_nat m s w hs]
  have q := per_all ⟨m, by omega⟩ ⟨s, by omega⟩ (by show 1 ≤ m; omega) (by exact Int.natCast_dvd_natCast.mp h3) (by show 1 ≤ s; omega)
  obtain ⟨q1, q2, q3, q4, q5⟩ := q
  refine ⟨⟨?_, ?_, Int.natCast_dvd_natCast.mpr q3⟩, Int.natCast_dvd_natCast.mpr q4, ?_⟩
  · exact Int.ofNat_le.mpr q1
  · exact Int.ofNat_le.mpr q2
  · rw [hs]
    exact Int.natCast_dvd_natCast.mpr q5
theorem per_fold : ∀ (l : Scr), (∀ w ∈ l, w.Ok) → ∀ {f : Int}, PerOk f → PerOk (l.foldl perStep f)
  | [], _, _, h => h
  | w :: r, ok, _, h => per_fold r (fun x hx => ok x (List.mem_cons_of_mem _ hx)) (perStep_all h (ok w List.mem_cons_self)).1
theorem gcd_pos {a b : Int} (h : 1 ≤ b) : (1 : Int) ≤ (Int.gcd a b : Nat) := by
  have : 0 < Int.gcd a b := Nat.pos_of_ne_zero fun z => by
    have := (Int.gcd_eq_zero_iff.mp z).2
    omega
  omega
theorem gcd_le {a b : Int} (h : 1 ≤ b) : ((Int.gcd a b : Nat) : Int) ≤ b := Int.le_of_dvd (by omega) (Int.gcd_dvd_right ..)
end
theorem IsWk.out {K : PySem.W.Frag} {H : Hp} {v : V} {w : Wk} (h : IsWk K H v w) : ∃ a, v = .ref a ∧ SqT K H a [.str (endS w.left), .str w.deed.s, .int w.first, .int w.step, manyV w.many] := h
theorem end_left (l : Bool) : decide (V.str (endS l) = V.str "left") = l := by cases l <;> decide +kernel
theorem many_non (m : Option Int) : decide (manyV m = .non) = m.isNone := by cases m <;> rfl
/-! ### data -/
def tyN : PyData → String
  | .none => "NoneType"
  | .bool _ => "bool"
  | .int _ => "int"
  | .str _ => "str"
  | .list _ => "list"
  | .tuple _ => "tuple"
  | .dict _ => "dict"
section
variable {K : PySem.W.Frag} {H H' : Hp} {Q : VK}
theorem sqT_ty {a : Addr} {xs : List V} (h : SqT K H a xs) : TyX K H (.ref a) (.type "tuple") := by
  rcases h with (h | ⟨o, h⟩) | ⟨o, _, _, h, c, _⟩
  · exact .base (.tup h)
  · exact .fTuple h
  · exact .kTuple h c
theorem sqL_ty {a : Addr} {xs : List V} (h : SqL K H a xs) : TyX K H (.ref a) (.type "list") := by
  rcases h with (h | ⟨o, h⟩) | ⟨o, _, _, h, c, _⟩
  · exact .base (.lst h)
  · exact .base (.frz h)
  · exact .kList h c
theorem Dp.ty {x : V} {d : PyData} (h : Dp K H x d) : TyX K H x (.type (tyN d)) := by
  cases h with
  | non => exact .base .non
  | bl b => exact .base (.bl b)
  | int i => exact .base (.int i)
  | str s => exact .base (.str s)
  | lst h _ => exact sqL_ty h
  | tup h _ => exact sqT_ty h
theorem r_isi {x : V} {t : Value} {n : String} {b : Bool} (ty : TyX K H x t) (e : PySem.W.kitOne K t (.type n) = some b) (h : Q (.bl b) H) : rIsi K [x, .ty n] H Q := ⟨x, .ty n, t, .type n, b, rfl, .ty n, ty, e, h⟩
theorem Dp.isi {x : V} {d : PyData} {n : String} {b : Bool} (hd : Dp K H x d) (e : kitB (tyN d) n = some b) (h : Q (.bl b) H) : rIsi K [x, .ty n] H Q := r_isi (Dp.ty hd) (kit_ty e) h
end
theorem kk_NoneType_int : kitB "NoneType" "int" = some false := by decide +kernel
theorem kk_NoneType_bool : kitB "NoneType" "bool" = some false := by decide +kernel
theorem kk_NoneType_str : kitB "NoneType" "str" = some false := by decide +kernel
theorem kk_NoneType_tuple : kitB "NoneType" "tuple" = some false := by decide +kernel
theorem kk_NoneType_list : kitB "NoneType" "list" = some false := by decide +kernel
theorem kk_bool_int : kitB "bool" "int" = some true := by decide +kernel
theorem kk_bool_bool : kitB "bool" "bool" = some true := by decide +kernel
theorem kk_bool_str : kitB "bool" "str" = some false := by decide +kernel
theorem kk_bool_tuple : kitB "bool" "tuple" = some false := by decide +kernel
theorem kk_bool_list : kitB "bool" "list" = some false := by decide +kernel
theorem kk_int_int : kitB "int" "int" = some true := by decide +kernel
theorem kk_int_bool : kitB "int" "bool" = some false := by decide +kernel
theorem kk_int_str : kitB "int" "str" = some false := by decide +kernel
theorem kk_int_tuple : kitB "int" "tuple" = some false := by decide +kernel
theorem kk_int_list : kitB "int" "list" = some false := by decide +kernel
theorem kk_str_int : kitB "str" "int" = some false := by decide +kernel
theorem kk_str_bool : kitB "str" "bool" = some false := by decide +kernel
theorem kk_str_str : kitB "str" "str" = some true := by decide +kernel
theorem kk_str_tuple : kitB "str" "tuple" = some false := by decide +kernel
theorem kk_str_list : kitB "str" "list" = some false := by decide +kernel
theorem kk_list_int : kitB "list" "int" = some false := by decide +kernel
theorem kk_list_bool : kitB "list" "bool" = some false := by decide +kernel
theorem kk_list_str : kitB "list" "str" = some false := by decide +kernel
theorem kk_list_tuple : kitB "list" "tuple" = some false := by decide +kernel
theorem kk_list_list : kitB "list" "list" = some true := by decide +kernel
theorem kk_tuple_int : kitB "tuple" "int" = some false := by decide +kernel
theorem kk_tuple_bool : kitB "tuple" "bool" = some false := by decide +kernel
theorem kk_tuple_str : kitB "tuple" "str" = some false := by decide +kernel
theorem kk_tuple_tuple : kitB "tuple" "tuple" = some true := by decide +kernel
theorem kk_tuple_list : kitB "tuple" "list" = some false := by decide +kernel
def isTy (d : PyData) (n : String) : Bool := (kitB (tyN d) n).getD false
def isNumD (d : PyData) (l m : Int) : Bool := match d with
  | .int i => decide (l ≤ i) && decide (i ≤ m)
  | _ => false
def isTupD (d : PyData) (l m : Int) : Bool := match d with
  | .tuple ds => decide (l ≤ (ds.length : Int)) && decide ((ds.length : Int) ≤ m)
  | _ => false
def isWordD (d : PyData) (ws : List Str) : Bool := match d with
  | .str s => ws.contains s
  | _ => false
def manyD : Option Int → PyData
  | none => .none
  | some m => .int m
def goodW (d : PyData) : Bool := match d with
  | .tuple [a, b, c, e, f] => isWordD a ["left", "right"] && (isWordD b ["open", "shut", "turn"] && (isNumD c 0 5 && (isNumD e 1 6 && (match f with | .none => true | _ => isNumD f 1 9))))
  | _ => false
def goodS (d : PyData) : Bool := match d with
  | .tuple ds => decide (ds.length ≤ 8) && ds.all goodW
  | _ => false
def Wk.toD (w : Wk) : PyData := .tuple [.str (endS w.left), .str w.deed.s, .int w.first, .int w.step, manyD w.many]
def toDS (s : Scr) : PyData := .tuple (s.map Wk.toD)
section
variable {K : PySem.W.Frag} {H H' : Hp}
theorem manyDp (m : Option Int) : Dp K H (manyV m) (manyD m) := by
  cases m with
  | none => exact .non
  | some m => exact .int m
theorem IsWk.dp {v : V} {w : Wk} (h : IsWk K H v w) : Dp K H v w.toD := by
  obtain ⟨a, rfl, q⟩ := h
  exact .tup q (.cons (.str _) (.cons (.str _) (.cons (.int _) (.cons (.int _) (.cons (manyDp _) .nil)))))
theorem IsScr.dp {v : V} {s : Scr} (h : IsScr K H v s) : Dp K H v (toDS s) := by
  obtain ⟨a, vs, rfl, q, r⟩ := h
  refine .tup q ?_
  clear q
  induction r with
  | nil => exact .nil
  | cons r _ ih => exact .cons r.dp ih
theorem goodW_of {w : Wk} (h : w.Ok) : goodW w.toD = true := by
  have h1 := h.f0
  have h2 := h.f5
  have h3 := h.s1
  have h4 := h.s6
  have h5 : isNumD (.int w.first) 0 5 = true := by simp [isNumD, h1, h2]
  have h6 : isNumD (.int w.step) 1 6 = true := by simp [isNumD, h3, h4]
  have e1 : isWordD (.str (endS w.left)) ["left", "right"] = true := by
    cases w.left <;> decide +kernel
  have e2 : isWordD (.str w.deed.s) ["open", "shut", "turn"] = true := by
    cases w.deed <;> decide +kernel
  show (isWordD (.str (endS w.left)) ["left", "right"] && (isWordD (.str w.deed.s) ["open", "shut", "turn"] && (isNumD (.int w.first) 0 5 && (isNumD (.int w.step) 1 6 && (match manyD w.many with | .none => true | _ => isNumD (manyD w.many) 1 9))))) = true
  rw [e1, e2, h5, h6]
  cases e : w.many with
  | none => rfl
  | some m =>
    obtain ⟨a, b⟩ := h.m m e
    show isNumD (.int m) 1 9 = true
    simp [isNumD, a, b]
theorem goodS_of {s : Scr} (h : ScrOk s) : goodS (toDS s) = true := by
  have h1 := h.len
  show (decide ((s.map Wk.toD).length ≤ 8) && (s.map Wk.toD).all goodW) = true
  rw [List.length_map, decide_eq_true h1, Bool.true_and, List.all_eq_true]
  intro d hd
  obtain ⟨w, hw, rfl⟩ := List.mem_map.mp hd
  exact goodW_of (h.ok w hw)
end
theorem tup5 (d : PyData) : isTupD d 5 5 = false ∨ ∃ a b c e f, d = .tuple [a, b, c, e, f] := by
  cases d with
  | tuple ds =>
    match ds with
    | [a, b, c, e, f] => exact .inr ⟨a, b, c, e, f, rfl⟩
    | [] => exact .inl rfl
    | [_] => exact .inl rfl
    | [_, _] => exact .inl rfl
    | [_, _, _] => exact .inl rfl
    | [_, _, _, _] => exact .inl rfl
    | x1 :: x2 :: x3 :: x4 :: x5 :: x6 :: r =>
      have e : ¬ (((x1 :: x2 :: x3 :: x4 :: x5 :: x6 :: r).length : Int) ≤ 5) := by
        simp only [List.length_cons]
        omega
      refine .inl ?_
      simp only [isTupD, decide_eq_false e, Bool.and_false]
  | _ => exact .inl rfl
theorem goodW_no {d : PyData} (h : isTupD d 5 5 = false) : goodW d = false := by
  cases d with
  | tuple ds =>
    match ds, h with
    | [a, b, c, e, f], h => cases h
    | [], _ => rfl
    | [_], _ => rfl
    | [_, _], _ => rfl
    | [_, _, _], _ => rfl
    | [_, _, _, _], _ => rfl
    | _ :: _ :: _ :: _ :: _ :: _ :: r, _ => rfl
  | _ => rfl
/-! ### rows -/
def act : Deed → Bool → Bool
  | .op, _ => true
  | .sh, _ => false
  | .tu, b => !b
def app (p : Bool × Bool) (b : Bool) : Bool := if b then p.2 else p.1
theorem app_pr (d : Deed) (b : Bool) : app d.pr b = act d b := by cases d <;> cases b <;> rfl
theorem app_then (a b : Bool × Bool) (x : Bool) : app (then_ a b) x = app b (app a x) := by
  obtain ⟨a1, a2⟩ := a
  cases x <;> rfl
def actAt (n d : Int) (b : Bool) (w : Wk) : Bool := if comesTo w n d then act w.deed b else b
theorem app_done (n d : Int) : ∀ (s : Scr) (f : Bool × Bool) (b : Bool), app (s.foldl (stepTo n d) f) b = s.foldl (actAt n d) (app f b)
  | [], _, _ => rfl
  | w :: r, f, b => by
    rw [List.foldl_cons, List.foldl_cons, app_done n d r]
    congr 1
    unfold stepTo actAt
    cases comesTo w n d with
    | false => rfl
    | true =>
      show app (then_ f w.deed.pr) b = act w.deed (app f b)
      rw [app_then, app_pr]
theorem openSo_fold (s : Scr) (n d : Int) : openSo s n d = s.foldl (actAt n d) false := app_done n d s (false, true) false
def rowOf (s : Scr) (n : Nat) : List Bool := (List.range n).map fun (d : Nat) => openSo s n d
def walked (bs : List Bool) (w : Wk) : List Bool := bs.mapIdx fun d b => actAt bs.length d b w
theorem walked_len (bs : List Bool) (w : Wk) : (walked bs w).length = bs.length := by unfold walked; rw [List.length_mapIdx]
theorem walked_get {bs : List Bool} {w : Wk} {d : Nat} (h : d < bs.length) : (walked bs w)[d]? = some (actAt bs.length d bs[d] w) := by
  unfold walked
  rw [List.getElem?_mapIdx, List.getElem?_eq_getElem h]
  rfl
theorem fold_len : ∀ (s : Scr) (bs : List Bool), (s.foldl walked bs).length = bs.length
  | [], _ => rfl
  | w :: r, bs => by rw [List.foldl_cons, fold_len r, walked_len]
theorem fold_get (n : Nat) (d : Nat) : ∀ (s : Scr) (bs : List Bool) (b : Bool), bs.length = n → bs[d]? = some b → (s.foldl walked bs)[d]? = some (s.foldl (actAt n d) b)
  | [], _, _, _, h => h
  | w :: r, bs, b, hn, h => by
    rw [List.foldl_cons, List.foldl_cons]
    refine fold_get n d r _ _ (by rw [walked_len, hn]) ?_
    obtain ⟨h1, h2⟩ := List.getElem?_eq_some_iff.mp h
    rw [walked_get h1, h2, hn]
def lawRow (s : Scr) (n : Nat) : List Bool := s.foldl walked (List.replicate n false)
theorem lawRow_eq (s : Scr) (n : Nat) : lawRow s n = rowOf s n := by
  refine List.ext_getElem? fun d => ?_
  by_cases h : d < n
  · have h1 := fold_get n d s (List.replicate n false) false (by rw [List.length_replicate]) (by rw [List.getElem?_replicate, if_pos h])
    show (s.foldl walked (List.replicate n false))[d]? = _
    rw [h1]
    unfold rowOf
    rw [List.getElem?_map, List.getElem?_range h]
    show _ = some (openSo s n d)
    rw [openSo_fold]
  · rw [List.getElem?_eq_none (by unfold lawRow; rw [fold_len, List.length_replicate]; omega), List.getElem?_eq_none (by unfold rowOf; rw [List.length_map, List.length_range]; omega)]
theorem rowOf_len (s : Scr) (n : Nat) : (rowOf s n).length = n := by unfold rowOf; rw [List.length_map, List.length_range]
/-- the doors that a walker comes to, as the law lists them -/
def cutM (m : Option Int) (l : List Int) : List Int := match m with
  | none => l
  | some m => l.take m.toNat
def turnsOf (w : Wk) (n : Int) : Nat := (Builtin.Range.rangeSize w.first n w.step).toNat
def baseD (w : Wk) (n : Int) : List Int := cutM w.many ((List.range (turnsOf w n)).map fun (i : Nat) => w.first + (i : Int) * w.step)
def doorsL (w : Wk) (n : Int) : List Int := if w.left then baseD w n else (baseD w n).map fun d => n - 1 - d
theorem turns_lt {w : Wk} (ok : w.Ok) {n : Int} (i : Nat) : i < turnsOf w n ↔ w.first + (i : Int) * w.step < n := by
  have s1 := ok.s1
  unfold turnsOf Builtin.Range.rangeSize
  rw [if_pos (show w.step > 0 by omega)]
  generalize w.first = f
  generalize w.step = s at s1
  by_cases h : f < n
  · rw [if_pos h]
    have e := Int.mul_ediv_add_emod (n - f - 1) s
    have e1 := Int.emod_nonneg (n - f - 1) (show s ≠ 0 by omega)
    have e2 := Int.emod_lt_of_pos (n - f - 1) (show 0 < s by omega)
    have e3 : 0 ≤ (n - f - 1) / s := Int.ediv_nonneg (by omega) (by omega)
    generalize (n - f - 1) / s = q at e e3
    generalize (n - f - 1) % s = r at e e1 e2
    constructor
    · intro hi
      have h4 : (i : Int) ≤ q := by omega
      have h5 : (i : Int) * s ≤ s * q := by rw [Int.mul_comm s q]; exact Int.mul_le_mul_of_nonneg_right h4 (by omega)
      omega
    · intro hi
      have h4 : (i : Int) < q + 1 := by
        apply Int.lt_of_not_ge
        intro h6
        have h5 : s * (q + 1) ≤ (i : Int) * s := by rw [Int.mul_comm s]; exact Int.mul_le_mul_of_nonneg_right h6 (by omega)
        rw [Int.mul_add, Int.mul_one] at h5
        omega
      omega
  · rw [if_neg h]
    constructor
    · intro hi
      simp at hi
    · intro hi
      have h5 : 0 ≤ (i : Int) * s := Int.mul_nonneg (Int.natCast_nonneg _) (by omega)
      omega
theorem mem_base {w : Wk} (ok : w.Ok) {n e : Int} : e ∈ baseD w n ↔ ∃ i : Nat, e = w.first + (i : Int) * w.step ∧ e < n ∧ ∀ m, w.many = some m → (i : Int) < m := by
  unfold baseD
  cases hm : w.many with
  | none =>
    show e ∈ (List.range (turnsOf w n)).map _ ↔ _
    rw [List.mem_map]
    constructor
    · rintro ⟨i, hi, rfl⟩
      exact ⟨i, rfl, (turns_lt ok i).mp (List.mem_range.mp hi), fun _ z => by cases z⟩
    · rintro ⟨i, rfl, hi, _⟩
      exact ⟨i, List.mem_range.mpr ((turns_lt ok i).mpr hi), rfl⟩
  | some m =>
    show e ∈ ((List.range (turnsOf w n)).map _).take m.toNat ↔ _
    rw [← List.map_take, List.take_range, List.mem_map]
    have m1 := (ok.m m hm).1
    constructor
    · rintro ⟨i, hi, rfl⟩
      have := List.mem_range.mp hi
      exact ⟨i, rfl, (turns_lt ok i).mp (by omega), fun _ z => by cases z; omega⟩
    · rintro ⟨i, rfl, hi, hl⟩
      have h1 := (turns_lt ok i).mpr hi
      have h2 := hl m rfl
      exact ⟨i, List.mem_range.mpr (by omega), rfl⟩
theorem far_iff {w : Wk} (ok : w.Ok) (e : Int) : (∃ i : Nat, e = w.first + (i : Int) * w.step ∧ ∀ m, w.many = some m → (i : Int) < m) ↔ 0 ≤ e - w.first ∧ (e - w.first) % w.step = 0 ∧ manyOk w (e - w.first) = true := by
  have s1 := ok.s1
  constructor
  · rintro ⟨i, rfl, hm⟩
    have e1 : w.first + (i : Int) * w.step - w.first = (i : Int) * w.step := by omega
    rw [e1]
    refine ⟨Int.mul_nonneg (Int.natCast_nonneg _) (by omega), Int.mul_emod_left .., ?_⟩
    unfold manyOk
    cases hq : w.many with
    | none => rfl
    | some m =>
      show decide ((i : Int) * w.step / w.step < m) = true
      rw [Int.mul_ediv_cancel _ (by omega)]
      exact decide_eq_true (hm m hq)
  · rintro ⟨h0, h1, h2⟩
    have e3 := Int.mul_ediv_add_emod (e - w.first) w.step
    rw [h1, Int.add_zero] at e3
    have h3 : 0 ≤ (e - w.first) / w.step := Int.ediv_nonneg h0 (by omega)
    obtain ⟨i, hi⟩ := Int.eq_ofNat_of_zero_le h3
    refine ⟨i, ?_, fun m hm => ?_⟩
    · rw [hi, Int.mul_comm] at e3
      show e = w.first + (i : Int) * w.step
      have : ((i : Nat) : Int) * w.step = e - w.first := e3
      omega
    · unfold manyOk at h2
      rw [hm] at h2
      have := of_decide_eq_true h2
      rw [hi] at this
      exact this
theorem mem_doors {w : Wk} (ok : w.Ok) {n d : Int} : d ∈ doorsL w n ↔ 0 ≤ d ∧ d < n ∧ comesTo w n d = true := by
  have f0 := ok.f0
  have s1 := ok.s1
  have key : ∀ e : Int, e ∈ baseD w n ↔ 0 ≤ e ∧ e < n ∧ (0 ≤ e - w.first ∧ (e - w.first) % w.step = 0 ∧ manyOk w (e - w.first) = true) := fun e => by
    rw [mem_base ok, ← far_iff ok]
    constructor
    · rintro ⟨i, rfl, h1, h2⟩
      have : 0 ≤ (i : Int) * w.step := Int.mul_nonneg (Int.natCast_nonneg _) (by omega)
      exact ⟨by omega, h1, i, rfl, h2⟩
    · rintro ⟨h0, h1, i, e1, h2⟩
      exact ⟨i, e1, h1, h2⟩
  unfold doorsL comesTo far
  cases w.left with
  | true =>
    show d ∈ baseD w n ↔ 0 ≤ d ∧ d < n ∧ (decide (0 ≤ d - w.first) && (decide ((d - w.first) % w.step = 0) && manyOk w (d - w.first))) = true
    rw [key]
    simp only [Bool.and_eq_true, decide_eq_true_eq]
  | false =>
    show d ∈ (baseD w n).map (fun d => n - 1 - d) ↔ 0 ≤ d ∧ d < n ∧ (decide (0 ≤ n - 1 - d - w.first) && (decide ((n - 1 - d - w.first) % w.step = 0) && manyOk w (n - 1 - d - w.first))) = true
    simp only [Bool.and_eq_true, decide_eq_true_eq]
    constructor
    · intro h
      obtain ⟨e, he, rfl⟩ := List.mem_map.mp h
      obtain ⟨h1, h2, h3⟩ := (key e).mp he
      have e2 : n - 1 - (n - 1 - e) = e := by omega
      rw [e2]
      exact ⟨by omega, by omega, h3⟩
    · rintro ⟨h1, h2, h3⟩
      exact List.mem_map.mpr ⟨n - 1 - d, (key _).mpr ⟨by omega, by omega, h3⟩, by omega⟩
theorem nodup_base {w : Wk} (ok : w.Ok) (n : Int) : (baseD w n).Nodup := by
  have s1 := ok.s1
  have h : ((List.range (turnsOf w n)).map fun (i : Nat) => w.first + (i : Int) * w.step).Nodup := by
    refine List.Pairwise.map (R := fun a b : Nat => a ≠ b) _ (fun a b hab e => hab ?_) List.nodup_range
    have : (a : Int) * w.step = (b : Int) * w.step := by omega
    have := Int.eq_of_mul_eq_mul_right (show w.step ≠ 0 by omega) this
    omega
  unfold baseD
  cases w.many with
  | none => exact h
  | some m => exact List.Sublist.nodup (List.take_sublist ..) h
theorem nodup_doors {w : Wk} (ok : w.Ok) (n : Int) : (doorsL w n).Nodup := by
  unfold doorsL
  cases w.left with
  | true => exact nodup_base ok n
  | false =>
    show ((baseD w n).map fun d => n - 1 - d).Nodup
    refine List.Pairwise.map (R := fun a b : Int => a ≠ b) _ (fun a b hab e => hab (by omega)) (nodup_base ok n)
theorem turns_le {w : Wk} (ok : w.Ok) {n : Int} (hn : n ≤ 10000) : turnsOf w n ≤ 10000 := by
  apply Nat.le_of_not_lt
  intro h
  have := (turns_lt ok 10000).mp h
  have s1 := ok.s1
  have f0 := ok.f0
  have : (10000 : Int) * 1 ≤ ((10000 : Nat) : Int) * w.step := Int.mul_le_mul_of_nonneg_left s1 (by decide)
  omega
def upTo (bs : List Bool) (w : Wk) (S : List Int) : List Bool := bs.mapIdx fun d b => if (d : Int) ∈ S then act w.deed b else b
theorem upTo_len (bs : List Bool) (w : Wk) (S : List Int) : (upTo bs w S).length = bs.length := by unfold upTo; rw [List.length_mapIdx]
theorem upTo_get {bs : List Bool} {w : Wk} {S : List Int} {d : Nat} (h : d < bs.length) : (upTo bs w S)[d]? = some (if (d : Int) ∈ S then act w.deed bs[d] else bs[d]) := by
  unfold upTo
  rw [List.getElem?_mapIdx, List.getElem?_eq_getElem h]
  rfl
theorem upTo_snoc {bs : List Bool} {w : Wk} {S : List Int} {d : Nat} (h : d < bs.length) (hn : (d : Int) ∉ S) : (upTo bs w S).set d (act w.deed bs[d]) = upTo bs w (S ++ [(d : Int)]) := by
  refine List.ext_getElem? fun e => ?_
  by_cases he : e < bs.length
  · rw [upTo_get he, List.getElem?_set]
    by_cases q : d = e
    · subst q
      rw [if_pos rfl, if_pos (by rw [upTo_len]; exact h), if_pos (by simp)]
    · rw [if_neg q, upTo_get he]
      have : ((e : Int) ∈ S ++ [(d : Int)]) ↔ (e : Int) ∈ S := by
        rw [List.mem_append, List.mem_singleton]
        constructor
        · rintro (z | z)
          · exact z
          · omega
        · exact .inl
      simp only [this]
  · rw [List.getElem?_eq_none (by rw [List.length_set, upTo_len]; omega), List.getElem?_eq_none (by rw [upTo_len]; omega)]
theorem upTo_nil (bs : List Bool) (w : Wk) : upTo bs w [] = bs := by
  refine List.ext_getElem? fun e => ?_
  by_cases he : e < bs.length
  · rw [upTo_get he, if_neg (by simp), List.getElem?_eq_getElem he]
  · rw [List.getElem?_eq_none (by rw [upTo_len]; omega), List.getElem?_eq_none (by omega)]
theorem upTo_all {bs : List Bool} {w : Wk} (ok : w.Ok) : upTo bs w (doorsL w bs.length) = walked bs w := by
  refine List.ext_getElem? fun e => ?_
  by_cases he : e < bs.length
  · rw [upTo_get he, walked_get he]
    unfold actAt
    congr 1
    by_cases q : comesTo w bs.length e = true
    · rw [if_pos q, if_pos ((mem_doors ok).mpr ⟨by omega, by omega, q⟩)]
    · rw [if_neg q, if_neg (fun z => q ((mem_doors ok).mp z).2.2)]
  · rw [List.getElem?_eq_none (by rw [upTo_len]; omega), List.getElem?_eq_none (by rw [walked_len]; omega)]
def signW (b : Bool) : Str := if b then "o" else "s"
def signsOf (bs : List Bool) : Str := Txt.join "" (bs.map signW)
theorem signs_len (b : Bool) : (signW b).length = 1 := by cases b <;> decide +kernel
theorem signs_sum : ∀ bs : List Bool, ((bs.map signW).map (·.length)).sum = bs.length
  | [] => rfl
  | b :: r => by
    rw [List.map_cons, List.map_cons, List.sum_cons, signs_sum r, signs_len, List.length_cons, Nat.add_comm]
/-! ### the scripts of the document -/
def doc1 : Scr := [⟨true, .op, 0, 2, none⟩]
def doc2 : Scr := doc1 ++ [⟨false, .tu, 0, 3, none⟩]
def doc3 : Scr := [⟨true, .tu, 0, 1, none⟩, ⟨true, .tu, 1, 2, none⟩, ⟨true, .tu, 2, 3, none⟩]
def doc4 : Scr := [⟨true, .op, 0, 1, some 3⟩, ⟨false, .sh, 0, 1, some 2⟩]
def doc5 : Scr := [⟨false, .op, 0, 1, none⟩]
theorem strCase (d : PyData) : (∃ s, d = .str s) ∨ (kitB (tyN d) "str" = some false ∧ ∀ ws, isWordD d ws = false) := by
  cases d with
  | str s => exact .inl ⟨s, rfl⟩
  | none => exact .inr ⟨kk_NoneType_str, fun _ => rfl⟩
  | bool _ => exact .inr ⟨kk_bool_str, fun _ => rfl⟩
  | int _ => exact .inr ⟨kk_int_str, fun _ => rfl⟩
  | list _ => exact .inr ⟨kk_list_str, fun _ => rfl⟩
  | tuple _ => exact .inr ⟨kk_tuple_str, fun _ => rfl⟩
  | dict _ => exact .inr ⟨by show kitB "dict" "str" = _; decide +kernel, fun _ => rfl⟩
theorem tupCase (d : PyData) : (∃ ds, d = .tuple ds) ∨ (kitB (tyN d) "tuple" = some false ∧ goodW d = false ∧ goodS d = false) := by
  cases d with
  | str s => exact .inr ⟨kk_str_tuple, rfl, rfl⟩
  | none => exact .inr ⟨kk_NoneType_tuple, rfl, rfl⟩
  | bool _ => exact .inr ⟨kk_bool_tuple, rfl, rfl⟩
  | int _ => exact .inr ⟨kk_int_tuple, rfl, rfl⟩
  | list _ => exact .inr ⟨kk_list_tuple, rfl, rfl⟩
  | tuple ds => exact .inl ⟨ds, rfl⟩
  | dict _ => exact .inr ⟨by show kitB "dict" "tuple" = _; decide +kernel, rfl, rfl⟩
theorem flat_strs : ∀ ws : List Str, (ws.map V.str).all flatV = true
  | [] => rfl
  | _ :: r => flat_strs r
theorem inV_strs (s : Str) : ∀ ws : List Str, inV (.str s) (ws.map V.str) = ws.contains s
  | [] => rfl
  | z :: r => by
    have ih := inV_strs s r
    show (eqV (.str z) (.str s) || inV (.str s) (r.map V.str)) = (z :: r).contains s
    rw [ih, List.contains_cons]
    have e : eqV (.str z) (.str s) = (s == z) := by
      show (z == s) = (s == z)
      by_cases q : z = s
      · rw [q]
      · rw [beq_eq_false_iff_ne.mpr q, beq_eq_false_iff_ne.mpr (Ne.symm q)]
    rw [e]
theorem dpAll_len {K : PySem.W.Frag} {H : Hp} : ∀ {xs : List V} {ds : List PyData}, DpAll K H xs ds → xs.length = ds.length
  | _, _, .nil => rfl
  | _, _, .cons _ t => congrArg (· + 1) (dpAll_len t)
theorem dpAll_get {K : PySem.W.Frag} {H : Hp} : ∀ {xs : List V} {ds : List PyData} {i : Nat} {x : V}, DpAll K H xs ds → xs[i]? = some x → ∃ d, ds[i]? = some d ∧ Dp K H x d
  | _, _, _, _, .nil, e => by simp at e
  | _, _, 0, _, .cons r _, e => by simp at e; subst e; exact ⟨_, rfl, r⟩
  | _, _, i + 1, x, .cons _ t, e => by
    obtain ⟨u, h1, h2⟩ := dpAll_get (i := i) (x := x) t (by simpa using e)
    exact ⟨u, by simpa using h1, h2⟩
theorem dpAll_get' {K : PySem.W.Frag} {H : Hp} : ∀ {xs : List V} {ds : List PyData} {i : Nat} {d : PyData}, DpAll K H xs ds → ds[i]? = some d → ∃ x, xs[i]? = some x ∧ Dp K H x d
  | _, _, _, _, .nil, e => by simp at e
  | _, _, 0, _, .cons r _, e => by simp at e; subst e; exact ⟨_, rfl, r⟩
  | _, _, i + 1, x, .cons _ t, e => by
    obtain ⟨u, h1, h2⟩ := dpAll_get' (i := i) (d := x) t (by simpa using e)
    exact ⟨u, by simpa using h1, h2⟩
theorem dpAll_app {K : PySem.W.Frag} {H : Hp} : ∀ {xs ys : List V} {ds es : List PyData}, DpAll K H xs ds → DpAll K H ys es → DpAll K H (xs ++ ys) (ds ++ es)
  | _, _, _, _, .nil, r => r
  | _, _, _, _, .cons r t, q => .cons r (dpAll_app t q)
theorem dpAll_take {K : PySem.W.Frag} {H : Hp} : ∀ {xs : List V} {ds : List PyData} (n : Nat), DpAll K H xs ds → DpAll K H (xs.take n) (ds.take n)
  | _, _, 0, _ => .nil
  | _, _, _ + 1, .nil => .nil
  | _, _, n + 1, .cons r t => .cons r (dpAll_take n t)
theorem dpAll_drop {K : PySem.W.Frag} {H : Hp} : ∀ {xs : List V} {ds : List PyData} (n : Nat), DpAll K H xs ds → DpAll K H (xs.drop n) (ds.drop n)
  | _, _, 0, r => r
  | _, _, _ + 1, .nil => .nil
  | _, _, n + 1, .cons _ t => dpAll_drop n t
/-- data of at most k storeys, each of at most L items -/
def Dk (L : Nat) : Nat → PyData → Prop
  | _, .none => True
  | _, .bool _ => True
  | _, .int _ => True
  | _, .str s => PyData.strOk s = true
  | k + 1, .tuple ds => ds.length ≤ L ∧ ∀ d ∈ ds, Dk L k d
  | k + 1, .list ds => ds.length ≤ L ∧ ∀ d ∈ ds, Dk L k d
  | _, _ => False
theorem Dk.mono {L L' : Nat} (hL : L ≤ L') : ∀ {k k' : Nat} {d : PyData}, k ≤ k' → Dk L k d → Dk L' k' d := fun {k} => by
  induction k with
  | zero =>
    intro k' d _ h
    cases d with
    | tuple _ => exact h.elim
    | list _ => exact h.elim
    | dict _ => exact h.elim
    | str s => cases k' <;> exact h
    | none => cases k' <;> exact trivial
    | bool _ => cases k' <;> exact trivial
    | int _ => cases k' <;> exact trivial
  | succ k ih =>
    intro k' d hk h
    obtain ⟨j, rfl⟩ : ∃ j, k' = j + 1 := ⟨k' - 1, by omega⟩
    cases d with
    | tuple ds => exact ⟨Nat.le_trans h.1 hL, fun d hd => ih (by omega) (h.2 d hd)⟩
    | list ds => exact ⟨Nat.le_trans h.1 hL, fun d hd => ih (by omega) (h.2 d hd)⟩
    | dict _ => exact h.elim
    | str s => exact h
    | none => exact trivial
    | bool _ => exact trivial
    | int _ => exact trivial
theorem canLayAll_of : ∀ {ds : List PyData}, (∀ d ∈ ds, d.canLay0 = true) → PyData.canLayAll0 ds = true
  | [], _ => rfl
  | d :: r, h => by
    show (d.canLay0 && PyData.canLayAll0 r) = true
    rw [h d List.mem_cons_self, canLayAll_of fun x hx => h x (List.mem_cons_of_mem _ hx)]
    rfl
theorem depthAll_of {k : Nat} : ∀ {ds : List PyData}, (∀ d ∈ ds, d.depth ≤ k) → PyData.depthAll ds ≤ k
  | [], _ => Nat.zero_le _
  | d :: r, h => Nat.max_le.mpr ⟨h d List.mem_cons_self, depthAll_of fun x hx => h x (List.mem_cons_of_mem _ hx)⟩
theorem Dk.lay {L : Nat} : ∀ {k : Nat} {d : PyData}, Dk L k d → d.canLay0 = true ∧ d.depth ≤ k := fun {k} => by
  induction k with
  | zero =>
    intro d h
    cases d with
    | tuple _ => exact h.elim
    | list _ => exact h.elim
    | dict _ => exact h.elim
    | str s => exact ⟨h, Nat.le_refl _⟩
    | none => exact ⟨rfl, Nat.le_refl _⟩
    | bool _ => exact ⟨rfl, Nat.le_refl _⟩
    | int _ => exact ⟨rfl, Nat.le_refl _⟩
  | succ k ih =>
    intro d h
    cases d with
    | tuple ds => exact ⟨canLayAll_of fun x hx => (ih (h.2 x hx)).1, Nat.succ_le_succ (depthAll_of fun x hx => (ih (h.2 x hx)).2)⟩
    | list ds => exact ⟨canLayAll_of fun x hx => (ih (h.2 x hx)).1, Nat.succ_le_succ (depthAll_of fun x hx => (ih (h.2 x hx)).2)⟩
    | dict _ => exact h.elim
    | str s => exact ⟨h, Nat.zero_le _⟩
    | none => exact ⟨rfl, Nat.zero_le _⟩
    | bool _ => exact ⟨rfl, Nat.zero_le _⟩
    | int _ => exact ⟨rfl, Nat.zero_le _⟩
theorem Dk.shaped {L k : Nat} {d : PyData} (h : Dk L k d) (hk : k ≤ 64) : SeqAt.shaped d = true := by
  unfold SeqAt.shaped
  rw [h.lay.1, decide_eq_true (Nat.le_trans h.lay.2 hk)]
  rfl
def dkB (L : Nat) : Nat → PyData → Bool
  | _, .none => true
  | _, .bool _ => true
  | _, .int _ => true
  | _, .str s => PyData.strOk s
  | k + 1, .tuple ds => decide (ds.length ≤ L) && ds.all (dkB L k)
  | k + 1, .list ds => decide (ds.length ≤ L) && ds.all (dkB L k)
  | _, _ => false
theorem dk_of {L : Nat} : ∀ {k : Nat} {d : PyData}, dkB L k d = true → Dk L k d := fun {k} => by
  induction k with
  | zero =>
    intro d h
    cases d with
    | tuple _ => cases h
    | list _ => cases h
    | dict _ => cases h
    | str s => exact h
    | none => exact trivial
    | bool _ => exact trivial
    | int _ => exact trivial
  | succ k ih =>
    intro d h
    cases d with
    | tuple ds =>
      have h2 : (decide (ds.length ≤ L) && ds.all (dkB L k)) = true := h
      rw [Bool.and_eq_true, decide_eq_true_eq, List.all_eq_true] at h2
      exact ⟨h2.1, fun d hd => ih (h2.2 d hd)⟩
    | list ds =>
      have h2 : (decide (ds.length ≤ L) && ds.all (dkB L k)) = true := h
      rw [Bool.and_eq_true, decide_eq_true_eq, List.all_eq_true] at h2
      exact ⟨h2.1, fun d hd => ih (h2.2 d hd)⟩
    | dict _ => cases h
    | str s => exact h
    | none => exact trivial
    | bool _ => exact trivial
    | int _ => exact trivial
theorem IsScr.hide {K : PySem.W.Frag} {H : Hp} {p : Addr} {v : V} {s : Scr} (hp : Src H p) (h : IsScr K H v s) : IsScr K (Dt.hide p H) v s := by
  obtain ⟨a, vs, e, q, r⟩ := h
  exact ⟨a, vs, e, SqT.hide hp q, Paired.mapP r fun _ _ ⟨b, e, q⟩ => ⟨b, e, SqT.hide hp q⟩⟩
theorem IsWk.hide {K : PySem.W.Frag} {H : Hp} {p : Addr} {v : V} {s : Wk} (hp : Src H p) (h : IsWk K H v s) : IsWk K (Dt.hide p H) v s := by
  obtain ⟨b, e, q⟩ := h
  exact ⟨b, e, SqT.hide hp q⟩
theorem dk_wk (w : Wk) : Dk 8 1 w.toD := by
  have so : ∀ s : Str, s ∈ ([("left" : Str), "right", "open", "shut", "turn"] : List Str) → PyData.strOk s = true := by
    intro s hs
    have : ([("left" : Str), "right", "open", "shut", "turn"] : List Str).all PyData.strOk = true := by decide +kernel
    exact List.all_eq_true.mp this s hs
  refine ⟨Nat.le_of_ble_eq_true rfl, fun d hd => ?_⟩
  simp only [List.mem_cons, List.not_mem_nil, or_false] at hd
  rcases hd with rfl | rfl | rfl | rfl | rfl
  · cases w.left
    · exact so _ (by simp [endS])
    · exact so _ (by simp [endS])
  · cases w.deed
    · exact so _ (by simp [Deed.s])
    · exact so _ (by simp [Deed.s])
    · exact so _ (by simp [Deed.s])
  · exact trivial
  · exact trivial
  · cases w.many <;> exact trivial
theorem dk_scr {s : Scr} (h : s.length ≤ 8) : Dk 8 2 (toDS s) := by
  refine ⟨by rw [List.length_map]; exact h, fun d hd => ?_⟩
  obtain ⟨w, _, rfl⟩ := List.mem_map.mp hd
  exact dk_wk w
def wkB (w : Wk) : Bool := decide (0 ≤ w.first) && decide (w.first ≤ 5) && decide (1 ≤ w.step) && decide (w.step ≤ 6) && (match w.many with | none => true | some m => decide (1 ≤ m) && decide (m ≤ 9))
theorem wk_ok {w : Wk} (h : wkB w = true) : w.Ok := by
  unfold wkB at h
  simp only [Bool.and_eq_true, decide_eq_true_eq] at h
  obtain ⟨⟨⟨⟨h1, h2⟩, h3⟩, h4⟩, h5⟩ := h
  refine ⟨h1, h2, h3, h4, fun m e => ?_⟩
  rw [e] at h5
  simp only [Bool.and_eq_true, decide_eq_true_eq] at h5
  exact h5
theorem scr_ok {s : Scr} (h : (decide (s.length ≤ 8) && s.all wkB) = true) : ScrOk s := by
  rw [Bool.and_eq_true, decide_eq_true_eq, List.all_eq_true] at h
  exact ⟨h.1, fun w hw => wk_ok (h.2 w hw)⟩
end Dt

namespace Dt
open PySem PySem.Spec PyProof.Rows L2
section
variable {K : PySem.W.Frag} {σ : L2.St} {H : Hp} {Q : VK} {D : Ends}
/-! ### for i, x in enumerate(xs) -/
def forE (K : PySem.W.Frag) (g : TG) (tb : TS) (D : Ends) (σ : L2.St) : List V → Hp → Prop := fun vs H1 => ∃ a xs, vs = [.ref a] ∧ SqL K H1 a xs ∧ forR g tb D σ (Ite K a) H1
theorem r_forE {ta : TA} {g : TG} {tb : TS} (h : ta σ H (forE K g tb D σ)) : tFor (iEnum K ta) g tb D σ H := h
theorem forE_by {a : Addr} {xs : List V} {g : TG} {tb : TS} (Pv : Nat → L2.St → Hp → Prop) (hS : SqL K H a xs) (h0 : Pv 0 σ H) (hl : ∀ i σ H, i ≤ xs.length → Pv i σ H → SqL K H a xs)
    (hs : ∀ i x T σ H H', xs[i]? = some x → Pv i σ H → H T = none → Same H H' → H' T = some (.tup [.int (i : Nat), x]) → (∀ q, q ≠ T → H' q = H q) → g (.ref T) σ H' fun σ2 H2 => tb { D with nx := Pv (i + 1), ct := Pv (i + 1), bk := D.nx } σ2 H2)
    (hd : ∀ σ H, Pv xs.length σ H → D.nx σ H) : forE K g tb D σ [.ref a] H := by
  refine ⟨a, xs, rfl, hS, fun i m σ H => m = xs.length - i ∧ i ≤ xs.length ∧ Pv i σ H, ⟨xs.length, rfl, Nat.zero_le _, h0⟩, ?_⟩
  rintro i m σ H ⟨rfl, hi, p⟩
  have q := hl i σ H hi p
  by_cases hlt : i < xs.length
  · refine .inr ⟨⟨xs, xs[i], q, by simp [hlt]⟩, Pv (i + 1), fun σ' H' p' => ⟨xs.length - (i + 1), by omega, rfl, hlt, p'⟩, fun x H' y => ?_⟩
    obtain ⟨T, x, rfl, hT, rfl, hx⟩ := y
    exact hs i x T σ H _ (hx xs q) p hT (same_upd hT) upd_same fun _ hne => upd_ne hne
  · have e : i = xs.length := by omega
    subst e
    exact .inl ⟨⟨xs, q, Nat.le_refl _⟩, hd σ H p⟩
/-! ### a method of a built-in type, append -/
def bmK (K : PySem.W.Frag) (T : String) (r : V → List V → Hp → VK → Prop) (t : TA) (σ : L2.St) (Q : VK) : VK := fun x H1 => tyV K T x H1 ∧ t σ H1 fun xs H2 => r x xs H2 Q
theorem r_bm {T : String} {r : V → List V → Hp → VK → Prop} {to : TE} {t : TA} (h : to σ H (bmK K T r t σ Q)) : tBM K T r to t σ H Q := h
theorem r_bmL {r : V → List V → Hp → VK → Prop} {t : TA} {a : Addr} {xs : List V} (hs : SqL K H a xs) (h : t σ H fun vs H2 => r (.ref a) vs H2 Q) : bmK K "list" r t σ Q (.ref a) H := ⟨.inl ⟨rfl, _, hs⟩, h⟩
theorem r_append {l : Addr} {xs : List V} {y : V} (hl : H l = some (.lst xs)) (hz : xs.length < sizeLine) (h : ∀ H', H' l = some (.lst (xs ++ [y])) → (∀ q, q ≠ l → H' q = H q) → Q .non H') : rAppend (.ref l) [y] H Q :=
  ⟨l, xs, y, rfl, rfl, hl, hz, h _ upd_same fun _ hne => upd_ne hne⟩
/-- a list that is new since H has grown -/
theorem same_grow {H0 H1 H2 : Hp} {l : Addr} (s : Same H0 H1) (n : H0 l = none) (f : ∀ q, q ≠ l → H2 q = H1 q) : Same H0 H2 := fun b o e => by
  rw [f b (ne_of_none e n)]
  exact s _ _ e
end
/-! ### ways that meet again -/
theorem if_dm {p : Prop} [Decidable p] {A B G : Prop} (hG : G) (h1 : p → G → A) (h2 : ¬ p → G → B) : if decide p = true then A else B := if_d (fun h => h1 h hG) (fun h => h2 h hG)
theorem if_ndm {p : Prop} [Decidable p] {A B G : Prop} (hG : G) (h1 : ¬ p → G → A) (h2 : p → G → B) : if (!decide p) = true then A else B := if_nd (fun h => h1 h hG) (fun h => h2 h hG)
theorem if_bm {c : Bool} {A B G : Prop} (hG : G) (h1 : c = true → G → A) (h2 : c = false → G → B) : if c = true then A else B := if_b (fun h => h1 h hG) (fun h => h2 h hG)
theorem if_dh {p : Prop} [Decidable p] {A B : Prop} {G : Hp → Prop} (H1 : Hp) (hG : ∀ H2, Same H1 H2 → G H2) (h1 : p → (∀ H2, Same H1 H2 → G H2) → A) (h2 : ¬ p → (∀ H2, Same H1 H2 → G H2) → B) : if decide p = true then A else B := if_d (fun h => h1 h hG) (fun h => h2 h hG)
theorem if_bh {c : Bool} {A B : Prop} {G : Hp → Prop} (H1 : Hp) (hG : ∀ H2, Same H1 H2 → G H2) (h1 : c = true → (∀ H2, Same H1 H2 → G H2) → A) (h2 : c = false → (∀ H2, Same H1 H2 → G H2) → B) : if c = true then A else B := if_b (fun h => h1 h hG) (fun h => h2 h hG)
theorem sh_refl {d : PyData} (h : SeqAt.shaped d = true) : PyData.eqv d d = true := by
  unfold SeqAt.shaped at h
  rw [Bool.and_eq_true] at h
  exact SeqAt.eqv_refl d h.1
/-! ### within a comprehension's block the written part goes by its own name -/
section
variable {X : Cx} {K : PySem.W.Frag}
theorem ix_tupK (hK : X.K = K) : IxR X (rIxT K) := by subst hK; exact ix_tup
theorem ix_listK (hK : X.K = K) : IxR X (rIxL K) := by subst hK; exact ix_list
theorem c_lenK (hK : X.K = K) : CallR X (.builtin "len") (rLenS K) := by subst hK; exact c_len
theorem sl_listK (hK : X.K = K) : SlR X (rSlL K) := by subst hK; exact sl_list
theorem sl_tupAK (hK : X.K = K) : SlR X (rSlA K) := by subst hK; exact sl_tupA
theorem op_eqDK (hK : X.K = K) (hu : X.A.units + 64 < cLine) : OpR X (compareOp .Eq) (rEqD K) := by subst hK; exact op_eqD hu
theorem op_neDK (hK : X.K = K) (hu : X.A.units + 64 < cLine) : OpR X (compareOp .NotEq) (rNeD K) := by subst hK; exact op_neD hu
theorem op_in_seqK (hK : X.K = K) : OpR X (compareOp .In) (rIn K false) := by subst hK; exact op_in_seq
theorem op_notIn_seqK (hK : X.K = K) : OpR X (compareOp .NotIn) (rIn K true) := by subst hK; exact op_notIn_seq
theorem call_isiK (hK : X.K = K) : CallR X (.builtin "isinstance") (rIsi K) := by subst hK; exact call_isi
theorem cr_allK (hK : X.K = K) (hc : X.calm = true) : CallR X (.builtin "all") (rAll K) := by subst hK; exact cr_all hc
theorem op_catAK (hK : X.K = K) : OpR X (binaryOp .Add) (rCatA K) := by subst hK; exact op_catA
theorem c_tupOfK (hK : X.K = K) : CallR X (.type "tuple") (rTupOf K) := by subst hK; exact c_tupOf
theorem c_listOfK (hK : X.K = K) : CallR X (.type "list") (rListOf K) := by subst hK; exact c_listOf
end
end Dt

local macro_rules | `(tactic| walk_at "go1") => `(tactic| first
  | ((with_reducible refine Dt.r_var (v := ?v) ?k1 ?k2); (case k1 => rfl))
  | (with_reducible refine Dt.r_C ?_)
  | (with_reducible refine Dt.r_op ?_)
  | (with_reducible refine Dt.r_un ?_)
  | (with_reducible refine Dt.r_I0 ?_)
  | (with_reducible refine Dt.r_U ?_)
  | (with_reducible refine Dt.r_asB ?_)
  | (with_reducible refine Dt.r_test ?_)
  | (with_reducible refine Dt.r_tB ?_)
  | (with_reducible refine Dt.r_and ?_)
  | (with_reducible refine Dt.r_or ?_)
  | (with_reducible refine Dt.r_not ?_)
  | (with_reducible refine Dt.r_andV ?_)
  | (with_reducible refine Dt.r_orV ?_)
  | (with_reducible refine Dt.r_notV ?_)
  | (with_reducible refine Dt.r_if ?_)
  | (with_reducible refine Dt.r_ifS ?_)
  | (with_reducible refine Dt.r_next ?_)
  | (with_reducible refine Dt.r_seq ?_)
  | (with_reducible refine Dt.r_brk ?_)
  | (with_reducible refine Dt.r_cont ?_)
  | (with_reducible refine Dt.r_drop ?_)
  | (with_reducible refine Dt.r_ret ?_)
  | (with_reducible refine Dt.r_retN ?_)
  | (with_reducible refine Dt.r_gName ?_)
  | (with_reducible refine Dt.r_asg ?_)
  | (with_reducible refine Dt.r_par ?_)
  | (with_reducible refine Dt.r_par2 ?_)
  | (with_reducible refine Dt.r_nil ?_)
  | (with_reducible refine Dt.r_cons ?_)
  | (with_reducible refine Dt.r_call ?_)
  | (with_reducible refine Dt.r_CB ?_)
  | (with_reducible refine Dt.r_chain ?_)
  | (with_reducible refine Dt.r_gCons ?_)
  | (with_reducible refine Dt.r_gNil ?_)
  | (with_reducible refine Dt.r_isN ?_)
  | (with_reducible refine Dt.r_notN ?_)
  | (with_reducible refine Dt.r_int ?_)
  | (with_reducible refine Dt.r_intB ?_)
  | (with_reducible refine Dt.r_abs ?_)
  | (with_reducible refine Dt.r_min2 ?_)
  | (with_reducible refine Dt.r_max2 ?_)
  | (with_reducible refine Dt.r_tup ?_)
  | (with_reducible refine Dt.r_lst ?_)
  | (with_reducible refine Dt.r_true ?_)
  | (with_reducible refine Dt.r_false ?_)
  | (with_reducible refine Dt.r_notTrue ?_)
  | (with_reducible refine Dt.r_notFalse ?_)
  | ((with_reducible refine Dt.r_eq ?k1 ?k2); (case k1 => rfl))
  | ((with_reducible refine Dt.r_ne ?k1 ?k2); (case k1 => rfl))
  | ((with_reducible refine Dt.r_ixT (xs := ?xs) (v := ?v) ?k1 ?k2 ?k3); (case k1 => walk_at "hp"); (case k2 => rfl))
  | ((with_reducible refine Dt.r_ixL (xs := ?xs) (v := ?v) ?k1 ?k2 ?k3); (case k1 => walk_at "hp"); (case k2 => rfl))
  | ((with_reducible refine Dt.r_gTup (xs := ?xs) ?k1 ?k2 ?k3); (case k1 => walk_at "hp"); (case k2 => rfl))
  | ((with_reducible refine Dt.r_lenT (xs := ?xs) ?k1 ?k2); (case k1 => walk_at "hp"))
  | ((with_reducible refine Dt.r_lenL (xs := ?xs) ?k1 ?k2); (case k1 => walk_at "hp"))
  | ((with_reducible refine Dt.r_listL (ys := ?xs) ?k1 ?k2); (case k1 => walk_at "hp"))
  | ((with_reducible refine Dt.r_tupL (ys := ?xs) ?k1 ?k2); (case k1 => walk_at "hp"))
  | (with_reducible refine Dt.r_gSub ?_)
  | (with_reducible refine Dt.r_m1 ?_)
  | (with_reducible refine Dt.r_m1K ?_)
  | (with_reducible refine Dt.r_part ?_)
  | (with_reducible refine Dt.r_partK ?_)
  | (with_reducible refine Dt.r_noPart ?_)
  | (with_reducible refine Dt.r_sl ?_)
  | (with_reducible refine Dt.r_lst3 ?_)
  | ((with_reducible refine Dt.r_slT (xs := ?xs) ?k1 ?k2); (case k1 => walk_at "hp"))
  | ((with_reducible refine Dt.r_slL (xs := ?xs) ?k1 ?k2); (case k1 => walk_at "hp"))
  | (with_reducible refine Dt.r_forT ?_)
  | (with_reducible refine Dt.r_forL ?_)
  | (with_reducible refine Dt.r_forR1 ?_)
  | (with_reducible refine Dt.r_forR2 ?_)
  | (with_reducible refine Dt.r_lcT ?_)
  | (with_reducible refine Dt.r_lcL ?_)
  | (with_reducible refine Dt.r_lcR1 ?_)
  | (with_reducible refine Dt.r_lcR2 ?_)
  | (with_reducible refine Dt.r_lcB1 ?_)
  | (with_reducible refine Dt.r_lcB ?_)
  | (with_reducible refine Dt.r_forE ?_)
  | (with_reducible refine Dt.r_bm ?_)
  | ((with_reducible refine Dt.r_bmL (xs := ?xs) ?k1 ?k2); (case k1 => walk_at "hp"))
  | ((with_reducible refine Dt.r_newT ?k1 ?k2); (case k1 => exact Dt.small_b rfl))
  | ((with_reducible refine Dt.r_newL ?k1 ?k2); (case k1 => exact Dt.small_b rfl)))
local macro_rules | `(tactic| walk_at "go") => `(tactic| repeat walk_at "go1")
local macro_rules | `(tactic| walk_at "kk") => `(tactic| first | exact Dt.kk_NoneType_int | exact Dt.kk_NoneType_bool | exact Dt.kk_NoneType_str | exact Dt.kk_NoneType_tuple | exact Dt.kk_NoneType_list | exact Dt.kk_bool_int | exact Dt.kk_bool_bool | exact Dt.kk_bool_str | exact Dt.kk_bool_tuple | exact Dt.kk_bool_list | exact Dt.kk_int_int | exact Dt.kk_int_bool | exact Dt.kk_int_str | exact Dt.kk_int_tuple | exact Dt.kk_int_list | exact Dt.kk_str_int | exact Dt.kk_str_bool | exact Dt.kk_str_str | exact Dt.kk_str_tuple | exact Dt.kk_str_list | exact Dt.kk_list_int | exact Dt.kk_list_bool | exact Dt.kk_list_str | exact Dt.kk_list_tuple | exact Dt.kk_list_list | exact Dt.kk_tuple_int | exact Dt.kk_tuple_bool | exact Dt.kk_tuple_str | exact Dt.kk_tuple_tuple | exact Dt.kk_tuple_list)
local macro_rules | `(tactic| walk_at "hp") => `(tactic| first
  | assumption | exact L2.Same.refl _ | exact L2.SqT.of (by assumption) | exact L2.SqL.of (by assumption)
  | (refine Dt.Same.sqT (by assumption) ?_; walk_at "hp") | (refine L2.Same.seq (by assumption) ?_; walk_at "hp") | (refine Dt.Dp.mono (by assumption) ?_; walk_at "hp")
  | (refine Dt.IsWk.mono (by assumption) ?_; walk_at "hp") | (refine Dt.IsScr.mono (by assumption) ?_; walk_at "hp") | (refine Dt.IsScrs.mono (by assumption) ?_; walk_at "hp") | (refine Dt.IsPr.mono (by assumption) ?_; walk_at "hp")
  | (refine L2.Same.trans ?_ (by assumption); walk_at "hp"))

namespace Dt
open PySem PySem.Spec PyProof.Rows L2 NdefX
/-! ### super().__init__(text) in an own exception below ValueError -/
section
open PySem.W PySem.Calls
/-- the bound __init__ called on an exception that is being made -/
theorem mw_call {X : Cx} {pins : List (Addr × Obj)} {σ : L2.St} {H : Hp} {s : Shared} {A : Around} {E : Value → Shared → Prop} {u a C : Addr} {us : List Value} {Q : Value → Shared → Prop} (T : OexC X.K C) (I : Inv X pins σ H s)
    (e : H a = some (exo a C none)) (hu : s.heap.get? u = some (kxs_mw "ValueError.__init__" a)) (hl : us.length ≤ sizeLine) (h : ∀ s', Inv X pins σ H s' → Q .none s') :
    wpAny (model X.prog X.w) A (call (.ref u) us) Q E s := by
  obtain ⟨nm, q, N, bs, bm, sn, sub, ab, col, dd, k0, k1, k2, k3, k5, hC, hbm⟩ := T.cls
  obtain ⟨t1, ho⟩ := exo_at I.hok e
  obtain ⟨hp, g, d, t, os⟩ := s
  refine wpAny_call (codeAny_of_tree ?_)
  show wpAny _ A.in1 (callAny (.ref u) ⟨us, []⟩) _ _ _
  simp only [callAny]
  refine wpAny_bind (wpAny_load hu ?_)
  simp only [kxs_mw, show (Value.type "method-wrapper" == Value.type "method" || Value.type "method-wrapper" == Value.type "builtin_function_or_method" || Value.type "method-wrapper" == Value.type "method-wrapper") = true by decide, if_true]
  refine KFB.if_so (by decide) ?_
  refine wpAny_bind (check_bound_init F.excBase_ValueError.toExcCallFacts (I.kIn _ _ hC) ho rfl ?_)
  refine wpAny_bind (wpAny_pure (wpAny_pure ?_))
  refine ⟨plainId_quiet F.excBase_ValueError.init.plain _, codeAny_builtin F.excBase_ValueError.initEntry ?_⟩
  refine exc_init_tree (cls := .ref C) (t0 := t1) (dv := none) (c2 := .none) (c3 := .none) (b4 := .bool false) ho hl fun h' k hx _ => ?_
  have J := I.write (t' := t) (x := a) (e := a) (o := exo a C none) (by rw [e]; exact True.intro) (.inl rfl) k ⟨_, hx⟩ (exo_ok hx)
  have eu : upd H a (exo a C none) = H := by
    funext b
    by_cases hb : b = a
    · rw [hb, upd_same, e]
    · rw [upd_ne hb]
  rw [eu] at J
  exact h _ J
end
/-- the def, as the model keeps it -/
abbrev sF (qual : Str) (params : Arguments) (body : List Stmt) (scope : Scope) (cc cda : Addr) : NF := ⟨"__init__", qual, params, body, scope, [("__class__", cc)], cda⟩
/-- what the written part says of the def -/
structure SupC (K : PySem.W.Frag) (P : Program) (D f : Addr) (qual x fld : Str) (body : List Stmt) (fd : FuncData) : Prop where
  oex : OexC K D
  ex : ∃ (params : Arguments) (scope : Scope) (cc cda : Addr) (oc cl ccl : Value) (od cdd cld : Option Addr) (dV kV doc pm ct : Value) (an : Option Addr) (osl ccs csl : Array (Option Value)) (vs : Array Value) (file : Str) (tf : Tok) (cdD : ClassData) (ar : Arg) (l : List Value),
    fd = PySem.W.fnX "__init__" qual params body scope [("__class__", cc)] dV kV doc pm an (.ref cda) ct ∧ K.lookup f = some ⟨oc, od, .func fd, osl⟩ ∧ PySem.W.codeIn K (.ref cda) qual = true ∧ K.lookup cda = some ⟨ccl, cdd, .fields vs, ccs⟩ ∧ vs[2]? = some (.str file tf) ∧
    ((P.main.file : Str) == file) = true ∧ K.lookup cc = some ⟨cl, cld, .cell (some (.ref D)), csl⟩ ∧ PySem.W.clsIn K D = some cdD ∧ PySem.W.mroIn K D (.ref D) = some true ∧ (P.main.scope.names.lookup ("super" : Str)).isSome = false ∧
    NScope ["self", x, "__class__"] ["self", x] ["__class__"] scope ∧ scope.names.lookup ("super" : Str) = some .globalImplicit ∧ (params.posonlyargs ++ params.args).head? = some ar ∧ ar.arg = "self" ∧
    PySem.W.nsIn K PySem.cStatics "thirdparty.any" = some none ∧ (cdD.mro.dropWhile (· != .ref D)).drop 1 = l ∧ PySem.W.alongIn K "__init__" l = some (some (.builtin "ValueError.__init__")) ∧ PySem.W.subIn K (.ref D) (.type "ValueError") = some true
  fld : PySem.W.findIn K (.ref D) fld = some none
/-- what it promises -/
def sp_sup (D : Addr) (fld : Str) : Sp := fun vs H Q _ => ∃ (a : Addr) (v : V), vs = [.ref a, v] ∧ H a = some (exo a D none) ∧ ∀ dx, H dx = none → dx ≠ a → Q .non (upd (upd H dx (exd dx [(fld, v)])) a (exo a D (some dx)))
theorem at_local {X : Cx} {pins : List (Addr × Obj)} {σ : L2.St} {H : Hp} {s : Shared} {i : Nat} {x : Str} {v : V} (I : Inv X pins σ H s) (hN : X.N[i]? = some x) (hs : σ[i]? = some (some v)) (hl : X.env.kindOf x = some .local) :
    ∃ m u, s.heap.Ns X.env.locals m ∧ m x = some u ∧ RelV v u := by
  obtain ⟨m, hn, q⟩ := I.loc
  obtain ⟨u, r, k⟩ := q i x v hN hs (.inl hl)
  rcases k with ⟨_, e⟩ | ⟨k, _⟩
  · exact ⟨m, u, hn, e, r⟩
  · rcases k with k | k <;> rw [hl] at k <;> cases k
open PySem.W in
/-- the statement super().__init__(m) -/
theorem sup_first {X : Cx} {pins : List (Addr × Obj)} {σ : L2.St} {H : Hp} {s : Shared} {body : List Stmt} {D f cc cda a : Addr} {qual m : Str} {j : Nat} {p0 p1 p2 p3 p4 p5 : Pos} {params : Arguments} {scope : Scope} {oc cl ccl : Value} {od cdd cld : Option Addr} {dV kV doc pm ct : Value} {an : Option Addr} {osl ccs csl : Array (Option Value)}
    {fs : Array Value} {file : Str} {tf : Tok} {cdD : ClassData} {ar : Arg} {l : List Value} {bd : List Stmt} (I : Inv X pins σ H s) (eE : ∃ L, X.env = PySem.W.envX qual scope L f (.ref cda) [("__class__", cc)]) (hN : X.N[0]? = some ("self" : Str)) (hs0 : σ[0]? = some (some (.ref a)))
    (OX : OexC X.K D) (lk : X.K.lookup f = some ⟨oc, od, .func (PySem.W.fnX "__init__" qual params bd scope [("__class__", cc)] dV kV doc pm an (.ref cda) ct), osl⟩) (hcode : X.K.lookup cda = some ⟨ccl, cdd, .fields fs, ccs⟩) (hfs : fs[2]? = some (.str file tf))
    (hfile : ((X.prog.main.file : Str) == file) = true) (hcell : X.K.lookup cc = some ⟨cl, cld, .cell (some (.ref D)), csl⟩) (hD : PySem.W.clsIn X.K D = some cdD) (hsub : PySem.W.mroIn X.K D (.ref D) = some true) (htop : (X.prog.main.scope.names.lookup ("super" : Str)).isSome = false)
    (hself : X.env.kindOf "self" = some .local) (hks : X.env.kindOf "super" = some .globalImplicit) (hkc : X.env.kindOf "__class__" = some .free) (hhd : (params.posonlyargs ++ params.args).head? = some ar) (har : ar.arg = "self")
    (hopq : PySem.W.nsIn X.K PySem.cStatics "thirdparty.any" = some none) (hl : (cdD.mro.dropWhile (· != .ref D)).drop 1 = l) (hal : PySem.W.alongIn X.K "__init__" l = some (some (.builtin "ValueError.__init__"))) (hve : PySem.W.subIn X.K (.ref D) (.type "ValueError") = some true)
    (hsup : X.mg "super" = none) (ea : H a = some (exo a D none)) (hint : interactive X.env = false)
    (hsw : swapsWith (.Call (.Attribute (.Call (.Name "super" p0) [] [] p1) "__init__" p2) [.Constant (.str m) j p3] [] p4) none p5.line X.env = pure false) (pl : Sem Bool)
    (hev : eval (.Call (.Attribute (.Call (.Name "super" p0) [] [] p1) "__init__" p2) [.Constant (.str m) j p3] [] p4) X.env = (do
      let ov ← attributeBase (.Call (.Name "super" p0) [] [] p1) "__init__" X.env (eval (.Call (.Name "super" p0) [] [] p1) X.env)
      standAt p2.atName
      let (f, first) ← holding [ov] (getMethod ov "__init__" pl)
      callWith p4 f first (backTo p4 (starEach [.Constant (.str m) j p3] X.env)) []))
    (Q : Flow → Shared → Prop) (hq : ∀ s', Inv X pins σ H s' → Q .next s') :
    _root_.PySem.wpAt (model X.prog X.w) X.A (.func body X.env) (exec (.Expr (.Call (.Attribute (.Call (.Name "super" p0) [] [] p1) "__init__" p2) [.Constant (.str m) j p3] [] p4) p5) X.env) Q X.xe s := by
  have KX := I.kIn
  have kf := I.ok.kind
  obtain ⟨t1, ho⟩ := exo_at I.hok ea
  obtain ⟨oD, hD1, hD2⟩ : ∃ oD, s.heap.get? D = some oD ∧ oD.data = .cls cdD := by
    unfold PySem.W.clsIn at hD
    split at hD
    · rename_i c d cd' sl ho
      cases hD
      exact ⟨_, KX _ _ ho, rfl⟩
    · cases hD
  have hne : a ≠ D := fun z => by
    rw [z, hD1] at ho
    have := Option.some.inj ho
    rw [this] at hD2
    cases hD2
  obtain ⟨L, eE⟩ := eE
  refine ks_wpAt_Expr_any (ks_wpAt_MethodCall (pl := pl) (ks_wpAt_super_base hks hkc (by decide) (by rw [eE]) (KX _ _ lk) rfl hhd (by rw [eE]) (KX _ _ hcode) rfl hfs hfile htop ?_) hev) hint hsw
  obtain ⟨mb, h1, h2⟩ := I.mod.blt
  refine ks_loadName_global kf hks (Calls.loadGlobal_builtin (by rw [I.ok.glob]; exact I.mod.glob.keeps I.bk) hsup (by rw [I.ok.blt]; exact h1.keeps I.bk) ((h2 _ (by decide)).trans (show bootBuiltins "super" = some (.type "super") by decide +kernel)) ⟨rfl, ?_⟩)
  refine wpAny_loadName_free kf hkc (c := cc) (by rw [eE]; rfl) ⟨_, KX _ _ hcell, rfl⟩ ?_
  obtain ⟨m1, u, hns, hu, ru⟩ := at_local I hN hs0 hself
  obtain rfl : u = Value.ref a := ru
  rw [har]
  refine wpAny_loadName_local kf hself hns hu ?_
  refine ks_wpAny_isType_cls hD1 hD2 ⟨rfl, ?_⟩
  obtain ⟨hp, g, d, t, os⟩ := s
  refine ks_wpAny_call_super hD1 hD2 ho rfl (fun c z => by cases z) (looks_mroIn KX hsub) (fun h' e k => ?_)
  have I1 := I.kept (t' := t) k
  have e1 := k _ _ ho
  have LI : Looks (model X.prog X.w) h' (isInstance (.ref a) (.type "ValueError")) true := Looks.andThen (fun A Q E s k q => wpAny_typeOf_ref (k _ _ e1) q) (looks_subIn I1.kIn hve)
  refine kxs_getMethod kxs_ValueError e (looks_opaque I1.kIn hopq) (l₀ := cdD.mro) (fun A Q E s k q => wpAny_bind ((looks_clsIn I1.kIn hD) A _ E s k (wpAny_pure q))) hl I1.kIn hal LI hne (by decide) ?_
  have k2 : ∀ b o, h'.get? b = some o → (h'.push (kxs_mw "ValueError.__init__" a)).get? b = some o := fun b o z => Heap.get?_push_of_some _ z
  have hm : (h'.push (kxs_mw "ValueError.__init__" a)).get? h'.objs.size = some (kxs_mw "ValueError.__init__" a) := Heap.get?_push_size _ rfl
  have I2 := I1.kept (t' := t + 1) k2
  have I3 : Inv X (pins ++ [(h'.objs.size, kxs_mw "ValueError.__init__" a)]) σ H ⟨h'.push (kxs_mw "ValueError.__init__" a), g, d, t + 1, os⟩ := I2.pins_of fun p hp => (List.mem_append.mp hp).elim (fun z => I2.pin p (List.mem_append_right _ z)) fun z => by
    obtain rfl := List.mem_singleton.mp z
    refine ⟨hm, I1.hok.fresh (Nat.le_refl _), fun z => ?_, I1.nofs (Nat.le_refl _), fun v z => by cases z⟩
    exact absurd I1.lt (by rw [← z]; exact Nat.lt_irrefl _)
  have ha : PA X [.Constant (.str m) j p3] (tCons (tC (.str m)) tNil) := pa_cons pe_str pa_nil
  refine kxs_callWith (i := "ValueError.__init__") (x := a) (by rfl) (Calls.evalArgs_plain ?_)
  refine thn (ha.run p4 _ _ σ H (fun vs H1 => vs = [V.str m] ∧ H1 = H) I3 ⟨rfl, rfl⟩) fun us s1 hh => ?_
  obtain ⟨vs, H1, I4, r, ev, eH⟩ := hh
  subst eH
  subst ev
  obtain ⟨g1, _⟩ := I4.pin (h'.objs.size, kxs_mw "ValueError.__init__" a) (List.mem_append_right _ (List.mem_append_right _ (List.mem_singleton.mpr rfl)))
  have hlen : us.length = 1 := by rw [← Paired.length r] <;> rfl
  have I5 : Inv X pins σ H1 s1 := I4.pins_of fun p hp => I4.pin p (List.mem_append_right _ (List.mem_append_left _ hp))
  exact ⟨g1, mw_call OX I5 ea g1 (by rw [List.nil_append, hlen, sizeLine_eq]; omega) fun s' J => hq s' J⟩
open PySem.W in
theorem sup_ok {P : Program} {w : World} {K : PySem.W.Frag} {mg : Str → Option Value} {base : Heap} {f D : Addr} {fd : FuncData} {qual x fld m : Str} {j : Nat} {p0 p1 p2 p3 p4 p5 p6 p7 p8 p9 : Pos} {CX : CXT}
    (T : SupC K P D f qual x fld [.Expr (.Call (.Attribute (.Call (.Name "super" p0) [] [] p1) "__init__" p2) [.Constant (.str m) j p3] [] p4) p5, .Assign [.Attribute (.Name "self" p6) fld p7] (.Name x p8) p9] fd)
    (hsup : mg "super" = none) (hx : (x == ("__debug__" : Str)) = false) (hx2 : (x == ("__classdict__" : Str)) = false)
    (hev : ∃ pl : Env → Sem Bool, ∀ env : Env, eval (.Call (.Attribute (.Call (.Name "super" p0) [] [] p1) "__init__" p2) [.Constant (.str m) j p3] [] p4) env = (do
      let ov ← attributeBase (.Call (.Name "super" p0) [] [] p1) "__init__" env (eval (.Call (.Name "super" p0) [] [] p1) env)
      standAt p2.atName
      let (f, first) ← holding [ov] (getMethod ov "__init__" (pl env))
      callWith p4 f first (backTo p4 (starEach [.Constant (.str m) j p3] env)) [])) : FnOk P w K mg base CX 6 f fd ["self", x] (sp_sup D fld) := by
  refine ⟨fun vs H Q E h => ?_, fun A outer s H args us vs Q E hr e0 hb r hsp => ?_⟩
  · obtain ⟨a, v, rfl, _⟩ := h
    rfl
  obtain ⟨pl, hev⟩ := hev
  obtain ⟨OX, ⟨params, scope, cc, cda, oc, cl, ccl, od, cdd, cld, dV, kV, doc, pm, ct, an, osl, ccs, csl, fs, file, tf, cdD, ar, l, rfl, lk, hcd, hcode, hfs, hfile, hcell, hD, hsub, htop, S, hks, hhd, har, hopq, hl, hal, hve⟩, hno⟩ := T
  obtain ⟨a, v, rfl, ea, q⟩ := hsp
  have KX : K.In s.heap := e0.mod.kin.keeps fun b o e => (e0.bs b o e).1
  have lim : s.heap.NoLimit := e0.mod.nolimit.keeps fun b o e => (e0.bs b o e).1
  refine codeAny_call_function hr.depth (KX _ _ lk) rfl S.co S.gen rfl (codeRec_of KX hcd) (hb _ _ _ _ ?_)
  refine wpAny_newFunctionEnv S.nocell (fun ⟨n, _⟩ hy => S.par n (List.of_mem_zip hy).1) (fun h₁ hns hsb => ⟨lim.fresh _ hsb, ?_⟩) S.kind
  have kp : ∀ b o, s.heap.get? b = some o → h₁.get? b = some o := fun b o e => hsb.extBut b o (Nat.ne_of_lt (Heap.lt_size e)) (Heap.get?_push_of_some _ e)
  have C : CellsAt [("__class__", cc)] ["__class__"] [none] s.heap H := {
    len := rfl
    all := fun y c e => by
      have hy : y = "__class__" ∧ c = cc := by
        by_cases h : y = "__class__"
        · subst h; simp [List.lookup] at e; exact ⟨rfl, e.symm⟩
        · have : (y == ("__class__" : Str)) = false := by simpa using h
          simp [List.lookup, this] at e
      obtain ⟨rfl, rfl⟩ := hy
      exact ⟨(e0.bs _ _ (e0.mod.kin _ _ hcell)).2, _, _, KX _ _ hcell, rfl⟩
    inj := fun x1 y1 c e1 e2 => by
      have hy : ∀ y, List.lookup y [(("__class__" : Str), cc)] = some c → y = "__class__" := fun y e => by
        by_cases h : y = "__class__"
        · exact h
        · have : (y == ("__class__" : Str)) = false := by simpa using h
          simp [List.lookup, this] at e
      rw [hy _ e1, hy _ e2]
    has := fun i y e => by
      cases i with
      | zero =>
        have : y = "__class__" := by simpa using e.symm
        subst this
        exact ⟨cc, by simp [List.lookup], fun v hv => by simp at hv⟩
      | succ i => simp at e }
  have I := inv_startN (CX := CX) (E := E) (F := sF qual params [.Expr (.Call (.Attribute (.Call (.Name "super" p0) [] [] p1) "__init__" p2) [.Constant (.str m) j p3] [] p4) p5, .Assign [.Attribute (.Name "self" p6) fld p7] (.Name x p8) p9] scope cc cda) (f := f) (tk := s.toks + ((List.zip (["self", x] : List Str) us).length)) S hr.hd e0 rfl r C hns kp
  refine ks_codeAny_funcAt ?_
  have I : Inv (ncx CX P w K mg base ["self", x, "__class__"] (sF qual params [.Expr (.Call (.Attribute (.Call (.Name "super" p0) [] [] p1) "__init__" p2) [.Constant (.str m) j p3] [] p4) p5, .Assign [.Attribute (.Name "self" p6) fld p7] (.Name x p8) p9] scope cc cda) f A outer s H E) []
      (startF ["self", x, "__class__"] [V.ref a, v] [none]) H { s with heap := h₁, toks := s.toks + (List.zip (["self", x] : List Str) us).length } := inv_startN S hr.hd e0 rfl r C hns kp
  refine ks_wpAt_execs_cons (sup_first (X := ncx CX P w K mg base ["self", x, "__class__"] (sF qual params [.Expr (.Call (.Attribute (.Call (.Name "super" p0) [] [] p1) "__init__" p2) [.Constant (.str m) j p3] [] p4) p5, .Assign [.Attribute (.Name "self" p6) fld p7] (.Name x p8) p9] scope cc cda) f A outer s H E)
    I ⟨s.heap.objs.size, rfl⟩ rfl rfl OX lk hcode hfs hfile hcell hD hsub htop (S.par _ (by simp)) hks (S.frk _ (by simp)) hhd har hopq hl hal hve hsup ea ?_ rfl _ (hev _) _ fun s2 J => ?_)
  · show (scope.kind == .module && _) = false
    rw [S.kind] <;> rfl
  refine wpAt_of_wpAny ?_
  have p : PSs (ncx CX P w K mg base ["self", x, "__class__"] (sF qual params [.Expr (.Call (.Attribute (.Call (.Name "super" p0) [] [] p1) "__init__" p2) [.Constant (.str m) j p3] [] p4) p5, .Assign [.Attribute (.Name "self" p6) fld p7] (.Name x p8) p9] scope cc cda) f A outer s H E)
      [.Assign [.Attribute (.Name "self" p6) fld p7] (.Name x p8) p9] (tOst K fld (tVar 0) (tVar 1)) := pss_one (ps_ost (pe_var rfl (.inl (S.par _ (by simp))) (by decide) (by decide)) (pe_var rfl (.inl (S.par _ (by simp))) hx hx2))
  refine wpAny_mono (p.run [] s2 _ H { nx := fun _ H' => Q .non H', rt := Q } J ⟨v, rfl, .ref a, rfl, a, D, rfl, OX, hno, .inl ⟨ea, fun dx n1 n2 => q dx n1 n2⟩⟩) (fun fl s' hs => ?_) fun e s' hs => hs
  have fin : ∀ {σ' : L2.St} {H' : Hp} {v' : V} {u : Value}, Inv (ncx CX P w K mg base ["self", x, "__class__"] (sF qual params [.Expr (.Call (.Attribute (.Call (.Name "super" p0) [] [] p1) "__init__" p2) [.Constant (.str m) j p3] [] p4) p5, .Assign [.Attribute (.Name "self" p6) fld p7] (.Name x p8) p9] scope cc cda) f A outer s H E) [] σ' H' s' → L2.RelV v' u → Q v' H' → CE outer P w H s Q u s' :=
    fun {σ' H' v' u} J rv q => ⟨v', H', J.os, J.bare, J.base, J.hok, rv, q⟩
  cases fl with
  | ret u =>
    obtain ⟨v', σ', H', J, rv, q⟩ := hs
    exact fin J rv q
  | next =>
    obtain ⟨σ', H', J, q⟩ := hs
    exact fin (v' := V.non) (u := Value.none) J rfl q
  | brk =>
    obtain ⟨_, _, _, q⟩ := hs
    exact False.elim q
  | cont =>
    obtain ⟨_, _, _, q⟩ := hs
    exact False.elim q
/-! ### C(e), C an own exception class with such an __init__ -/
def mkK (C : Addr) (fld : Str) (Q : XK) : List V → Hp → Prop := fun vs H1 => vs.length ≤ 1000 ∧ ∀ a, H1 a = none → sp_sup C fld (.ref a :: (vs ++ [])) (upd H1 a (exo a C none))
  (fun v H2 => v = .non ∧ ∃ (d : Addr) (fs : List (Str × V)), H2 a = some (exo a C (some d)) ∧ H2 d = some (exd d fs) ∧ H1 d = none ∧ Q (.ref C) (some d) (upd (del H2 a) d (.xd fs))) (fun _ _ _ => False)
theorem r_mkO {σ : L2.St} {H : Hp} {C : Addr} {fld : Str} {ta : TA} {Q : XK} (h : ta σ H (mkK C fld Q)) : tMkO C (sp_sup C fld) [] ta σ H Q := h
theorem r_mkK {H1 : Hp} {C : Addr} {fld : Str} {v : V} {Q : XK} (q : ∀ d H', H1 d = none → Same H1 H' → H' d = some (.xd [(fld, v)]) → (∀ q, q ≠ d → H' q = H1 q) → Q (.ref C) (some d) H') : mkK C fld Q [v] H1 := by
  refine ⟨by show 1 ≤ 1000; decide, fun a na => ⟨a, v, rfl, upd_same, fun dx n1 n2 => ⟨rfl, dx, [(fld, v)], upd_same, ?_, ?_, ?_⟩⟩⟩
  · rw [upd_ne n2, upd_same]
  · rw [upd_ne n2] at n1
    exact n1
  · have n1' : H1 dx = none := by
      rw [upd_ne n2] at n1
      exact n1
    have e : upd (del (upd (upd (upd H1 a (exo a C none)) dx (exd dx [(fld, v)])) a (exo a C (some dx))) a) dx (.xd [(fld, v)]) = upd H1 dx (.xd [(fld, v)]) := by
      funext b
      by_cases hb : b = dx
      · rw [hb, upd_same, upd_same]
      · rw [upd_ne hb, upd_ne hb]
        by_cases ha : b = a
        · rw [ha, del_same, na]
        · rw [del_ne ha, upd_ne ha, upd_ne hb, upd_ne ha]
    rw [e]
    exact q dx _ n1' (same_upd n1') upd_same fun q hq => upd_ne hq
/-- what the written part says of the class at C and of its __init__ at f -/
structure ErrC (K : PySem.W.Frag) (P : Program) (mg : Str → Option Value) (C f : Addr) (fd : FuncData) (name qual x fld : Str) (body : List Stmt) : Prop where
  sup : SupC K P C f qual x fld body fd
  gC : mg name = some (.ref C)
  iC : PySem.W.findIn K (.ref C) "__init__" = some (some (.ref f))
  tI : PySem.W.typeIn K (.ref f) = some (.type "function")
  bI : Binds K fd ["self", x] []
  xf : XfC K C
  ec : ExcC K C
  te : PySem.W.exmOne K (.ref C) (.ref C) = some true
theorem pmk_sup {X : Cx} {C f : Addr} {fd : FuncData} {name qual x fld m : Str} {j : Nat} {p0 p1 p2 p3 p4 p5 p6 p7 p8 p9 p pos : Pos} {e : Expr}
    (T : ErrC X.K X.prog X.mg C f fd name qual x fld [.Expr (.Call (.Attribute (.Call (.Name "super" p0) [] [] p1) "__init__" p2) [.Constant (.str m) j p3] [] p4) p5, .Assign [.Attribute (.Name "self" p6) fld p7] (.Name x p8) p9])
    (hsup : X.mg "super" = none) (hx : (x == ("__debug__" : Str)) = false) (hx2 : (x == ("__classdict__" : Str)) = false)
    (hev : ∃ pl : Env → Sem Bool, ∀ env : Env, eval (.Call (.Attribute (.Call (.Name "super" p0) [] [] p1) "__init__" p2) [.Constant (.str m) j p3] [] p4) env = (do
      let ov ← attributeBase (.Call (.Name "super" p0) [] [] p1) "__init__" env (eval (.Call (.Name "super" p0) [] [] p1) env)
      standAt p2.atName
      let (f, first) ← holding [ov] (getMethod ov "__init__" (pl env))
      callWith p4 f first (backTo p4 (starEach [.Constant (.str m) j p3] env)) []))
    (hr : Room 7 X.A) (hg : Gl X name) {es : List Expr} {ta : TA} (ha : PA X (e :: es) ta) (hdb : (name == ("__debug__" : Str)) = false)
    (hst : starEach (e :: es) X.env = (false, eval e X.env) :: starEach es X.env := by rfl) (hpl : (backTo pos (starEach es X.env)).any (·.1) = false := by rfl) :
    PMk X (.Call (.Name name p) (e :: es) [] pos) (tMkO C (sp_sup C fld) [] ta) :=
  pmk_oex (CX := CX0) (k := 6) T.sup.oex T.iC T.tI (sup_ok T.sup hsup hx hx2 hev) hr T.bI .nil pass0 hg T.gC ha hdb hst hpl
/-- isinstance(e, c), e the exception that the suite holds, its dict at dd -/
def rIsED (K : PySem.W.Frag) (a : Addr) (cls : Value) (d : Option Addr) : List V → Hp → VK → Prop := fun xs H Q => ∃ (D dd : Addr) (c : V) (cv : Value) (b : Bool) (fs : List (Str × V)), cls = .ref D ∧ d = some dd ∧ ExcC K D ∧ xs = [.ref a, c] ∧ H dd = some (.xd fs) ∧ (∀ u, RelV c u → u = cv) ∧ PySem.W.kitOne K (.ref D) cv = some b ∧ Q (.bl b) H
theorem call_isED {X : Cx} {a : Addr} {cls : Value} {d : Option Addr} {oe : Obj} {pn : List (Addr × Obj)} (hz : Zc cls d oe) (hf : ∃ vs, oe.data = .fields vs) : CallR (X.suite a ((a, oe) :: pn)) (.builtin "isinstance") (rIsED X.K a cls d) := by
  intro pins s σ H xs us Q I r h
  obtain ⟨D, dd, c, cv, b, fs, rfl, rfl, C, rfl, hdd, hcv, e, q⟩ := h
  cases r with
  | cons rx rr =>
    cases rr with
    | cons rt rr =>
      cases rr
      cases rx
      have ec := hcv _ rt
      subst ec
      obtain ⟨hget, _⟩ := I.pin (a, oe) (List.mem_append.mpr (.inl List.mem_cons_self))
      obtain ⟨vs, hv⟩ := hf
      have hx : ObjOk X.prog X.w H s.heap dd (.xd fs) := I.hok dd _ hdd
      obtain ⟨mA, hns, hr⟩ := hx
      obtain ⟨od, ho, hl⟩ := lookIn_ns hns
      have J : PySem.W.InstAt s.heap a oe D (some od) := ⟨hget, hz.1, by unfold PySem.W.notCls; rw [hv] <;> rfl, by rw [hz.2]; exact ho⟩
      have hcl : (PySem.W.clsIn X.K D).isSome = true := by
        obtain ⟨cd, hc, _⟩ := PySem.W.any_some C.hd
        rw [hc] <;> rfl
      exact PySem.W.kia_one (PySem.W.kitx_exc hcl C.hg C.hk C.hs C.ha C.hn C.ht C.hm) I.kIn J e (fun z => nomatch z) fun tk => ⟨.bl b, H, I.kept (t' := tk) fun _ _ z => z, rfl, q⟩
theorem room65 {k : Nat} {A : Around} (r : Room k A) : A.units + 65 < cLine := by have := r.un; omega
/-! ### texts -/
def clsDef (st : Stmt) (i : Nat) : Stmt := match st with
  | .ClassDef _ _ _ body _ _ _ _ _ _ _ => body.getD i (.Pass ⟨0, 0, 0, 0⟩)
  | _ => .Pass ⟨0, 0, 0, 0⟩
section
variable {K : PySem.W.Frag} {σ : L2.St} {H : Hp} {Q : VK}
def rSplit : V → List V → Hp → VK → Prop := fun x xs H Q => ∃ a b, x = .str a ∧ xs = [.str b] ∧ (b.length == 0) = false ∧ a.length + 2 ≤ sizeLine ∧ rNewStrs (Txt.split a b) H Q
theorem p_split {X : Cx} {o e : Expr} {to te : TE} {apos pos : Pos} (ho : PE X o to) (he : PE X e te) (hs : starEach [e] X.env = [(false, eval e X.env)] := by rfl) (hbase : attributeBase o "split" X.env (eval o X.env) = eval o X.env := by rfl) (hline : (apos.endLine == pos.line) = true := by rfl) :
    PE X (.Call (.Attribute o "split" apos) [e] [] pos) (tM1 rSplit to te) := pe_split ho he hs hbase hline
theorem r_split {a b : Str} (hb : (b.length == 0) = false) (hz : a.length + 2 ≤ sizeLine) (h : ∀ p H', H p = none → Same H H' → H' p = some (.lst ((Txt.split a b).map V.str)) → (∀ q, q ≠ p → H' q = H q) → Q (.ref p) H') : rSplit (.str a) [.str b] H Q :=
  ⟨a, b, rfl, rfl, hb, hz, fun p hp => h p _ hp (same_upd hp) upd_same fun _ hne => upd_ne hne⟩
def rStrV : List V → Hp → VK → Prop := fun xs H Q => (∃ i, xs = [.int i] ∧ i.natAbs.log2 < 1920 ∧ Q (.str (toString i)) H) ∨ ∃ a, xs = [.str a] ∧ Q (.str a) H
theorem c_strV {X : Cx} : CallR X (.type "str") rStrV := fun pins s σ H xs us Q I r h => by
  rcases h with h | h
  · exact call_str_int pins s σ H xs us Q I r h
  · exact SkE.call_str_str pins s σ H xs us Q I r h
theorem r_strV {a : Str} (h : Q (.str a) H) : rStrV [.str a] H Q := .inr ⟨a, rfl, h⟩
theorem r_strVI {i : Int} (hi : i.natAbs.log2 < 1920) (h : Q (.str (toString i)) H) : rStrV [.int i] H Q := .inl ⟨i, rfl, hi, h⟩
def rIntS : List V → Hp → VK → Prop := fun xs H Q => ∃ a n, xs = [.str a] ∧ PySem.intText? a = some n ∧ a.length ≤ 640 ∧ Q (.int n) H
theorem c_intS {X : Cx} : CallR X (.type "int") rIntS := call_int_str
theorem r_intS {a : Str} {n : Int} (e : PySem.intText? a = some n) (hl : a.length ≤ 640) (h : Q (.int n) H) : rIntS [.str a] H Q := ⟨a, n, rfl, e, hl, h⟩
theorem r_slS {z : Str} {lo hi : Option Int} (hz : z.length ≤ sizeLine) (h : Q (.str (cutS z lo hi)) H) : rSlS (.str z) lo hi H Q := ⟨z, rfl, hz, h⟩
theorem r_addS {i j : Str} (hz : i.length + j.length ≤ sizeLine) (h : Q (.str (i ++ j)) H) : rAddS (.str i) (.str j) H Q := ⟨i, j, rfl, rfl, hz, h⟩
theorem r_lenS {z : Str} (hz : z.length ≤ sizeLine) (h : Q (.int z.length) H) : rLenStr [.str z] H Q := ⟨z, rfl, hz, h⟩
end
theorem r_callS {σ : L2.St} {H : Hp} {Q : VK} {sp : Sp} {E : L2.St → XK} {t : TA} (h : t σ H fun vs H1 => sp vs H1 Q (E σ)) : tCallS sp E t σ H Q := h
/-! ### rules whose reading names the written part by K itself (within a comprehension's block) -/
theorem p_joinK {X : Cx} {K : PySem.W.Frag} (hK : X.K = K) {o e : Expr} {to te : TE} {apos pos : Pos} (ho : PE X o to) (he : PE X e te) (hs : starEach [e] X.env = [(false, eval e X.env)] := by rfl) (hbase : attributeBase o "join" X.env (eval o X.env) = eval o X.env := by rfl) (hline : (apos.endLine == pos.line) = true := by rfl) :
    PE X (.Call (.Attribute o "join" apos) [e] [] pos) (tM1 (rJoin K) to te) := by
  subst hK
  exact p_join ho he hs hbase hline
theorem pi_tupK {X : Cx} {K : PySem.W.Frag} (hK : X.K = K) {tg e : Expr} {te : TE} (h : PE X e te) : PI X tg e (iTup K te) := by
  subst hK
  exact pi_tup h
theorem pi_listK {X : Cx} {K : PySem.W.Frag} (hK : X.K = K) {tg e : Expr} {te : TE} (h : PE X e te) : PI X tg e (iList K te) := by
  subst hK
  exact pi_list h
section
variable {K : PySem.W.Frag} {σ : L2.St} {H : Hp} {Q : VK}
theorem lcR2_by {G : Hp} {a b : Int} {i₀ : Nat} {tt : TT} {te : TE} {vs : List Nat} (acc : Nat → Hp → List V → Prop) (sG : Same G H) (hb : -(2 ^ 62) ≤ a ∧ a < 2 ^ 62 ∧ -(2 ^ 62) ≤ b ∧ b < 2 ^ 62) (h0 : ∀ H' D, H D = none → Same H H' → (∀ q, q ≠ D → H' q = H q) → acc 0 H' [])
    (hw : ∀ x : V, wipe ((wipe σ vs).set i₀ (some x)) vs = wipe σ vs)
    (hs : ∀ (i : Nat) H' D ys, i < (b - a).toNat → H D = none → Same G H' → H' D = some (.lst ys) → acc i H' ys → lcB tt te D (fun H2 => Same G H2 ∧ ∃ zs, H2 D = some (.lst zs) ∧ acc (i + 1) H2 zs) ((wipe σ vs).set i₀ (some (.int (a + i)))) H')
    (hd : ∀ H' D ys, H D = none → Same G H' → H' D = some (.lst ys) → acc (b - a).toNat H' ys → Q (.ref D) H') : lcR2 (gName i₀) tt te vs σ Q [.int a, .int b] H :=
  ⟨a, b, rfl, hb, fun D hD => lc_range (fun i H' => Same G H' ∧ ∃ ys, H' D = some (.lst ys) ∧ acc i H' ys) ⟨sG.trans (same_upd hD), _, upd_same, h0 _ D hD (same_upd hD) (fun _ hq => upd_ne hq)⟩
    (fun i H' hi ⟨sm, ys, hy, ha⟩ => ⟨hw _, hs i H' D ys hi hD sm hy ha⟩) (fun H' ⟨sm, ys, hy, ha⟩ => hd H' D ys hD sm hy ha)⟩
end
end Dt
namespace Dt
open PySem PySem.Spec PyProof.Rows L2 NdefX
/-! ### what the top has written of an own exception's class -/
theorem cls_ok {K : PySem.W.Frag} {S : Addr} (h2 : PySem.W.isClsIn K S = true) (h3 : PySem.W.typeIn K (.ref S) = some (.type "type")) : ((PySem.W.clsIn K S).isSome && PySem.W.typeIn K (.ref S) == some (.type "type")) = true := by
  have h2' : (PySem.W.clsIn K S).isSome = true := h2
  rw [h2', h3] <;> rfl
theorem exm_of {K : PySem.W.Frag} {c : Value} {S : Addr} {b : Bool} (h1 : PySem.W.subIn K (.ref S) (.type "BaseException") = some true) (h2 : PySem.W.isClsIn K S = true) (h3 : PySem.W.typeIn K (.ref S) = some (.type "type")) (h4 : PySem.W.subIn K c (.ref S) = some b) :
    PySem.W.exmOne K c (.ref S) = some b := by
  have e1 : (PySem.W.subIn K (.ref S) (.type "BaseException") == some true) = true := by rw [h1] <;> rfl
  show (if (PySem.W.subIn K (.ref S) (.type "BaseException") == some true) = true then (if ((PySem.W.clsIn K S).isSome && PySem.W.typeIn K (.ref S) == some (.type "type")) = true then PySem.W.subIn K c (.ref S) else none) else none) = some b
  rw [if_pos e1, if_pos (cls_ok h2 h3)]
  exact h4
theorem kit_of {K : PySem.W.Frag} {C S : Addr} {b : Bool} (h0 : PySem.W.subIn K (.ref C) (.ref C) = some true) (h2 : PySem.W.isClsIn K S = true) (h3 : PySem.W.typeIn K (.ref S) = some (.type "type")) (h4 : PySem.W.subIn K (.ref C) (.ref S) = some b) :
    PySem.W.kitOne K (.ref C) (.ref S) = some b := by
  show (if (Value.ref C == Value.ref S) = true then some true else (if ((PySem.W.clsIn K S).isSome && PySem.W.typeIn K (.ref S) == some (.type "type")) = true then PySem.W.subIn K (.ref C) (.ref S) else none)) = some b
  rw [if_pos (cls_ok h2 h3)]
  by_cases e : (Value.ref C == Value.ref S) = true
  · rw [if_pos e]
    have e2 : Value.ref C = Value.ref S := beq_iff_eq.mp e
    rw [← e2, h0] at h4
    exact h4
  · rw [if_neg e]
    exact h4
theorem errC_mk {P : Program} {K : PySem.W.Frag} {h : Heap} {mg : Str → Option Value} {C f aD cda cc : Addr} (X : K.In h) (G : h.Ns mainGlobals mg) {name qual x fld : Str} {body : List Stmt} {params : Arguments} {scope : Scope}
    {nm q nm' q' : Str} {N N' : Addr} {bs bs' : List Value} {sn sn' : List Str} {sub sub' : List Value} {ab ab' : Bool} {col col' : Option Bool} {dd dd' : Option Addr} {m0 m1 m2 m3 m5 m0' m1' m2' m3' m5' : Option Value}
    {oc kV doc pm ct ccl cl : Value} {od an cdd cld : Option Addr} {osl ccs csl : Array (Option Value)} {vs : Array Value} {file : Str} {tf : Tok} {ar : Arg}
    (aC : PySem.W.nsIn K mainGlobals name = some (some (.ref C)))
    (xL : K.lookup C = some (excClassObj nm q C N bs [.ref aD, .type "ValueError", .type "Exception", .type "BaseException", .type "object"] true sn sub ab col dd m0 m1 m2 m3 m5 "ValueError.__new__"))
    (xD : K.lookup aD = some (excClassObj nm' q' aD N' bs' [.type "ValueError", .type "Exception", .type "BaseException", .type "object"] true sn' sub' ab' col' dd' m0' m1' m2' m3' m5' "ValueError.__new__"))
    (sa : PySem.W.findIn K (.ref C) "__setattr__" = some (some (.builtin "object.__setattr__"))) (ga : PySem.W.findIn K (.ref C) "__getattribute__" = some (some (.builtin "BaseException.__getattribute__"))) (gg : PySem.W.findIn K (.ref C) "__getattr__" = some none)
    (nb : PySem.W.findIn K (.ref C) fld = some none) (iC : PySem.W.findIn K (.ref C) "__init__" = some (some (.ref f))) (iD : PySem.W.findIn K (.ref aD) "__init__" = some (some (.builtin "ValueError.__init__")))
    (kk : PySem.W.findIn K (.ref C) "__class__" = some (some (.builtin "object.__class__"))) (kn : PySem.W.specialIn K (.builtin "object.__class__") "__get__" = some (some (.builtin "getset_descriptor.__get__"))) (kt : PySem.W.takesIn K (.builtin "object.__class__") = some true) (km : PySem.W.mroIn K C (.type "object") = some true)
    (tI : PySem.W.typeIn K (.ref f) = some (.type "function")) (l1 : K.lookup f = some ⟨oc, od, .func (PySem.W.fnX "__init__" qual params body scope [("__class__", cc)] .none kV doc pm an (.ref cda) ct), osl⟩)
    (c1 : PySem.W.codeIn K (.ref cda) qual = true) (lc : K.lookup cda = some ⟨ccl, cdd, .fields vs, ccs⟩) (hv : vs[2]? = some (.str file tf)) (hfile : ((P.main.file : Str) == file) = true) (lcc : K.lookup cc = some ⟨cl, cld, .cell (some (.ref C)), csl⟩)
    (kC : PySem.W.keepIn K (.ref C) = true) (eC : PySem.W.subIn K (.ref C) (.type "BaseException") = some true) (tC : PySem.W.typeIn K (.ref C) = some (.type "type")) (hC : PySem.W.hasDictIn K C = true) (iCls : PySem.W.isClsIn K C = true) (sC : PySem.W.subIn K (.ref C) (.ref C) = some true)
    (mC : PySem.W.mroIn K C (.ref C) = some true) (sV : PySem.W.subIn K (.ref C) (.type "ValueError") = some true) (htop : (P.main.scope.names.lookup ("super" : Str)).isSome = false) (hop : PySem.W.nsIn K PySem.cStatics "thirdparty.any" = some none)
    (nsc : NScope ["self", x, "__class__"] ["self", x] ["__class__"] scope) (hks : scope.names.lookup ("super" : Str) = some .globalImplicit) (hhd : (params.posonlyargs ++ params.args).head? = some ar) (har : ar.arg = "self")
    (bI : L2.Binds K (PySem.W.fnX "__init__" qual params body scope [("__class__", cc)] .none kV doc pm an (.ref cda) ct) ["self", x] []) :
    ErrC K P mg C f (PySem.W.fnX "__init__" qual params body scope [("__class__", cc)] .none kV doc pm an (.ref cda) ct) name qual x fld body where
  sup := {
    oex := ⟨⟨nm, q, N, bs, _, sn, sub, ab, col, dd, m0, m1, m2, m3, m5, xL, rfl⟩, sa, eC, tC, kC⟩
    ex := by
      refine ⟨params, scope, cc, cda, oc, cl, ccl, od, cdd, cld, .none, kV, doc, pm, ct, an, osl, ccs, csl, vs, file, tf, _, ar, [.ref aD, .type "ValueError", .type "Exception", .type "BaseException", .type "object"], rfl, l1, c1, lc, hv, hfile, lcc, by unfold PySem.W.clsIn; rw [xL], mC, htop, nsc, hks, hhd, har, hop, ?_, ?_, sV⟩
      · show ((Value.ref C :: _).dropWhile (· != .ref C)).drop 1 = _
        rw [List.dropWhile_cons]
        have e : ((Value.ref C) != Value.ref C) = false := by
          rw [bne, beq_self_eq_true]
          rfl
        rw [e]
        rfl
      · have e := iD
        unfold PySem.W.findIn at e
        dsimp only at e
        rw [xD] at e
        exact e
    fld := nb }
  gC := PySem.W.mg_of X G aC
  iC := iC
  tI := tI
  bI := bI
  xf := ⟨ga, gg, eC, hC⟩
  ec := ⟨ga, gg, eC, hC, kk, kn, kt, km⟩
  te := exm_of eC iCls tC sC
end Dt

namespace Dt
open PySem PySem.Spec PyProof.Rows L2
/-! ### plain: texts of scripts -/
def numS (i : Int) : Str := Str.ofString (toString i)
def digs : List Str := (List.range 10).map fun (i : Nat) => numS i
def isDig (w : Str) : Bool := digs.contains w
theorem dig_all : ∀ i : Fin 10, PySem.intText? (numS (i.val : Int)) = some (i.val : Int) ∧ (numS (i.val : Int)).length = 1 ∧ numS (i.val : Int) ≠ "all" := by decide +kernel
theorem dig_out {w : Str} (h : isDig w = true) : ∃ i : Nat, i < 10 ∧ w = numS i := by
  unfold isDig digs at h
  rw [List.contains_iff_mem] at h
  obtain ⟨i, hi, e⟩ := List.mem_map.mp h
  exact ⟨i, List.mem_range.mp hi, e.symm⟩
def partV (w : Str) : V := if w = "all" then .non else if isDig w then .int ((PySem.intText? w).getD 0) else .str w
def partD (w : Str) : PyData := if w = "all" then .none else if isDig w then .int ((PySem.intText? w).getD 0) else .str w
theorem part_dp {K : PySem.W.Frag} {H : Hp} (w : Str) : Dp K H (partV w) (partD w) := by
  unfold partV partD
  split
  · exact .non
  · split
    · exact .int _
    · exact .str _
def wordsOf (l : Str) : List Str := Txt.split l " "
def lineD (l : Str) : PyData := if goodW (.tuple ((wordsOf l).map partD)) then .tuple ((wordsOf l).map partD) else .none
def linesD (t : Str) : List PyData := (Txt.split t "\n").map lineD
/-- the line of the error, or what is read -/
def readD (d : PyData) : Int ⊕ List PyData := match d with
  | .str t => if t = "" then .inr [] else
      match (linesD t).findIdx? (fun z => PyData.eqv z .none) with
      | some i => .inl (i + 1)
      | none => if (linesD t).length > 8 then .inl 9 else .inr (linesD t)
  | _ => .inl 0
theorem inV_digs (w : Str) (n : Nat) : inV (.str w) (((List.range n).map fun (i : Nat) => numS i).map V.str) = ((List.range n).map fun (i : Nat) => numS i).contains w := inV_strs w _
theorem part_dps {K : PySem.W.Frag} {H : Hp} : ∀ ws : List Str, DpAll K H (ws.map partV) (ws.map partD)
  | [] => .nil
  | w :: ws => .cons (part_dp w) (part_dps ws)
theorem size_ok {n : Nat} (h : n ≤ 1000000) : n + 2 ≤ sizeLine := Nat.le_trans (Nat.add_le_add_right h 2) (by decide)
theorem sp_len : ((" " : Str).length == 0) = false := by decide +kernel
theorem nl_len : (("\n" : Str).length == 0) = false := by decide +kernel
theorem split_le2 (t y : Str) : (Txt.split t y).length ≤ t.length + 2 := PyProof.Rows.split_le t y
theorem joinL_mem {S : List Nat} : ∀ {ps : List (List Nat)} {p : List Nat}, p ∈ ps → p.length ≤ (TL.joinL S ps).length
  | [], _, h => by cases h
  | [q], p, h => by
    rw [List.mem_singleton.mp h]
    exact Nat.le_refl _
  | q :: r :: ps, p, h => by
    show p.length ≤ (q ++ (S ++ TL.joinL S (r :: ps))).length
    rw [List.length_append, List.length_append]
    rcases List.mem_cons.mp h with h | h
    · rw [h]; omega
    · have := joinL_mem (S := S) h
      omega
theorem line_le {t y l : Str} (h : l ∈ Txt.split t y) : l.length ≤ t.length := by
  have e := PySem.StrLaws.join_split t y
  have e2 := TL.tl_join y (Txt.split t y)
  rw [e] at e2
  rw [TL.len_tl, TL.len_tl, e2]
  exact joinL_mem (List.mem_map_of_mem h)
theorem eqv_non (d : PyData) : PyData.eqv d .none = true ↔ d = .none := by
  cases d <;> simp [PyData.eqv]
theorem word2 {d : PyData} {ws : List Str} (h : isWordD d ws = true) : ∃ s, d = .str s ∧ s ∈ ws := by
  cases d with
  | str s => exact ⟨s, rfl, by simpa [isWordD] using h⟩
  | _ => cases h
theorem num2 {d : PyData} {l m : Int} (h : isNumD d l m = true) : ∃ i, d = .int i ∧ l ≤ i ∧ i ≤ m := by
  cases d with
  | int i =>
    have h : (decide (l ≤ i) && decide (i ≤ m)) = true := h
    rw [Bool.and_eq_true] at h
    exact ⟨i, rfl, of_decide_eq_true h.1, of_decide_eq_true h.2⟩
  | _ => cases h
/-- what is good is a walker -/
theorem goodW_wk {d : PyData} (h : goodW d = true) : ∃ w : Wk, w.Ok ∧ d = w.toD := by
  match d, h with
  | .tuple [a, b, c, e, f], h =>
    unfold goodW at h
    simp only [Bool.and_eq_true] at h
    obtain ⟨ha, hb, hc, he, hf⟩ := h
    obtain ⟨sa, rfl, ma⟩ := word2 ha
    obtain ⟨sb, rfl, mb⟩ := word2 hb
    obtain ⟨ic, rfl, c1, c2⟩ := num2 hc
    obtain ⟨ie, rfl, e1, e2⟩ := num2 he
    have fm : ∃ m : Option Int, f = manyD m ∧ ∀ x, m = some x → 1 ≤ x ∧ x ≤ 9 := by
      by_cases h0 : f = .none
      · exact ⟨none, h0, fun x hx => by cases hx⟩
      · have h9 : isNumD f 1 9 = true := by
          cases f with
          | none => exact absurd rfl h0
          | _ => exact hf
        obtain ⟨i, rfl, i1, i2⟩ := num2 h9
        exact ⟨some i, rfl, fun x hx => by cases hx; exact ⟨i1, i2⟩⟩
    obtain ⟨m, rfl, hm⟩ := fm
    have la : ∃ l : Bool, sa = endS l := by
      simp only [List.mem_cons, List.not_mem_nil, or_false] at ma
      rcases ma with rfl | rfl
      · exact ⟨true, rfl⟩
      · exact ⟨false, rfl⟩
    have lb : ∃ x : Deed, sb = x.s := by
      simp only [List.mem_cons, List.not_mem_nil, or_false] at mb
      rcases mb with rfl | rfl | rfl
      · exact ⟨.op, rfl⟩
      · exact ⟨.sh, rfl⟩
      · exact ⟨.tu, rfl⟩
    obtain ⟨l, rfl⟩ := la
    obtain ⟨x, rfl⟩ := lb
    exact ⟨⟨l, x, ic, ie, m⟩, ⟨c1, c2, e1, e2, hm⟩, rfl⟩
theorem wk_dk (w : Wk) : Dk 20000 1 w.toD := by
  refine ⟨by show 5 ≤ 20000; decide, fun d hd => ?_⟩
  simp only [List.mem_cons, List.not_mem_nil, or_false] at hd
  rcases hd with rfl | rfl | rfl | rfl | rfl
  · cases w.left <;> exact (show PyData.strOk _ = true by decide +kernel)
  · cases w.deed <;> exact (show PyData.strOk _ = true by decide +kernel)
  · exact trivial
  · exact trivial
  · cases w.many <;> exact trivial
theorem lineD_dk (l : Str) : Dk 20000 1 (lineD l) := by
  unfold lineD
  split
  · rename_i h
    obtain ⟨w, _, e⟩ := goodW_wk h
    rw [e]
    exact wk_dk w
  · exact trivial
theorem linesD_dk {t : Str} (h : t.length ≤ 10000) : Dk 20000 2 (.list (linesD t)) := by
  refine ⟨?_, fun d hd => ?_⟩
  · have := split_le2 t "\n"
    unfold linesD
    rw [List.length_map]
    omega
  · obtain ⟨l, _, rfl⟩ := List.mem_map.mp hd
    exact lineD_dk l
def fromD : PyData → V
  | .int i => .int i
  | .str s => .str s
  | .bool b => .bl b
  | _ => .non
theorem fromD_part (w : Str) : fromD (partD w) = partV w := by
  unfold partD partV
  split
  · rfl
  · split <;> rfl
theorem good_vs {ws : List Str} {w : Wk} (e : PyData.tuple (ws.map partD) = w.toD) : ws.map partV = w.vs := by
  have e2 : ws.map partD = [.str (endS w.left), .str w.deed.s, .int w.first, .int w.step, manyD w.many] := PyData.tuple.inj e
  have e3 := congrArg (List.map fromD) e2
  rw [List.map_map] at e3
  rw [show partV = fromD ∘ partD from funext fun w => (fromD_part w).symm, e3]
  cases h : w.many <;> simp [Wk.vs, fromD, manyD, manyV, h]
/-- what walker_in hands back -/
def LineV (K : PySem.W.Frag) (H : Hp) (v : V) (l : Str) : Prop := (lineD l = .none ∧ v = .non) ∨ ∃ w : Wk, w.Ok ∧ lineD l = w.toD ∧ IsWk K H v w
theorem LineV.st {K : PySem.W.Frag} {H H' : Hp} (s : ST H H') {v : V} {l : Str} (h : LineV K H v l) : LineV K H' v l := h.elim .inl fun ⟨w, o, e, i⟩ => .inr ⟨w, o, e, i.st s⟩
theorem LineV.dp {K : PySem.W.Frag} {H : Hp} {v : V} {l : Str} (h : LineV K H v l) : Dp K H v (lineD l) := by
  rcases h with ⟨e, rfl⟩ | ⟨w, _, e, i⟩
  · rw [e]; exact .non
  · rw [e]; exact i.dp
theorem LineV.dps {K : PySem.W.Frag} {H : Hp} : ∀ {vs : List V} {ls : List Str}, Paired (LineV K H) vs ls → DpAll K H vs (ls.map lineD)
  | _, _, .nil => .nil
  | _, _, .cons r t => .cons r.dp (LineV.dps t)
theorem lineD_cases (l : Str) : lineD l = .none ∨ ∃ a b c e f, wordsOf l = [a, b, c, e, f] ∧ lineD l = .tuple [partD a, partD b, partD c, partD e, partD f] := by
  unfold lineD
  cases h : goodW (.tuple ((wordsOf l).map partD)) with
  | false => exact .inl (if_neg (by decide))
  | true =>
    refine .inr ?_
    match e : wordsOf l, h with
    | [], h => cases h
    | [_], h => cases h
    | [_, _], h => cases h
    | [_, _, _], h => cases h
    | [_, _, _, _], h => cases h
    | [a, b, c, d, f], _ => exact ⟨a, b, c, d, f, rfl, if_pos rfl⟩
    | _ :: _ :: _ :: _ :: _ :: _ :: _, h => cases h
theorem readD_none {t : Str} (ht : t ≠ "") {i : Nat} (h : (linesD t).findIdx? (fun z => PyData.eqv z .none) = some i) : readD (.str t) = .inl (i + 1) := by
  show (if t = "" then _ else _) = _
  rw [if_neg ht, h]
theorem readD_many {t : Str} (ht : t ≠ "") (h : (linesD t).findIdx? (fun z => PyData.eqv z .none) = none) (hn : (linesD t).length > 8) : readD (.str t) = .inl 9 := by
  show (if t = "" then _ else _) = _
  rw [if_neg ht, h]
  exact if_pos hn
theorem readD_ok {t : Str} (ht : t ≠ "") (h : (linesD t).findIdx? (fun z => PyData.eqv z .none) = none) (hn : ¬ (linesD t).length > 8) : readD (.str t) = .inr (linesD t) := by
  show (if t = "" then _ else _) = _
  rw [if_neg ht, h]
  exact if_neg hn
theorem ne_none {H H' : Hp} {d : Addr} (s : Same H H') (n : H' d = none) : H d = none := by
  cases e : H d with
  | none => rfl
  | some o =>
    rw [s d o e] at n
    cases n
theorem sqL_tyV {K : PySem.W.Frag} {H : Hp} {a : Addr} {xs : List V} (h : SqL K H a xs) : tyV K "list" (.ref a) H := .inl ⟨rfl, _, h⟩
theorem find_out {α : Type} {p : α → Bool} {l : List α} {i : Nat} (h : l.findIdx? p = some i) : ∃ z, l[i]? = some z ∧ p z = true ∧ ∀ (m : Nat) (z' : α), m < i → l[m]? = some z' → p z' = false := by
  obtain ⟨hi, hp, hn⟩ := List.findIdx?_eq_some_iff_getElem.mp h
  refine ⟨l[i], List.getElem?_eq_getElem hi, hp, fun m z' hm e => ?_⟩
  obtain ⟨hm2, e2⟩ := List.getElem?_eq_some_iff.mp e
  have := hn m hm
  rw [e2] at this
  simpa using this
/-! ### the text of a script -/
def manyS : Option Int → Str
  | none => "all"
  | some m => numS m
def Wk.parts (w : Wk) : List Str := [endS w.left, w.deed.s, numS w.first, numS w.step, manyS w.many]
def lineW (w : Wk) : Str := Txt.join " " w.parts
def textW (s : Scr) : Str := Txt.join "\n" (s.map lineW)
def partT : V → Str
  | .non => "all"
  | .int i => numS i
  | .str s => s
  | _ => ""
theorem parts_vs (w : Wk) : w.vs.map partT = w.parts := by
  cases h : w.many <;> simp [Wk.vs, Wk.parts, partT, manyV, manyS, h]
theorem log_small {i : Int} (h : i.natAbs ≤ 1000) : i.natAbs.log2 < 1920 := by
  by_cases h0 : i.natAbs = 0
  · rw [h0]; decide
  · exact (Nat.log2_lt h0).mpr (Nat.lt_of_le_of_lt h (by decide +kernel))
/-- what stands in a walker -/
def PartOk : V → Prop
  | .non => True
  | .int i => i.natAbs ≤ 1000
  | .str _ => True
  | _ => False
theorem vs_ok {w : Wk} (ok : w.Ok) : ∀ v ∈ w.vs, PartOk v := fun v hv => by
  have h1 := ok.f0
  have h2 := ok.f5
  have h3 := ok.s1
  have h4 := ok.s6
  simp only [Wk.vs, List.mem_cons, List.not_mem_nil, or_false] at hv
  rcases hv with rfl | rfl | rfl | rfl | rfl
  · exact trivial
  · exact trivial
  · show w.first.natAbs ≤ 1000; omega
  · show w.step.natAbs ≤ 1000; omega
  · cases h : w.many with
    | none => exact trivial
    | some m =>
      have := ok.m m h
      show m.natAbs ≤ 1000
      omega
theorem numS_len {i : Int} (h0 : 0 ≤ i) (h9 : i ≤ 9) : (numS i).length = 1 := by
  obtain ⟨n, rfl⟩ : ∃ n : Nat, i = n := ⟨i.toNat, by omega⟩
  exact (dig_all ⟨n, by omega⟩).2.1
theorem parts_sum {w : Wk} (ok : w.Ok) : (w.parts.map (·.length)).sum ≤ 14 := by
  have h1 : (endS w.left).length ≤ 5 := by cases w.left <;> decide +kernel
  have h2 : w.deed.s.length ≤ 4 := by cases w.deed <;> decide +kernel
  have f0 := ok.f0
  have f5 := ok.f5
  have s1 := ok.s1
  have s6 := ok.s6
  have h3 := numS_len (i := w.first) f0 (by omega)
  have h4 := numS_len (i := w.step) (by omega) (by omega)
  have h5 : (manyS w.many).length ≤ 3 := by
    cases h : w.many with
    | none => decide +kernel
    | some m =>
      have := ok.m m h
      show (numS m).length ≤ 3
      rw [numS_len (by omega) (by omega)]
      decide
  show (endS w.left).length + (w.deed.s.length + ((numS w.first).length + ((numS w.step).length + ((manyS w.many).length + 0)))) ≤ 14
  omega
theorem lineW_le {w : Wk} (ok : w.Ok) : (w.parts.map (·.length)).sum + w.parts.length * (" " : Str).length ≤ 16777216 := by
  have h1 := parts_sum ok
  have h2 : (" " : Str).length = 1 := by decide +kernel
  have h3 : w.parts.length = 5 := rfl
  rw [h2, h3]
  omega
theorem joinL_len {S : List Nat} : ∀ ps : List (List Nat), (TL.joinL S ps).length ≤ (ps.map (·.length)).sum + ps.length * S.length
  | [] => Nat.zero_le _
  | [p] => by
    show p.length ≤ p.length + 0 + _
    omega
  | p :: q :: r => by
    have h := joinL_len (S := S) (q :: r)
    show (p ++ (S ++ TL.joinL S (q :: r))).length ≤ _
    rw [List.length_append, List.length_append, List.map_cons, List.sum_cons, List.length_cons (a := p), Nat.add_mul, Nat.one_mul]
    omega
theorem join_len (y : Str) (ps : List Str) : (Txt.join y ps).length ≤ (ps.map (·.length)).sum + ps.length * y.length := by
  rw [TL.join_eq, TL.len_tl, TL.tl_join]
  have h := joinL_len (S := TL.tl y) (ps.map TL.tl)
  rw [List.map_map, List.length_map] at h
  have e : ps.map (List.length ∘ TL.tl) = ps.map (·.length) := List.map_congr_left fun x _ => (TL.len_tl x).symm
  rw [show ((fun l => l.length) ∘ TL.tl : Str → Nat) = List.length ∘ TL.tl from rfl, e, ← TL.len_tl y] at h
  exact h
theorem lineW_len {w : Wk} (ok : w.Ok) : (lineW w).length ≤ 19 := by
  have h := join_len " " w.parts
  have h1 := parts_sum ok
  have h2 : (" " : Str).length = 1 := by decide +kernel
  have h3 : w.parts.length = 5 := rfl
  rw [h2, h3] at h
  exact Nat.le_trans h (by omega)
theorem lines_sum : ∀ {s : Scr}, (∀ w ∈ s, w.Ok) → ((s.map lineW).map (·.length)).sum ≤ s.length * 19
  | [], _ => Nat.zero_le _
  | w :: s, h => by
    have h1 := lineW_len (h w List.mem_cons_self)
    have h2 := lines_sum (s := s) fun x hx => h x (List.mem_cons_of_mem _ hx)
    show (lineW w).length + ((s.map lineW).map (·.length)).sum ≤ (s.length + 1) * 19
    omega
theorem textW_sum {s : Scr} (ok : ScrOk s) : ((s.map lineW).map (·.length)).sum + (s.map lineW).length * ("\n" : Str).length ≤ 200 := by
  have h1 := lines_sum ok.ok
  have h2 : ("\n" : Str).length = 1 := by decide +kernel
  have h3 := ok.len
  rw [h2, List.length_map]
  omega
theorem textW_len {s : Scr} (ok : ScrOk s) : (textW s).length ≤ 200 := Nat.le_trans (join_len _ _) (textW_sum ok)
/-! ### the law's own readings -/
def smallS (w : Str) (l m : Nat) : Bool := ((List.range (m + 1 - l)).map fun (i : Nat) => numS (l + i : Nat)).contains w
def goodL (l : Str) : Bool := match wordsOf l with
  | [a, b, c, d, e] => (["left", "right"] : List Str).contains a && ((["open", "shut", "turn"] : List Str).contains b && (smallS c 0 5 && (smallS d 1 6 && (decide (e = "all") || smallS e 1 9))))
  | _ => false
theorem goodL_no {l : Str} (h : (wordsOf l).length ≠ 5) : goodL l = false := by
  unfold goodL
  match e : wordsOf l, h with
  | [], _ => rfl
  | [_], _ => rfl
  | [_, _], _ => rfl
  | [_, _, _], _ => rfl
  | [_, _, _, _], _ => rfl
  | [a, b, c, d, f], h => exact absurd rfl h
  | _ :: _ :: _ :: _ :: _ :: _ :: _, _ => rfl
theorem five {α : Type} {l : List α} (h : l.length = 5) : ∃ a b c d e, l = [a, b, c, d, e] := by
  match l, h with
  | [a, b, c, d, e], _ => exact ⟨a, b, c, d, e, rfl⟩
/-! ### what the law reads is what the program reads -/
theorem numS_inj {i j : Nat} (hi : i < 10) (hj : j < 10) (h : numS i = numS j) : i = j := by
  have a := (dig_all ⟨i, hi⟩).1
  have b := (dig_all ⟨j, hj⟩).1
  have a : PySem.intText? (numS i) = some (i : Int) := a
  have b : PySem.intText? (numS j) = some (j : Int) := b
  rw [h, b] at a
  have := Option.some.inj a
  omega
theorem isDig_num {i : Nat} (h : i < 10) : isDig (numS i) = true := by
  unfold isDig digs
  rw [List.contains_iff_mem]
  exact List.mem_map.mpr ⟨i, List.mem_range.mpr h, rfl⟩
theorem partD_all : partD "all" = .none := if_pos rfl
theorem partD_num {i : Nat} (h : i < 10) : partD (numS i) = .int i := by
  unfold partD
  have a : PySem.intText? (numS i) = some (i : Int) := (dig_all ⟨i, h⟩).1
  rw [if_neg (dig_all ⟨i, h⟩).2.2, if_pos (isDig_num h), a]
  rfl
theorem partD_str {w : Str} (h1 : w ≠ "all") (h2 : isDig w = false) : partD w = .str w := by
  unfold partD
  rw [if_neg h1, h2]
  exact if_neg (by decide)
theorem smallS_iff {w : Str} {l m : Nat} : smallS w l m = true ↔ ∃ j, l ≤ j ∧ j ≤ m ∧ w = numS j := by
  unfold smallS
  rw [List.contains_iff_mem, List.mem_map]
  constructor
  · rintro ⟨j, hj, rfl⟩
    have := List.mem_range.mp hj
    exact ⟨l + j, by omega, by omega, rfl⟩
  · rintro ⟨j, h1, h2, rfl⟩
    exact ⟨j - l, List.mem_range.mpr (by omega), by rw [show l + (j - l) = j by omega]⟩
theorem all_dig : isDig "all" = false := by decide +kernel
theorem num_small {w : Str} {l m : Nat} (hm : m ≤ 9) : isNumD (partD w) l m = smallS w l m := by
  have no : (∀ j : Nat, j < 10 → w ≠ numS j) → smallS w l m = false := fun h => by
    cases e : smallS w l m with
    | false => rfl
    | true =>
      obtain ⟨j, _, h2, h3⟩ := smallS_iff.mp e
      exact absurd h3 (h j (by omega))
  by_cases h1 : w = "all"
  · subst h1
    rw [partD_all, no fun j hj e => (dig_all ⟨j, hj⟩).2.2 e.symm]
    rfl
  · cases h2 : isDig w with
    | false =>
      rw [partD_str h1 h2, no fun j hj e => by rw [e, isDig_num hj] at h2; cases h2]
      rfl
    | true =>
      obtain ⟨i, hi, rfl⟩ := dig_out h2
      rw [partD_num hi]
      show (decide ((l : Int) ≤ i) && decide ((i : Int) ≤ m)) = _
      cases e : smallS (numS i) l m with
      | true =>
        obtain ⟨j, h3, h4, h5⟩ := smallS_iff.mp e
        have := numS_inj hi (by omega) h5
        rw [decide_eq_true (show (l : Int) ≤ i by omega), decide_eq_true (show (i : Int) ≤ m by omega)]
        rfl
      | false =>
        rw [Bool.and_eq_false_iff]
        by_cases h3 : l ≤ i
        · refine .inr (decide_eq_false fun h4 => ?_)
          rw [smallS_iff.mpr ⟨i, h3, by omega, rfl⟩] at e
          cases e
        · exact .inl (decide_eq_false (by omega))
theorem word_in {w : Str} {ws : List Str} (h : ws.all (fun x => !(decide (x = "all")) && !isDig x) = true) : isWordD (partD w) ws = ws.contains w := by
  rw [List.all_eq_true] at h
  have no : (w = "all" ∨ isDig w = true) → ws.contains w = false := fun hw => by
    cases e : ws.contains w with
    | false => rfl
    | true =>
      have := h w (List.contains_iff_mem.mp e)
      rw [Bool.and_eq_true, Bool.not_eq_true', Bool.not_eq_true', decide_eq_false_iff_not] at this
      rcases hw with z | z
      · exact absurd z this.1
      · rw [this.2] at z
        cases z
  by_cases h1 : w = "all"
  · rw [no (.inl h1), h1, partD_all]
    rfl
  · cases h2 : isDig w with
    | false =>
      rw [partD_str h1 h2]
      rfl
    | true =>
      rw [no (.inr h2)]
      obtain ⟨i, hi, rfl⟩ := dig_out h2
      rw [partD_num hi]
      rfl
theorem many_in (w : Str) : (match partD w with | .none => true | _ => isNumD (partD w) 1 9) = (decide (w = "all") || smallS w 1 9) := by
  by_cases h1 : w = "all"
  · subst h1
    rw [partD_all]
    rfl
  · rw [decide_eq_false h1, Bool.false_or, ← num_small (by decide)]
    have : partD w ≠ .none := by
      unfold partD
      rw [if_neg h1]
      split <;> exact fun z => by cases z
    cases e : partD w with
    | none => exact absurd e this
    | _ => rfl
theorem good_line (l : Str) : goodW (.tuple ((wordsOf l).map partD)) = goodL l := by
  unfold goodL
  match e : wordsOf l with
  | [] => rfl
  | [_] => rfl
  | [_, _] => rfl
  | [_, _, _] => rfl
  | [_, _, _, _] => rfl
  | [a, b, c, d, f] =>
    show (isWordD (partD a) ["left", "right"] && (isWordD (partD b) ["open", "shut", "turn"] && (isNumD (partD c) (0 : Nat) (5 : Nat) && (isNumD (partD d) (1 : Nat) (6 : Nat) && (match partD f with | .none => true | _ => isNumD (partD f) 1 9))))) = _
    rw [word_in (by decide +kernel), word_in (by decide +kernel), num_small (by decide), num_small (by decide), many_in]
  | _ :: _ :: _ :: _ :: _ :: _ :: _ => rfl
theorem eqv_non2 (l : Str) : PyData.eqv (lineD l) .none = !goodL l := by
  unfold lineD
  rw [good_line]
  cases goodL l with
  | true => rw [if_pos rfl]; rfl
  | false => rw [if_neg (by decide)]; rfl
/-- the line of the error, as the law tells it -/
def badOf (t : Str) : Option Nat := if t = "" then none else match (Txt.split t "\n").findIdx? (fun l => !goodL l) with
  | some i => some (i + 1)
  | none => if (Txt.split t "\n").length > 8 then some 9 else none
theorem find_lines (t : Str) : (linesD t).findIdx? (fun z => PyData.eqv z .none) = (Txt.split t "\n").findIdx? (fun l => !goodL l) := by
  unfold linesD
  rw [List.findIdx?_map]
  congr 1
  funext l
  exact eqv_non2 l
theorem linesD_len (t : Str) : (linesD t).length = (Txt.split t "\n").length := List.length_map ..
theorem read_bad (t : Str) : readD (.str t) = match badOf t with | some n => .inl n | none => .inr (if t = "" then [] else linesD t) := by
  unfold readD badOf
  by_cases h : t = ""
  · simp only [if_pos h]
  · simp only [if_neg h]
    rw [find_lines]
    cases (Txt.split t "\n").findIdx? (fun l => !goodL l) with
    | some i => rfl
    | none =>
      show (if (linesD t).length > 8 then _ else _) = _
      rw [linesD_len]
      by_cases h8 : (Txt.split t "\n").length > 8
      · simp only [if_pos h8]
        rfl
      · simp only [if_neg h8]
theorem partT_partV (w : Str) : partT (partV w) = w := by
  unfold partV
  by_cases h1 : w = "all"
  · rw [if_pos h1, h1]; rfl
  · rw [if_neg h1]
    cases h2 : isDig w with
    | false => rw [if_neg (by decide)]; rfl
    | true =>
      rw [if_pos rfl]
      obtain ⟨i, hi, rfl⟩ := dig_out h2
      have a : PySem.intText? (numS i) = some (i : Int) := (dig_all ⟨i, hi⟩).1
      rw [a]
      rfl
theorem join_back (t y : Str) : Txt.join y (Txt.split t y) = t := by
  rw [TL.join_eq]
  exact PySem.StrLaws.join_split t y
theorem line_back {l : Str} (h : goodL l = true) : ∃ w : Wk, w.Ok ∧ lineD l = w.toD ∧ lineW w = l := by
  rw [← good_line] at h
  obtain ⟨w, ok, e⟩ := goodW_wk h
  refine ⟨w, ok, ?_, ?_⟩
  · unfold lineD
    rw [if_pos h, e]
  · have e2 := good_vs e
    unfold lineW
    rw [← parts_vs, ← e2, List.map_map]
    rw [show (wordsOf l).map (partT ∘ partV) = wordsOf l from (List.map_congr_left fun w _ => partT_partV w).trans (List.map_id _)]
    exact join_back l " "
theorem lines_back : ∀ {ls : List Str}, (∀ l ∈ ls, goodL l = true) → ∃ sc : Scr, (∀ w ∈ sc, w.Ok) ∧ ls.map lineD = sc.map Wk.toD ∧ sc.map lineW = ls
  | [], _ => ⟨[], fun _ h => (by cases h), rfl, rfl⟩
  | l :: ls, h => by
    obtain ⟨w, ok, e1, e2⟩ := line_back (h l List.mem_cons_self)
    obtain ⟨sc, oks, f1, f2⟩ := lines_back (ls := ls) fun x hx => h x (List.mem_cons_of_mem _ hx)
    refine ⟨w :: sc, fun x hx => ?_, ?_, ?_⟩
    · rcases List.mem_cons.mp hx with z | z
      · rw [z]; exact ok
      · exact oks x z
    · rw [List.map_cons, List.map_cons, e1, f1]
    · rw [List.map_cons, e2, f2]
theorem find_none {α : Type} {p : α → Bool} {l : List α} (h : l.findIdx? p = none) : ∀ x ∈ l, p x = false := by
  rw [List.findIdx?_eq_none_iff] at h
  exact h
/-- a text without an error is that of a script -/
theorem text_back {t : Str} (h : badOf t = none) : ∃ sc : Scr, ScrOk sc ∧ readD (.str t) = .inr (sc.map Wk.toD) ∧ textW sc = t := by
  have e := read_bad t
  rw [h] at e
  by_cases h0 : t = ""
  · rw [if_pos h0] at e
    exact ⟨[], ⟨Nat.zero_le _, fun _ z => by cases z⟩, e, by rw [h0]; rfl⟩
  · rw [if_neg h0] at e
    unfold badOf at h
    rw [if_neg h0] at h
    cases hf : (Txt.split t "\n").findIdx? (fun l => !goodL l) with
    | some i => rw [hf] at h; cases h
    | none =>
      rw [hf] at h
      have h8 : ¬ (Txt.split t "\n").length > 8 := fun z => by
        rw [show (match (none : Option Nat) with | some i => some (i + 1) | none => if (Txt.split t "\n").length > 8 then some 9 else none) = (if (Txt.split t "\n").length > 8 then some 9 else none) from rfl, if_pos z] at h
        cases h
      obtain ⟨sc, oks, f1, f2⟩ := lines_back (ls := Txt.split t "\n") fun l hl => by
        have := find_none hf l hl
        simpa using this
      refine ⟨sc, ⟨?_, oks⟩, ?_, ?_⟩
      · have := congrArg List.length f2
        rw [List.length_map] at this
        omega
      · rw [e]
        exact congrArg Sum.inr f1
      · unfold textW
        rw [f2]
        exact join_back t "\n"
/-! and the text of a script has none -/
theorem mem_joinL {c : Nat} {S : List Nat} : ∀ {ps : List (List Nat)}, c ∈ TL.joinL S ps → c ∈ S ∨ ∃ p ∈ ps, c ∈ p
  | [], h => by cases h
  | [p], h => .inr ⟨p, List.mem_singleton.mpr rfl, h⟩
  | p :: q :: r, h => by
    have h : c ∈ p ++ (S ++ TL.joinL S (q :: r)) := h
    rcases List.mem_append.mp h with h | h
    · exact .inr ⟨p, List.mem_cons_self, h⟩
    · rcases List.mem_append.mp h with h | h
      · exact .inl h
      · rcases mem_joinL h with h | ⟨x, hx, hc⟩
        · exact .inl h
        · exact .inr ⟨x, List.mem_cons_of_mem _ hx, hc⟩
/-- neither a blank nor a line feed -/
def plainS (s : Str) : Bool := !((TL.tl s).contains 32) && !((TL.tl s).contains 10)
theorem num_plain : ∀ i : Fin 10, plainS (numS (i.val : Int)) = true := by decide +kernel
theorem nums_plain {i : Int} (h0 : 0 ≤ i) (h9 : i ≤ 9) : plainS (numS i) = true := by
  obtain ⟨n, rfl⟩ : ∃ n : Nat, i = n := ⟨i.toNat, by omega⟩
  exact num_plain ⟨n, by omega⟩
theorem parts_plain {w : Wk} (ok : w.Ok) : ∀ p ∈ w.parts, plainS p = true := fun p hp => by
  have h1 := ok.f0
  have h2 := ok.f5
  have h3 := ok.s1
  have h4 := ok.s6
  simp only [Wk.parts, List.mem_cons, List.not_mem_nil, or_false] at hp
  rcases hp with rfl | rfl | rfl | rfl | rfl
  · cases w.left <;> decide +kernel
  · cases w.deed <;> decide +kernel
  · exact nums_plain h1 (by omega)
  · exact nums_plain (by omega) (by omega)
  · cases h : w.many with
    | none => decide +kernel
    | some m =>
      have := ok.m m h
      exact nums_plain (by omega) (by omega)
theorem plain_out {s : Str} (h : plainS s = true) : 32 ∉ TL.tl s ∧ 10 ∉ TL.tl s := by
  unfold plainS at h
  rw [Bool.and_eq_true, Bool.not_eq_true', Bool.not_eq_true'] at h
  refine ⟨fun z => ?_, fun z => ?_⟩
  · rw [List.contains_iff_mem.mpr z] at h
    cases h.1
  · rw [List.contains_iff_mem.mpr z] at h
    cases h.2
theorem words_line {w : Wk} (ok : w.Ok) : wordsOf (lineW w) = w.parts :=
  TL.split_join (y := " ") (s := 32) (S := []) (by decide +kernel) (by decide +kernel) (by simp [Wk.parts]) fun p hp => (plain_out (parts_plain ok p hp)).1
theorem line_plain {w : Wk} (ok : w.Ok) : 10 ∉ TL.tl (lineW w) := fun h => by
  unfold lineW at h
  rw [TL.join_eq, TL.tl_join] at h
  rcases mem_joinL h with h | ⟨x, hx, hc⟩
  · exact absurd h (by decide +kernel)
  · obtain ⟨p, hp, rfl⟩ := List.mem_map.mp hx
    exact (plain_out (parts_plain ok p hp)).2 hc
theorem part_nat {i : Int} (h0 : 0 ≤ i) (h9 : i ≤ 9) : partD (numS i) = .int i := by
  obtain ⟨n, rfl⟩ : ∃ n : Nat, i = n := ⟨i.toNat, by omega⟩
  exact partD_num (by omega)
theorem parts_D {w : Wk} (ok : w.Ok) : PyData.tuple (w.parts.map partD) = w.toD := by
  have h1 := ok.f0
  have h2 := ok.f5
  have h3 := ok.s1
  have h4 := ok.s6
  show PyData.tuple [partD (endS w.left), partD w.deed.s, partD (numS w.first), partD (numS w.step), partD (manyS w.many)] = _
  rw [part_nat h1 (by omega), part_nat (by omega) (by omega)]
  rw [show partD (endS w.left) = .str (endS w.left) by cases w.left <;> exact partD_str (by decide +kernel) (by decide +kernel)]
  rw [show partD w.deed.s = .str w.deed.s by cases w.deed <;> exact partD_str (by decide +kernel) (by decide +kernel)]
  rw [show partD (manyS w.many) = manyD w.many by
    cases h : w.many with
    | none => exact partD_all
    | some m =>
      have := ok.m m h
      exact part_nat (by omega) (by omega)]
  rfl
theorem lineD_line {w : Wk} (ok : w.Ok) : lineD (lineW w) = w.toD ∧ goodL (lineW w) = true := by
  have e : goodW (.tuple ((wordsOf (lineW w)).map partD)) = true := by
    rw [words_line ok, parts_D ok]
    exact goodW_of ok
  refine ⟨?_, by rw [← good_line]; exact e⟩
  unfold lineD
  rw [if_pos e, words_line ok, parts_D ok]
theorem lines_text {s : Scr} (ok : ScrOk s) (hne : s ≠ []) : Txt.split (textW s) "\n" = s.map lineW :=
  TL.split_join (y := "\n") (s := 10) (S := []) (by decide +kernel) (by decide +kernel) (fun z => hne (List.map_eq_nil_iff.mp z)) fun p hp => by
    obtain ⟨w, hw, rfl⟩ := List.mem_map.mp hp
    exact line_plain (ok.ok w hw)
theorem empty_line : goodL "" = false := by decide +kernel
theorem split_empty : Txt.split "" "\n" = ([""] : List Str) := by decide +kernel
theorem text_ne {s : Scr} (ok : ScrOk s) (hne : s ≠ []) : textW s ≠ "" := fun h => by
  have e := lines_text ok hne
  rw [h, split_empty] at e
  match s, hne with
  | w :: r, _ =>
    rw [List.map_cons] at e
    have e1 : "" = lineW w := (List.cons.inj e).1
    have := (lineD_line (ok.ok w List.mem_cons_self)).2
    rw [← e1, empty_line] at this
    cases this
theorem text_bad {s : Scr} (ok : ScrOk s) : badOf (textW s) = none := by
  by_cases hne : s = []
  · subst hne
    rfl
  · unfold badOf
    rw [if_neg (text_ne ok hne), lines_text ok hne]
    have : (s.map lineW).findIdx? (fun l => !goodL l) = none := by
      rw [List.findIdx?_eq_none_iff]
      intro l hl
      obtain ⟨w, hw, rfl⟩ := List.mem_map.mp hl
      rw [(lineD_line (ok.ok w hw)).2]
      rfl
    rw [this]
    have h8 := ok.len
    show (if (s.map lineW).length > 8 then _ else _) = _
    rw [List.length_map]
    exact if_neg (by omega)
theorem text_read {s : Scr} (ok : ScrOk s) : readD (.str (textW s)) = .inr (s.map Wk.toD) := by
  have e := read_bad (textW s)
  rw [text_bad ok] at e
  rw [e]
  by_cases hne : s = []
  · subst hne
    rfl
  · show Sum.inr (if textW s = "" then [] else linesD (textW s)) = _
    rw [if_neg (text_ne ok hne)]
    unfold linesD
    rw [lines_text ok hne, List.map_map]
    congr 1
    exact List.map_congr_left fun w hw => (lineD_line (ok.ok w hw)).1
/-! ### a script out of what is told of its data -/
section
variable {K : PySem.W.Frag} {H : Hp}
theorem dp_str {v : V} {s : Str} (h : Dp K H v (.str s)) : v = .str s := by cases h; rfl
theorem dp_int {v : V} {i : Int} (h : Dp K H v (.int i)) : v = .int i := by cases h; rfl
theorem dp_non {v : V} (h : Dp K H v .none) : v = .non := by cases h; rfl
theorem dp_many {v : V} {m : Option Int} (h : Dp K H v (manyD m)) : v = manyV m := by
  cases m with
  | none => exact dp_non h
  | some m => exact dp_int h
theorem dp_tup {v : V} {ds : List PyData} (h : Dp K H v (.tuple ds)) : ∃ a vs, v = .ref a ∧ SqT K H a vs ∧ DpAll K H vs ds := by
  cases h with
  | tup hs ha => exact ⟨_, _, rfl, hs, ha⟩
theorem dps_cons {vs : List V} {d : PyData} {ds : List PyData} (h : DpAll K H vs (d :: ds)) : ∃ v r, vs = v :: r ∧ Dp K H v d ∧ DpAll K H r ds := by
  cases h with
  | cons a b => exact ⟨_, _, rfl, a, b⟩
theorem dps_nil {vs : List V} (h : DpAll K H vs []) : vs = [] := by
  cases h
  rfl
theorem wk_of_dp {v : V} {w : Wk} (h : Dp K H v w.toD) : IsWk K H v w := by
  obtain ⟨a, vs, rfl, hs, ha⟩ := dp_tup h
  obtain ⟨v1, r1, rfl, e1, ha⟩ := dps_cons ha
  obtain ⟨v2, r2, rfl, e2, ha⟩ := dps_cons ha
  obtain ⟨v3, r3, rfl, e3, ha⟩ := dps_cons ha
  obtain ⟨v4, r4, rfl, e4, ha⟩ := dps_cons ha
  obtain ⟨v5, r5, rfl, e5, ha⟩ := dps_cons ha
  obtain rfl := dps_nil ha
  obtain rfl := dp_str e1
  obtain rfl := dp_str e2
  obtain rfl := dp_int e3
  obtain rfl := dp_int e4
  obtain rfl := dp_many e5
  exact ⟨a, rfl, hs⟩
theorem scr_of_dps : ∀ {vs : List V} {s : Scr}, DpAll K H vs (s.map Wk.toD) → Paired (IsWk K H) vs s
  | vs, [], h => by
    obtain rfl := dps_nil h
    exact .nil
  | vs, w :: s, h => by
    obtain ⟨v, r, rfl, e, h⟩ := dps_cons h
    exact .cons (wk_of_dp e) (scr_of_dps h)
theorem scr_of_dp {v : V} {s : Scr} (h : Dp K H v (toDS s)) : IsScr K H v s := by
  obtain ⟨a, vs, rfl, hs, ha⟩ := dp_tup h
  exact ⟨a, vs, rfl, hs, scr_of_dps ha⟩
end
/-! ### lengths -/
theorem joinL_ge {S : List Nat} : ∀ ps : List (List Nat), (ps.map (·.length)).sum ≤ (TL.joinL S ps).length
  | [] => Nat.zero_le _
  | [p] => by
    show p.length + 0 ≤ p.length
    omega
  | p :: q :: r => by
    have h := joinL_ge (S := S) (q :: r)
    show p.length + ((q :: r).map (·.length)).sum ≤ (p ++ (S ++ TL.joinL S (q :: r))).length
    rw [List.length_append, List.length_append]
    omega
theorem split_sum (t y : Str) : ((Txt.split t y).map (·.length)).sum ≤ t.length := by
  have e := PySem.StrLaws.join_split t y
  have e2 := TL.tl_join y (Txt.split t y)
  rw [e] at e2
  have h := joinL_ge (S := TL.tl y) ((Txt.split t y).map TL.tl)
  rw [← e2, ← TL.len_tl, List.map_map] at h
  refine Nat.le_trans (Nat.le_of_eq ?_) h
  exact congrArg List.sum (List.map_congr_left fun x _ => TL.len_tl x)
theorem sum_sub {l m : List Str} (h : l.Sublist m) : (l.map (·.length)).sum ≤ (m.map (·.length)).sum := by
  induction h with
  | slnil => exact Nat.le_refl _
  | cons a _ ih =>
    rw [List.map_cons, List.sum_cons]
    omega
  | cons_cons a _ ih =>
    rw [List.map_cons, List.sum_cons, List.map_cons, List.sum_cons]
    omega
theorem cutV_mid (xs : List V) (i j : Nat) : cutV xs (some (i : Int)) (some (j : Int)) = (xs.drop (min i xs.length)).take (min j xs.length - min i xs.length) := by
  unfold cutV
  rw [HT.sIx_nat, HT.sIx_nat]
end Dt

namespace Dt
open PySem PySem.Spec PyProof.Rows L2
def top (i : Nat) : Stmt := PySem.Challenge.pw_doorsturned_k10_texts_of_scripts.main.body.getD i (.Pass ⟨0, 0, 0, 0⟩)
abbrev s_is_number : Stmt := top 5
theorem sc_is_number : FnScope ["value", "least", "most"] ["value", "least", "most"] (defScope s_is_number) := ⟨rfl, rfl, rfl, by decide +kernel, rfl, by decide +kernel, by decide +kernel⟩
abbrev s_is_tuple : Stmt := top 6
theorem sc_is_tuple : FnScope ["value", "least", "most"] ["value", "least", "most"] (defScope s_is_tuple) := ⟨rfl, rfl, rfl, by decide +kernel, rfl, by decide +kernel, by decide +kernel⟩
abbrev s_is_word : Stmt := top 7
theorem sc_is_word : FnScope ["value", "words"] ["value", "words"] (defScope s_is_word) := ⟨rfl, rfl, rfl, by decide +kernel, rfl, by decide +kernel, by decide +kernel⟩
abbrev s_is_good_walker : Stmt := top 8
theorem sc_is_good_walker : FnScope ["value"] ["value"] (defScope s_is_good_walker) := ⟨rfl, rfl, rfl, by decide +kernel, rfl, by decide +kernel, by decide +kernel⟩
abbrev s_is_good_script : Stmt := top 9
theorem sc_is_good_script : FnScope ["value", "walker"] ["value"] (defScope s_is_good_script) := ⟨rfl, rfl, rfl, by decide +kernel, rfl, by decide +kernel, by decide +kernel⟩
abbrev s_need_script : Stmt := top 10
theorem sc_need_script : FnScope ["value"] ["value"] (defScope s_need_script) := ⟨rfl, rfl, rfl, by decide +kernel, rfl, by decide +kernel, by decide +kernel⟩
abbrev s_is_script : Stmt := top 11
theorem sc_is_script : FnScope ["value"] ["value"] (defScope s_is_script) := ⟨rfl, rfl, rfl, by decide +kernel, rfl, by decide +kernel, by decide +kernel⟩
abbrev s_lines_of : Stmt := top 13
theorem sc_lines_of : FnScope ["script", "walker", "part"] ["script"] (defScope s_lines_of) := ⟨rfl, rfl, rfl, by decide +kernel, rfl, by decide +kernel, by decide +kernel⟩
abbrev s_part_in : Stmt := top 14
theorem sc_part_in : FnScope ["word", "number"] ["word"] (defScope s_part_in) := ⟨rfl, rfl, rfl, by decide +kernel, rfl, by decide +kernel, by decide +kernel⟩
abbrev s_walker_in : Stmt := top 15
theorem sc_walker_in : FnScope ["line", "found", "word"] ["line"] (defScope s_walker_in) := ⟨rfl, rfl, rfl, by decide +kernel, rfl, by decide +kernel, by decide +kernel⟩
abbrev s_script_in : Stmt := top 16
theorem sc_script_in : FnScope ["value", "found", "line"] ["value"] (defScope s_script_in) := ⟨rfl, rfl, rfl, by decide +kernel, rfl, by decide +kernel, by decide +kernel⟩
abbrev s_script_text : Stmt := top 17
theorem sc_script_text : FnScope ["script"] ["script"] (defScope s_script_text) := ⟨rfl, rfl, rfl, by decide +kernel, rfl, by decide +kernel, by decide +kernel⟩
abbrev s_read_script : Stmt := top 18
theorem sc_read_script : FnScope ["value"] ["value"] (defScope s_read_script) := ⟨rfl, rfl, rfl, by decide +kernel, rfl, by decide +kernel, by decide +kernel⟩
abbrev s__law_source : Stmt := top 20
theorem sc__law_source : FnScope ["script", "k", "cell"] ["script", "k"] (defScope s__law_source) := ⟨rfl, rfl, rfl, by decide +kernel, rfl, by decide +kernel, by decide +kernel⟩
abbrev s__law_draw : Stmt := top 21
theorem sc__law_draw : FnScope ["source", "many", "found"] ["source", "many"] (defScope s__law_draw) := ⟨rfl, rfl, rfl, by decide +kernel, rfl, by decide +kernel, by decide +kernel⟩
abbrev s__law_of : Stmt := top 22
theorem sc__law_of : FnScope ["source", "items"] ["source", "items"] (defScope s__law_of) := ⟨rfl, rfl, rfl, by decide +kernel, rfl, by decide +kernel, by decide +kernel⟩
abbrev s__law_walker : Stmt := top 23
theorem sc__law_walker : FnScope ["source", "end", "deed", "step", "many", "first"] ["source"] (defScope s__law_walker) := ⟨rfl, rfl, rfl, by decide +kernel, rfl, by decide +kernel, by decide +kernel⟩
abbrev s__law_script : Stmt := top 24
theorem sc__law_script : FnScope ["source", "most", "turn"] ["source", "most"] (defScope s__law_script) := ⟨rfl, rfl, rfl, by decide +kernel, rfl, by decide +kernel, by decide +kernel⟩
abbrev s__law_written : Stmt := top 25
theorem sc__law_written : FnScope ["walks", "lines", "walker", "part"] ["walks"] (defScope s__law_written) := ⟨rfl, rfl, rfl, by decide +kernel, rfl, by decide +kernel, by decide +kernel⟩
abbrev s__law_read : Stmt := top 26
theorem sc__law_read : FnScope ["text", "e"] ["text"] (defScope s__law_read) := ⟨rfl, rfl, rfl, by decide +kernel, rfl, by decide +kernel, by decide +kernel⟩
abbrev s__law_small : Stmt := top 27
theorem sc__law_small : FnScope ["word", "least", "most", "amount"] ["word", "least", "most"] (defScope s__law_small) := ⟨rfl, rfl, rfl, by decide +kernel, rfl, by decide +kernel, by decide +kernel⟩
abbrev s__law_good_line : Stmt := top 28
theorem sc__law_good_line : FnScope ["line", "words"] ["line"] (defScope s__law_good_line) := ⟨rfl, rfl, rfl, by decide +kernel, rfl, by decide +kernel, by decide +kernel⟩
abbrev s__law_bad : Stmt := top 29
theorem sc__law_bad : FnScope ["text", "lines", "at", "line"] ["text"] (defScope s__law_bad) := ⟨rfl, rfl, rfl, by decide +kernel, rfl, by decide +kernel, by decide +kernel⟩
abbrev s__law_spoilt : Stmt := top 30
theorem sc__law_spoilt : FnScope ["source", "text", "at", "less_so", "signs", "lines", "spot", "rest"] ["source", "text"] (defScope s__law_spoilt) := ⟨rfl, rfl, rfl, by decide +kernel, rfl, by decide +kernel, by decide +kernel⟩
abbrev s_law : Stmt := top 31
theorem sc_law : FnScope ["script", "k", "source", "walks", "text", "turn", "found", "line", "good", "texts"] ["script"] (defScope s_law) := ⟨rfl, rfl, rfl, by decide +kernel, rfl, by decide +kernel, by decide +kernel⟩
/-- what the top has written -/
structure Txt (P : Program) (K : PySem.W.Frag) (mg : Str → Option Value) where
  f_is_number : Addr
  d_is_number : FuncData
  F_is_number : Fun K "is_number" "is_number" s_is_number f_is_number d_is_number
  b_is_number : Binds K d_is_number ["value", "least", "most"] []
  g_is_number : mg "is_number" = some (.ref f_is_number)
  f_is_tuple : Addr
  d_is_tuple : FuncData
  F_is_tuple : Fun K "is_tuple" "is_tuple" s_is_tuple f_is_tuple d_is_tuple
  b_is_tuple : Binds K d_is_tuple ["value", "least", "most"] []
  g_is_tuple : mg "is_tuple" = some (.ref f_is_tuple)
  f_is_word : Addr
  d_is_word : FuncData
  F_is_word : Fun K "is_word" "is_word" s_is_word f_is_word d_is_word
  b_is_word : Binds K d_is_word ["value", "words"] []
  g_is_word : mg "is_word" = some (.ref f_is_word)
  f_is_good_walker : Addr
  d_is_good_walker : FuncData
  F_is_good_walker : Fun K "is_good_walker" "is_good_walker" s_is_good_walker f_is_good_walker d_is_good_walker
  b_is_good_walker : Binds K d_is_good_walker ["value"] []
  g_is_good_walker : mg "is_good_walker" = some (.ref f_is_good_walker)
  f_is_good_script : Addr
  d_is_good_script : FuncData
  F_is_good_script : Fun K "is_good_script" "is_good_script" s_is_good_script f_is_good_script d_is_good_script
  b_is_good_script : Binds K d_is_good_script ["value"] []
  g_is_good_script : mg "is_good_script" = some (.ref f_is_good_script)
  f_need_script : Addr
  d_need_script : FuncData
  F_need_script : Fun K "need_script" "need_script" s_need_script f_need_script d_need_script
  b_need_script : Binds K d_need_script ["value"] []
  g_need_script : mg "need_script" = some (.ref f_need_script)
  f_is_script : Addr
  d_is_script : FuncData
  F_is_script : Fun K "is_script" "is_script" s_is_script f_is_script d_is_script
  b_is_script : Binds K d_is_script ["value"] []
  g_is_script : mg "is_script" = some (.ref f_is_script)
  f_lines_of : Addr
  d_lines_of : FuncData
  F_lines_of : Fun K "lines_of" "lines_of" s_lines_of f_lines_of d_lines_of
  b_lines_of : Binds K d_lines_of ["script"] []
  g_lines_of : mg "lines_of" = some (.ref f_lines_of)
  f_part_in : Addr
  d_part_in : FuncData
  F_part_in : Fun K "part_in" "part_in" s_part_in f_part_in d_part_in
  b_part_in : Binds K d_part_in ["word"] []
  g_part_in : mg "part_in" = some (.ref f_part_in)
  f_walker_in : Addr
  d_walker_in : FuncData
  F_walker_in : Fun K "walker_in" "walker_in" s_walker_in f_walker_in d_walker_in
  b_walker_in : Binds K d_walker_in ["line"] []
  g_walker_in : mg "walker_in" = some (.ref f_walker_in)
  f_script_in : Addr
  d_script_in : FuncData
  F_script_in : Fun K "script_in" "script_in" s_script_in f_script_in d_script_in
  b_script_in : Binds K d_script_in ["value"] []
  g_script_in : mg "script_in" = some (.ref f_script_in)
  f_script_text : Addr
  d_script_text : FuncData
  F_script_text : Fun K "script_text" "script_text" s_script_text f_script_text d_script_text
  b_script_text : Binds K d_script_text ["script"] []
  g_script_text : mg "script_text" = some (.ref f_script_text)
  f_read_script : Addr
  d_read_script : FuncData
  F_read_script : Fun K "read_script" "read_script" s_read_script f_read_script d_read_script
  b_read_script : Binds K d_read_script ["value"] []
  g_read_script : mg "read_script" = some (.ref f_read_script)
  f__law_source : Addr
  d__law_source : FuncData
  F__law_source : Fun K "_law_source" "_law_source" s__law_source f__law_source d__law_source
  b__law_source : Binds K d__law_source ["script", "k"] []
  g__law_source : mg "_law_source" = some (.ref f__law_source)
  f__law_draw : Addr
  d__law_draw : FuncData
  F__law_draw : Fun K "_law_draw" "_law_draw" s__law_draw f__law_draw d__law_draw
  b__law_draw : Binds K d__law_draw ["source", "many"] []
  g__law_draw : mg "_law_draw" = some (.ref f__law_draw)
  f__law_of : Addr
  d__law_of : FuncData
  F__law_of : Fun K "_law_of" "_law_of" s__law_of f__law_of d__law_of
  b__law_of : Binds K d__law_of ["source", "items"] []
  g__law_of : mg "_law_of" = some (.ref f__law_of)
  f__law_walker : Addr
  d__law_walker : FuncData
  F__law_walker : Fun K "_law_walker" "_law_walker" s__law_walker f__law_walker d__law_walker
  b__law_walker : Binds K d__law_walker ["source"] []
  g__law_walker : mg "_law_walker" = some (.ref f__law_walker)
  f__law_script : Addr
  d__law_script : FuncData
  F__law_script : Fun K "_law_script" "_law_script" s__law_script f__law_script d__law_script
  b__law_script : Binds K d__law_script ["source", "most"] []
  g__law_script : mg "_law_script" = some (.ref f__law_script)
  f__law_written : Addr
  d__law_written : FuncData
  F__law_written : Fun K "_law_written" "_law_written" s__law_written f__law_written d__law_written
  b__law_written : Binds K d__law_written ["walks"] []
  g__law_written : mg "_law_written" = some (.ref f__law_written)
  f__law_read : Addr
  d__law_read : FuncData
  F__law_read : Fun K "_law_read" "_law_read" s__law_read f__law_read d__law_read
  b__law_read : Binds K d__law_read ["text"] []
  g__law_read : mg "_law_read" = some (.ref f__law_read)
  f__law_small : Addr
  d__law_small : FuncData
  F__law_small : Fun K "_law_small" "_law_small" s__law_small f__law_small d__law_small
  b__law_small : Binds K d__law_small ["word", "least", "most"] []
  g__law_small : mg "_law_small" = some (.ref f__law_small)
  f__law_good_line : Addr
  d__law_good_line : FuncData
  F__law_good_line : Fun K "_law_good_line" "_law_good_line" s__law_good_line f__law_good_line d__law_good_line
  b__law_good_line : Binds K d__law_good_line ["line"] []
  g__law_good_line : mg "_law_good_line" = some (.ref f__law_good_line)
  f__law_bad : Addr
  d__law_bad : FuncData
  F__law_bad : Fun K "_law_bad" "_law_bad" s__law_bad f__law_bad d__law_bad
  b__law_bad : Binds K d__law_bad ["text"] []
  g__law_bad : mg "_law_bad" = some (.ref f__law_bad)
  f__law_spoilt : Addr
  d__law_spoilt : FuncData
  F__law_spoilt : Fun K "_law_spoilt" "_law_spoilt" s__law_spoilt f__law_spoilt d__law_spoilt
  b__law_spoilt : Binds K d__law_spoilt ["source", "text"] []
  g__law_spoilt : mg "_law_spoilt" = some (.ref f__law_spoilt)
  f_law : Addr
  d_law : FuncData
  F_law : Fun K "law" "law" s_law f_law d_law
  b_law : Binds K d_law ["script"] []
  g_law : mg "law" = some (.ref f_law)
  z_tuple : mg "tuple" = none
  z_enumerate : mg "enumerate" = none
  z_range : mg "range" = none
  z_isinstance : mg "isinstance" = none
  z_int : mg "int" = none
  z_str : mg "str" = none
  z_all : mg "all" = none
  z_len : mg "len" = none
  z_abs : mg "abs" = none
  z_bool : mg "bool" = none
  z_min : mg "min" = none
  z_super : mg "super" = none
  a_DoorError : Addr
  g_DoorError : mg "DoorError" = some (.ref a_DoorError)
  a_InvalidText : Addr
  i_InvalidText : Addr
  d_InvalidText : FuncData
  E_InvalidText : ErrC K P mg a_InvalidText i_InvalidText d_InvalidText "InvalidText" "InvalidText.__init__" "line" "line" (defBody (clsDef (top 3) 0))
  n_InvalidText : PySem.W.nsIn K mainGlobals "InvalidText" = some (some (.ref a_InvalidText))
  j_InvalidText : PySem.W.kitOne K (.ref a_InvalidText) (.ref a_DoorError) = some true
end Dt
namespace Dt
open PySem PySem.Spec PyProof.Rows L2
section
variable {P : Program} {w : World} {K : PySem.W.Frag} {mg : Str → Option Value} {base : Heap}
def sp_is_number (K : PySem.W.Frag) : Sp := fun vs H Q _ => ∃ (x : V) (d : PyData) (l m : Int), vs = [x, .int l, .int m] ∧ Dp K H x d ∧ Q (.bl (isNumD d l m)) H
theorem ok_is_number (T : Txt P K mg) : FnOk P w K mg base CX0 1 T.f_is_number T.d_is_number ["value", "least", "most"] (sp_is_number K) := by
  refine T.F_is_number.ok sc_is_number (fun vs H Q E h => ?_) (fun cdv A outer s H vs Q E hr h => ?_)
  · obtain ⟨x, d, l, m, rfl, _⟩ := h
    rfl
  · obtain ⟨x, d, l, m, rfl, hd, k⟩ := h
    refine ⟨_, (pss_one (ps_ret (pe_and (pe_callB call_isi (by rfl) T.z_isinstance (by decide +kernel) (pa_cons (pv 0) (pa_cons (pe_bltn (v := .ty "int") (by rfl) T.z_int (by decide +kernel) rfl) pa_nil))) (pe_and (pe_not (pe_callB call_isi (by rfl) T.z_isinstance (by decide +kernel) (pa_cons (pv 0) (pa_cons (pe_bltn (v := .ty "bool") (by rfl) T.z_bool (by decide +kernel) rfl) pa_nil)))) (pe_one (pe_chain op_le op_le (pv 1) (pv 0) (pv 2))))))), ?_⟩
    walk_at "go"
    cases d with
    | int i =>
      cases hd
      refine Dp.isi (b := true) (.int i) (by walk_at "kk") ?_
      walk_at "go"
      refine Dp.isi (b := false) (.int i) (by walk_at "kk") ?_
      walk_at "go"
      refine if_d (fun h => ?_) (fun h => ?_)
      · walk_at "go"
        have e : isNumD (.int i) l m = decide (i ≤ m) := by simp [isNumD, h]
        rw [e] at k
        exact k
      · have e : isNumD (.int i) l m = false := by simp [isNumD, h]
        rw [e] at k
        exact k
    | bool b =>
      refine Dp.isi (b := true) hd (by walk_at "kk") ?_
      walk_at "go"
      refine Dp.isi (b := true) hd (by walk_at "kk") ?_
      walk_at "go"
      exact k
    | none => exact Dp.isi (b := false) hd (by walk_at "kk") (r_asB (r_false k))
    | str _ => exact Dp.isi (b := false) hd (by walk_at "kk") (r_asB (r_false k))
    | list _ => exact Dp.isi (b := false) hd (by walk_at "kk") (r_asB (r_false k))
    | tuple _ => exact Dp.isi (b := false) hd (by walk_at "kk") (r_asB (r_false k))
    | dict _ => cases hd
end
end Dt
namespace Dt
open PySem PySem.Spec PyProof.Rows L2
section
variable {P : Program} {w : World} {K : PySem.W.Frag} {mg : Str → Option Value} {base : Heap}
def sp_is_tuple (K : PySem.W.Frag) : Sp := fun vs H Q _ => ∃ (x : V) (d : PyData) (l m : Int), vs = [x, .int l, .int m] ∧ Dp K H x d ∧ Q (.bl (isTupD d l m)) H
theorem ok_is_tuple (T : Txt P K mg) : FnOk P w K mg base CX0 1 T.f_is_tuple T.d_is_tuple ["value", "least", "most"] (sp_is_tuple K) := by
  refine T.F_is_tuple.ok sc_is_tuple (fun vs H Q E h => ?_) (fun cdv A outer s H vs Q E hr h => ?_)
  · obtain ⟨x, d, l, m, rfl, _⟩ := h
    rfl
  · obtain ⟨x, d, l, m, rfl, hd, k⟩ := h
    refine ⟨_, (pss_one (ps_ret (pe_and (pe_callB call_isi (by rfl) T.z_isinstance (by decide +kernel) (pa_cons (pv 0) (pa_cons (pe_bltn (v := .ty "tuple") (by rfl) T.z_tuple (by decide +kernel) rfl) pa_nil))) (pe_one (pe_chain op_le op_le (pv 1) (pe_callB c_len (by rfl) T.z_len PySem.boot_len (pa_cons (pv 0) pa_nil)) (pv 2)))))), ?_⟩
    walk_at "go"
    cases d with
    | tuple ds =>
      refine Dp.isi (b := true) hd (by walk_at "kk") ?_
      walk_at "go"
      cases hd with
      | tup hs ha =>
        refine ⟨_, _, rfl, .inr hs, ?_⟩
        rw [dpAll_len ha]
        walk_at "go"
        refine if_d (fun h => ?_) (fun h => ?_)
        · walk_at "go"
          have e : isTupD (.tuple ds) l m = decide ((ds.length : Int) ≤ m) := by simp [isTupD, h]
          rw [e] at k
          exact k
        · have e : isTupD (.tuple ds) l m = false := by simp [isTupD, h]
          rw [e] at k
          exact k
    | bool b => exact Dp.isi (b := false) hd (by walk_at "kk") (r_asB (r_false k))
    | int _ => exact Dp.isi (b := false) hd (by walk_at "kk") (r_asB (r_false k))
    | none => exact Dp.isi (b := false) hd (by walk_at "kk") (r_asB (r_false k))
    | str _ => exact Dp.isi (b := false) hd (by walk_at "kk") (r_asB (r_false k))
    | list _ => exact Dp.isi (b := false) hd (by walk_at "kk") (r_asB (r_false k))
    | dict _ => cases hd
end
end Dt
namespace Dt
open PySem PySem.Spec PyProof.Rows L2
section
variable {P : Program} {w : World} {K : PySem.W.Frag} {mg : Str → Option Value} {base : Heap}
def sp_is_word (K : PySem.W.Frag) : Sp := fun vs H Q _ => ∃ (x : V) (d : PyData) (a : Addr) (ws : List Str), vs = [x, .ref a] ∧ Dp K H x d ∧ SqT K H a (ws.map V.str) ∧ Q (.bl (isWordD d ws)) H
theorem ok_is_word (T : Txt P K mg) : FnOk P w K mg base CX0 1 T.f_is_word T.d_is_word ["value", "words"] (sp_is_word K) := by
  refine T.F_is_word.ok sc_is_word (fun vs H Q E h => ?_) (fun cdv A outer s H vs Q E hr h => ?_)
  · obtain ⟨x, d, a, ws, rfl, _⟩ := h
    rfl
  · obtain ⟨x, d, a, ws, rfl, hd, hw, k⟩ := h
    refine ⟨_, (pss_one (ps_ret (pe_and (pe_callB call_isi (by rfl) T.z_isinstance (by decide +kernel) (pa_cons (pv 0) (pa_cons (pe_bltn (v := .ty "str") (by rfl) T.z_str (by decide +kernel) rfl) pa_nil))) (pe_one (pe_cmpR op_in_seq (pv 0) (pv 1) (by rfl)))))), ?_⟩
    walk_at "go"
    cases d with
    | str z =>
      cases hd
      refine Dp.isi (b := true) (.str z) (by walk_at "kk") ?_
      walk_at "go"
      refine ⟨a, _, rfl, .inr hw, rfl, flat_strs ws, ?_⟩
      rw [if_neg (by decide), inV_strs]
      exact k
    | bool b => exact Dp.isi (b := false) hd (by walk_at "kk") (r_asB (r_false k))
    | int _ => exact Dp.isi (b := false) hd (by walk_at "kk") (r_asB (r_false k))
    | none => exact Dp.isi (b := false) hd (by walk_at "kk") (r_asB (r_false k))
    | tuple _ => exact Dp.isi (b := false) hd (by walk_at "kk") (r_asB (r_false k))
    | list _ => exact Dp.isi (b := false) hd (by walk_at "kk") (r_asB (r_false k))
    | dict _ => cases hd
end
end Dt
namespace Dt
open PySem PySem.Spec PyProof.Rows L2
section
variable {P : Program} {w : World} {K : PySem.W.Frag} {mg : Str → Option Value} {base : Heap}
def sp_is_good_walker (K : PySem.W.Frag) : Sp := fun vs H Q _ => ∃ (x : V) (d : PyData), vs = [x] ∧ Dp K H x d ∧ ∀ H', Same H H' → Q (.bl (goodW d)) H'
theorem ok_is_good_walker (T : Txt P K mg) : FnOk P w K mg base CX0 2 T.f_is_good_walker T.d_is_good_walker ["value"] (sp_is_good_walker K) := by
  have G_is_number : FnOk P w K mg base CX0 1 T.f_is_number T.d_is_number ["value", "least", "most"] (sp_is_number K) := ok_is_number T
  have G_is_tuple : FnOk P w K mg base CX0 1 T.f_is_tuple T.d_is_tuple ["value", "least", "most"] (sp_is_tuple K) := ok_is_tuple T
  have G_is_word : FnOk P w K mg base CX0 1 T.f_is_word T.d_is_word ["value", "words"] (sp_is_word K) := ok_is_word T
  refine T.F_is_good_walker.ok sc_is_good_walker (fun vs H Q E h => ?_) (fun cdv A outer s H vs Q E hr h => ?_)
  · obtain ⟨x, d, rfl, _⟩ := h
    rfl
  · obtain ⟨x, d, rfl, hd, k⟩ := h
    refine ⟨_, (pss_cons (ps_if (PW.pt (pw_or (pt_not (pt_val (pe_call G_is_tuple (hr.mono (by decide)) (by rfl) T.g_is_tuple T.F_is_tuple.kp T.b_is_tuple .nil pass0 (pa_cons (pv 0) (pa_cons pe_int (pa_cons pe_int pa_nil)))))) (pw_or1 (pt_not (pt_val (pe_call G_is_word (hr.mono (by decide)) (by rfl) T.g_is_word T.F_is_word.kp T.b_is_word .nil pass0 (pa_cons (pe_ix ix_tup (pv 0) pe_int (fun _ _ => rfl)) (pa_cons (pe_tup (pa_cons pe_str (pa_cons pe_str pa_nil))) pa_nil)))))))) (pss_one (ps_ret pe_bl)) pss_nil)
    (pss_cons (ps_if (PW.pt (pw_or (pt_not (pt_val (pe_call G_is_word (hr.mono (by decide)) (by rfl) T.g_is_word T.F_is_word.kp T.b_is_word .nil pass0 (pa_cons (pe_ix ix_tup (pv 0) pe_int (fun _ _ => rfl)) (pa_cons (pe_tup (pa_cons pe_str (pa_cons pe_str (pa_cons pe_str pa_nil)))) pa_nil))))) (pw_or1 (pt_not (pt_val (pe_call G_is_number (hr.mono (by decide)) (by rfl) T.g_is_number T.F_is_number.kp T.b_is_number .nil pass0 (pa_cons (pe_ix ix_tup (pv 0) pe_int (fun _ _ => rfl)) (pa_cons pe_int (pa_cons pe_int pa_nil))))))))) (pss_one (ps_ret pe_bl)) pss_nil)
    (pss_one (ps_ret (pe_and (pe_call G_is_number (hr.mono (by decide)) (by rfl) T.g_is_number T.F_is_number.kp T.b_is_number .nil pass0 (pa_cons (pe_ix ix_tup (pv 0) pe_int (fun _ _ => rfl)) (pa_cons pe_int (pa_cons pe_int pa_nil)))) (pe_one (pe_or (pe_cmpR o_isN (pe_ix ix_tup (pv 0) pe_int (fun _ _ => rfl)) pe_non (nomark _)) (pe_one (pe_call G_is_number (hr.mono (by decide)) (by rfl) T.g_is_number T.F_is_number.kp T.b_is_number .nil pass0 (pa_cons (pe_ix ix_tup (pv 0) pe_int (fun _ _ => rfl)) (pa_cons pe_int (pa_cons pe_int pa_nil)))))))))))), ?_⟩
    walk_at "go"
    refine ⟨x, d, 5, 5, rfl, hd, ?_⟩
    walk_at "go"
    rcases tup5 d with h5 | ⟨a, b, c, e, f, rfl⟩
    · rw [h5]
      walk_at "go"
      have := k H (Same.refl H)
      rw [goodW_no h5] at this
      exact this
    · have t5 : isTupD (.tuple [a, b, c, e, f]) 5 5 = true := rfl
      rw [t5]
      cases hd with
      | tup hs ha =>
      cases ha with
      | cons da ha =>
      cases ha with
      | cons db ha =>
      cases ha with
      | cons dc ha =>
      cases ha with
      | cons de ha =>
      cases ha with
      | cons df ha =>
      cases ha with
      | nil =>
      walk_at "go"
      intro p H1 np s1 hp _
      walk_at "go"
      refine ⟨_, a, p, ["left", "right"], rfl, by walk_at "hp", SqT.of hp, ?_⟩
      walk_at "go"
      cases ea : isWordD a ["left", "right"] with
      | false =>
        walk_at "go"
        have q := k H1 s1
        rw [show goodW (.tuple [a, b, c, e, f]) = false by simp [goodW, ea]] at q
        exact q
      | true =>
        walk_at "go"
        intro p2 H2 np2 s2 hp2 _
        walk_at "go"
        refine ⟨_, b, p2, ["open", "shut", "turn"], rfl, by walk_at "hp", SqT.of hp2, ?_⟩
        walk_at "go"
        have s02 : Same H H2 := s1.trans s2
        cases eb : isWordD b ["open", "shut", "turn"] with
        | false =>
          walk_at "go"
          have q := k H2 s02
          rw [show goodW (.tuple [a, b, c, e, f]) = false by simp [goodW, ea, eb]] at q
          exact q
        | true =>
          walk_at "go"
          refine ⟨_, c, 0, 5, rfl, by walk_at "hp", ?_⟩
          walk_at "go"
          cases ec : isNumD c 0 5 with
          | false =>
            walk_at "go"
            have q := k H2 s02
            rw [show goodW (.tuple [a, b, c, e, f]) = false by simp [goodW, ea, eb, ec]] at q
            exact q
          | true =>
            walk_at "go"
            refine ⟨_, e, 1, 6, rfl, by walk_at "hp", ?_⟩
            walk_at "go"
            cases ee : isNumD e 1 6 with
            | false =>
              walk_at "go"
              have q := k H2 s02
              rw [show goodW (.tuple [a, b, c, e, f]) = false by simp [goodW, ea, eb, ec, ee]] at q
              exact q
            | true =>
              walk_at "go"
              have q := k H2 s02
              refine if_d (fun hn => ?_) (fun hn => ?_)
              · walk_at "go"
                subst hn
                cases df
                rw [show goodW (.tuple [a, b, c, e, .none]) = true by simp [goodW, ea, eb, ec, ee]] at q
                exact q
              · walk_at "go"
                refine ⟨_, f, 1, 9, rfl, by walk_at "hp", ?_⟩
                have ef : goodW (.tuple [a, b, c, e, f]) = isNumD f 1 9 := by
                  cases df <;> first | (exact absurd rfl hn) | simp [goodW, ea, eb, ec, ee]
                rw [ef] at q
                exact q
end
end Dt
namespace Dt
open PySem PySem.Spec PyProof.Rows L2
section
variable {P : Program} {w : World} {K : PySem.W.Frag} {mg : Str → Option Value} {base : Heap}
def sp_is_good_script (K : PySem.W.Frag) : Sp := fun vs H Q _ => ∃ (x : V) (d : PyData), vs = [x] ∧ Dp K H x d ∧ (∀ ds, d = .tuple ds → ds.length ≤ 10000) ∧ ∀ H', Same H H' → Q (.bl (goodS d)) H'
theorem ok_is_good_script (T : Txt P K mg) : FnOk P w K mg base CX0 3 T.f_is_good_script T.d_is_good_script ["value"] (sp_is_good_script K) := by
  have G_is_tuple : FnOk P w K mg base CX0 1 T.f_is_tuple T.d_is_tuple ["value", "least", "most"] (sp_is_tuple K) := ok_is_tuple T
  have G_is_good_walker : FnOk P w K mg base CX0 2 T.f_is_good_walker T.d_is_good_walker ["value"] (sp_is_good_walker K) := ok_is_good_walker T
  refine T.F_is_good_script.ok sc_is_good_script (fun vs H Q E h => ?_) (fun cdv A outer s H vs Q E hr h => ?_)
  · obtain ⟨x, d, rfl, _⟩ := h
    rfl
  · obtain ⟨x, d, rfl, hd, hsz, k⟩ := h
    refine ⟨_, (pss_one (ps_ret (pe_and (pe_call G_is_tuple (hr.mono (by decide)) (by rfl) T.g_is_tuple T.F_is_tuple.kp T.b_is_tuple .nil pass0 (pa_cons (pv 0) (pa_cons pe_int (pa_cons pe_int pa_nil)))) (pe_one (pe_callB (cr_all rfl) (by rfl) T.z_all (by decide +kernel) (pa_cons (pe_lc (own := [("walker", 1)]) (g := gName 1) (tt := tYes) rfl sc_is_good_script.nd (pi_tup (pv 0)) (blkOk_by (own := [("walker", 1)]) (N := ["value", "walker"]) (sc := defScope s_is_good_script) (by decide +kernel)) (fun _ _ _ _ _ => pg_name (i := 1) sc_is_good_script.nd rfl (Or.inl rfl)) (fun _ _ _ _ _ => pts_nil) (fun _ _ _ _ _ => (pe_call G_is_good_walker (hr.mono (by decide)) (by rfl) T.g_is_good_walker T.F_is_good_walker.kp T.b_is_good_walker .nil pass0 (pa_cons (pv 1) pa_nil)))) pa_nil)))))), ?_⟩
    walk_at "go"
    refine ⟨x, d, 0, 8, rfl, hd, ?_⟩
    walk_at "go"
    cases e8 : isTupD d 0 8 with
    | false =>
      walk_at "go"
      have q := k H (Same.refl H)
      have e : goodS d = false := by
        cases d with
        | tuple ds =>
          have h : ¬ ds.length ≤ 8 := fun h => by
            have : isTupD (.tuple ds) 0 8 = true := by
              have h1 : (0 : Int) ≤ (ds.length : Int) := Int.natCast_nonneg _
              have h2 : (ds.length : Int) ≤ 8 := by omega
              simp [isTupD, h1, h2]
            rw [this] at e8
            cases e8
          simp [goodS, h]
        | _ => rfl
      rw [e] at q
      exact q
    | true =>
      cases d with
      | tuple ds =>
        have h8 : ds.length ≤ 8 := by
          have h : (ds.length : Int) ≤ 8 := by
            simp [isTupD] at e8
            omega
          omega
        cases hd with
        | @tup a xs _ hs ha =>
          walk_at "go"
          refine lcT_by (fun i H' ys => ys = (ds.take i).map fun d => .bl (goodW d)) (Same.refl H) hs (fun _ _ _ _ _ => rfl) (fun x => rfl) ?_ ?_
          · rintro i y H' D ys hi hD sm hy rfl
            obtain ⟨d, hdi, dy⟩ := dpAll_get ha hi
            walk_at "go"
            refine ⟨y, d, rfl, Dt.Dp.mono sm dy, fun H2 s2 => ?_⟩
            refine addTo_by hD (sm.trans s2) (s2 _ _ hy) (small_lt (by rw [List.length_map, List.length_take]; omega)) fun H3 s3 _ hz => ?_
            rw [take_more hdi, List.map_append]
            rfl
          · rintro H' D ys hD sm hy rfl
            have el : xs.length = ds.length := dpAll_len ha
            rw [el, List.take_length] at hy
            walk_at "go"
            refine ⟨D, ds.map goodW, rfl, SqL.of (by rw [List.map_map]; exact hy), ?_⟩
            have q := k H' sm
            have e : goodS (.tuple ds) = (ds.map goodW).all id := by
              simp [goodS, h8, List.all_map]
            rw [e] at q
            exact q
      | _ => cases e8
end
end Dt
namespace Dt
open PySem PySem.Spec PyProof.Rows L2
section
variable {P : Program} {w : World} {K : PySem.W.Frag} {mg : Str → Option Value} {base : Heap}
def sp_need_script (K : PySem.W.Frag) : Sp := fun vs H Q _ => ∃ (x : V) (sc : Scr), vs = [x] ∧ IsScr K H x sc ∧ ScrOk sc ∧ ∀ H', Same H H' → Q .non H'
theorem ok_need_script (T : Txt P K mg) : FnOk P w K mg base CX0 4 T.f_need_script T.d_need_script ["value"] (sp_need_script K) := by
  have G_is_good_script : FnOk P w K mg base CX0 3 T.f_is_good_script T.d_is_good_script ["value"] (sp_is_good_script K) := ok_is_good_script T
  refine T.F_need_script.ok sc_need_script (fun vs H Q E h => ?_) (fun cdv A outer s H vs Q E hr h => ?_)
  · obtain ⟨x, d, rfl, _⟩ := h
    rfl
  · obtain ⟨x, sc, rfl, hx, ok, k⟩ := h
    refine ⟨_, (pss_one (ps_if (pt_not (pt_val (pe_call G_is_good_script (hr.mono (by decide)) (by rfl) T.g_is_good_script T.F_is_good_script.kp T.b_is_good_script .nil pass0 (pa_cons (pv 0) pa_nil)))) pss_never pss_nil)), ?_⟩
    walk_at "go"
    refine ⟨x, toDS sc, rfl, hx.dp, fun ds e => ?_, fun H1 s1 => ?_⟩
    · cases e
      have := ok.len
      rw [List.length_map]
      omega
    · rw [goodS_of ok]
      walk_at "go"
      exact k H1 s1
end
end Dt
namespace Dt
open PySem PySem.Spec PyProof.Rows L2
section
variable {P : Program} {w : World} {K : PySem.W.Frag} {mg : Str → Option Value} {base : Heap}
def sp_is_script (K : PySem.W.Frag) : Sp := fun vs H Q _ => ∃ (x : V) (d : PyData), vs = [x] ∧ Dp K H x d ∧ (∀ ds, d = .tuple ds → ds.length ≤ 10000) ∧ ∀ H', Same H H' → Q (.bl (goodS d)) H'
theorem ok_is_script (T : Txt P K mg) : FnOk P w K mg base CX0 4 T.f_is_script T.d_is_script ["value"] (sp_is_script K) := by
  have G_is_good_script : FnOk P w K mg base CX0 3 T.f_is_good_script T.d_is_good_script ["value"] (sp_is_good_script K) := ok_is_good_script T
  refine T.F_is_script.ok sc_is_script (fun vs H Q E h => ?_) (fun cdv A outer s H vs Q E hr h => ?_)
  · obtain ⟨x, d, rfl, _⟩ := h
    rfl
  · obtain ⟨x, d, rfl, hd, hz, k⟩ := h
    refine ⟨_, (pss_one (ps_ret (pe_call G_is_good_script (hr.mono (by decide)) (by rfl) T.g_is_good_script T.F_is_good_script.kp T.b_is_good_script .nil pass0 (pa_cons (pv 0) pa_nil)))), ?_⟩
    walk_at "go"
    exact ⟨x, d, rfl, hd, hz, k⟩
end
end Dt
namespace Dt
open PySem PySem.Spec PyProof.Rows L2
section
variable {P : Program} {w : World} {K : PySem.W.Frag} {mg : Str → Option Value} {base : Heap}
def sp_lines_of (K : PySem.W.Frag) : Sp := fun vs H Q _ => ∃ (x : V) (sc : Scr), vs = [x] ∧ IsScr K H x sc ∧ ScrOk sc ∧ ∀ p H', H p = none → Same H H' → H' p = some (.lst ((sc.map lineW).map V.str)) → Q (.ref p) H'
theorem ok_lines_of (T : Txt P K mg) : FnOk P w K mg base CX0 1 T.f_lines_of T.d_lines_of ["script"] (sp_lines_of K) := by
  refine T.F_lines_of.ok sc_lines_of (fun vs H Q E h => ?_) (fun cdv A outer s H vs Q E hr h => ?_)
  · obtain ⟨x, d, rfl, _⟩ := h
    rfl
  · obtain ⟨x, sc, rfl, ⟨a, us, rfl, hs, hps⟩, ok, k⟩ := h
    refine ⟨_, (pss_one (ps_ret (pe_lc (own := [("walker", 1)]) (g := gName 1) (tt := tYes) rfl sc_lines_of.nd (pi_tup (pv 0)) (blkOk_by (own := [("walker", 1)]) (N := ["script", "walker", "part"]) (sc := defScope s_lines_of) (by decide +kernel)) (fun _ _ _ _ _ => pg_name (i := 1) sc_lines_of.nd rfl (Or.inl rfl)) (fun _ _ _ _ _ => pts_nil) (fun _ _ _ _ _ => (Dt.p_joinK (K := K) rfl pe_str (pe_lc (own := [("part", 2)]) (g := gName 2) (tt := tYes) rfl sc_lines_of.nd (Dt.pi_tupK (K := K) rfl (pv 1)) (blkOk_by (own := [("part", 2)]) (N := ["script", "walker", "part"]) (by rfl)) (fun _ _ _ _ _ => pg_name (i := 2) sc_lines_of.nd rfl (Or.inl rfl)) (fun _ _ _ _ _ => pts_nil) (fun _ _ _ _ _ => (pe_ifExp (pt_cmpR o_isN (pv 2) pe_non (nomark _)) pe_str (pe_callTy Dt.c_strV (by rfl) T.z_str (by decide +kernel) (pa_cons (pv 2) pa_nil)))))))))), ?_⟩
    walk_at "go"
    refine lcT_by (fun i H' ys => ys = ((sc.take i).map lineW).map V.str) (Same.refl H) hs (fun _ _ _ _ _ => rfl) (fun x => rfl) ?_ ?_
    · rintro i x H' D ys hi hD sm hy rfl
      obtain ⟨w, hw, b, rfl, hb⟩ := paired_get hps hi
      have okw := ok.ok w (List.mem_of_getElem? hw)
      walk_at "go"
      have hb' := Same.sqT sm hb
      refine lcT_by (fun j H2 zs => zs = (w.parts.take j).map V.str) (Same.refl H') hb' (fun _ _ _ _ _ => rfl) (fun x => rfl) ?_ ?_
      · rintro j x H2 D2 zs hj hD2 sm2 hz rfl
        have okx := vs_ok okw x (List.mem_of_getElem? hj)
        have ex : w.parts[j]? = some (partT x) := by
          rw [← parts_vs, List.getElem?_map, hj]
          rfl
        have hjl : j < 5 := (List.getElem?_eq_some_iff.mp hj).1
        have fin : ∀ z, z = partT x → addTo D2 (fun H3 => Same H' H3 ∧ ∃ zs, H3 D2 = some (.lst zs) ∧ zs = (w.parts.take (j + 1)).map V.str) (.str z) H2 := fun z ez => by
          refine addTo_by hD2 sm2 hz (small_lt (by rw [List.length_map, List.length_take]; omega)) fun H3 s3 _ h3 => ?_
          rw [take_more ex, List.map_append, ez]
          rfl
        walk_at "go"
        refine if_d (fun h => ?_) (fun h => ?_)
        · walk_at "go"
          subst h
          exact fin _ rfl
        · walk_at "go"
          cases x with
          | non => exact absurd rfl h
          | int n => exact r_strVI (log_small okx) (fin _ rfl)
          | str s => exact r_strV (fin _ rfl)
          | _ => exact okx.elim
      · rintro H2 D2 zs hD2 sm2 hz rfl
        rw [show w.vs.length = w.parts.length from rfl, List.take_length] at hz
        refine r_joinL (SqL.of hz) ?_ ?_
        · exact lineW_le okw
        · refine addTo_by hD (sm.trans sm2) (sm2 _ _ hy) (small_lt (by rw [List.length_map, List.length_map, List.length_take]; have := ok.len; omega)) fun H3 s3 _ h3 => ?_
          rw [take_more hw, List.map_append, List.map_append]
          rfl
    · rintro H' D ys hD sm hy rfl
      rw [paired_len hps, List.take_length] at hy
      exact k D H' hD sm hy
end
end Dt
namespace Dt
open PySem PySem.Spec PyProof.Rows L2
section
variable {P : Program} {w : World} {K : PySem.W.Frag} {mg : Str → Option Value} {base : Heap}
def sp_part_in (K : PySem.W.Frag) : Sp := fun vs H Q _ => ∃ (w : Str), vs = [.str w] ∧ ∀ H', Same H H' → Q (partV w) H'
theorem ok_part_in (T : Txt P K mg) : FnOk P w K mg base CX0 1 T.f_part_in T.d_part_in ["word"] (sp_part_in K) := by
  refine T.F_part_in.ok sc_part_in (fun vs H Q E h => ?_) (fun cdv A outer s H vs Q E hr h => ?_)
  · obtain ⟨w, rfl, _⟩ := h
    rfl
  · obtain ⟨w, rfl, k⟩ := h
    refine ⟨_, (pss_cons (ps_if (pt_cmpR op_eq (pv 0) pe_str (nomark _)) (pss_one (ps_ret pe_non)) pss_nil)
    (pss_one (ps_ret (pe_ifExp (pt_cmpR op_in_seq (pv 0) (pe_lc (own := [("number", 1)]) (g := gName 1) (tt := tYes) rfl sc_part_in.nd (pi_range1 (by rfl) T.z_range (pa_cons pe_int pa_nil)) (blkOk_by (own := [("number", 1)]) (N := ["word", "number"]) (sc := defScope s_part_in) (by decide +kernel)) (fun _ _ _ _ _ => pg_name (i := 1) sc_part_in.nd rfl (Or.inl rfl)) (fun _ _ _ _ _ => pts_nil) (fun _ _ _ _ _ => (pe_callTy c_strI (by rfl) T.z_str (by decide +kernel) (pa_cons (pv 1) pa_nil)))) (by rfl)) (pe_callTy Dt.c_intS (by rfl) T.z_int (by decide +kernel) (pa_cons (pv 0) pa_nil)) (pv 0))))), ?_⟩
    walk_at "go"
    refine if_d (fun h => ?_) (fun h => ?_)
    · walk_at "go"
      have e : w = "all" := V.str.inj h
      have q := k H (Same.refl H)
      rw [show partV w = .non by unfold partV; rw [if_pos e]] at q
      exact q
    · have e : w ≠ "all" := fun z => h (by rw [z])
      walk_at "go"
      refine lcR1_by (fun i H' ys => ys = ((List.range i).map fun (i : Nat) => numS i).map V.str) (Same.refl H) (by decide) (by decide) (fun _ _ _ _ _ => rfl) (fun x => rfl) ?_ ?_
      · rintro i H' D ys hi hD sm hy rfl
        walk_at "go"
        refine ⟨(i : Int), rfl, ?_, ?_⟩
        · have : (i : Int).natAbs < 2 ^ 1920 := Nat.lt_of_lt_of_le (show i < 10 by omega) (by decide +kernel)
          by_cases h0 : (i : Int).natAbs = 0
          · rw [h0]; decide
          · exact (Nat.log2_lt h0).mpr this
        refine addTo_by hD sm hy (small_lt (by rw [List.length_map, List.length_map, List.length_range]; omega)) fun H3 s3 _ hz => ?_
        rw [List.range_succ, List.map_append, List.map_append]
        rfl
      · rintro H' D ys hD sm hy rfl
        refine ⟨D, _, rfl, .inl (SqL.of hy), rfl, flat_strs _, ?_⟩
        rw [if_neg (by decide), inV_digs]
        refine r_asB ?_
        have q := k H' sm
        cases hd : isDig w with
        | true =>
          refine if_T (c := _) hd ?_
          walk_at "go"
          obtain ⟨i, hi, rfl⟩ := dig_out hd
          obtain ⟨h1, h2, h3⟩ := dig_all ⟨i, hi⟩
          refine r_intS h1 (by rw [h2]; decide) ?_
          rw [show partV (numS i) = .int i by unfold partV; rw [if_neg e, if_pos hd, h1]; rfl] at q
          exact q
        | false =>
          refine if_F (c := _) hd ?_
          walk_at "go"
          rw [show partV w = .str w by unfold partV; rw [if_neg e, hd]; rfl] at q
          exact q
end
end Dt
namespace Dt
open PySem PySem.Spec PyProof.Rows L2
section
variable {P : Program} {w : World} {K : PySem.W.Frag} {mg : Str → Option Value} {base : Heap}
def sp_walker_in (K : PySem.W.Frag) : Sp := fun vs H Q _ => ∃ (l : Str), vs = [.str l] ∧ l.length ≤ 10000 ∧ ∀ v H', Same H H' → LineV K H' v l → Q v H'
theorem ok_walker_in (T : Txt P K mg) : FnOk P w K mg base CX0 3 T.f_walker_in T.d_walker_in ["line"] (sp_walker_in K) := by
  have G_is_good_walker : FnOk P w K mg base CX0 2 T.f_is_good_walker T.d_is_good_walker ["value"] (sp_is_good_walker K) := ok_is_good_walker T
  have G_part_in : FnOk P w K mg base CX0 1 T.f_part_in T.d_part_in ["word"] (sp_part_in K) := ok_part_in T
  refine T.F_walker_in.ok sc_walker_in (fun vs H Q E h => ?_) (fun cdv A outer s H vs Q E hr h => ?_)
  · obtain ⟨w, rfl, _⟩ := h
    rfl
  · obtain ⟨l, rfl, hl, k⟩ := h
    refine ⟨_, (pss_cons (ps_set (i := 1) sc_walker_in.nd rfl (Or.inl rfl) (pe_callTy c_tupOf (by rfl) T.z_tuple (by decide +kernel) (pa_cons (pe_lc (own := [("word", 2)]) (g := gName 2) (tt := tYes) rfl sc_walker_in.nd (pi_list (Dt.p_split (pv 0) pe_str)) (blkOk_by (own := [("word", 2)]) (N := ["line", "found", "word"]) (sc := defScope s_walker_in) (by decide +kernel)) (fun _ _ _ _ _ => pg_name (i := 2) sc_walker_in.nd rfl (Or.inl rfl)) (fun _ _ _ _ _ => pts_nil) (fun _ _ _ _ _ => (pe_call G_part_in (hr.mono (by decide)) (by rfl) T.g_part_in T.F_part_in.kp T.b_part_in .nil pass0 (pa_cons (pv 2) pa_nil)))) pa_nil)))
    (pss_one (ps_ret (pe_ifExp (pt_val (pe_call G_is_good_walker (hr.mono (by decide)) (by rfl) T.g_is_good_walker T.F_is_good_walker.kp T.b_is_good_walker .nil pass0 (pa_cons (pv 1) pa_nil))) (pv 1) pe_non)))), ?_⟩
    walk_at "go"
    refine r_split sp_len (size_ok (by omega)) fun p H1 np s1 hp _ => ?_
    refine lcL_by (fun i H' ys => ys = ((wordsOf l).take i).map partV) (Same.refl H1) (SqL.of hp) (fun _ _ _ _ _ => rfl) (fun x => rfl) ?_ ?_
    · rintro i x H' D ys hi hD sm hy rfl
      obtain ⟨w, hw, rfl⟩ : ∃ w, (wordsOf l)[i]? = some w ∧ x = .str w := by
        rw [List.getElem?_map] at hi
        cases e : (Txt.split l " ")[i]? with
        | none => rw [e] at hi; cases hi
        | some b => rw [e] at hi; exact ⟨b, e, (Option.some.inj hi).symm⟩
      walk_at "go"
      refine ⟨w, rfl, fun H2 s2 => ?_⟩
      have hlt : i < (wordsOf l).length := (List.getElem?_eq_some_iff.mp hw).1
      have hle : (wordsOf l).length ≤ l.length + 2 := split_le2 _ _
      refine addTo_by hD (sm.trans s2) (s2 _ _ hy) (small_lt (by rw [List.length_map, List.length_take]; omega)) fun H3 s3 _ hz => ?_
      rw [take_more hw, List.map_append]
      rfl
    · rintro H' D ys hD sm hy rfl
      rw [List.length_map, show Txt.split l " " = wordsOf l from rfl, List.take_length] at hy
      walk_at "go"
      intro p2 H2 np2 s2 hp2 _
      walk_at "go"
      have d2 : Dp K H2 (.ref p2) (.tuple ((wordsOf l).map partD)) := .tup (SqT.of hp2) (part_dps _)
      refine ⟨_, _, rfl, d2, fun H3 s3 => ?_⟩
      have sA : Same H H3 := s1.trans (sm.trans (s2.trans s3))
      cases hg : goodW (.tuple ((wordsOf l).map partD)) with
      | true =>
        walk_at "go"
        refine k _ H3 sA (.inr ?_)
        obtain ⟨wk, ok, e⟩ := goodW_wk hg
        refine ⟨wk, ok, ?_, p2, rfl, ?_⟩
        · rw [show lineD l = .tuple ((wordsOf l).map partD) by unfold lineD; rw [if_pos hg]]
          exact e
        · rw [← good_vs e]
          exact Same.sqT s3 (SqT.of hp2)
      | false =>
        walk_at "go"
        refine k _ H3 sA (.inl ⟨?_, rfl⟩)
        unfold lineD
        rw [hg]
        rfl
end
end Dt
namespace Dt
open PySem PySem.Spec PyProof.Rows L2
section
variable {P : Program} {w : World} {K : PySem.W.Frag} {mg : Str → Option Value} {base : Heap}
/-- where the error's class stands -/
def TextAt (K : PySem.W.Frag) (C : Addr) : Prop := PySem.W.nsIn K mainGlobals "InvalidText" = some (some (.ref C))
def backR (K : PySem.W.Frag) (H : Hp) (Q : VK) (E : XK) : Int ⊕ List PyData → Prop
  | .inl n => ∀ C dd H', TextAt K C → H dd = none → Same H H' → H' dd = some (.xd [("line", .int n)]) → E (.ref C) (some dd) H'
  | .inr ds => ∀ v H', Same H H' → Dp K H' v (.tuple ds) → Q v H'
def sp_script_in (K : PySem.W.Frag) : Sp := fun vs H Q E => ∃ (x : V) (d : PyData), vs = [x] ∧ Dp K H x d ∧ (∀ t, d = .str t → t.length ≤ 10000) ∧ backR K H Q E (readD d)
theorem ok_script_in (T : Txt P K mg) : FnOk P w K mg base (L2.CX P w) 12 T.f_script_in T.d_script_in ["value"] (sp_script_in K) := by
  have G_walker_in : FnOk P w K mg base CX0 3 T.f_walker_in T.d_walker_in ["line"] (sp_walker_in K) := ok_walker_in T
  refine T.F_script_in.okX sc_script_in (fun vs H Q E h => ?_) (fun cdv A outer s H vs Q E hr h => ?_)
  · obtain ⟨x, d, rfl, _⟩ := h
    rfl
  · obtain ⟨x, d, rfl, hd, hl, k⟩ := h
    refine ⟨_, (pss_cons (ps_if (pt_not (pt_val (pe_callB call_isi (by rfl) T.z_isinstance (by decide +kernel) (pa_cons (pv 0) (pa_cons (pe_bltn (v := .ty "str") (by rfl) T.z_str (by decide +kernel) rfl) pa_nil))))) (pss_one (ps_raise rfl (takes_of rfl rfl rfl rfl) (pmk_sup T.E_InvalidText T.z_super (by decide) (by decide) ⟨_, fun _ => rfl⟩ (hr.mono (by decide)) (by rfl) (pa_cons pe_int pa_nil) (by decide)))) pss_nil)
    (pss_cons (ps_if (pt_cmpR op_eq (pv 0) pe_str (nomark _)) (pss_one (ps_ret (pe_tup pa_nil))) pss_nil)
    (pss_cons (ps_setLc (i := 1) (own := [("line", 2)]) (g := gName 2) (tt := tYes) rfl sc_script_in.nd rfl rfl (sw_true rfl rfl rfl (by decide +kernel)) (pi_list (Dt.p_split (pv 0) pe_str)) (blkOk_by (own := [("line", 2)]) (N := ["value", "found", "line"]) (sc := defScope s_script_in) (by decide +kernel)) (fun _ _ _ _ _ => pg_name (i := 2) sc_script_in.nd rfl (Or.inl rfl)) (fun _ _ _ _ _ => pts_nil) (fun _ _ _ _ _ => (pe_call G_walker_in (hr.mono (by decide)) (by rfl) T.g_walker_in T.F_walker_in.kp T.b_walker_in .nil pass0 (pa_cons (pv 2) pa_nil))))
    (pss_cons (ps_if (pt_cmpR (op_inD (Dt.room65 hr)) pe_non (pv 1) (by rfl)) (pss_one (ps_raise rfl (takes_of rfl rfl rfl rfl) (pmk_sup T.E_InvalidText T.z_super (by decide) (by decide) ⟨_, fun _ => rfl⟩ (hr.mono (by decide)) (by rfl) (pa_cons (pe_op op_add (pe_bm PySem.F.plainAttrs_list PySem.F.slot_list_index PySem.F.type_list_index (mt_indexD (Dt.room65 hr)) (pv 1) (pa_cons pe_non pa_nil)) pe_int) pa_nil) (by decide)))) pss_nil)
    (pss_cons (ps_if (pt_cmpR op_gt (pe_callB c_len (by rfl) T.z_len PySem.boot_len (pa_cons (pv 1) pa_nil)) pe_int (nomark _)) (pss_one (ps_raise rfl (takes_of rfl rfl rfl rfl) (pmk_sup T.E_InvalidText T.z_super (by decide) (by decide) ⟨_, fun _ => rfl⟩ (hr.mono (by decide)) (by rfl) (pa_cons pe_int pa_nil) (by decide)))) pss_nil)
    (pss_one (ps_ret (pe_callTy c_tupOf (by rfl) T.z_tuple (by decide +kernel) (pa_cons (pv 1) pa_nil))))))))), ?_⟩
    walk_at "go"
    have no : readD d = .inl 0 → tMkO T.a_InvalidText (sp_sup T.a_InvalidText "line") [] (tCons (tC (.int 0)) tNil) (L2.start ["value", "found", "line"] [x]) H (fun cls d H' => E cls d H') := fun e => by
      rw [e] at k
      refine r_mkO ?_
      walk_at "go"
      exact r_mkK fun dd H' n s h _ => k _ dd H' T.n_InvalidText n s h
    cases d with
    | str t =>
      have hlt := hl t rfl
      cases hd
      refine Dp.isi (b := true) (.str t) (by walk_at "kk") ?_
      walk_at "go"
      refine if_d (fun h => ?_) (fun h => ?_)
      · have e : t = "" := V.str.inj h
        walk_at "go"
        intro p H1 np s1 hp _
        rw [show readD (.str t) = .inr [] by rw [e]; rfl] at k
        exact k _ H1 s1 (.tup (SqT.of hp) .nil)
      · have ht : t ≠ "" := fun z => h (by rw [z])
        walk_at "go"
        refine r_split nl_len (size_ok (by omega)) fun p H1 np s1 hp _ => ?_
        refine lcL_by (fun i H' ys => Paired (LineV K H') ys ((Txt.split t "\n").take i)) (Same.refl H1) (SqL.of hp) (fun _ _ _ _ _ => .nil) (fun x => rfl) ?_ ?_
        · rintro i x H' D ys hi hD sm hy hps
          obtain ⟨l, hw, rfl⟩ : ∃ w, (Txt.split t "\n")[i]? = some w ∧ x = .str w := by
            rw [List.getElem?_map] at hi
            cases e : (Txt.split t "\n")[i]? with
            | none => rw [e] at hi; cases hi
            | some b => rw [e] at hi; exact ⟨b, rfl, (Option.some.inj hi).symm⟩
          walk_at "go"
          have hll : l.length ≤ t.length := line_le (List.mem_of_getElem? hw)
          refine ⟨l, rfl, by omega, fun v H2 s2 lv => ?_⟩
          have hlt : i < (Txt.split t "\n").length := (List.getElem?_eq_some_iff.mp hw).1
          have hle := split_le2 t "\n"
          refine addTo_by hD (sm.trans s2) (s2 _ _ hy) (small_lt (by rw [paired_len hps, List.length_take]; omega)) fun H3 s3 hf hz => ?_
          have st : ST H2 H3 := ST.ofUpd (s2 _ _ hy) hf
          rw [take_more hw]
          exact paired_app (Paired.mapP hps fun _ _ z => (z.st (Dt.Same.st s2)).st st) (.cons (lv.st st) .nil)
        · rintro H' D ys hD sm hy hps
          rw [List.length_map, List.take_length] at hps
          have hds : Dp K H' (.ref D) (.list (linesD t)) := .lst (SqL.of hy) (LineV.dps hps)
          have sh := (linesD_dk hlt).shaped (by decide)
          have sA : Same H H' := s1.trans sm
          walk_at "go"
          refine ⟨.none, linesD t, .non, hds, rfl, sh, ?_⟩
          rw [← List.findIdx?_isSome]
          cases hf : (linesD t).findIdx? (fun z => PyData.eqv z .none) with
          | some i =>
            rw [readD_none ht hf] at k
            refine r_asB (if_T rfl ?_)
            refine r_mkO ?_
            walk_at "go"
            obtain ⟨z, hi, hp1, hp2⟩ := find_out hf
            refine ⟨D, .non, .none, linesD t, i, z, rfl, rfl, hds, .non, sh, rfl, hi, hp1, hp2, ?_⟩
            walk_at "go"
            exact r_mkK fun dd H2 n s h _ => k _ dd H2 T.n_InvalidText (ne_none sA n) (sA.trans s) h
          | none =>
            refine r_asB (if_F rfl ?_)
            walk_at "go"
            have ey : ys.length = (linesD t).length := by
              rw [paired_len hps]
              unfold linesD
              rw [List.length_map]
            refine if_d (fun h => ?_) (fun h => ?_)
            · rw [readD_many ht hf (by omega)] at k
              walk_at "go"
              refine r_mkO ?_
              walk_at "go"
              exact r_mkK fun dd H2 n s h _ => k _ dd H2 T.n_InvalidText (ne_none sA n) (sA.trans s) h
            · rw [readD_ok ht hf (by omega)] at k
              walk_at "go"
              intro p2 H2 np2 s2 hp2 _
              exact k _ H2 (sA.trans s2) (.tup (SqT.of hp2) (DpAll.mono s2 (LineV.dps hps)))
    | bool b => exact Dp.isi (b := false) hd (by walk_at "kk") (r_asB (r_notFalse (no rfl)))
    | int _ => exact Dp.isi (b := false) hd (by walk_at "kk") (r_asB (r_notFalse (no rfl)))
    | none => exact Dp.isi (b := false) hd (by walk_at "kk") (r_asB (r_notFalse (no rfl)))
    | tuple _ => exact Dp.isi (b := false) hd (by walk_at "kk") (r_asB (r_notFalse (no rfl)))
    | list _ => exact Dp.isi (b := false) hd (by walk_at "kk") (r_asB (r_notFalse (no rfl)))
    | dict _ => cases hd
end
end Dt
namespace Dt
open PySem PySem.Spec PyProof.Rows L2
section
variable {P : Program} {w : World} {K : PySem.W.Frag} {mg : Str → Option Value} {base : Heap}
def sp_script_text (K : PySem.W.Frag) : Sp := fun vs H Q _ => ∃ (x : V) (sc : Scr), vs = [x] ∧ IsScr K H x sc ∧ ScrOk sc ∧ ∀ H', Same H H' → Q (.str (textW sc)) H'
theorem ok_script_text (T : Txt P K mg) : FnOk P w K mg base CX0 5 T.f_script_text T.d_script_text ["script"] (sp_script_text K) := by
  have G_need_script : FnOk P w K mg base CX0 4 T.f_need_script T.d_need_script ["value"] (sp_need_script K) := ok_need_script T
  have G_lines_of : FnOk P w K mg base CX0 1 T.f_lines_of T.d_lines_of ["script"] (sp_lines_of K) := ok_lines_of T
  refine T.F_script_text.ok sc_script_text (fun vs H Q E h => ?_) (fun cdv A outer s H vs Q E hr h => ?_)
  · obtain ⟨x, d, rfl, _⟩ := h
    rfl
  · obtain ⟨x, sc, rfl, hx, ok, k⟩ := h
    refine ⟨_, (pss_cons (ps_expr (pe_call G_need_script (hr.mono (by decide)) (by rfl) T.g_need_script T.F_need_script.kp T.b_need_script .nil pass0 (pa_cons (pv 0) pa_nil)))
    (pss_one (ps_ret (Dt.p_join pe_str (pe_call G_lines_of (hr.mono (by decide)) (by rfl) T.g_lines_of T.F_lines_of.kp T.b_lines_of .nil pass0 (pa_cons (pv 0) pa_nil)))))), ?_⟩
    walk_at "go"
    refine ⟨x, sc, rfl, hx, ok, fun H1 s1 => ?_⟩
    walk_at "go"
    refine ⟨x, sc, rfl, hx.mono s1, ok, fun p H2 np s2 hp => ?_⟩
    exact r_joinL (SqL.of hp) (Nat.le_trans (textW_sum ok) (by decide)) (k H2 (s1.trans s2))
end
end Dt
namespace Dt
open PySem PySem.Spec PyProof.Rows L2
section
variable {P : Program} {w : World} {K : PySem.W.Frag} {mg : Str → Option Value} {base : Heap}
def sp_read_script (K : PySem.W.Frag) : Sp := sp_script_in K
theorem ok_read_script (T : Txt P K mg) : FnOk P w K mg base (L2.CX P w) 13 T.f_read_script T.d_read_script ["value"] (sp_read_script K) := by
  have G_script_in : FnOk P w K mg base (L2.CX P w) 12 T.f_script_in T.d_script_in ["value"] (sp_script_in K) := ok_script_in T
  refine T.F_read_script.okX sc_read_script (fun vs H Q E h => ?_) (fun cdv A outer s H vs Q E hr h => ?_)
  · obtain ⟨x, d, rfl, _⟩ := h
    rfl
  · obtain ⟨x, d, rfl, hd, hl, k⟩ := h
    refine ⟨_, (pss_one (ps_ret (pe_callS G_script_in (hr.mono (by decide)) (by rfl) T.g_script_in T.F_script_in.kp T.b_script_in (passAt (takes_of rfl rfl rfl rfl)) (pa_cons (pv 0) pa_nil)))), ?_⟩
    walk_at "go"
    refine r_callS ?_
    walk_at "go"
    exact ⟨x, d, rfl, hd, hl, k⟩
end
end Dt
namespace Dt
open PySem PySem.Spec PyProof.Rows L2
section
variable {P : Program} {w : World} {K : PySem.W.Frag} {mg : Str → Option Value} {base : Heap}
def sp__law_source (K : PySem.W.Frag) : Sp := fun vs H Q _ => ∃ (a : Addr) (ns : List Int) (k : Nat), vs = [.ref a, .int k] ∧ SqL K H a (ns.map V.int) ∧ ns.length ≤ 63 ∧ k ≤ 1000 ∧ ∀ p H', H p = none → Same H H' → Src H' p → Q (.ref p) H'
theorem ok__law_source (T : Txt P K mg) : FnOk P w K mg base CX0 1 T.f__law_source T.d__law_source ["script", "k"] (sp__law_source K) := by
  refine T.F__law_source.ok sc__law_source (fun vs H Q E h => ?_) (fun cdv A outer s H vs Q E hr h => ?_)
  · obtain ⟨a, ns, k, rfl, _⟩ := h
    rfl
  · obtain ⟨a, ns, k, rfl, hs, hl, hk, q⟩ := h
    refine ⟨_, (pss_cons (ps_set (i := 2) sc__law_source.nd rfl (Or.inl rfl) pe_int)
    (pss_cons (ps_if (pt_cmpR op_lt (pv 1) (pe_callB c_len (by rfl) T.z_len PySem.boot_len (pa_cons (pv 0) pa_nil)) (nomark _)) (pss_one (ps_set (i := 2) sc__law_source.nd rfl (Or.inl rfl) (pe_callB c_abs (by rfl) T.z_abs (by decide +kernel) (pa_cons (pe_callTy c_int1 (by rfl) T.z_int (by decide +kernel) (pa_cons (pe_ix ix_list (pv 0) (pv 1) (fun _ _ => rfl)) pa_nil)) pa_nil)))) pss_nil)
    (pss_cons (ps_if (pt_cmpR op_lt (pv 2) (pe_op op_pow pe_int pe_int) (nomark _)) (pss_one (ps_ret (pe_lst (pa_cons pe_int (pa_cons (pe_op op_add pe_int (pe_op op_mod (pe_callTy c_int1 (by rfl) T.z_int (by decide +kernel) (pa_cons (pe_op op_add (pe_op op_mul (pv 2) pe_int) (pe_op op_mul pe_int (pv 1))) pa_nil)) pe_int)) pa_nil))))) pss_nil)
    (pss_one (ps_ret (pe_lst (pa_cons (pv 2) (pa_cons (pe_op op_add pe_int (pe_op op_mod (pe_callTy c_int1 (by rfl) T.z_int (by decide +kernel) (pa_cons (pe_op op_add (pv 2) (pv 1)) pa_nil)) pe_int)) pa_nil)))))))), ?_⟩
    -- behind the first if: any cell
    have rest : ∀ c : Int, 0 ≤ c → tSeq (tIfS (tTest (tOp (rI0 fun i j => .bl (decide (i < j))) (tVar 2) (tOp (rI CPow fun i j => .int (i ^ j.toNat)) (tC (.int 10)) (tC (.int 18)))))
        (tRet (tLst (tCons (tC (.int 0)) (tCons (tOp (rI0 fun i j => .int (i + j)) (tC (.int 1)) (tOp (rI (fun _ j => 0 < j) fun i j => .int (i % j)) (tCB rInt1 (tCons (tOp (rI0 fun i j => .int (i + j)) (tOp (rI CMul fun i j => .int (i * j)) (tVar 2) (tC (.int 7919))) (tOp (rI CMul fun i j => .int (i * j)) (tC (.int 104729)) (tVar 1))) tNil)) (tC (.int 2147483646)))) tNil)))) tNext)
        (tRet (tLst (tCons (tVar 2) (tCons (tOp (rI0 fun i j => .int (i + j)) (tC (.int 1)) (tOp (rI (fun _ j => 0 < j) fun i j => .int (i % j)) (tCB rInt1 (tCons (tOp (rI0 fun i j => .int (i + j)) (tVar 2) (tVar 1)) tNil)) (tC (.int 2147483646)))) tNil)))) { nx := fun _ H' => Q .non H', rt := Q } [some (.ref a), some (.int k), some (.int c)] H := fun c hc => by
      walk_at "go"
      refine r_I ?_ ?_
      · exact ⟨by decide, by decide, by decide⟩
      walk_at "go"
      refine if_d (fun h => ?_) (fun h => ?_)
      · walk_at "go"
        have hb : c < 10 ^ 18 := h
        refine r_I ?_ ?_
        · exact .inl ⟨by omega, by omega⟩
        walk_at "go"
        refine r_I ?_ ?_
        · exact .inl ⟨by decide, by decide⟩
        walk_at "go"
        refine r_I (by decide) ?_
        walk_at "go"
        intro p H1 np s1 hp _
        exact q p H1 np s1 ⟨_, _, hp, Int.le_refl _, by omega, by omega⟩
      · walk_at "go"
        refine r_I (by decide) ?_
        walk_at "go"
        intro p H1 np s1 hp _
        exact q p H1 np s1 ⟨_, _, hp, hc, by omega, by omega⟩
    walk_at "go"
    refine if_d (fun h => ?_) (fun h => ?_)
    · have hk2 : k < ns.length := by
        rw [List.length_map] at h
        omega
      walk_at "go"
      refine r_ixL hs (atI_nat (v := .int ns[k]) (by rw [List.getElem?_map, List.getElem?_eq_getElem hk2]; rfl)) ?_
      iterate 4 walk_at "go1"
      exact rest _ (by split <;> omega)
    · exact rest 0 (Int.le_refl _)
end
end Dt
namespace Dt
open PySem PySem.Spec PyProof.Rows L2
section
variable {P : Program} {w : World} {K : PySem.W.Frag} {mg : Str → Option Value} {base : Heap}
def sp__law_draw (K : PySem.W.Frag) : Sp := fun vs H Q _ => ∃ (p : Addr) (m : Int), vs = [.ref p, .int m] ∧ Src H p ∧ 1 ≤ m ∧ m.natAbs < 2 ^ 200 ∧ ∀ r H', 0 ≤ r → r < m → SX p H H' → Src H' p → Q (.int r) H'
theorem ok__law_draw (T : Txt P K mg) : FnOk P w K mg base CX0 1 T.f__law_draw T.d__law_draw ["source", "many"] (sp__law_draw K) := by
  refine T.F__law_draw.ok sc__law_draw (fun vs H Q E h => ?_) (fun cdv A outer s H vs Q E hr h => ?_)
  · obtain ⟨p, m, rfl, _⟩ := h
    rfl
  · obtain ⟨p, m, rfl, ⟨c, z, hp, hc, hz, hz2⟩, hm, hb, q⟩ := h
    refine ⟨_, (pss_cons (ps_if (pt_cmpR op_gt (pe_ix ix_list (pv 0) pe_int (fun _ _ => rfl)) pe_int (nomark _)) (pss_cons (ps_set (i := 2) sc__law_draw.nd rfl (Or.inl rfl) (pe_op op_mod (pe_callTy c_int1 (by rfl) T.z_int (by decide +kernel) (pa_cons (pe_ix ix_list (pv 0) pe_int (fun _ _ => rfl)) pa_nil)) (pv 1)))
    (pss_cons (ps_asg (pe_op op_fdivW (pe_ix ix_list (pv 0) pe_int (fun _ _ => rfl)) (pv 1)) (pg_sub (pv 0) pe_int set_list))
    (pss_one (ps_ret (pv 2))))) pss_nil)
    (pss_cons (ps_asg (pe_op op_mod (pe_callTy c_int1 (by rfl) T.z_int (by decide +kernel) (pa_cons (pe_op op_mul (pe_ix ix_list (pv 0) pe_int (fun _ _ => rfl)) pe_int) pa_nil)) pe_int) (pg_sub (pv 0) pe_int set_list))
    (pss_one (ps_ret (pe_op op_mod (pe_callTy c_int1 (by rfl) T.z_int (by decide +kernel) (pa_cons (pe_op op_fdiv (pe_op op_mod (pe_callTy c_int1 (by rfl) T.z_int (by decide +kernel) (pa_cons (pe_op op_mul (pe_ix ix_list (pv 0) pe_int (fun _ _ => rfl)) (pe_ix ix_list (pv 0) pe_int (fun _ _ => rfl))) pa_nil)) pe_int) pe_int) pa_nil)) (pv 1)))))), ?_⟩
    have m0 : m ≠ 0 := by omega
    walk_at "go"
    refine if_d (fun h => ?_) (fun h => ?_)
    · walk_at "go"
      refine r_I (by omega) ?_
      walk_at "go"
      refine r_I (wide_div (b := 200) (by omega) hb (by decide) (by decide)) ?_
      walk_at "go"
      refine r_setL (i := 0) hp rfl ?_
      walk_at "go"
      exact q _ _ (Int.emod_nonneg _ m0) (Int.emod_lt_of_pos _ (by omega)) SX.upd ⟨_, z, upd_same, Int.ediv_nonneg hc (by omega), hz, hz2⟩
    · walk_at "go"
      refine r_I ?_ ?_
      · exact .inl ⟨by omega, by omega⟩
      walk_at "go"
      refine r_I (by decide) ?_
      walk_at "go"
      refine r_setL (i := 1) hp rfl ?_
      have h2 : upd H p (.lst ([V.int c, V.int z].set 1 (.int (z * 48271 % 2147483647)))) p = some (.lst [.int c, .int (z * 48271 % 2147483647)]) := upd_same
      have x2 : SX p H (upd H p (.lst ([V.int c, V.int z].set 1 (.int (z * 48271 % 2147483647))))) := SX.upd
      generalize upd H p (.lst ([V.int c, V.int z].set 1 (.int (z * 48271 % 2147483647)))) = H2 at h2 x2 ⊢
      have y0 : 0 ≤ z * 48271 % 2147483647 := by omega
      have y1 : z * 48271 % 2147483647 < 2147483647 := by omega
      generalize z * 48271 % 2147483647 = y at h2 y0 y1 ⊢
      walk_at "go"
      refine r_I ?_ ?_
      · exact .inl ⟨by omega, by omega⟩
      walk_at "go"
      refine r_I (by decide) ?_
      walk_at "go"
      refine r_I ?_ ?_
      · exact ⟨by decide, by decide⟩
      walk_at "go"
      refine r_I (by omega) ?_
      exact q _ _ (Int.emod_nonneg _ m0) (Int.emod_lt_of_pos _ (by omega)) x2 ⟨c, y, h2, hc, y0, by omega⟩
end
end Dt
namespace Dt
open PySem PySem.Spec PyProof.Rows L2
section
variable {P : Program} {w : World} {K : PySem.W.Frag} {mg : Str → Option Value} {base : Heap}
def sp__law_of (K : PySem.W.Frag) : Sp := fun vs H Q _ => ∃ (p b : Addr) (xs : List V), vs = [.ref p, .ref b] ∧ Src H p ∧ SqL K (hide p H) b xs ∧ xs ≠ [] ∧ xs.length ≤ 1000 ∧ ∀ v H', v ∈ xs → SX p H H' → Src H' p → Q v H'
theorem ok__law_of (T : Txt P K mg) : FnOk P w K mg base CX0 2 T.f__law_of T.d__law_of ["source", "items"] (sp__law_of K) := by
  have G__law_draw : FnOk P w K mg base CX0 1 T.f__law_draw T.d__law_draw ["source", "many"] (sp__law_draw K) := ok__law_draw T
  refine T.F__law_of.ok sc__law_of (fun vs H Q E h => ?_) (fun cdv A outer s H vs Q E hr h => ?_)
  · obtain ⟨p, b, xs, rfl, _⟩ := h
    rfl
  · obtain ⟨p, b, xs, rfl, hp, hs, hne, hl, q⟩ := h
    refine ⟨_, (pss_one (ps_ret (pe_ix ix_list (pv 1) (pe_call G__law_draw (hr.mono (by decide)) (by rfl) T.g__law_draw T.F__law_draw.kp T.b__law_draw .nil pass0 (pa_cons (pv 0) (pa_cons (pe_callB c_len (by rfl) T.z_len PySem.boot_len (pa_cons (pv 1) pa_nil)) pa_nil))) (fun _ _ => rfl)))), ?_⟩
    have h0 : xs.length ≠ 0 := fun e => hne (List.eq_nil_of_length_eq_zero e)
    walk_at "go"
    refine r_lenL (hide_same.seq hs) ?_
    walk_at "go"
    refine ⟨p, _, rfl, hp, by omega, ?_, fun r H1 r0 r1 x1 hp1 => ?_⟩
    · have : ((xs.length : Int)).natAbs ≤ 1000 := by omega
      exact Nat.lt_of_le_of_lt this (by decide)
    · obtain ⟨j, rfl⟩ := Int.eq_ofNat_of_zero_le r0
      have hj : j < xs.length := by omega
      refine r_ixL (x1.to.seq hs) (atI_nat (List.getElem?_eq_getElem hj)) ?_
      exact q _ _ (List.getElem_mem hj) x1 hp1
end
end Dt
namespace Dt
open PySem PySem.Spec PyProof.Rows L2
section
variable {P : Program} {w : World} {K : PySem.W.Frag} {mg : Str → Option Value} {base : Heap}
def sp__law_walker (K : PySem.W.Frag) : Sp := fun vs H Q _ => ∃ (p : Addr), vs = [.ref p] ∧ Src H p ∧ ∀ v wk H', wk.Ok → SX p H H' → Src H' p → IsWk K H' v wk → Q v H'
theorem ok__law_walker (T : Txt P K mg) : FnOk P w K mg base CX0 3 T.f__law_walker T.d__law_walker ["source"] (sp__law_walker K) := by
  have G__law_of : FnOk P w K mg base CX0 2 T.f__law_of T.d__law_of ["source", "items"] (sp__law_of K) := ok__law_of T
  have G__law_draw : FnOk P w K mg base CX0 1 T.f__law_draw T.d__law_draw ["source", "many"] (sp__law_draw K) := ok__law_draw T
  refine T.F__law_walker.ok sc__law_walker (fun vs H Q E h => ?_) (fun cdv A outer s H vs Q E hr h => ?_)
  · obtain ⟨p, rfl, _⟩ := h
    rfl
  · obtain ⟨p, rfl, hp, q⟩ := h
    refine ⟨_, (pss_cons (ps_set (i := 1) sc__law_walker.nd rfl (Or.inl rfl) (pe_call G__law_of (hr.mono (by decide)) (by rfl) T.g__law_of T.F__law_of.kp T.b__law_of .nil pass0 (pa_cons (pv 0) (pa_cons (pe_lst (pa_cons pe_str (pa_cons pe_str pa_nil))) pa_nil))))
    (pss_cons (ps_set (i := 2) sc__law_walker.nd rfl (Or.inl rfl) (pe_call G__law_of (hr.mono (by decide)) (by rfl) T.g__law_of T.F__law_of.kp T.b__law_of .nil pass0 (pa_cons (pv 0) (pa_cons (pe_lst (pa_cons pe_str (pa_cons pe_str (pa_cons pe_str (pa_cons pe_str (pa_cons pe_str pa_nil)))))) pa_nil))))
    (pss_cons (ps_set (i := 3) sc__law_walker.nd rfl (Or.inl rfl) (pe_call G__law_of (hr.mono (by decide)) (by rfl) T.g__law_of T.F__law_of.kp T.b__law_of .nil pass0 (pa_cons (pv 0) (pa_cons (pe_lst (pa_cons pe_int (pa_cons pe_int (pa_cons pe_int (pa_cons pe_int (pa_cons pe_int (pa_cons (pe_op op_add pe_int (pe_call G__law_draw (hr.mono (by decide)) (by rfl) T.g__law_draw T.F__law_draw.kp T.b__law_draw .nil pass0 (pa_cons (pv 0) (pa_cons pe_int pa_nil)))) pa_nil))))))) pa_nil))))
    (pss_cons (ps_set (i := 4) sc__law_walker.nd rfl (Or.inl rfl) (pe_call G__law_of (hr.mono (by decide)) (by rfl) T.g__law_of T.F__law_of.kp T.b__law_of .nil pass0 (pa_cons (pv 0) (pa_cons (pe_lst (pa_cons pe_non (pa_cons pe_non (pa_cons pe_non (pa_cons (pe_op op_add pe_int (pe_call G__law_draw (hr.mono (by decide)) (by rfl) T.g__law_draw T.F__law_draw.kp T.b__law_draw .nil pass0 (pa_cons (pv 0) (pa_cons pe_int pa_nil)))) pa_nil))))) pa_nil))))
    (pss_cons (ps_set (i := 5) sc__law_walker.nd rfl (Or.inl rfl) (pe_call G__law_of (hr.mono (by decide)) (by rfl) T.g__law_of T.F__law_of.kp T.b__law_of .nil pass0 (pa_cons (pv 0) (pa_cons (pe_lst (pa_cons pe_int (pa_cons (pe_call G__law_draw (hr.mono (by decide)) (by rfl) T.g__law_draw T.F__law_draw.kp T.b__law_draw .nil pass0 (pa_cons (pv 0) (pa_cons pe_int pa_nil))) pa_nil))) pa_nil))))
    (pss_one (ps_ret (pe_tup (pa_cons (pv 1) (pa_cons (pv 2) (pa_cons (pv 5) (pa_cons (pv 3) (pa_cons (pv 4) pa_nil))))))))))))), ?_⟩
    -- end
    walk_at "go"
    intro b1 H1 n1 s1 h1 f1
    have p1 := hp.same s1
    walk_at "go"
    refine ⟨p, b1, _, rfl, p1, .inl (.inl (by rw [hide_ne (hp.ne n1)]; exact h1)), by simp, small1 rfl, fun ve H2 me x2 p2 => ?_⟩
    walk_at "go"
    -- deed
    intro b3 H3 n3 s3 h3 f3
    have p3 := p2.same s3
    walk_at "go"
    refine ⟨p, b3, _, rfl, p3, .inl (.inl (by rw [hide_ne (p2.ne n3)]; exact h3)), by simp, small1 rfl, fun vd H4 md x4 p4 => ?_⟩
    walk_at "go"
    -- step
    refine ⟨p, 6, rfl, p4, by decide, by decide, fun r5 H5 r50 r51 x5 p5 => ?_⟩
    walk_at "go"
    intro b6 H6 n6 s6 h6 f6
    have p6 := p5.same s6
    walk_at "go"
    refine ⟨p, b6, _, rfl, p6, .inl (.inl (by rw [hide_ne (p5.ne n6)]; exact h6)), by simp, small1 rfl, fun vst H7 mst x7 p7 => ?_⟩
    walk_at "go"
    -- many
    refine ⟨p, 9, rfl, p7, by decide, by decide, fun r8 H8 r80 r81 x8 p8 => ?_⟩
    walk_at "go"
    intro b9 H9 n9 s9 h9 f9
    have p9 := p8.same s9
    walk_at "go"
    refine ⟨p, b9, _, rfl, p9, .inl (.inl (by rw [hide_ne (p8.ne n9)]; exact h9)), by simp, small1 rfl, fun vm H10 mm x10 p10 => ?_⟩
    walk_at "go"
    -- first
    refine ⟨p, 6, rfl, p10, by decide, by decide, fun r11 H11 r110 r111 x11 p11 => ?_⟩
    walk_at "go"
    intro b12 H12 n12 s12 h12 f12
    have p12 := p11.same s12
    walk_at "go"
    refine ⟨p, b12, _, rfl, p12, .inl (.inl (by rw [hide_ne (p11.ne n12)]; exact h12)), by simp, small1 rfl, fun vf H13 mf x13 p13 => ?_⟩
    walk_at "go"
    intro t H14 n14 s14 h14 f14
    obtain ⟨l, rfl⟩ : ∃ l, ve = .str (endS l) := by
      simp only [List.mem_cons, List.not_mem_nil, or_false] at me
      rcases me with rfl | rfl
      · exact ⟨true, rfl⟩
      · exact ⟨false, rfl⟩
    obtain ⟨d, rfl⟩ : ∃ d : Deed, vd = .str d.s := by
      simp only [List.mem_cons, List.not_mem_nil, or_false] at md
      rcases md with rfl | rfl | rfl | rfl | rfl
      · exact ⟨.op, rfl⟩
      · exact ⟨.op, rfl⟩
      · exact ⟨.tu, rfl⟩
      · exact ⟨.tu, rfl⟩
      · exact ⟨.sh, rfl⟩
    obtain ⟨st, rfl, st1, st6⟩ : ∃ i : Int, vst = .int i ∧ 1 ≤ i ∧ i ≤ 6 := by
      simp only [List.mem_cons, List.not_mem_nil, or_false] at mst
      rcases mst with rfl | rfl | rfl | rfl | rfl | rfl
      · exact ⟨_, rfl, by decide, by decide⟩
      · exact ⟨_, rfl, by decide, by decide⟩
      · exact ⟨_, rfl, by decide, by decide⟩
      · exact ⟨_, rfl, by decide, by decide⟩
      · exact ⟨_, rfl, by decide, by decide⟩
      · exact ⟨_, rfl, by omega, by omega⟩
    obtain ⟨mn, rfl, hmn⟩ : ∃ m : Option Int, vm = manyV m ∧ ∀ i, m = some i → 1 ≤ i ∧ i ≤ 9 := by
      simp only [List.mem_cons, List.not_mem_nil, or_false] at mm
      rcases mm with rfl | rfl | rfl | rfl
      · exact ⟨none, rfl, fun _ e => by cases e⟩
      · exact ⟨none, rfl, fun _ e => by cases e⟩
      · exact ⟨none, rfl, fun _ e => by cases e⟩
      · exact ⟨some _, rfl, fun i e => by cases e; omega⟩
    obtain ⟨fi, rfl, fi0, fi5⟩ : ∃ i : Int, vf = .int i ∧ 0 ≤ i ∧ i ≤ 5 := by
      simp only [List.mem_cons, List.not_mem_nil, or_false] at mf
      rcases mf with rfl | rfl
      · exact ⟨_, rfl, by decide, by decide⟩
      · exact ⟨_, rfl, by omega, by omega⟩
    have x014 : SX p H H14 := (SX.of s1).trans (x2.trans ((SX.of s3).trans (x4.trans (x5.trans ((SX.of s6).trans (x7.trans (x8.trans ((SX.of s9).trans (x10.trans (x11.trans ((SX.of s12).trans (x13.trans (SX.of s14)))))))))))))
    refine q _ ⟨l, d, fi, st, mn⟩ H14 ⟨fi0, fi5, st1, st6, hmn⟩ x014 (p13.same s14) ⟨t, rfl, SqT.of h14⟩
end
end Dt
namespace Dt
open PySem PySem.Spec PyProof.Rows L2
section
variable {P : Program} {w : World} {K : PySem.W.Frag} {mg : Str → Option Value} {base : Heap}
def sp__law_script (K : PySem.W.Frag) : Sp := fun vs H Q _ => ∃ (p : Addr) (m : Int), vs = [.ref p, .int m] ∧ Src H p ∧ 0 ≤ m ∧ m ≤ 8 ∧ ∀ v sc H', ScrOk sc → (sc.length : Int) ≤ m → SX p H H' → Src H' p → IsScr K H' v sc → Q v H'
theorem ok__law_script (T : Txt P K mg) : FnOk P w K mg base CX0 4 T.f__law_script T.d__law_script ["source", "most"] (sp__law_script K) := by
  have G__law_walker : FnOk P w K mg base CX0 3 T.f__law_walker T.d__law_walker ["source"] (sp__law_walker K) := ok__law_walker T
  have G__law_draw : FnOk P w K mg base CX0 1 T.f__law_draw T.d__law_draw ["source", "many"] (sp__law_draw K) := ok__law_draw T
  refine T.F__law_script.ok sc__law_script (fun vs H Q E h => ?_) (fun cdv A outer s H vs Q E hr h => ?_)
  · obtain ⟨p, m, rfl, _⟩ := h
    rfl
  · obtain ⟨p, m, rfl, hp, m0, m8, q⟩ := h
    refine ⟨_, (pss_one (ps_ret (pe_callTy c_tupOf (by rfl) T.z_tuple (by decide +kernel) (pa_cons (pe_lc (own := [("turn", 2)]) (g := gName 2) (tt := tYes) rfl sc__law_script.nd (pi_range1 (by rfl) T.z_range (pa_cons (pe_call G__law_draw (hr.mono (by decide)) (by rfl) T.g__law_draw T.F__law_draw.kp T.b__law_draw .nil pass0 (pa_cons (pv 0) (pa_cons (pe_op op_add (pv 1) pe_int) pa_nil))) pa_nil)) (blkOk_by (own := [("turn", 2)]) (N := ["source", "most", "turn"]) (sc := defScope s__law_script) (by decide +kernel)) (fun _ _ _ _ _ => pg_name (i := 2) sc__law_script.nd rfl (Or.inl rfl)) (fun _ _ _ _ _ => pts_nil) (fun _ _ _ _ _ => (pe_call G__law_walker (hr.mono (by decide)) (by rfl) T.g__law_walker T.F__law_walker.kp T.b__law_walker .nil pass0 (pa_cons (pv 0) pa_nil)))) pa_nil)))), ?_⟩
    walk_at "go"
    refine ⟨p, m + 1, rfl, hp, by omega, Nat.lt_of_le_of_lt (show (m + 1).natAbs ≤ 9 by omega) (by decide), fun r H1 r0 r1 x1 p1 => ?_⟩
    walk_at "go"
    refine lcR1_by (G := hide p H1) (fun i H' ys => Src H' p ∧ ∃ sc : Scr, sc.length = i ∧ (∀ w ∈ sc, w.Ok) ∧ Paired (IsWk K H') ys sc) hide_same (by omega) (by omega) (fun H' D hD sm hf => ⟨p1.same sm, [], rfl, fun _ h => (by cases h), .nil⟩) (fun x => rfl) ?_ ?_
    · rintro i H' D ys hi hD sm hy ⟨p', sc, hl, ok, hps⟩
      walk_at "go"
      refine ⟨p, rfl, p', fun v wk H2 okw x2 p2 iw => ?_⟩
      have hDp : D ≠ p := p1.ne hD
      refine addTo_by (by rw [hide_ne hDp]; exact hD) (x2.same sm hide_at) (x2.at hDp hy) (small_lt (by rw [paired_len hps]; omega)) fun H3 s3 hf hz => ?_
      have st : ST H2 H3 := ST.ofUpd (x2.at hDp hy) hf
      refine ⟨?_, sc ++ [wk], by rw [List.length_append, hl]; rfl, fun w hw => ?_, paired_app (Paired.mapP hps fun _ _ z => (z.st (x2.st p')).st st) (.cons (iw.st st) .nil)⟩
      · obtain ⟨c, z, e, r⟩ := p2
        exact ⟨c, z, by rw [hf p (Ne.symm hDp)]; exact e, r⟩
      · rcases List.mem_append.mp hw with h | h
        · exact ok w h
        · rw [List.mem_singleton.mp h]
          exact okw
    · rintro H' D ys hD sm hy ⟨p', sc, hl, ok, hps⟩
      walk_at "go"
      intro t H2 nt s2 ht ft
      have hDp : D ≠ p := p1.ne hD
      have sx : SX p H1 H' := fun b o e => by
        by_cases h : b = p
        · rw [h, hide_at] at e
          cases e
        · rw [hide_ne h]
          exact sm b o e
      exact q _ sc H2 ⟨by omega, ok⟩ (by omega) (x1.trans (sx.trans (SX.of s2))) (p'.same s2) ⟨t, ys, rfl, SqT.of ht, Paired.mapP hps fun _ _ => IsWk.mono s2⟩
end
end Dt
namespace Dt
open PySem PySem.Spec PyProof.Rows L2
section
variable {P : Program} {w : World} {K : PySem.W.Frag} {mg : Str → Option Value} {base : Heap}
def sp__law_written (K : PySem.W.Frag) : Sp := fun vs H Q _ => ∃ (x : V) (sc : Scr), vs = [x] ∧ IsScr K H x sc ∧ ScrOk sc ∧ ∀ H', Same H H' → Q (.str (textW sc)) H'
theorem ok__law_written (T : Txt P K mg) : FnOk P w K mg base CX0 1 T.f__law_written T.d__law_written ["walks"] (sp__law_written K) := by
  refine T.F__law_written.ok sc__law_written (fun vs H Q E h => ?_) (fun cdv A outer s H vs Q E hr h => ?_)
  · obtain ⟨x, d, rfl, _⟩ := h
    rfl
  · obtain ⟨x, sc, rfl, ⟨a, us, rfl, hs, hps⟩, ok, k⟩ := h
    refine ⟨_, (pss_cons (ps_set (i := 1) sc__law_written.nd rfl (Or.inl rfl) (pe_lst pa_nil))
    (pss_cons (ps_for PassesOwn.never rfl (pi_tup (pv 0)) (pg_name (i := 2) sc__law_written.nd rfl (Or.inl rfl))
      (pss_one (ps_expr (pe_bm PySem.F.plainAttrs_list PySem.F.slot_list_append PySem.F.type_list_append mt_append (pv 1) (pa_cons (Dt.p_join pe_str (pe_lc (own := [("part", 3)]) (g := gName 3) (tt := tYes) rfl sc__law_written.nd (pi_tup (pv 2)) (blkOk_by (own := [("part", 3)]) (N := ["walks", "lines", "walker", "part"]) (sc := defScope s__law_written) (by decide +kernel)) (fun _ _ _ _ _ => pg_name (i := 3) sc__law_written.nd rfl (Or.inl rfl)) (fun _ _ _ _ _ => pts_nil) (fun _ _ _ _ _ => (pe_ifExp (pt_cmpR o_isN (pv 3) pe_non (nomark _)) pe_str (pe_callTy Dt.c_strV (by rfl) T.z_str (by decide +kernel) (pa_cons (pv 3) pa_nil)))))) pa_nil)))))
    (pss_one (ps_ret (Dt.p_join pe_str (pv 1)))))), ?_⟩
    walk_at "go"
    intro p H1 np s1 hp f1
    walk_at "go"
    refine forT_by (fun i σ H' => ∃ o2 o3, σ = [some (.ref a), some (.ref p), o2, o3] ∧ Same H H' ∧ H' p = some (.lst (((sc.take i).map lineW).map V.str)))
      (Same.sqT s1 hs) ⟨none, none, rfl, s1, hp⟩ (fun _ _ _ _ ⟨_, _, _, sm, _⟩ => Same.sqT sm hs) ?_ ?_
    · rintro i x σ H' hi ⟨o2, o3, rfl, sm, hp'⟩
      obtain ⟨w, hw, b, rfl, hb⟩ := paired_get hps hi
      have okw := ok.ok w (List.mem_of_getElem? hw)
      have hb' := Same.sqT sm hb
      walk_at "go"
      refine lcT_by (fun j H2 zs => zs = (w.parts.take j).map V.str) (Same.refl H') hb' (fun _ _ _ _ _ => rfl) (fun x => rfl) ?_ ?_
      · rintro j x H2 D2 zs hj hD2 sm2 hz rfl
        have okx := vs_ok okw x (List.mem_of_getElem? hj)
        have ex : w.parts[j]? = some (partT x) := by
          rw [← parts_vs, List.getElem?_map, hj]
          rfl
        have hjl : j < 5 := (List.getElem?_eq_some_iff.mp hj).1
        have fin : ∀ z, z = partT x → addTo D2 (fun H3 => Same H' H3 ∧ ∃ zs, H3 D2 = some (.lst zs) ∧ zs = (w.parts.take (j + 1)).map V.str) (.str z) H2 := fun z ez => by
          refine addTo_by hD2 sm2 hz (small_lt (by rw [List.length_map, List.length_take]; omega)) fun H3 s3 _ h3 => ?_
          rw [take_more ex, List.map_append, ez]
          rfl
        walk_at "go"
        refine if_d (fun h => ?_) (fun h => ?_)
        · walk_at "go"
          subst h
          exact fin _ rfl
        · walk_at "go"
          cases x with
          | non => exact absurd rfl h
          | int n => exact r_strVI (log_small okx) (fin _ rfl)
          | str s => exact r_strV (fin _ rfl)
          | _ => exact okx.elim
      · rintro H2 D2 zs hD2 sm2 hz rfl
        rw [show w.vs.length = w.parts.length from rfl, List.take_length] at hz
        refine r_joinL (SqL.of hz) (lineW_le okw) ?_
        walk_at "go"
        refine r_append (sm2 _ _ hp') (small_lt (by rw [List.length_map, List.length_map, List.length_take]; have := ok.len; omega)) fun H3 h3 f3 => ?_
        walk_at "go"
        refine ⟨_, _, rfl, same_grow (sm.trans sm2) np f3, ?_⟩
        rw [h3, take_more hw, List.map_append, List.map_append]
        rfl
    · rintro σ H' ⟨o2, o3, rfl, sm, hp'⟩
      rw [paired_len hps, List.take_length] at hp'
      walk_at "go"
      exact r_joinL (SqL.of hp') (Nat.le_trans (textW_sum ok) (by decide)) (k H' sm)
end
end Dt
namespace Dt
open PySem PySem.Spec PyProof.Rows L2
section
variable {P : Program} {w : World} {K : PySem.W.Frag} {mg : Str → Option Value} {base : Heap}
def readR (K : PySem.W.Frag) (H : Hp) (Q : VK) : Int ⊕ List PyData → Prop
  | .inl n => ∀ v H', Same H H' → Dp K H' v (.tuple [.none, .int n]) → Q v H'
  | .inr ds => ∀ v H', Same H H' → Dp K H' v (.tuple [.tuple ds, .none]) → Q v H'
def sp__law_read (K : PySem.W.Frag) : Sp := fun vs H Q _ => ∃ (x : V) (d : PyData), vs = [x] ∧ Dp K H x d ∧ (∀ t, d = .str t → t.length ≤ 10000) ∧ readR K H Q (readD d)
theorem ok__law_read (T : Txt P K mg) : FnOk P w K mg base CX0 14 T.f__law_read T.d__law_read ["text"] (sp__law_read K) := by
  have G_read_script : FnOk P w K mg base (L2.CX P w) 13 T.f_read_script T.d_read_script ["value"] (sp_read_script K) := ok_read_script T
  refine T.F__law_read.ok sc__law_read (fun vs H Q E h => ?_) (fun cdv A outer s H vs Q E hr h => ?_)
  · obtain ⟨x, d, rfl, _⟩ := h
    rfl
  · obtain ⟨x, d, rfl, hd, hl, k⟩ := h
    refine ⟨_, (pss_one (ps_try_as (i := 1) rfl rfl sc__law_read.nd rfl rfl ⟨by rfl, by decide, .inl T.E_InvalidText.gC⟩ takes0 (fun W pn xe tk pw => (pss_one (ps_ret (pe_tup (pa_cons (pe_callS G_read_script (hr.mono (by decide)) (by rfl) T.g_read_script T.F_read_script.kp T.b_read_script (passAt tk) (pa_cons (pv 0) pa_nil)) (pa_cons pe_non pa_nil)))))) (fun a oe cls d pn hz hf => (pss_one (ps_ret (pe_ifExp (pt_val (pe_callB (call_isED hz hf) (by rfl) T.z_isinstance (by decide +kernel) (pa_cons (pv 1) (pa_cons (pe_glob (v := .ref T.a_DoorError) (by rfl) T.g_DoorError rfl) pa_nil)))) (pe_tup (pa_cons pe_non (pa_cons (pe_xf T.E_InvalidText.xf T.E_InvalidText.sup.fld hz hf (pv 1)) pa_nil))) (pe_tup (pa_cons pe_non (pa_cons pe_str pa_nil))))))))), ?_⟩
    show tRet _ _ _ _
    walk_at "go"
    refine r_callS ?_
    walk_at "go"
    refine ⟨x, d, rfl, hd, hl, ?_⟩
    cases e : readD d with
    | inr ds =>
      rw [e] at k
      intro v H1 s1 dv
      walk_at "go"
      intro p H2 np s2 hp _
      exact k _ H2 (s1.trans s2) (.tup (SqT.of hp) (.cons (Dp.mono s2 dv) (.cons .non .nil)))
    | inl n =>
      rw [e] at k
      intro C dd H1 tC nd s1 h1
      have eC : C = T.a_InvalidText := by
        have := T.n_InvalidText.symm.trans tC
        have := Option.some.inj (Option.some.inj this)
        exact (Value.ref.inj this).symm
      subst eC
      refine ⟨true, T.E_InvalidText.te, fun _ a na => ?_, fun q => Bool.noConfusion q⟩
      walk_at "go"
      refine ⟨T.a_InvalidText, dd, .ref T.a_DoorError, .ref T.a_DoorError, true, _, rfl, rfl, T.E_InvalidText.ec, rfl, h1, fun u r => r, T.j_InvalidText, r_asB (if_T rfl ?_)⟩
      walk_at "go"
      refine ⟨_, rfl, rfl, rfl, dd, _, .int n, rfl, h1, by simp [List.lookup], ?_⟩
      walk_at "go"
      intro p H2 np s2 hp _
      exact k _ H2 (s1.trans s2) (.tup (SqT.of hp) (.cons .non (.cons (.int n) .nil)))
end
end Dt
namespace Dt
open PySem PySem.Spec PyProof.Rows L2
section
variable {P : Program} {w : World} {K : PySem.W.Frag} {mg : Str → Option Value} {base : Heap}
def sp__law_small (K : PySem.W.Frag) : Sp := fun vs H Q _ => ∃ (w : Str) (l m : Nat), vs = [.str w, .int l, .int m] ∧ l ≤ m ∧ m ≤ 100 ∧ ∀ H', Same H H' → Q (.bl (smallS w l m)) H'
theorem ok__law_small (T : Txt P K mg) : FnOk P w K mg base CX0 1 T.f__law_small T.d__law_small ["word", "least", "most"] (sp__law_small K) := by
  refine T.F__law_small.ok sc__law_small (fun vs H Q E h => ?_) (fun cdv A outer s H vs Q E hr h => ?_)
  · obtain ⟨w, l, m, rfl, _⟩ := h
    rfl
  · obtain ⟨w, l, m, rfl, hlm, hm, k⟩ := h
    refine ⟨_, (pss_one (ps_ret (pe_cmpR op_in_seq (pv 0) (pe_lc (own := [("amount", 3)]) (g := gName 3) (tt := tYes) rfl sc__law_small.nd (pi_range2 (by rfl) T.z_range (pa_cons (pv 1) (pa_cons (pe_op op_add (pv 2) pe_int) pa_nil))) (blkOk_by (own := [("amount", 3)]) (N := ["word", "least", "most", "amount"]) (sc := defScope s__law_small) (by decide +kernel)) (fun _ _ _ _ _ => pg_name (i := 3) sc__law_small.nd rfl (Or.inl rfl)) (fun _ _ _ _ _ => pts_nil) (fun _ _ _ _ _ => (pe_callTy c_strI (by rfl) T.z_str (by decide +kernel) (pa_cons (pv 3) pa_nil)))) (by rfl)))), ?_⟩
    walk_at "go"
    refine lcR2_by (fun i H' ys => ys = ((List.range i).map fun (i : Nat) => numS (l + i : Nat)).map V.str) (Same.refl H) ⟨by omega, by omega, by omega, by omega⟩ (fun _ _ _ _ _ => rfl) (fun x => rfl) ?_ ?_
    · rintro i H' D ys hi hD sm hy rfl
      walk_at "go"
      refine ⟨(l : Int) + i, rfl, log_small (by omega), ?_⟩
      refine addTo_by hD sm hy (small_lt (by rw [List.length_map, List.length_map, List.length_range]; omega)) fun H3 s3 _ hz => ?_
      rw [List.range_succ, List.map_append, List.map_append]
      rfl
    · rintro H' D ys hD sm hy rfl
      refine ⟨D, _, rfl, .inl (SqL.of hy), rfl, flat_strs _, ?_⟩
      rw [if_neg (by decide), inV_strs]
      have e : ((m : Int) + 1 - l).toNat = m + 1 - l := by omega
      rw [e]
      exact k H' sm
end
end Dt
namespace Dt
open PySem PySem.Spec PyProof.Rows L2
section
variable {P : Program} {w : World} {K : PySem.W.Frag} {mg : Str → Option Value} {base : Heap}
def sp__law_good_line (K : PySem.W.Frag) : Sp := fun vs H Q _ => ∃ (l : Str), vs = [.str l] ∧ l.length ≤ 10000 ∧ ∀ H', Same H H' → Q (.bl (goodL l)) H'
theorem ok__law_good_line (T : Txt P K mg) : FnOk P w K mg base CX0 2 T.f__law_good_line T.d__law_good_line ["line"] (sp__law_good_line K) := by
  have G__law_small : FnOk P w K mg base CX0 1 T.f__law_small T.d__law_small ["word", "least", "most"] (sp__law_small K) := ok__law_small T
  refine T.F__law_good_line.ok sc__law_good_line (fun vs H Q E h => ?_) (fun cdv A outer s H vs Q E hr h => ?_)
  · obtain ⟨w, rfl, _⟩ := h
    rfl
  · obtain ⟨l, rfl, hl, k⟩ := h
    refine ⟨_, (pss_cons (ps_set (i := 1) sc__law_good_line.nd rfl (Or.inl rfl) (Dt.p_split (pv 0) pe_str))
    (pss_cons (ps_if (PW.pt (pw_or (pt_cmpR op_ne (pe_callB c_len (by rfl) T.z_len PySem.boot_len (pa_cons (pv 1) pa_nil)) pe_int (nomark _)) (pw_or (pt_cmpR op_notIn_seq (pe_ix ix_list (pv 1) pe_int (fun _ _ => rfl)) (pe_lst (pa_cons pe_str (pa_cons pe_str pa_nil))) (by rfl)) (pw_or1 (pt_cmpR op_notIn_seq (pe_ix ix_list (pv 1) pe_int (fun _ _ => rfl)) (pe_lst (pa_cons pe_str (pa_cons pe_str (pa_cons pe_str pa_nil)))) (by rfl)))))) (pss_one (ps_ret pe_bl)) pss_nil)
    (pss_cons (ps_if (PW.pt (pw_or (pt_not (pt_val (pe_call G__law_small (hr.mono (by decide)) (by rfl) T.g__law_small T.F__law_small.kp T.b__law_small .nil pass0 (pa_cons (pe_ix ix_list (pv 1) pe_int (fun _ _ => rfl)) (pa_cons pe_int (pa_cons pe_int pa_nil)))))) (pw_or1 (pt_not (pt_val (pe_call G__law_small (hr.mono (by decide)) (by rfl) T.g__law_small T.F__law_small.kp T.b__law_small .nil pass0 (pa_cons (pe_ix ix_list (pv 1) pe_int (fun _ _ => rfl)) (pa_cons pe_int (pa_cons pe_int pa_nil))))))))) (pss_one (ps_ret pe_bl)) pss_nil)
    (pss_one (ps_ret (pe_or (pe_cmpR op_eq (pe_ix ix_list (pv 1) pe_int (fun _ _ => rfl)) pe_str (nomark _)) (pe_one (pe_call G__law_small (hr.mono (by decide)) (by rfl) T.g__law_small T.F__law_small.kp T.b__law_small .nil pass0 (pa_cons (pe_ix ix_list (pv 1) pe_int (fun _ _ => rfl)) (pa_cons pe_int (pa_cons pe_int pa_nil))))))))))), ?_⟩
    walk_at "go"
    refine r_split sp_len (size_ok (by omega)) fun p H1 np s1 hp _ => ?_
    walk_at "go"
    refine if_nd (fun h => ?_) (fun h => ?_)
    · walk_at "go"
      have q := k H1 s1
      rw [goodL_no fun e => h (by rw [List.length_map]; exact congrArg (fun n : Nat => V.int n) e)] at q
      exact q
    · have h5 : (wordsOf l).length = 5 := by
        have := V.int.inj h
        rw [List.length_map] at this
        exact Int.ofNat.inj this
      obtain ⟨a, b, c, d, e, ew⟩ := five h5
      rw [show Txt.split l " " = [a, b, c, d, e] from ew] at hp
      have eg : goodL l = ((["left", "right"] : List Str).contains a && ((["open", "shut", "turn"] : List Str).contains b && (smallS c 0 5 && (smallS d 1 6 && (decide (e = "all") || smallS e 1 9))))) := by
        unfold goodL
        rw [ew]
      rw [eg] at k
      walk_at "go"
      intro pA HA nA sA hA _
      refine ⟨pA, (["left", "right"] : List Str).map V.str, rfl, .inl (SqL.of hA), rfl, flat_strs _, ?_⟩
      rw [if_pos rfl, inV_strs]
      cases ea : (["left", "right"] : List Str).contains a with
      | false =>
        walk_at "go"
        have q := k HA (s1.trans sA)
        rw [ea] at q
        exact q
      | true =>
        walk_at "go"
        intro pB HB nB sB hB _
        refine ⟨pB, (["open", "shut", "turn"] : List Str).map V.str, rfl, .inl (SqL.of hB), rfl, flat_strs _, ?_⟩
        rw [if_pos rfl, inV_strs]
        cases eb : (["open", "shut", "turn"] : List Str).contains b with
        | false =>
          walk_at "go"
          have q := k HB (s1.trans (sA.trans sB))
          rw [ea, eb] at q
          exact q
        | true =>
          walk_at "go"
          refine ⟨c, 0, 5, rfl, by decide, by decide, fun H3 s3 => ?_⟩
          walk_at "go"
          cases ec : smallS c 0 5 with
          | false =>
            walk_at "go"
            have q := k H3 (s1.trans (sA.trans (sB.trans s3)))
            rw [ea, eb, ec] at q
            exact q
          | true =>
            walk_at "go"
            refine ⟨d, 1, 6, rfl, by decide, by decide, fun H4 s4 => ?_⟩
            walk_at "go"
            cases ed : smallS d 1 6 with
            | false =>
              walk_at "go"
              have q := k H4 (s1.trans (sA.trans (sB.trans (s3.trans s4))))
              rw [ea, eb, ec, ed] at q
              exact q
            | true =>
              walk_at "go"
              refine if_d (fun h => ?_) (fun h => ?_)
              · walk_at "go"
                have q := k H4 (s1.trans (sA.trans (sB.trans (s3.trans s4))))
                rw [ea, eb, ec, ed, decide_eq_true (V.str.inj h)] at q
                exact q
              · walk_at "go"
                refine ⟨e, 1, 9, rfl, by decide, by decide, fun H5 s5 => ?_⟩
                have q := k H5 (s1.trans (sA.trans (sB.trans (s3.trans (s4.trans s5)))))
                rw [ea, eb, ec, ed, decide_eq_false fun z => h (by rw [z])] at q
                exact q
end
end Dt
namespace Dt
open PySem PySem.Spec PyProof.Rows L2
section
variable {P : Program} {w : World} {K : PySem.W.Frag} {mg : Str → Option Value} {base : Heap}
def badV : Option Nat → V
  | some n => .int (n : Nat)
  | none => .non
theorem bad_at {t l : Str} {i : Nat} (h0 : t ≠ "") (hi : (Txt.split t "\n")[i]? = some l) (hg : goodL l = false) (hb : ∀ (j : Nat) (l' : Str), j < i → (Txt.split t "\n")[j]? = some l' → goodL l' = true) : badOf t = some (i + 1) := by
  have e : (Txt.split t "\n").findIdx? (fun l => !goodL l) = some i := by
    obtain ⟨hi1, hi2⟩ := List.getElem?_eq_some_iff.mp hi
    rw [List.findIdx?_eq_some_iff_getElem]
    refine ⟨hi1, by rw [hi2, hg]; rfl, fun j hj => ?_⟩
    rw [hb j _ hj (List.getElem?_eq_getElem (Nat.lt_trans hj hi1))]
    decide
  unfold badOf
  rw [if_neg h0, e]
theorem bad_end {t : Str} (h0 : t ≠ "") (hb : ∀ (j : Nat) (l' : Str), j < (Txt.split t "\n").length → (Txt.split t "\n")[j]? = some l' → goodL l' = true) : badOf t = if (Txt.split t "\n").length > 8 then some 9 else none := by
  have e : (Txt.split t "\n").findIdx? (fun l => !goodL l) = none := by
    rw [List.findIdx?_eq_none_iff]
    intro l hl
    obtain ⟨j, hj⟩ := List.getElem?_of_mem hl
    rw [hb j l (List.getElem?_eq_some_iff.mp hj).1 hj]
    rfl
  unfold badOf
  rw [if_neg h0, e]
def sp__law_bad (K : PySem.W.Frag) : Sp := fun vs H Q _ => ∃ (t : Str), vs = [.str t] ∧ t.length ≤ 10000 ∧ ∀ H', Same H H' → Q (badV (badOf t)) H'
theorem ok__law_bad (T : Txt P K mg) : FnOk P w K mg base CX0 3 T.f__law_bad T.d__law_bad ["text"] (sp__law_bad K) := by
  have G__law_good_line : FnOk P w K mg base CX0 2 T.f__law_good_line T.d__law_good_line ["line"] (sp__law_good_line K) := ok__law_good_line T
  refine T.F__law_bad.ok sc__law_bad (fun vs H Q E h => ?_) (fun cdv A outer s H vs Q E hr h => ?_)
  · obtain ⟨x, rfl, _⟩ := h
    rfl
  · obtain ⟨t, rfl, hl, k⟩ := h
    refine ⟨_, (pss_cons (ps_if (pt_cmpR op_eq (pv 0) pe_str (nomark _)) (pss_one (ps_ret pe_non)) pss_nil)
    (pss_cons (ps_set (i := 1) sc__law_bad.nd rfl (Or.inl rfl) (Dt.p_split (pv 0) pe_str))
    (pss_cons (ps_for PassesOwn.never rfl (pi_enum (by rfl) T.z_enumerate (pa_cons (pv 1) pa_nil)) (pg_tup rfl (pgs_cons (pg_name (i := 2) sc__law_bad.nd rfl (Or.inl rfl)) (pgs_cons (pg_name (i := 3) sc__law_bad.nd rfl (Or.inl rfl)) pgs_nil)))
      (pss_one (ps_if (pt_not (pt_val (pe_call G__law_good_line (hr.mono (by decide)) (by rfl) T.g__law_good_line T.F__law_good_line.kp T.b__law_good_line .nil pass0 (pa_cons (pv 3) pa_nil)))) (pss_one (ps_ret (pe_op op_add (pv 2) pe_int))) pss_nil)))
    (pss_one (ps_ret (pe_ifExp (pt_cmpR op_gt (pe_callB c_len (by rfl) T.z_len PySem.boot_len (pa_cons (pv 1) pa_nil)) pe_int (nomark _)) pe_int pe_non)))))), ?_⟩
    walk_at "go"
    refine if_d (fun h => ?_) (fun h => ?_)
    · have e : t = "" := V.str.inj h
      walk_at "go"
      have q := k H (Same.refl H)
      rw [show badOf t = none by rw [e]; rfl] at q
      exact q
    have h0 : t ≠ "" := fun z => h (by rw [z])
    walk_at "go"
    refine r_split nl_len (size_ok (by omega)) fun p H1 np s1 hp f1 => ?_
    walk_at "go"
    refine forE_by (fun i σ H' => ∃ o2 o3, σ = [some (.str t), some (.ref p), o2, o3] ∧ Same H H' ∧ H' p = some (.lst ((Txt.split t "\n").map V.str)) ∧ ∀ (j : Nat) (l' : Str), j < i → (Txt.split t "\n")[j]? = some l' → goodL l' = true)
      (SqL.of hp) ⟨none, none, rfl, s1, hp, fun _ _ z => absurd z (Nat.not_lt_zero _)⟩ (fun _ _ _ _ ⟨_, _, _, _, hp, _⟩ => SqL.of hp) ?_ ?_
    · rintro i x T σ H2 H3 hi ⟨o2, o3, rfl, sm, hp2, hb⟩ nT s3 hT f3
      obtain ⟨l, hw, rfl⟩ : ∃ w, (Txt.split t "\n")[i]? = some w ∧ x = .str w := by
        rw [List.getElem?_map] at hi
        cases e : (Txt.split t "\n")[i]? with
        | none => rw [e] at hi; cases hi
        | some b => rw [e] at hi; exact ⟨b, rfl, (Option.some.inj hi).symm⟩
      have hll : l.length ≤ t.length := line_le (List.mem_of_getElem? hw)
      have hp3 := s3 _ _ hp2
      walk_at "go"
      refine ⟨l, rfl, by omega, fun H4 s4 => ?_⟩
      walk_at "go"
      cases eg : goodL l with
      | true =>
        walk_at "go"
        refine ⟨_, _, rfl, sm.trans (s3.trans s4), s4 _ _ hp3, fun j l' hj hj2 => ?_⟩
        rcases Nat.lt_or_ge j i with h | h
        · exact hb j l' h hj2
        · have : j = i := by omega
          subst this
          rw [hw] at hj2
          rw [← Option.some.inj hj2, eg]
      | false =>
        walk_at "go"
        have q := k H4 (sm.trans (s3.trans s4))
        rw [bad_at h0 hw eg hb] at q
        exact q
    · rintro σ H2 ⟨o2, o3, rfl, sm, hp2, hb⟩
      rw [List.length_map] at hb
      have q := k H2 sm
      rw [bad_end h0 hb] at q
      walk_at "go"
      rw [List.length_map]
      refine if_d (fun h => ?_) (fun h => ?_)
      · rw [if_pos (by omega)] at q
        walk_at "go"
        exact q
      · rw [if_neg (by omega)] at q
        walk_at "go"
        exact q
end
end Dt
namespace Dt
open PySem PySem.Spec PyProof.Rows L2
section
variable {P : Program} {w : World} {K : PySem.W.Frag} {mg : Str → Option Value} {base : Heap}
def sp__law_spoilt (K : PySem.W.Frag) : Sp := fun vs H Q _ => ∃ (p : Addr) (t : Str), vs = [.ref p, .str t] ∧ Src H p ∧ t.length ≤ 1000 ∧ ∀ t' H', t'.length ≤ 7000 → SX p H H' → Src H' p → Q (.str t') H'
theorem signs_le : ([("" : Str), " ", "0", "1", "7", "-", "\n", "\nleft turn 0 1 all", " all", "right", "open", "shut ", "9", "+", "\n\n"] : List Str).all (fun s => decide (s.length ≤ 100)) = true := by decide +kernel
theorem map_cut (ls : List Str) (n : Nat) : cutV (ls.map V.str) none (some (n : Int)) = (ls.take n).map V.str := by rw [cutV_to, List.map_take]
theorem map_cut2 (ls : List Str) (n : Nat) : cutV (ls.map V.str) (some (n : Int)) none = (ls.drop n).map V.str := by rw [cutV_from, List.map_drop]
theorem map_cut3 (ls : List Str) (i j : Nat) : ∃ ms : List Str, cutV (ls.map V.str) (some (i : Int)) (some (j : Int)) = ms.map V.str ∧ ms.Sublist ls := by
  refine ⟨(ls.drop (min i ls.length)).take (min j ls.length - min i ls.length), ?_, (List.take_sublist _ _).trans (List.drop_sublist _ _)⟩
  rw [cutV_mid, List.length_map, ← List.map_drop, ← List.map_take]
theorem size_ok2 {n : Nat} (h : n ≤ 1000000) : n ≤ sizeLine := Nat.le_trans h (by decide)
theorem split_ne (t : Str) : Txt.split t "\n" ≠ [] := fun e => by
  have h := join_back t "\n"
  rw [e] at h
  have : t = "" := h.symm
  rw [this, split_empty] at e
  cases e
theorem str_app_len (a b : Str) : (a ++ b).length = a.length + b.length := by
  rw [TL.len_tl, TL.len_tl, TL.len_tl, TL.tl_append, List.length_append]
theorem ok__law_spoilt (T : Txt P K mg) : FnOk P w K mg base CX0 26 T.f__law_spoilt T.d__law_spoilt ["source", "text"] (sp__law_spoilt K) := by
  have G__law_draw : FnOk P w K mg base CX0 1 T.f__law_draw T.d__law_draw ["source", "many"] (sp__law_draw K) := ok__law_draw T
  have G__law_of : FnOk P w K mg base CX0 2 T.f__law_of T.d__law_of ["source", "items"] (sp__law_of K) := ok__law_of T
  refine T.F__law_spoilt.ok sc__law_spoilt (fun vs H Q E h => ?_) (fun cdv A outer s H vs Q E hr h => ?_)
  · obtain ⟨x, d, rfl, _⟩ := h
    rfl
  · obtain ⟨p, t, rfl, hp, hl, k⟩ := h
    refine ⟨_, (pss_cons (ps_par (i := 2) (j := 3) rfl sc__law_spoilt.nd rfl rfl (by decide) rfl rfl (pa_cons (pe_call G__law_draw (hr.mono (by omega)) (by rfl) T.g__law_draw T.F__law_draw.kp T.b__law_draw .nil pass0 (pa_cons (pv 0) (pa_cons (pe_op op_add (pe_callB c_lenStr (by rfl) T.z_len PySem.boot_len (pa_cons (pv 1) pa_nil)) pe_int) pa_nil))) (pa_cons (pe_call G__law_draw (hr.mono (by omega)) (by rfl) T.g__law_draw T.F__law_draw.kp T.b__law_draw .nil pass0 (pa_cons (pv 0) (pa_cons pe_int pa_nil))) pa_nil)) (by rfl))
    (pss_cons (ps_set (i := 4) sc__law_spoilt.nd rfl (Or.inl rfl) (pe_lst (pa_cons pe_str (pa_cons pe_str (pa_cons pe_str (pa_cons pe_str (pa_cons pe_str (pa_cons pe_str (pa_cons pe_str (pa_cons pe_str (pa_cons pe_str pa_nil)))))))))))
    (pss_cons (ps_set (i := 4) sc__law_spoilt.nd rfl (Or.inl rfl) (pe_op op_cat (pv 4) (pe_lst (pa_cons pe_str (pa_cons pe_str (pa_cons pe_str (pa_cons pe_str (pa_cons pe_str (pa_cons pe_str pa_nil)))))))))
    (pss_cons (ps_if (pt_cmpR op_eq (pv 3) pe_int (nomark _)) (pss_cons (ps_set (i := 5) sc__law_spoilt.nd rfl (Or.inl rfl) (Dt.p_split (pv 1) pe_str))
    (pss_cons (ps_set (i := 6) sc__law_spoilt.nd rfl (Or.inl rfl) (pe_call G__law_draw (hr.mono (by omega)) (by rfl) T.g__law_draw T.F__law_draw.kp T.b__law_draw .nil pass0 (pa_cons (pv 0) (pa_cons (pe_callB c_len (by rfl) T.z_len PySem.boot_len (pa_cons (pv 5) pa_nil)) pa_nil))))
    (pss_cons (ps_set (i := 7) sc__law_spoilt.nd rfl (Or.inl rfl) (pe_slice sl_list (pv 5) (po_some (pv 6)) (po_some (pe_op op_add (pv 6) (pe_call G__law_draw (hr.mono (by omega)) (by rfl) T.g__law_draw T.F__law_draw.kp T.b__law_draw .nil pass0 (pa_cons (pv 0) (pa_cons pe_int pa_nil)))))))
    (pss_one (ps_ret (Dt.p_join pe_str (pe_op op_cat (pe_op op_cat (pe_slice sl_list (pv 5) po_none (po_some (pv 6))) (pe_slice sl_list (pv 5) (po_some (pe_op op_add (pv 6) pe_int)) po_none)) (pv 7)))))))) pss_nil)
    (pss_one (ps_ret (pe_op o_addS (pe_op o_addS (pe_slice sl_str (pv 1) po_none (po_some (pv 2))) (pe_call G__law_of (hr.mono (by omega)) (by rfl) T.g__law_of T.F__law_of.kp T.b__law_of .nil pass0 (pa_cons (pv 0) (pa_cons (pv 4) pa_nil)))) (pe_slice sl_str (pv 1) (po_some (pe_op op_add (pv 2) (pv 3))) po_none)))))))), ?_⟩
    walk_at "go"
    refine r_lenS (size_ok2 (by omega)) ?_
    walk_at "go"
    refine ⟨p, _, rfl, hp, by omega, Nat.lt_of_le_of_lt (show ((t.length : Int) + 1).natAbs ≤ 1001 by omega) (by decide), fun r1 H1 r10 r11 x1 p1 => ?_⟩
    walk_at "go"
    refine ⟨p, 3, rfl, p1, by decide, by decide, fun r2 H2 r20 r21 x2 p2 => ?_⟩
    walk_at "go"
    intro b3 H3 n3 s3 h3 f3
    walk_at "go"
    intro b4 H4 n4 s4 h4 f4
    have h34 := s4 _ _ h3
    refine r_catL h34 h4 (small_b rfl) fun b5 H5 n5 s5 h5 f5 => ?_
    have s25 := s3.trans (s4.trans s5)
    have p5 := p2.same s25
    have x5 : SX p H H5 := x1.trans (x2.trans (SX.of s25))
    have hb5 : b5 ≠ p := fun z => by
      obtain ⟨o, e⟩ := (p2.same (s3.trans s4)).some
      rw [← z, n5] at e
      cases e
    walk_at "go"
    obtain ⟨i, rfl⟩ := Int.eq_ofNat_of_zero_le r10
    obtain ⟨m, rfl⟩ := Int.eq_ofNat_of_zero_le r20
    refine if_d (fun hm => ?_) (fun hm => ?_)
    · walk_at "go"
      refine r_split nl_len (size_ok (by omega)) fun b6 H6 n6 s6 h6 f6 => ?_
      have hle := split_le2 t "\n"
      have hsum := split_sum t "\n"
      have hne : 1 ≤ (Txt.split t "\n").length := by
        cases e : Txt.split t "\n" with
        | nil => exact absurd e (split_ne t)
        | cons a b => exact Nat.succ_le_succ (Nat.zero_le _)
      generalize Txt.split t "\n" = ls at h6 hle hsum hne
      have p6 := p5.same s6
      have hb6 : b6 ≠ p := p5.ne n6
      walk_at "go"
      rw [List.length_map]
      refine ⟨p, _, rfl, p6, by omega, Nat.lt_of_le_of_lt (show ((ls.length : Int)).natAbs ≤ 1002 by omega) (by decide), fun r7 H7 r70 r71 x7 p7 => ?_⟩
      obtain ⟨j, rfl⟩ := Int.eq_ofNat_of_zero_le r70
      have h7 := x7.at hb6 h6
      walk_at "go"
      refine ⟨p, 3, rfl, p7, by decide, by decide, fun r8 H8 r80 r81 x8 p8 => ?_⟩
      obtain ⟨q, rfl⟩ := Int.eq_ofNat_of_zero_le r80
      have h8 := x8.at hb6 h7
      walk_at "go"
      intro b9 H9 n9 s9 h9 f9
      obtain ⟨ms, e9, sub9⟩ := map_cut3 ls j (j + q)
      rw [show ((j : Int) + q) = ((j + q : Nat) : Int) from rfl, e9] at h9
      have h69 := s9 _ _ h8
      walk_at "go"
      intro b10 H10 n10 s10 h10 f10
      rw [map_cut] at h10
      have h610 := s10 _ _ h69
      walk_at "go"
      intro b11 H11 n11 s11 h11 f11
      rw [show ((j : Int) + 1) = ((j + 1 : Nat) : Int) from rfl, map_cut2] at h11
      have len1 := List.length_take_le j ls
      have len2 : (ls.drop (j + 1)).length ≤ ls.length := by rw [List.length_drop]; omega
      have len3 := sub9.length_le
      refine r_catL (s11 _ _ h10) h11 (small_line (by rw [List.length_map, List.length_map]; omega)) fun b12 H12 n12 s12 h12 f12 => ?_
      walk_at "go"
      have h9_12 := (s10.trans (s11.trans s12)) _ _ h9
      refine r_catL h12 h9_12 (small_line (by rw [List.length_append, List.length_map, List.length_map, List.length_map]; omega)) fun b13 H13 n13 s13 h13 f13 => ?_
      rw [← List.map_append, ← List.map_append] at h13
      have sA := sum_sub (List.take_sublist j ls)
      have sB := sum_sub (List.drop_sublist (j + 1) ls)
      have sC := sum_sub sub9
      have n1 : ("\n" : Str).length = 1 := by decide +kernel
      have tot : ((ls.take j ++ ls.drop (j + 1) ++ ms).map (·.length)).sum + (ls.take j ++ ls.drop (j + 1) ++ ms).length * ("\n" : Str).length ≤ 7000 := by
        rw [List.map_append, List.map_append, List.sum_append, List.sum_append, List.length_append, List.length_append, n1]
        omega
      refine r_joinL (SqL.of h13) (Nat.le_trans tot (by decide)) ?_
      have s813 := s9.trans (s10.trans (s11.trans (s12.trans s13)))
      have x58 : SX p H5 H8 := (SX.of s6).trans (x7.trans x8)
      exact k _ H13 (Nat.le_trans (join_len _ _) tot) (x5.trans (x58.trans (SX.of s813))) (p8.same s813)
    · walk_at "go"
      refine r_slS (size_ok2 (by omega)) ?_
      have la := cutS_length t none (some (i : Int))
      walk_at "go"
      refine ⟨p, b5, _, rfl, p5, .inl (.inl (hide_up h5 hb5)), by simp, small1 rfl, fun v H6 mv x6 p6 => ?_⟩
      obtain ⟨z, rfl, hz⟩ : ∃ z : Str, v = .str z ∧ z.length ≤ 100 := by
        have hm : ∀ y ∈ ([("" : Str), " ", "0", "1", "7", "-", "\n", "\nleft turn 0 1 all", " all", "right", "open", "shut ", "9", "+", "\n\n"] : List Str).map V.str, ∃ z : Str, y = .str z ∧ z.length ≤ 100 := fun y hy => by
          obtain ⟨z, hz, rfl⟩ := List.mem_map.mp hy
          exact ⟨z, rfl, of_decide_eq_true (List.all_eq_true.mp signs_le z hz)⟩
        exact hm v mv
      refine r_addS (size_ok2 (by omega)) ?_
      walk_at "go"
      refine r_slS (size_ok2 (by omega)) ?_
      have lb := cutS_length t (some ((i : Int) + m)) none
      have lab := str_app_len (cutS t none (some (i : Int))) z
      refine r_addS (size_ok2 (by omega)) ?_
      refine k _ H6 ?_ (x5.trans x6) p6
      rw [str_app_len]
      omega
end
end Dt
namespace Dt
open PySem PySem.Spec PyProof.Rows L2
section
variable {P : Program} {w : World} {K : PySem.W.Frag} {mg : Str → Option Value} {base : Heap}
def sp_law (K : PySem.W.Frag) : Sp := fun vs H Q _ => ∃ (a : Addr) (ns : List Int), vs = [.ref a] ∧ SqL K H a (ns.map V.int) ∧ ns.length ≤ 63 ∧ (∀ z ∈ ns, Builtin.Int.intBits z ≤ 1048576) ∧ ∀ H', Q (.bl true) H'
def lawTexts : List Str := ["", "left turn 0 1 all", "left turn 0 1 all" ++ "\n", "\n" ++ "left turn 0 1 all", "left turn 0 1", "left turn 0 1 0", "left turn 6 1 all", "left turn 0 0 all", "up turn 0 1 all", "left turn 00 1 all",
  Txt.join "\n" (List.replicate 9 "left turn 0 1 all"), Txt.join "\n" (List.replicate 8 "left turn 0 1 all"), "left turn 0 1 all" ++ "\nx"]
theorem law_texts_bad : lawTexts.map badOf = [none, none, some 2, some 1, some 1, some 1, some 1, some 1, some 1, some 1, some 9, none, some 2] := by decide +kernel
theorem law_texts_len : lawTexts.all (fun t => decide (t.length ≤ 1000)) = true := by decide +kernel
theorem law_text2 : textW [⟨true, .tu, 0, 1, none⟩, ⟨false, .sh, 5, 6, some 9⟩] = "left turn 0 1 all" ++ "\nright shut 5 6 9" := by decide +kernel
theorem badV_eq (a b : Option Nat) : decide (badV a = badV b) = decide (a = b) := by
  cases a with
  | none =>
    cases b with
    | none => rfl
    | some n => exact decide_eq_false (fun z => by cases z) |>.trans (decide_eq_false (fun z => by cases z)).symm
  | some m =>
    cases b with
    | none => exact decide_eq_false (fun z => by cases z) |>.trans (decide_eq_false (fun z => by cases z)).symm
    | some n =>
      by_cases h : m = n
      · rw [h, decide_eq_true rfl, decide_eq_true rfl]
      · exact (decide_eq_false (fun z => h (by have := V.int.inj z; omega))).trans (decide_eq_false (fun z => h (Option.some.inj z))).symm
theorem badV_scal (a b : Option Nat) : scal (badV a) (badV b) = true := by cases a <;> cases b <;> rfl
theorem cut_900 (z : Str) : (cutS z none (some 900)).length ≤ 900 := by
  show (((z.cps.toList.drop (HT.sIx z.length 0 none)).take (HT.sIx z.length z.length (some ((900 : Nat) : Int)) - HT.sIx z.length 0 none)).toArray).size ≤ 900
  rw [List.size_toArray, List.length_take, HT.sIx_nat, HT.sIx_none]
  omega
theorem lit_size {n : Nat} (h : n ≤ 1000) : n ≤ sizeLine := Nat.le_trans h (by decide)
/-- what _law_read makes of a text -/
theorem law_read_text {K : PySem.W.Frag} {H : Hp} {Q : VK} {t : Str} (h : ∀ v x H', Same H H' → (∃ a, v = .ref a ∧ SqT K H' a [x, badV (badOf t)]) → (∀ sc, badOf t = none → ScrOk sc → textW sc = t → Dp K H' x (toDS sc)) → Q v H') : readR K H Q (readD (.str t)) := by
  cases hb : badOf t with
  | some n =>
    have e := read_bad t
    rw [hb] at e
    rw [e]
    intro v H' s dv
    obtain ⟨a, vs, rfl, hs, ha⟩ := dp_tup dv
    obtain ⟨x, r, rfl, ex, ha⟩ := dps_cons ha
    obtain ⟨y, r, rfl, ey, ha⟩ := dps_cons ha
    obtain rfl := dps_nil ha
    obtain rfl := dp_int ey
    refine h _ x H' s ⟨a, rfl, by rw [hb]; exact hs⟩ fun sc z => ?_
    rw [hb] at z
    cases z
  | none =>
    obtain ⟨sc, ok, er, et⟩ := text_back hb
    rw [er]
    intro v H' s dv
    obtain ⟨a, vs, rfl, hs, ha⟩ := dp_tup dv
    obtain ⟨x, r, rfl, ex, ha⟩ := dps_cons ha
    obtain ⟨y, r, rfl, ey, ha⟩ := dps_cons ha
    obtain rfl := dps_nil ha
    obtain rfl := dp_non ey
    refine h _ x H' s ⟨a, rfl, by rw [hb]; exact hs⟩ fun sc2 _ ok2 e2 => ?_
    have er2 := text_read ok2
    rw [e2, er] at er2
    have : toDS sc2 = .tuple (sc.map Wk.toD) := congrArg PyData.tuple (Sum.inr.inj er2).symm
    rw [this]
    exact ex
theorem ok_law (T : Txt P K mg) : FnOk P w K mg base CX0 27 T.f_law T.d_law ["script"] (sp_law K) := by
  have G__law_source : FnOk P w K mg base CX0 1 T.f__law_source T.d__law_source ["script", "k"] (sp__law_source K) := ok__law_source T
  have G__law_script : FnOk P w K mg base CX0 4 T.f__law_script T.d__law_script ["source", "most"] (sp__law_script K) := ok__law_script T
  have G__law_written : FnOk P w K mg base CX0 1 T.f__law_written T.d__law_written ["walks"] (sp__law_written K) := ok__law_written T
  have G_script_text : FnOk P w K mg base CX0 5 T.f_script_text T.d_script_text ["script"] (sp_script_text K) := ok_script_text T
  have G__law_read : FnOk P w K mg base CX0 14 T.f__law_read T.d__law_read ["text"] (sp__law_read K) := ok__law_read T
  have G__law_spoilt : FnOk P w K mg base CX0 26 T.f__law_spoilt T.d__law_spoilt ["source", "text"] (sp__law_spoilt K) := ok__law_spoilt T
  have G__law_of : FnOk P w K mg base CX0 2 T.f__law_of T.d__law_of ["source", "items"] (sp__law_of K) := ok__law_of T
  have G__law_bad : FnOk P w K mg base CX0 3 T.f__law_bad T.d__law_bad ["text"] (sp__law_bad K) := ok__law_bad T
  have G_is_script : FnOk P w K mg base CX0 4 T.f_is_script T.d_is_script ["value"] (sp_is_script K) := ok_is_script T
  refine T.F_law.ok sc_law (fun vs H Q E h => ?_) (fun cdv A outer s H vs Q E hr h => ?_)
  · obtain ⟨a, ns, rfl, _⟩ := h
    rfl
  · obtain ⟨a, ns, rfl, hS, hl, _, fin⟩ := h
    refine ⟨_, (pss_cons (ps_for PassesOwn.never rfl (pi_range1 (by rfl) T.z_range (pa_cons (pe_op op_add pe_int (pe_callB (c_min2 rfl) (by rfl) T.z_min (by decide +kernel) (pa_cons (pe_callB c_len (by rfl) T.z_len PySem.boot_len (pa_cons (pv 0) pa_nil)) (pa_cons pe_int pa_nil)))) pa_nil)) (pg_name (i := 1) sc_law.nd rfl (Or.inl rfl))
      (pss_cons (ps_set (i := 2) sc_law.nd rfl (Or.inl rfl) (pe_call G__law_source (hr.mono (by decide)) (by rfl) T.g__law_source T.F__law_source.kp T.b__law_source .nil pass0 (pa_cons (pv 0) (pa_cons (pv 1) pa_nil))))
    (pss_cons (ps_set (i := 3) sc_law.nd rfl (Or.inl rfl) (pe_call G__law_script (hr.mono (by decide)) (by rfl) T.g__law_script T.F__law_script.kp T.b__law_script .nil pass0 (pa_cons (pv 2) (pa_cons pe_int pa_nil))))
    (pss_cons (ps_set (i := 4) sc_law.nd rfl (Or.inl rfl) (pe_call G__law_written (hr.mono (by decide)) (by rfl) T.g__law_written T.F__law_written.kp T.b__law_written .nil pass0 (pa_cons (pv 3) pa_nil)))
    (pss_cons (ps_if (pt_cmpR op_ne (pe_call G_script_text (hr.mono (by decide)) (by rfl) T.g_script_text T.F_script_text.kp T.b_script_text .nil pass0 (pa_cons (pv 3) pa_nil)) (pv 4) (nomark _)) (pss_one (ps_ret pe_bl)) pss_nil)
    (pss_cons (ps_for PassesOwn.never rfl (pi_range1 (by rfl) T.z_range (pa_cons pe_int pa_nil)) (pg_name (i := 5) sc_law.nd rfl (Or.inl rfl))
      (pss_cons (ps_asg (pe_call G__law_read (hr.mono (by decide)) (by rfl) T.g__law_read T.F__law_read.kp T.b__law_read .nil pass0 (pa_cons (pv 4) pa_nil)) (pg_tup rfl (pgs_cons (pg_name (i := 6) sc_law.nd rfl (Or.inl rfl)) (pgs_cons (pg_name (i := 7) sc_law.nd rfl (Or.inl rfl)) pgs_nil))))
    (pss_cons (ps_if (PW.pt (pw_or (pt_cmpR op_ne (pv 7) (pe_call G__law_bad (hr.mono (by decide)) (by rfl) T.g__law_bad T.F__law_bad.kp T.b__law_bad .nil pass0 (pa_cons (pv 4) pa_nil)) (nomark _)) (pw_or1 (PW.pt (pw_and (pt_cmpR op_eq (pv 5) pe_int (nomark _)) (pw_and1 (pt_cmpR (op_neD hr.units) (pv 6) (pv 3) (nomark _)))))))) (pss_one (ps_ret pe_bl)) pss_nil)
    (pss_cons (ps_if (PW.pt (pw_and (pt_cmpR o_isN (pv 7) pe_non (nomark _)) (pw_and1 (PW.pt (pw_or (pt_not (pt_val (pe_call G_is_script (hr.mono (by decide)) (by rfl) T.g_is_script T.F_is_script.kp T.b_is_script .nil pass0 (pa_cons (pv 6) pa_nil)))) (pw_or1 (pt_cmpR op_ne (pe_call G__law_written (hr.mono (by decide)) (by rfl) T.g__law_written T.F__law_written.kp T.b__law_written .nil pass0 (pa_cons (pv 6) pa_nil)) (pv 4) (nomark _)))))))) (pss_one (ps_ret pe_bl)) pss_nil)
    (pss_one (ps_set (i := 4) sc_law.nd rfl (Or.inl rfl) (pe_slice sl_str (pe_call G__law_spoilt (hr.mono (by decide)) (by rfl) T.g__law_spoilt T.F__law_spoilt.kp T.b__law_spoilt .nil pass0 (pa_cons (pv 2) (pa_cons (pv 4) pa_nil))) po_none (po_some pe_int))))))))
    (pss_one (ps_if (pt_cmpR (op_neD hr.units) (pe_call G__law_read (hr.mono (by decide)) (by rfl) T.g__law_read T.F__law_read.kp T.b__law_read .nil pass0 (pa_cons (pe_call G__law_of (hr.mono (by decide)) (by rfl) T.g__law_of T.F__law_of.kp T.b__law_of .nil pass0 (pa_cons (pv 2) (pa_cons (pe_lst (pa_cons pe_non (pa_cons pe_int (pa_cons pe_bl (pa_cons (pe_lst pa_nil) (pa_cons (pe_tup (pa_cons pe_str pa_nil)) (pa_cons (pv 3) pa_nil))))))) pa_nil))) pa_nil)) (pe_tup (pa_cons pe_non (pa_cons pe_int pa_nil))) (nomark _)) (pss_one (ps_ret pe_bl)) pss_nil))))))))
    (pss_cons (ps_set (i := 8) sc_law.nd rfl (Or.inl rfl) pe_str)
    (pss_cons (ps_if (pt_cmpR op_ne (pe_call G_script_text (hr.mono (by decide)) (by rfl) T.g_script_text T.F_script_text.kp T.b_script_text .nil pass0 (pa_cons (pe_tup (pa_cons (pe_tup (pa_cons pe_str (pa_cons pe_str (pa_cons pe_int (pa_cons pe_int (pa_cons pe_non pa_nil)))))) (pa_cons (pe_tup (pa_cons pe_str (pa_cons pe_str (pa_cons pe_int (pa_cons pe_int (pa_cons pe_int pa_nil)))))) pa_nil))) pa_nil)) (pe_op o_addS (pv 8) pe_str) (nomark _)) (pss_one (ps_ret pe_bl)) pss_nil)
    (pss_cons (ps_set (i := 9) sc_law.nd rfl (Or.inl rfl) (pe_lst (pa_cons pe_str (pa_cons (pv 8) (pa_cons (pe_op o_addS (pv 8) pe_str) (pa_cons (pe_op o_addS pe_str (pv 8)) (pa_cons pe_str (pa_cons pe_str pa_nil))))))))
    (pss_cons (ps_set (i := 9) sc_law.nd rfl (Or.inl rfl) (pe_op op_cat (pv 9) (pe_lst (pa_cons pe_str (pa_cons pe_str (pa_cons pe_str pa_nil))))))
    (pss_cons (ps_set (i := 9) sc_law.nd rfl (Or.inl rfl) (pe_op op_cat (pv 9) (pe_lst (pa_cons pe_str (pa_cons (Dt.p_join pe_str (pe_op op_rep (pe_lst (pa_cons (pv 8) pa_nil)) pe_int)) pa_nil)))))
    (pss_cons (ps_set (i := 9) sc_law.nd rfl (Or.inl rfl) (pe_op op_cat (pv 9) (pe_lst (pa_cons (Dt.p_join pe_str (pe_op op_rep (pe_lst (pa_cons (pv 8) pa_nil)) pe_int)) (pa_cons (pe_op o_addS (pv 8) pe_str) pa_nil)))))
    (pss_cons (ps_setLc (i := 6) (own := [("text", 4)]) (g := gName 4) (tt := tYes) rfl sc_law.nd rfl rfl (sw_true rfl rfl rfl (by decide +kernel)) (pi_list (pv 9)) (blkOk_by (own := [("text", 4)]) (N := ["script", "k", "source", "walks", "text", "turn", "found", "line", "good", "texts"]) (sc := defScope s_law) (by decide +kernel)) (fun _ _ _ _ _ => pg_name (i := 4) sc_law.nd rfl (Or.inl rfl)) (fun _ _ _ _ _ => pts_nil) (fun _ _ _ _ _ => (pe_ix (Dt.ix_tupK (K := K) rfl) (pe_call G__law_read (hr.mono (by decide)) (by rfl) T.g__law_read T.F__law_read.kp T.b__law_read .nil pass0 (pa_cons (pv 4) pa_nil)) pe_int (fun _ _ => rfl))))
    (pss_one (ps_ret (pe_cmpR (op_eqD hr.units) (pv 6) (pe_lst (pa_cons pe_non (pa_cons pe_non (pa_cons pe_int (pa_cons pe_int (pa_cons pe_int (pa_cons pe_int (pa_cons pe_int (pa_cons pe_int (pa_cons pe_int (pa_cons pe_int (pa_cons pe_int (pa_cons pe_non (pa_cons pe_int pa_nil)))))))))))))) (nomark _)))))))))))), ?_⟩
    walk_at "go"
    rw [List.length_map]
    refine forR1_by (fun i σ H' => ∃ o1 o2 o3 o4 o5 o6 o7 o8 o9, σ = [some (.ref a), o1, o2, o3, o4, o5, o6, o7, o8, o9] ∧ Same H H') (by split <;> omega) (by split <;> omega)
      ⟨none, none, none, none, none, none, none, none, none, rfl, Same.refl _⟩ ?_ ?_
    · rintro i σ H4 hi ⟨o1, o2, o3, o4, o5, o6, o7, o8, o9, rfl, s04⟩
      have hi10 : i ≤ 10 := by split at hi <;> omega
      walk_at "go"
      refine ⟨a, ns, i, rfl, s04.seq hS, hl, by omega, fun p H5 np s5 p5 => ?_⟩
      walk_at "go"
      refine ⟨p, 8, rfl, p5, by decide, by decide, fun v sc H6 oks hlen x6 p6 is6 => ?_⟩
      have s46 : Same H4 H6 := x6.same s5 np
      have is' : IsScr K (hide p H6) v sc := is6.hide p6
      walk_at "go"
      refine ⟨v, sc, rfl, is6, oks, fun H7 s7 => ?_⟩
      walk_at "go"
      refine ⟨v, sc, rfl, is6.mono s7, oks, fun H8 s8 => ?_⟩
      walk_at "go"
      refine if_nd (fun h => absurd rfl h) (fun _ => ?_)
      walk_at "go"
      have s68 := s7.trans s8
      have tl := textW_len oks
      refine forR1_by (fun j σ H' => ∃ t o5 o6 o7 o8 o9, σ = [some (.ref a), some (.int i), some (.ref p), some v, some (.str t), o5, o6, o7, o8, o9] ∧ SX p H6 H' ∧ Src H' p ∧ t.length ≤ 900 ∧ (j = 0 → t = textW sc)) (by decide) (by decide)
        ⟨textW sc, _, _, _, _, _, rfl, SX.of s68, p6.same s68, by omega, fun _ => rfl⟩ ?_ ?_
      · rintro j σ H9 hj ⟨t, o5, o6, o7, o8, o9, rfl, x9, p9, htl, hj0⟩
        walk_at "go"
        refine ⟨.str t, .str t, rfl, .str t, fun z e => by cases e; omega, law_read_text fun v2 x H10 s10 hv2 hx => ?_⟩
        obtain ⟨b, rfl, hb⟩ := hv2
        walk_at "go"
        refine ⟨t, rfl, by omega, fun H11 s11 => ?_⟩
        refine r_ne (badV_scal _ _) ?_
        walk_at "go"
        refine if_nd (fun h => absurd rfl h) (fun _ => ?_)
        have s911 := s10.trans s11
        have x11 := x9.trans (SX.of s911)
        have p11 := p9.same s911
        walk_at "go"
        refine if_dm (G := ?G1) ?m1 ?a1 ?b1
        case b1 =>
          intro _ g
          walk_at "go"
          exact g
        case a1 =>
          intro h g
          have j0 : j = 0 := by
            have := V.int.inj h
            omega
          have et := hj0 j0
          have dx := hx sc (by rw [et]; exact text_bad oks) oks et.symm
          walk_at "go"
          have sh := (dk_scr oks.len).shaped (by decide)
          refine r_neD (Dt.Dp.mono s11 dx) (is'.mono x11.to).dp sh sh ?_
          rw [sh_refl sh]
          walk_at "go"
          exact g
        case m1 =>
          walk_at "go"
          refine' if_dh (G := fun H12 => sp__law_spoilt K ([V.ref p, V.str t] ++ []) H12 _ _) H11 ?m2 ?a2 ?b2
          case b2 =>
            intro _ g
            walk_at "go"
            exact g H11 (Same.refl _)
          case a2 =>
            intro h g
            walk_at "go"
            have hb : badOf t = none := by
              cases e : badOf t with
              | none => rfl
              | some n => rw [e] at h; cases h
            obtain ⟨sc2, ok2, er, et⟩ := text_back hb
            have dx := Dt.Dp.mono s11 (hx sc2 hb ok2 et)
            refine ⟨x, toDS sc2, rfl, dx, fun ds e => ?_, fun H12 s12 => ?_⟩
            · have := ok2.len
              cases e
              rw [List.length_map]
              omega
            rw [goodS_of ok2]
            walk_at "go"
            refine ⟨x, sc2, rfl, (scr_of_dp dx).mono s12, ok2, fun H13 s13 => ?_⟩
            walk_at "go"
            refine if_nd (fun h => absurd (by rw [et]) h) (fun _ => ?_)
            walk_at "go"
            exact g H13 (s12.trans s13)
          case m2 =>
            intro H12 s12
            refine ⟨p, t, rfl, p11.same s12, by omega, fun t' H13 hl13 x13 p13 => ?_⟩
            walk_at "go"
            refine r_slS (size_ok2 (by omega)) ?_
            walk_at "go"
            exact ⟨_, _, _, _, _, _, rfl, x11.trans ((SX.of s12).trans x13), p13, cut_900 t', fun z => absurd z (Nat.succ_ne_zero _)⟩
      · rintro σ H9 ⟨t, o5, o6, o7, o8, o9, rfl, x9, p9, _, _⟩
        walk_at "go"
        intro b1 A1 m1 t1 g1 _
        walk_at "go"
        intro b2 A2 m2 t2 g2 _
        walk_at "go"
        intro b3 A3 m3 t3 g3 _
        have t13 := t1.trans (t2.trans t3)
        have q3 := p9.same t13
        have hb3 : hide p A3 b3 = some (.lst [.non, .int 5, .bl true, .ref b1, .ref b2, v]) := hide_up g3 ((p9.same (t1.trans t2)).ne m3)
        walk_at "go"
        refine ⟨p, b3, _, rfl, q3, .inl (.inl hb3), by simp, small1 rfl, fun y A4 my y4 q4 => ?_⟩
        have x94 : SX p H9 A4 := (SX.of t13).trans y4
        obtain ⟨d, hd, hr, hs⟩ : ∃ d, Dp K A4 y d ∧ readD d = .inl 0 ∧ ∀ t, d = .str t → t.length ≤ 10000 := by
          have e1 : A4 b1 = some (.lst []) := y4.at (p9.ne m1) ((t2.trans t3) _ _ g1)
          have e2 : A4 b2 = some (.tup [.str "left"]) := y4.at ((p9.same t1).ne m2) (t3 _ _ g2)
          simp only [List.mem_cons, List.not_mem_nil, or_false] at my
          rcases my with rfl | rfl | rfl | rfl | rfl | rfl
          · exact ⟨.none, .non, rfl, fun _ e => by cases e⟩
          · exact ⟨.int 5, .int 5, rfl, fun _ e => by cases e⟩
          · exact ⟨.bool true, .bl true, rfl, fun _ e => by cases e⟩
          · exact ⟨.list [], .lst (SqL.of e1) .nil, rfl, fun _ e => by cases e⟩
          · exact ⟨.tuple [.str "left"], .tup (SqT.of e2) (.cons (.str _) .nil), rfl, fun _ e => by cases e⟩
          · exact ⟨toDS sc, (is'.mono ((x9.trans x94).to)).dp, rfl, fun _ e => by cases e⟩
        walk_at "go"
        refine ⟨y, d, rfl, hd, hs, ?_⟩
        rw [hr]
        intro v2 A5 t5 dv
        walk_at "go"
        intro b6 A6 m6 t6 g6 _
        have sh : SeqAt.shaped (.tuple [.none, .int 0]) = true := by decide +kernel
        refine r_neD (Dt.Dp.mono t6 dv) (.tup (SqT.of g6) (.cons .non (.cons (.int 0) .nil))) sh sh ?_
        rw [sh_refl sh]
        walk_at "go"
        exact ⟨_, _, _, _, _, _, _, _, _, rfl, s04.trans ((x9.trans (x94.trans (SX.of (t5.trans t6)))).same s46 np)⟩
    · rintro σ H4 ⟨o1, o2, o3, o4, o5, o6, o7, o8, o9, rfl, s04⟩
      walk_at "go"
      intro b1 A1 m1 t1 g1 _
      walk_at "go"
      intro b2 A2 m2 t2 g2 _
      walk_at "go"
      intro b3 A3 m3 t3 g3 _
      walk_at "go"
      refine ⟨.ref b3, [⟨true, .tu, 0, 1, none⟩, ⟨false, .sh, 5, 6, some 9⟩], rfl, ⟨b3, _, rfl, SqT.of g3, .cons ⟨b1, rfl, SqT.of ((t2.trans t3) _ _ g1)⟩ (.cons ⟨b2, rfl, SqT.of (t3 _ _ g2)⟩ .nil)⟩, scr_ok (by decide +kernel), fun A4 t4 => ?_⟩
      rw [law_text2]
      walk_at "go"
      refine r_addS (lit_size (by decide +kernel)) ?_
      walk_at "go"
      refine if_nd (fun h => absurd rfl h) (fun _ => ?_)
      walk_at "go"
      refine r_addS (lit_size (by decide +kernel)) ?_
      walk_at "go"
      refine r_addS (lit_size (by decide +kernel)) ?_
      walk_at "go"
      intro b5 A5 m5 t5 g5 _
      walk_at "go"
      intro b6 A6 m6 t6 g6 _
      refine r_catL (t6 _ _ g5) g6 (small_b rfl) fun b7 A7 m7 t7 g7 _ => ?_
      walk_at "go"
      intro b8 A8 m8 t8 g8 _
      walk_at "go"
      refine r_rep (k := 9) g8 (by decide) (by decide) (small_b rfl) fun b9 A9 m9 t9 g9 _ => ?_
      refine r_joinL (ys := List.replicate 9 "left turn 0 1 all") (SqL.of g9) (by decide +kernel) ?_
      walk_at "go"
      intro b10 A10 m10 t10 g10 _
      refine r_catL ((t8.trans (t9.trans t10)) _ _ g7) g10 (small_b rfl) fun b11 A11 m11 t11 g11 _ => ?_
      walk_at "go"
      intro b12 A12 m12 t12 g12 _
      walk_at "go"
      refine r_rep (k := 8) g12 (by decide) (by decide) (small_b rfl) fun b13 A13 m13 t13 g13 _ => ?_
      refine r_joinL (ys := List.replicate 8 "left turn 0 1 all") (SqL.of g13) (by decide +kernel) ?_
      walk_at "go"
      refine r_addS (lit_size (by decide +kernel)) ?_
      walk_at "go"
      intro b14 A14 m14 t14 g14 _
      refine r_catL ((t12.trans (t13.trans t14)) _ _ g11) g14 (small_b rfl) fun b15 A15 m15 t15 g15 _ => ?_
      walk_at "go"
      have g15 : A15 b15 = some (.lst (lawTexts.map V.str)) := g15
      refine lcL_by (fun i H' ys => ys = (lawTexts.take i).map fun t => badV (badOf t)) (Same.refl A15) (SqL.of g15) (fun _ _ _ _ _ => rfl) (fun x => rfl) ?_ ?_
      · rintro i x H' D ys hi hD sm hy rfl
        obtain ⟨t, hw, rfl⟩ : ∃ w, lawTexts[i]? = some w ∧ x = .str w := by
          rw [List.getElem?_map] at hi
          cases e : lawTexts[i]? with
          | none => rw [e] at hi; cases hi
          | some b => rw [e] at hi; exact ⟨b, rfl, (Option.some.inj hi).symm⟩
        have htl : t.length ≤ 1000 := of_decide_eq_true (List.all_eq_true.mp law_texts_len t (List.mem_of_getElem? hw))
        have hi13 : i < 13 := (List.getElem?_eq_some_iff.mp hw).1
        walk_at "go"
        refine ⟨.str t, .str t, rfl, .str t, fun z e => by cases e; omega, law_read_text fun v2 x H2 s2 hv2 _ => ?_⟩
        obtain ⟨b, rfl, hb⟩ := hv2
        walk_at "go"
        refine addTo_by hD (sm.trans s2) (s2 _ _ hy) (small_lt (by rw [List.length_map, List.length_take]; omega)) fun H3 s3 _ hz => ?_
        rw [take_more hw, List.map_append]
        rfl
      · rintro H' D ys hD sm hy rfl
        rw [List.length_map, List.take_length, show (lawTexts.map fun t => badV (badOf t)) = (lawTexts.map badOf).map badV by rw [List.map_map]; rfl, law_texts_bad] at hy
        walk_at "go"
        intro b16 A16 m16 t16 g16 _
        have sh : SeqAt.shaped (.list [.none, .none, .int 2, .int 1, .int 1, .int 1, .int 1, .int 1, .int 1, .int 1, .int 9, .none, .int 2]) = true := by decide +kernel
        refine r_eqD (d := .list [.none, .none, .int 2, .int 1, .int 1, .int 1, .int 1, .int 1, .int 1, .int 1, .int 9, .none, .int 2]) (.lst (SqL.of (t16 _ _ hy)) ?_) (.lst (SqL.of g16) ?_) sh sh ?_
        · exact .cons .non (.cons .non (.cons (.int _) (.cons (.int _) (.cons (.int _) (.cons (.int _) (.cons (.int _) (.cons (.int _) (.cons (.int _) (.cons (.int _) (.cons (.int _) (.cons .non (.cons (.int _) .nil))))))))))))
        · exact .cons .non (.cons .non (.cons (.int _) (.cons (.int _) (.cons (.int _) (.cons (.int _) (.cons (.int _) (.cons (.int _) (.cons (.int _) (.cons (.int _) (.cons (.int _) (.cons .non (.cons (.int _) .nil))))))))))))
        rw [sh_refl sh]
        exact fin _
end
end Dt
namespace Dt
open PySem PySem.Spec PyProof.Rows L2
theorem all_mk {l : PySem.W.OpenLaw} {w : World} {K : PySem.W.Frag} {h : Heap} {mg : Str → Option Value} {fa : Addr} (X : K.In h) (G : h.Ns mainGlobals mg) (hfa : mg "law" = some (.ref fa))
    {od0 an0 : Option Addr} {sl0 : Array (Option Value)} {oc0 kV0 dc0 pm0 cd0 ct0 : Value} {f0 : Addr}
    {od1 an1 : Option Addr} {sl1 : Array (Option Value)} {oc1 kV1 dc1 pm1 cd1 ct1 : Value} {f1 : Addr}
    {od2 an2 : Option Addr} {sl2 : Array (Option Value)} {oc2 kV2 dc2 pm2 cd2 ct2 : Value} {f2 : Addr}
    {od3 an3 : Option Addr} {sl3 : Array (Option Value)} {oc3 kV3 dc3 pm3 cd3 ct3 : Value} {f3 : Addr}
    {od4 an4 : Option Addr} {sl4 : Array (Option Value)} {oc4 kV4 dc4 pm4 cd4 ct4 : Value} {f4 : Addr}
    {od5 an5 : Option Addr} {sl5 : Array (Option Value)} {oc5 kV5 dc5 pm5 cd5 ct5 : Value} {f5 : Addr}
    {od6 an6 : Option Addr} {sl6 : Array (Option Value)} {oc6 kV6 dc6 pm6 cd6 ct6 : Value} {f6 : Addr}
    {od7 an7 : Option Addr} {sl7 : Array (Option Value)} {oc7 kV7 dc7 pm7 cd7 ct7 : Value} {f7 : Addr}
    {od8 an8 : Option Addr} {sl8 : Array (Option Value)} {oc8 kV8 dc8 pm8 cd8 ct8 : Value} {f8 : Addr}
    {od9 an9 : Option Addr} {sl9 : Array (Option Value)} {oc9 kV9 dc9 pm9 cd9 ct9 : Value} {f9 : Addr}
    {od10 an10 : Option Addr} {sl10 : Array (Option Value)} {oc10 kV10 dc10 pm10 cd10 ct10 : Value} {f10 : Addr}
    {od11 an11 : Option Addr} {sl11 : Array (Option Value)} {oc11 kV11 dc11 pm11 cd11 ct11 : Value} {f11 : Addr}
    {od12 an12 : Option Addr} {sl12 : Array (Option Value)} {oc12 kV12 dc12 pm12 cd12 ct12 : Value} {f12 : Addr}
    {od13 an13 : Option Addr} {sl13 : Array (Option Value)} {oc13 kV13 dc13 pm13 cd13 ct13 : Value} {f13 : Addr}
    {od14 an14 : Option Addr} {sl14 : Array (Option Value)} {oc14 kV14 dc14 pm14 cd14 ct14 : Value} {f14 : Addr}
    {od15 an15 : Option Addr} {sl15 : Array (Option Value)} {oc15 kV15 dc15 pm15 cd15 ct15 : Value} {f15 : Addr}
    {od16 an16 : Option Addr} {sl16 : Array (Option Value)} {oc16 kV16 dc16 pm16 cd16 ct16 : Value} {f16 : Addr}
    {od17 an17 : Option Addr} {sl17 : Array (Option Value)} {oc17 kV17 dc17 pm17 cd17 ct17 : Value} {f17 : Addr}
    {od18 an18 : Option Addr} {sl18 : Array (Option Value)} {oc18 kV18 dc18 pm18 cd18 ct18 : Value} {f18 : Addr}
    {od19 an19 : Option Addr} {sl19 : Array (Option Value)} {oc19 kV19 dc19 pm19 cd19 ct19 : Value} {f19 : Addr}
    {od20 an20 : Option Addr} {sl20 : Array (Option Value)} {oc20 kV20 dc20 pm20 cd20 ct20 : Value} {f20 : Addr}
    {od21 an21 : Option Addr} {sl21 : Array (Option Value)} {oc21 kV21 dc21 pm21 cd21 ct21 : Value} {f21 : Addr}
    {od22 an22 : Option Addr} {sl22 : Array (Option Value)} {oc22 kV22 dc22 pm22 cd22 ct22 : Value} {f22 : Addr}
    {od23 an23 : Option Addr} {sl23 : Array (Option Value)} {oc23 kV23 dc23 pm23 cd23 ct23 : Value} {f23 : Addr}
    {od24 an24 : Option Addr} {sl24 : Array (Option Value)} {oc24 kV24 dc24 pm24 cd24 ct24 : Value} {f24 : Addr}
    {a_DoorError : Addr} {nm_DoorError q_DoorError : Str} {N_DoorError : Addr} {bs_DoorError : List Value} {sn_DoorError : List Str} {sub_DoorError : List Value} {ab_DoorError : Bool} {col_DoorError : Option Bool} {dd_DoorError : Option Addr} {m0_DoorError m1_DoorError m2_DoorError m3_DoorError m5_DoorError : Option Value}
    {a_InvalidText i_InvalidText cda_InvalidText cc_InvalidText : Addr} {nm_InvalidText q_InvalidText : Str} {N_InvalidText : Addr} {bs_InvalidText : List Value} {sn_InvalidText : List Str} {sub_InvalidText : List Value} {ab_InvalidText : Bool} {col_InvalidText : Option Bool} {dd_InvalidText : Option Addr} {m0_InvalidText m1_InvalidText m2_InvalidText m3_InvalidText m5_InvalidText : Option Value} {oc_InvalidText kV_InvalidText doc_InvalidText pm_InvalidText ct_InvalidText ccl_InvalidText cl_InvalidText : Value} {od_InvalidText an_InvalidText cdd_InvalidText cld_InvalidText : Option Addr} {osl_InvalidText ccs_InvalidText csl_InvalidText : Array (Option Value)} {vs_InvalidText : Array Value} {file_InvalidText : Str} {tf_InvalidText : Tok}
    (a0 : PySem.W.nsIn K mainGlobals "is_number" = some (some (.ref f0)))
    (l0 : K.lookup f0 = some ⟨oc0, od0, .func (PySem.W.fnOf "is_number" "is_number" (defArgs s_is_number) (defBody s_is_number) (defScope s_is_number) .none kV0 dc0 pm0 an0 cd0 ct0), sl0⟩)
    (c0 : PySem.W.codeIn K cd0 "is_number" = true) (k0 : PySem.W.keepIn K (.ref f0) = true)
    (a1 : PySem.W.nsIn K mainGlobals "is_tuple" = some (some (.ref f1)))
    (l1 : K.lookup f1 = some ⟨oc1, od1, .func (PySem.W.fnOf "is_tuple" "is_tuple" (defArgs s_is_tuple) (defBody s_is_tuple) (defScope s_is_tuple) .none kV1 dc1 pm1 an1 cd1 ct1), sl1⟩)
    (c1 : PySem.W.codeIn K cd1 "is_tuple" = true) (k1 : PySem.W.keepIn K (.ref f1) = true)
    (a2 : PySem.W.nsIn K mainGlobals "is_word" = some (some (.ref f2)))
    (l2 : K.lookup f2 = some ⟨oc2, od2, .func (PySem.W.fnOf "is_word" "is_word" (defArgs s_is_word) (defBody s_is_word) (defScope s_is_word) .none kV2 dc2 pm2 an2 cd2 ct2), sl2⟩)
    (c2 : PySem.W.codeIn K cd2 "is_word" = true) (k2 : PySem.W.keepIn K (.ref f2) = true)
    (a3 : PySem.W.nsIn K mainGlobals "is_good_walker" = some (some (.ref f3)))
    (l3 : K.lookup f3 = some ⟨oc3, od3, .func (PySem.W.fnOf "is_good_walker" "is_good_walker" (defArgs s_is_good_walker) (defBody s_is_good_walker) (defScope s_is_good_walker) .none kV3 dc3 pm3 an3 cd3 ct3), sl3⟩)
    (c3 : PySem.W.codeIn K cd3 "is_good_walker" = true) (k3 : PySem.W.keepIn K (.ref f3) = true)
    (a4 : PySem.W.nsIn K mainGlobals "is_good_script" = some (some (.ref f4)))
    (l4 : K.lookup f4 = some ⟨oc4, od4, .func (PySem.W.fnOf "is_good_script" "is_good_script" (defArgs s_is_good_script) (defBody s_is_good_script) (defScope s_is_good_script) .none kV4 dc4 pm4 an4 cd4 ct4), sl4⟩)
    (c4 : PySem.W.codeIn K cd4 "is_good_script" = true) (k4 : PySem.W.keepIn K (.ref f4) = true)
    (a5 : PySem.W.nsIn K mainGlobals "need_script" = some (some (.ref f5)))
    (l5 : K.lookup f5 = some ⟨oc5, od5, .func (PySem.W.fnOf "need_script" "need_script" (defArgs s_need_script) (defBody s_need_script) (defScope s_need_script) .none kV5 dc5 pm5 an5 cd5 ct5), sl5⟩)
    (c5 : PySem.W.codeIn K cd5 "need_script" = true) (k5 : PySem.W.keepIn K (.ref f5) = true)
    (a6 : PySem.W.nsIn K mainGlobals "is_script" = some (some (.ref f6)))
    (l6 : K.lookup f6 = some ⟨oc6, od6, .func (PySem.W.fnOf "is_script" "is_script" (defArgs s_is_script) (defBody s_is_script) (defScope s_is_script) .none kV6 dc6 pm6 an6 cd6 ct6), sl6⟩)
    (c6 : PySem.W.codeIn K cd6 "is_script" = true) (k6 : PySem.W.keepIn K (.ref f6) = true)
    (a7 : PySem.W.nsIn K mainGlobals "lines_of" = some (some (.ref f7)))
    (l7 : K.lookup f7 = some ⟨oc7, od7, .func (PySem.W.fnOf "lines_of" "lines_of" (defArgs s_lines_of) (defBody s_lines_of) (defScope s_lines_of) .none kV7 dc7 pm7 an7 cd7 ct7), sl7⟩)
    (c7 : PySem.W.codeIn K cd7 "lines_of" = true) (k7 : PySem.W.keepIn K (.ref f7) = true)
    (a8 : PySem.W.nsIn K mainGlobals "part_in" = some (some (.ref f8)))
    (l8 : K.lookup f8 = some ⟨oc8, od8, .func (PySem.W.fnOf "part_in" "part_in" (defArgs s_part_in) (defBody s_part_in) (defScope s_part_in) .none kV8 dc8 pm8 an8 cd8 ct8), sl8⟩)
    (c8 : PySem.W.codeIn K cd8 "part_in" = true) (k8 : PySem.W.keepIn K (.ref f8) = true)
    (a9 : PySem.W.nsIn K mainGlobals "walker_in" = some (some (.ref f9)))
    (l9 : K.lookup f9 = some ⟨oc9, od9, .func (PySem.W.fnOf "walker_in" "walker_in" (defArgs s_walker_in) (defBody s_walker_in) (defScope s_walker_in) .none kV9 dc9 pm9 an9 cd9 ct9), sl9⟩)
    (c9 : PySem.W.codeIn K cd9 "walker_in" = true) (k9 : PySem.W.keepIn K (.ref f9) = true)
    (a10 : PySem.W.nsIn K mainGlobals "script_in" = some (some (.ref f10)))
    (l10 : K.lookup f10 = some ⟨oc10, od10, .func (PySem.W.fnOf "script_in" "script_in" (defArgs s_script_in) (defBody s_script_in) (defScope s_script_in) .none kV10 dc10 pm10 an10 cd10 ct10), sl10⟩)
    (c10 : PySem.W.codeIn K cd10 "script_in" = true) (k10 : PySem.W.keepIn K (.ref f10) = true)
    (a11 : PySem.W.nsIn K mainGlobals "script_text" = some (some (.ref f11)))
    (l11 : K.lookup f11 = some ⟨oc11, od11, .func (PySem.W.fnOf "script_text" "script_text" (defArgs s_script_text) (defBody s_script_text) (defScope s_script_text) .none kV11 dc11 pm11 an11 cd11 ct11), sl11⟩)
    (c11 : PySem.W.codeIn K cd11 "script_text" = true) (k11 : PySem.W.keepIn K (.ref f11) = true)
    (a12 : PySem.W.nsIn K mainGlobals "read_script" = some (some (.ref f12)))
    (l12 : K.lookup f12 = some ⟨oc12, od12, .func (PySem.W.fnOf "read_script" "read_script" (defArgs s_read_script) (defBody s_read_script) (defScope s_read_script) .none kV12 dc12 pm12 an12 cd12 ct12), sl12⟩)
    (c12 : PySem.W.codeIn K cd12 "read_script" = true) (k12 : PySem.W.keepIn K (.ref f12) = true)
    (a13 : PySem.W.nsIn K mainGlobals "_law_source" = some (some (.ref f13)))
    (l13 : K.lookup f13 = some ⟨oc13, od13, .func (PySem.W.fnOf "_law_source" "_law_source" (defArgs s__law_source) (defBody s__law_source) (defScope s__law_source) .none kV13 dc13 pm13 an13 cd13 ct13), sl13⟩)
    (c13 : PySem.W.codeIn K cd13 "_law_source" = true) (k13 : PySem.W.keepIn K (.ref f13) = true)
    (a14 : PySem.W.nsIn K mainGlobals "_law_draw" = some (some (.ref f14)))
    (l14 : K.lookup f14 = some ⟨oc14, od14, .func (PySem.W.fnOf "_law_draw" "_law_draw" (defArgs s__law_draw) (defBody s__law_draw) (defScope s__law_draw) .none kV14 dc14 pm14 an14 cd14 ct14), sl14⟩)
    (c14 : PySem.W.codeIn K cd14 "_law_draw" = true) (k14 : PySem.W.keepIn K (.ref f14) = true)
    (a15 : PySem.W.nsIn K mainGlobals "_law_of" = some (some (.ref f15)))
    (l15 : K.lookup f15 = some ⟨oc15, od15, .func (PySem.W.fnOf "_law_of" "_law_of" (defArgs s__law_of) (defBody s__law_of) (defScope s__law_of) .none kV15 dc15 pm15 an15 cd15 ct15), sl15⟩)
    (c15 : PySem.W.codeIn K cd15 "_law_of" = true) (k15 : PySem.W.keepIn K (.ref f15) = true)
    (a16 : PySem.W.nsIn K mainGlobals "_law_walker" = some (some (.ref f16)))
    (l16 : K.lookup f16 = some ⟨oc16, od16, .func (PySem.W.fnOf "_law_walker" "_law_walker" (defArgs s__law_walker) (defBody s__law_walker) (defScope s__law_walker) .none kV16 dc16 pm16 an16 cd16 ct16), sl16⟩)
    (c16 : PySem.W.codeIn K cd16 "_law_walker" = true) (k16 : PySem.W.keepIn K (.ref f16) = true)
    (a17 : PySem.W.nsIn K mainGlobals "_law_script" = some (some (.ref f17)))
    (l17 : K.lookup f17 = some ⟨oc17, od17, .func (PySem.W.fnOf "_law_script" "_law_script" (defArgs s__law_script) (defBody s__law_script) (defScope s__law_script) .none kV17 dc17 pm17 an17 cd17 ct17), sl17⟩)
    (c17 : PySem.W.codeIn K cd17 "_law_script" = true) (k17 : PySem.W.keepIn K (.ref f17) = true)
    (a18 : PySem.W.nsIn K mainGlobals "_law_written" = some (some (.ref f18)))
    (l18 : K.lookup f18 = some ⟨oc18, od18, .func (PySem.W.fnOf "_law_written" "_law_written" (defArgs s__law_written) (defBody s__law_written) (defScope s__law_written) .none kV18 dc18 pm18 an18 cd18 ct18), sl18⟩)
    (c18 : PySem.W.codeIn K cd18 "_law_written" = true) (k18 : PySem.W.keepIn K (.ref f18) = true)
    (a19 : PySem.W.nsIn K mainGlobals "_law_read" = some (some (.ref f19)))
    (l19 : K.lookup f19 = some ⟨oc19, od19, .func (PySem.W.fnOf "_law_read" "_law_read" (defArgs s__law_read) (defBody s__law_read) (defScope s__law_read) .none kV19 dc19 pm19 an19 cd19 ct19), sl19⟩)
    (c19 : PySem.W.codeIn K cd19 "_law_read" = true) (k19 : PySem.W.keepIn K (.ref f19) = true)
    (a20 : PySem.W.nsIn K mainGlobals "_law_small" = some (some (.ref f20)))
    (l20 : K.lookup f20 = some ⟨oc20, od20, .func (PySem.W.fnOf "_law_small" "_law_small" (defArgs s__law_small) (defBody s__law_small) (defScope s__law_small) .none kV20 dc20 pm20 an20 cd20 ct20), sl20⟩)
    (c20 : PySem.W.codeIn K cd20 "_law_small" = true) (k20 : PySem.W.keepIn K (.ref f20) = true)
    (a21 : PySem.W.nsIn K mainGlobals "_law_good_line" = some (some (.ref f21)))
    (l21 : K.lookup f21 = some ⟨oc21, od21, .func (PySem.W.fnOf "_law_good_line" "_law_good_line" (defArgs s__law_good_line) (defBody s__law_good_line) (defScope s__law_good_line) .none kV21 dc21 pm21 an21 cd21 ct21), sl21⟩)
    (c21 : PySem.W.codeIn K cd21 "_law_good_line" = true) (k21 : PySem.W.keepIn K (.ref f21) = true)
    (a22 : PySem.W.nsIn K mainGlobals "_law_bad" = some (some (.ref f22)))
    (l22 : K.lookup f22 = some ⟨oc22, od22, .func (PySem.W.fnOf "_law_bad" "_law_bad" (defArgs s__law_bad) (defBody s__law_bad) (defScope s__law_bad) .none kV22 dc22 pm22 an22 cd22 ct22), sl22⟩)
    (c22 : PySem.W.codeIn K cd22 "_law_bad" = true) (k22 : PySem.W.keepIn K (.ref f22) = true)
    (a23 : PySem.W.nsIn K mainGlobals "_law_spoilt" = some (some (.ref f23)))
    (l23 : K.lookup f23 = some ⟨oc23, od23, .func (PySem.W.fnOf "_law_spoilt" "_law_spoilt" (defArgs s__law_spoilt) (defBody s__law_spoilt) (defScope s__law_spoilt) .none kV23 dc23 pm23 an23 cd23 ct23), sl23⟩)
    (c23 : PySem.W.codeIn K cd23 "_law_spoilt" = true) (k23 : PySem.W.keepIn K (.ref f23) = true)
    (a24 : PySem.W.nsIn K mainGlobals "law" = some (some (.ref f24)))
    (l24 : K.lookup f24 = some ⟨oc24, od24, .func (PySem.W.fnOf "law" "law" (defArgs s_law) (defBody s_law) (defScope s_law) .none kV24 dc24 pm24 an24 cd24 ct24), sl24⟩)
    (c24 : PySem.W.codeIn K cd24 "law" = true) (k24 : PySem.W.keepIn K (.ref f24) = true)
    (nE_DoorError : PySem.W.nsIn K mainGlobals "DoorError" = some (some (.ref a_DoorError))) (xE_DoorError : K.lookup a_DoorError = some (excClassObj nm_DoorError q_DoorError a_DoorError N_DoorError bs_DoorError [.type "ValueError", .type "Exception", .type "BaseException", .type "object"] true sn_DoorError sub_DoorError ab_DoorError col_DoorError dd_DoorError m0_DoorError m1_DoorError m2_DoorError m3_DoorError m5_DoorError "ValueError.__new__")) (iE_DoorError : PySem.W.findIn K (.ref a_DoorError) "__init__" = some (some (.builtin "ValueError.__init__"))) (bE_DoorError : PySem.W.subIn K (.ref a_DoorError) (.type "BaseException") = some true) (cE_DoorError : PySem.W.isClsIn K a_DoorError = true) (tE_DoorError : PySem.W.typeIn K (.ref a_DoorError) = some (.type "type"))
    (nE_InvalidText : PySem.W.nsIn K mainGlobals "InvalidText" = some (some (.ref a_InvalidText))) (xE_InvalidText : K.lookup a_InvalidText = some (excClassObj nm_InvalidText q_InvalidText a_InvalidText N_InvalidText bs_InvalidText [.ref a_DoorError, .type "ValueError", .type "Exception", .type "BaseException", .type "object"] true sn_InvalidText sub_InvalidText ab_InvalidText col_InvalidText dd_InvalidText m0_InvalidText m1_InvalidText m2_InvalidText m3_InvalidText m5_InvalidText "ValueError.__new__")) (sa_InvalidText : PySem.W.findIn K (.ref a_InvalidText) "__setattr__" = some (some (.builtin "object.__setattr__"))) (ga_InvalidText : PySem.W.findIn K (.ref a_InvalidText) "__getattribute__" = some (some (.builtin "BaseException.__getattribute__"))) (gg_InvalidText : PySem.W.findIn K (.ref a_InvalidText) "__getattr__" = some none) (nb_InvalidText : PySem.W.findIn K (.ref a_InvalidText) "line" = some none) (iC_InvalidText : PySem.W.findIn K (.ref a_InvalidText) "__init__" = some (some (.ref i_InvalidText))) (kk_InvalidText : PySem.W.findIn K (.ref a_InvalidText) "__class__" = some (some (.builtin "object.__class__"))) (kn_InvalidText : PySem.W.specialIn K (.builtin "object.__class__") "__get__" = some (some (.builtin "getset_descriptor.__get__"))) (kt_InvalidText : PySem.W.takesIn K (.builtin "object.__class__") = some true) (km_InvalidText : PySem.W.mroIn K a_InvalidText (.type "object") = some true) (tI_InvalidText : PySem.W.typeIn K (.ref i_InvalidText) = some (.type "function")) (l1_InvalidText : K.lookup i_InvalidText = some ⟨oc_InvalidText, od_InvalidText, .func (PySem.W.fnX "__init__" "InvalidText.__init__" (defArgs (clsDef (top 3) 0)) (defBody (clsDef (top 3) 0)) (defScope (clsDef (top 3) 0)) [("__class__", cc_InvalidText)] .none kV_InvalidText doc_InvalidText pm_InvalidText an_InvalidText (.ref cda_InvalidText) ct_InvalidText), osl_InvalidText⟩) (c1_InvalidText : PySem.W.codeIn K (.ref cda_InvalidText) "InvalidText.__init__" = true) (lc_InvalidText : K.lookup cda_InvalidText = some ⟨ccl_InvalidText, cdd_InvalidText, .fields vs_InvalidText, ccs_InvalidText⟩) (hv_InvalidText : vs_InvalidText[2]? = some (.str file_InvalidText tf_InvalidText)) (hf_InvalidText : ((l.prog.main.file : Str) == file_InvalidText) = true) (lcc_InvalidText : K.lookup cc_InvalidText = some ⟨cl_InvalidText, cld_InvalidText, .cell (some (.ref a_InvalidText)), csl_InvalidText⟩) (kC_InvalidText : PySem.W.keepIn K (.ref a_InvalidText) = true) (eC_InvalidText : PySem.W.subIn K (.ref a_InvalidText) (.type "BaseException") = some true) (tC_InvalidText : PySem.W.typeIn K (.ref a_InvalidText) = some (.type "type")) (hC_InvalidText : PySem.W.hasDictIn K a_InvalidText = true) (ic_InvalidText : PySem.W.isClsIn K a_InvalidText = true) (sC_InvalidText : PySem.W.subIn K (.ref a_InvalidText) (.ref a_InvalidText) = some true) (mC_InvalidText : PySem.W.mroIn K a_InvalidText (.ref a_InvalidText) = some true) (sV_InvalidText : PySem.W.subIn K (.ref a_InvalidText) (.type "ValueError") = some true) (sD_InvalidText : PySem.W.subIn K (.ref a_InvalidText) (.ref a_DoorError) = some true) (ht_InvalidText : (l.prog.main.scope.names.lookup ("super" : Str)).isSome = false) (ho_InvalidText : PySem.W.nsIn K PySem.cStatics "thirdparty.any" = some none)
    (z_tuple : PySem.W.nsIn K mainGlobals "tuple" = some none)
    (z_enumerate : PySem.W.nsIn K mainGlobals "enumerate" = some none)
    (z_range : PySem.W.nsIn K mainGlobals "range" = some none)
    (z_isinstance : PySem.W.nsIn K mainGlobals "isinstance" = some none)
    (z_int : PySem.W.nsIn K mainGlobals "int" = some none)
    (z_str : PySem.W.nsIn K mainGlobals "str" = some none)
    (z_all : PySem.W.nsIn K mainGlobals "all" = some none)
    (z_len : PySem.W.nsIn K mainGlobals "len" = some none)
    (z_abs : PySem.W.nsIn K mainGlobals "abs" = some none)
    (z_bool : PySem.W.nsIn K mainGlobals "bool" = some none)
    (z_min : PySem.W.nsIn K mainGlobals "min" = some none)
    (z_super : PySem.W.nsIn K mainGlobals "super" = some none) :
    ∃ fd : FuncData, (∀ (s : Shared) (v : Value), BindsTo s fd ⟨[v], []⟩ [("script", v)]) ∧ ∀ base : Heap, K.In base → base.Ns mainGlobals mg → FnOk l.prog w K mg base CX0 27 fa fd ["script"] (sp_law K) := by
  have e := hfa.symm.trans (PySem.W.mg_of X G a24)
  cases e
  let T : Txt l.prog K mg := {
    f_is_number := f0, d_is_number := _, F_is_number := fun_mk (st := s_is_number) l0 c0 k0, b_is_number := (fun_mk (st := s_is_number) l0 c0 k0).binds (ps := ["value", "least", "most"]) (fun _ _ _ _ _ _ us hl => match us, hl with | [_, _, _], _ => rfl), g_is_number := PySem.W.mg_of X G a0,
    f_is_tuple := f1, d_is_tuple := _, F_is_tuple := fun_mk (st := s_is_tuple) l1 c1 k1, b_is_tuple := (fun_mk (st := s_is_tuple) l1 c1 k1).binds (ps := ["value", "least", "most"]) (fun _ _ _ _ _ _ us hl => match us, hl with | [_, _, _], _ => rfl), g_is_tuple := PySem.W.mg_of X G a1,
    f_is_word := f2, d_is_word := _, F_is_word := fun_mk (st := s_is_word) l2 c2 k2, b_is_word := (fun_mk (st := s_is_word) l2 c2 k2).binds (ps := ["value", "words"]) (fun _ _ _ _ _ _ us hl => match us, hl with | [_, _], _ => rfl), g_is_word := PySem.W.mg_of X G a2,
    f_is_good_walker := f3, d_is_good_walker := _, F_is_good_walker := fun_mk (st := s_is_good_walker) l3 c3 k3, b_is_good_walker := (fun_mk (st := s_is_good_walker) l3 c3 k3).binds (ps := ["value"]) (fun _ _ _ _ _ _ us hl => match us, hl with | [_], _ => rfl), g_is_good_walker := PySem.W.mg_of X G a3,
    f_is_good_script := f4, d_is_good_script := _, F_is_good_script := fun_mk (st := s_is_good_script) l4 c4 k4, b_is_good_script := (fun_mk (st := s_is_good_script) l4 c4 k4).binds (ps := ["value"]) (fun _ _ _ _ _ _ us hl => match us, hl with | [_], _ => rfl), g_is_good_script := PySem.W.mg_of X G a4,
    f_need_script := f5, d_need_script := _, F_need_script := fun_mk (st := s_need_script) l5 c5 k5, b_need_script := (fun_mk (st := s_need_script) l5 c5 k5).binds (ps := ["value"]) (fun _ _ _ _ _ _ us hl => match us, hl with | [_], _ => rfl), g_need_script := PySem.W.mg_of X G a5,
    f_is_script := f6, d_is_script := _, F_is_script := fun_mk (st := s_is_script) l6 c6 k6, b_is_script := (fun_mk (st := s_is_script) l6 c6 k6).binds (ps := ["value"]) (fun _ _ _ _ _ _ us hl => match us, hl with | [_], _ => rfl), g_is_script := PySem.W.mg_of X G a6,
    f_lines_of := f7, d_lines_of := _, F_lines_of := fun_mk (st := s_lines_of) l7 c7 k7, b_lines_of := (fun_mk (st := s_lines_of) l7 c7 k7).binds (ps := ["script"]) (fun _ _ _ _ _ _ us hl => match us, hl with | [_], _ => rfl), g_lines_of := PySem.W.mg_of X G a7,
    f_part_in := f8, d_part_in := _, F_part_in := fun_mk (st := s_part_in) l8 c8 k8, b_part_in := (fun_mk (st := s_part_in) l8 c8 k8).binds (ps := ["word"]) (fun _ _ _ _ _ _ us hl => match us, hl with | [_], _ => rfl), g_part_in := PySem.W.mg_of X G a8,
    f_walker_in := f9, d_walker_in := _, F_walker_in := fun_mk (st := s_walker_in) l9 c9 k9, b_walker_in := (fun_mk (st := s_walker_in) l9 c9 k9).binds (ps := ["line"]) (fun _ _ _ _ _ _ us hl => match us, hl with | [_], _ => rfl), g_walker_in := PySem.W.mg_of X G a9,
    f_script_in := f10, d_script_in := _, F_script_in := fun_mk (st := s_script_in) l10 c10 k10, b_script_in := (fun_mk (st := s_script_in) l10 c10 k10).binds (ps := ["value"]) (fun _ _ _ _ _ _ us hl => match us, hl with | [_], _ => rfl), g_script_in := PySem.W.mg_of X G a10,
    f_script_text := f11, d_script_text := _, F_script_text := fun_mk (st := s_script_text) l11 c11 k11, b_script_text := (fun_mk (st := s_script_text) l11 c11 k11).binds (ps := ["script"]) (fun _ _ _ _ _ _ us hl => match us, hl with | [_], _ => rfl), g_script_text := PySem.W.mg_of X G a11,
    f_read_script := f12, d_read_script := _, F_read_script := fun_mk (st := s_read_script) l12 c12 k12, b_read_script := (fun_mk (st := s_read_script) l12 c12 k12).binds (ps := ["value"]) (fun _ _ _ _ _ _ us hl => match us, hl with | [_], _ => rfl), g_read_script := PySem.W.mg_of X G a12,
    f__law_source := f13, d__law_source := _, F__law_source := fun_mk (st := s__law_source) l13 c13 k13, b__law_source := (fun_mk (st := s__law_source) l13 c13 k13).binds (ps := ["script", "k"]) (fun _ _ _ _ _ _ us hl => match us, hl with | [_, _], _ => rfl), g__law_source := PySem.W.mg_of X G a13,
    f__law_draw := f14, d__law_draw := _, F__law_draw := fun_mk (st := s__law_draw) l14 c14 k14, b__law_draw := (fun_mk (st := s__law_draw) l14 c14 k14).binds (ps := ["source", "many"]) (fun _ _ _ _ _ _ us hl => match us, hl with | [_, _], _ => rfl), g__law_draw := PySem.W.mg_of X G a14,
    f__law_of := f15, d__law_of := _, F__law_of := fun_mk (st := s__law_of) l15 c15 k15, b__law_of := (fun_mk (st := s__law_of) l15 c15 k15).binds (ps := ["source", "items"]) (fun _ _ _ _ _ _ us hl => match us, hl with | [_, _], _ => rfl), g__law_of := PySem.W.mg_of X G a15,
    f__law_walker := f16, d__law_walker := _, F__law_walker := fun_mk (st := s__law_walker) l16 c16 k16, b__law_walker := (fun_mk (st := s__law_walker) l16 c16 k16).binds (ps := ["source"]) (fun _ _ _ _ _ _ us hl => match us, hl with | [_], _ => rfl), g__law_walker := PySem.W.mg_of X G a16,
    f__law_script := f17, d__law_script := _, F__law_script := fun_mk (st := s__law_script) l17 c17 k17, b__law_script := (fun_mk (st := s__law_script) l17 c17 k17).binds (ps := ["source", "most"]) (fun _ _ _ _ _ _ us hl => match us, hl with | [_, _], _ => rfl), g__law_script := PySem.W.mg_of X G a17,
    f__law_written := f18, d__law_written := _, F__law_written := fun_mk (st := s__law_written) l18 c18 k18, b__law_written := (fun_mk (st := s__law_written) l18 c18 k18).binds (ps := ["walks"]) (fun _ _ _ _ _ _ us hl => match us, hl with | [_], _ => rfl), g__law_written := PySem.W.mg_of X G a18,
    f__law_read := f19, d__law_read := _, F__law_read := fun_mk (st := s__law_read) l19 c19 k19, b__law_read := (fun_mk (st := s__law_read) l19 c19 k19).binds (ps := ["text"]) (fun _ _ _ _ _ _ us hl => match us, hl with | [_], _ => rfl), g__law_read := PySem.W.mg_of X G a19,
    f__law_small := f20, d__law_small := _, F__law_small := fun_mk (st := s__law_small) l20 c20 k20, b__law_small := (fun_mk (st := s__law_small) l20 c20 k20).binds (ps := ["word", "least", "most"]) (fun _ _ _ _ _ _ us hl => match us, hl with | [_, _, _], _ => rfl), g__law_small := PySem.W.mg_of X G a20,
    f__law_good_line := f21, d__law_good_line := _, F__law_good_line := fun_mk (st := s__law_good_line) l21 c21 k21, b__law_good_line := (fun_mk (st := s__law_good_line) l21 c21 k21).binds (ps := ["line"]) (fun _ _ _ _ _ _ us hl => match us, hl with | [_], _ => rfl), g__law_good_line := PySem.W.mg_of X G a21,
    f__law_bad := f22, d__law_bad := _, F__law_bad := fun_mk (st := s__law_bad) l22 c22 k22, b__law_bad := (fun_mk (st := s__law_bad) l22 c22 k22).binds (ps := ["text"]) (fun _ _ _ _ _ _ us hl => match us, hl with | [_], _ => rfl), g__law_bad := PySem.W.mg_of X G a22,
    f__law_spoilt := f23, d__law_spoilt := _, F__law_spoilt := fun_mk (st := s__law_spoilt) l23 c23 k23, b__law_spoilt := (fun_mk (st := s__law_spoilt) l23 c23 k23).binds (ps := ["source", "text"]) (fun _ _ _ _ _ _ us hl => match us, hl with | [_, _], _ => rfl), g__law_spoilt := PySem.W.mg_of X G a23,
    f_law := fa, d_law := _, F_law := fun_mk (st := s_law) l24 c24 k24, b_law := (fun_mk (st := s_law) l24 c24 k24).binds (ps := ["script"]) (fun _ _ _ _ _ _ us hl => match us, hl with | [_], _ => rfl), g_law := PySem.W.mg_of X G a24,
    a_DoorError := a_DoorError, g_DoorError := PySem.W.mg_of X G nE_DoorError,
    a_InvalidText := a_InvalidText, i_InvalidText := i_InvalidText, d_InvalidText := _, E_InvalidText := errC_mk X G nE_InvalidText xE_InvalidText xE_DoorError sa_InvalidText ga_InvalidText gg_InvalidText nb_InvalidText iC_InvalidText iE_DoorError kk_InvalidText kn_InvalidText kt_InvalidText km_InvalidText tI_InvalidText l1_InvalidText c1_InvalidText lc_InvalidText hv_InvalidText hf_InvalidText lcc_InvalidText kC_InvalidText eC_InvalidText tC_InvalidText hC_InvalidText ic_InvalidText sC_InvalidText mC_InvalidText sV_InvalidText ht_InvalidText ho_InvalidText (NdefX.nscope_by (by decide +kernel)) rfl rfl rfl (.all fun us hl => match us, hl with | [_, _], _ => rfl), n_InvalidText := nE_InvalidText, j_InvalidText := kit_of sC_InvalidText cE_DoorError tE_DoorError sD_InvalidText,
    z_tuple := PySem.W.mg_none_of X G z_tuple,
    z_enumerate := PySem.W.mg_none_of X G z_enumerate,
    z_range := PySem.W.mg_none_of X G z_range,
    z_isinstance := PySem.W.mg_none_of X G z_isinstance,
    z_int := PySem.W.mg_none_of X G z_int,
    z_str := PySem.W.mg_none_of X G z_str,
    z_all := PySem.W.mg_none_of X G z_all,
    z_len := PySem.W.mg_none_of X G z_len,
    z_abs := PySem.W.mg_none_of X G z_abs,
    z_bool := PySem.W.mg_none_of X G z_bool,
    z_min := PySem.W.mg_none_of X G z_min,
    z_super := PySem.W.mg_none_of X G z_super }
  exact ⟨PySem.W.fnOf "law" "law" (defArgs s_law) (defBody s_law) (defScope s_law) .none kV24 dc24 pm24 an24 cd24 ct24, fun s v => .of_eq rfl, fun base _ _ => ok_law T⟩
theorem walk {l : PySem.W.OpenLaw} {q : Program} {loose : List Str} {XP : (Str → Option Value) → Heap → Prop} {YP : World → Heap → Prop} {d : DefRec} {K : Params → PySem.W.Frag} (hn : l.most = some 63) (hdf : d.params.defaults = [])
    (hY : ∀ (w : World) (h : Heap), YP w h → (K w.params).In h)
    (F : ∀ (w : World) (mg : Str → Option Value) (fa : Addr) (h : Heap), (K w.params).In h → h.Ns mainGlobals mg → mg d.name = some (.ref fa) →
      ∃ fd : FuncData, (∀ (s : Shared) (u : Value), BindsTo s fd ⟨[u], []⟩ [("script", u)]) ∧ ∀ base : Heap, (K w.params).In base → base.Ns mainGlobals mg → FnOk l.prog w (K w.params) mg base CX0 27 fa fd ["script"] (sp_law (K w.params))) :
    PySem.W.WalkO q loose XP YP l.row.toRowW d [] (fun f vs => PySem.call f vs) :=
  L2.walk_ofB (n := 63) (k := 27) (x := "script") (CX := fun _ => CX0) (sp := fun w => sp_law (K w.params)) hn (by decide) hdf ⟨rfl, by decide, by decide⟩ hY F (fun _ _ a ns hl hb _ hS => ⟨a, ns, rfl, hS, hl, hb, fun _ => rfl⟩) fun _ _ _ _ _ z => z
end Dt
open PySem PySem.W PyProof.Rows in
set_option maxRecDepth 100000 in
set_option maxHeartbeats 0 in
theorem PySem.Challenge.cw_doorsturned_k10_texts_of_scripts_holds : PySem.Challenge.rw_doorsturned_k10_texts_of_scripts.Holds := by
  w_on; o_law; k_head; (case hw => w_witness2)
  k_fill
  refine Dt.walk (l := PySem.Challenge.rw_doorsturned_k10_texts_of_scripts) rfl rfl (fun w h Y => PySem.W.kIn_of Y) ?F
  case F =>
    intro w mg fa h KX G hmg
    refine' Dt.all_mk KX G hmg ?a0 ?l0 ?c0 ?k0 ?a1 ?l1 ?c1 ?k1 ?a2 ?l2 ?c2 ?k2 ?a3 ?l3 ?c3 ?k3 ?a4 ?l4 ?c4 ?k4 ?a5 ?l5 ?c5 ?k5 ?a6 ?l6 ?c6 ?k6 ?a7 ?l7 ?c7 ?k7 ?a8 ?l8 ?c8 ?k8 ?a9 ?l9 ?c9 ?k9 ?a10 ?l10 ?c10 ?k10 ?a11 ?l11 ?c11 ?k11 ?a12 ?l12 ?c12 ?k12 ?a13 ?l13 ?c13 ?k13 ?a14 ?l14 ?c14 ?k14 ?a15 ?l15 ?c15 ?k15 ?a16 ?l16 ?c16 ?k16 ?a17 ?l17 ?c17 ?k17 ?a18 ?l18 ?c18 ?k18 ?a19 ?l19 ?c19 ?k19 ?a20 ?l20 ?c20 ?k20 ?a21 ?l21 ?c21 ?k21 ?a22 ?l22 ?c22 ?k22 ?a23 ?l23 ?c23 ?k23 ?a24 ?l24 ?c24 ?k24 ?nE_DoorError ?xE_DoorError ?iE_DoorError ?bE_DoorError ?cE_DoorError ?tE_DoorError ?nE_InvalidText ?xE_InvalidText ?sa_InvalidText ?ga_InvalidText ?gg_InvalidText ?nb_InvalidText ?iC_InvalidText ?kk_InvalidText ?kn_InvalidText ?kt_InvalidText ?km_InvalidText ?tI_InvalidText ?l1_InvalidText ?c1_InvalidText ?lc_InvalidText ?hv_InvalidText ?hf_InvalidText ?lcc_InvalidText ?kC_InvalidText ?eC_InvalidText ?tC_InvalidText ?hC_InvalidText ?ic_InvalidText ?sC_InvalidText ?mC_InvalidText ?sV_InvalidText ?sD_InvalidText ?ht_InvalidText ?ho_InvalidText ?z_tuple ?z_enumerate ?z_range ?z_isinstance ?z_int ?z_str ?z_all ?z_len ?z_abs ?z_bool ?z_min ?z_super
    (case a0 => k_is)
    (case l0 => k_is)
    (case c0 => k_is)
    (case k0 => k_is)
    (case a1 => k_is)
    (case l1 => k_is)
    (case c1 => k_is)
    (case k1 => k_is)
    (case a2 => k_is)
    (case l2 => k_is)
    (case c2 => k_is)
    (case k2 => k_is)
    (case a3 => k_is)
    (case l3 => k_is)
    (case c3 => k_is)
    (case k3 => k_is)
    (case a4 => k_is)
    (case l4 => k_is)
    (case c4 => k_is)
    (case k4 => k_is)
    (case a5 => k_is)
    (case l5 => k_is)
    (case c5 => k_is)
    (case k5 => k_is)
    (case a6 => k_is)
    (case l6 => k_is)
    (case c6 => k_is)
    (case k6 => k_is)
    (case a7 => k_is)
    (case l7 => k_is)
    (case c7 => k_is)
    (case k7 => k_is)
    (case a8 => k_is)
    (case l8 => k_is)
    (case c8 => k_is)
    (case k8 => k_is)
    (case a9 => k_is)
    (case l9 => k_is)
    (case c9 => k_is)
    (case k9 => k_is)
    (case a10 => k_is)
    (case l10 => k_is)
    (case c10 => k_is)
    (case k10 => k_is)
    (case a11 => k_is)
    (case l11 => k_is)
    (case c11 => k_is)
    (case k11 => k_is)
    (case a12 => k_is)
    (case l12 => k_is)
    (case c12 => k_is)
    (case k12 => k_is)
    (case a13 => k_is)
    (case l13 => k_is)
    (case c13 => k_is)
    (case k13 => k_is)
    (case a14 => k_is)
    (case l14 => k_is)
    (case c14 => k_is)
    (case k14 => k_is)
    (case a15 => k_is)
    (case l15 => k_is)
    (case c15 => k_is)
    (case k15 => k_is)
    (case a16 => k_is)
    (case l16 => k_is)
    (case c16 => k_is)
    (case k16 => k_is)
    (case a17 => k_is)
    (case l17 => k_is)
    (case c17 => k_is)
    (case k17 => k_is)
    (case a18 => k_is)
    (case l18 => k_is)
    (case c18 => k_is)
    (case k18 => k_is)
    (case a19 => k_is)
    (case l19 => k_is)
    (case c19 => k_is)
    (case k19 => k_is)
    (case a20 => k_is)
    (case l20 => k_is)
    (case c20 => k_is)
    (case k20 => k_is)
    (case a21 => k_is)
    (case l21 => k_is)
    (case c21 => k_is)
    (case k21 => k_is)
    (case a22 => k_is)
    (case l22 => k_is)
    (case c22 => k_is)
    (case k22 => k_is)
    (case a23 => k_is)
    (case l23 => k_is)
    (case c23 => k_is)
    (case k23 => k_is)
    (case a24 => k_is)
    (case l24 => k_is)
    (case c24 => k_is)
    (case k24 => k_is)
    (case nE_DoorError => k_is)
    (case xE_DoorError => k_is)
    (case iE_DoorError => k_is)
    (case bE_DoorError => k_is)
    (case cE_DoorError => k_is)
    (case tE_DoorError => k_is)
    (case nE_InvalidText => k_is)
    (case xE_InvalidText => k_is)
    (case sa_InvalidText => k_is)
    (case ga_InvalidText => k_is)
    (case gg_InvalidText => k_is)
    (case nb_InvalidText => k_is)
    (case iC_InvalidText => k_is)
    (case kk_InvalidText => k_is)
    (case kn_InvalidText => k_is)
    (case kt_InvalidText => k_is)
    (case km_InvalidText => k_is)
    (case tI_InvalidText => k_is)
    (case l1_InvalidText => k_is)
    (case c1_InvalidText => k_is)
    (case lc_InvalidText => k_is)
    (case hv_InvalidText => rfl)
    (case hf_InvalidText => rfl)
    (case lcc_InvalidText => k_is)
    (case kC_InvalidText => k_is)
    (case eC_InvalidText => k_is)
    (case tC_InvalidText => k_is)
    (case hC_InvalidText => k_is)
    (case ic_InvalidText => k_is)
    (case sC_InvalidText => k_is)
    (case mC_InvalidText => k_is)
    (case sV_InvalidText => k_is)
    (case sD_InvalidText => k_is)
    (case ht_InvalidText => rfl)
    (case ho_InvalidText => k_is)
    (case z_tuple => k_is)
    (case z_enumerate => k_is)
    (case z_range => k_is)
    (case z_isinstance => k_is)
    (case z_int => k_is)
    (case z_str => k_is)
    (case z_all => k_is)
    (case z_len => k_is)
    (case z_abs => k_is)
    (case z_bool => k_is)
    (case z_min => k_is)
    (case z_super => k_is)
#print axioms PySem.Challenge.cw_doorsturned_k10_texts_of_scripts_holds

