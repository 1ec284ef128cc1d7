import PyProof.Rows.All
import Wide.All
import OpenK.AllK
import Wide.FinOn
import HandS.ForMost
import HandS.Wide
import HandS.IsInst
import HandS.TupAny
import HandS.Conv
import HandS.EndBits
import PySem.Challenge.RW_doorsturned_k07_walkers_who_never_matter
set_option Elab.async false
set_option linter.all false
set_option maxRecDepth 100000
set_option maxHeartbeats 4000000
namespace Dt
open PySem PySem.Spec PyProof.Rows L2
/-! ### rules in apply form -/
section
variable {K : PySem.W.Frag} {σ : L2.St} {H : Hp} {Q : VK} {D : Ends}
theorem r_var {i : Nat} {v : V} (e : σ[i]? = some (some v)) (h : Q v H) : tVar i σ H Q := ⟨v, e, h⟩
theorem r_C {v : V} (h : Q v H) : tC v σ H Q := h
theorem r_op {r : R2} {ta tb : TE} (h : ta σ H fun x H1 => tb σ H1 fun y H2 => r x y H2 Q) : tOp r ta tb σ H Q := h
theorem r_un {r : V → Hp → VK → Prop} {ta : TE} (h : ta σ H fun x H1 => r x H1 Q) : tUn r ta σ H Q := h
theorem r_I0 {g : Int → Int → V} {i j : Int} (h : Q (g i j) H) : rI0 g (.int i) (.int j) H Q := ⟨i, j, rfl, rfl, h⟩
theorem r_I {C : Int → Int → Prop} {g : Int → Int → V} {i j : Int} (hc : C i j) (h : Q (g i j) H) : rI C g (.int i) (.int j) H Q := ⟨i, j, rfl, rfl, hc, h⟩
theorem r_U {g : Int → V} {i : Int} (h : Q (g i) H) : rU g (.int i) H Q := ⟨i, rfl, h⟩
theorem r_eq {x y : V} (e : scal x y = true) (h : Q (.bl (decide (x = y))) H) : rEq x y H Q := ⟨e, h⟩
theorem r_ne {x y : V} (e : scal x y = true) (h : Q (.bl (!decide (x = y))) H) : rNe x y H Q := ⟨e, h⟩
def asB (R : Bool → Hp → Prop) : VK := fun x H' => ∃ k, x = .bl k ∧ R k H'
theorem r_asB {R : Bool → Hp → Prop} {k : Bool} (h : R k H) : asB R (.bl k) H := ⟨k, rfl, h⟩
theorem r_test {t : TE} {R : Bool → Hp → Prop} (h : t σ H (asB R)) : tTest t σ H R := h
theorem r_tB {t : TE} {R : Bool → Hp → Prop} (h : t σ H (asB R)) : tB t σ H R := h
theorem r_and {t u : TT} {R : Bool → Hp → Prop} (h : t σ H fun c H1 => if c = true then u σ H1 R else R false H1) : tAnd t u σ H R := h
theorem r_or {t u : TT} {R : Bool → Hp → Prop} (h : t σ H fun c H1 => if c = true then R true H1 else u σ H1 R) : tOr t u σ H R := h
theorem r_not {t : TT} {R : Bool → Hp → Prop} (h : t σ H fun c H1 => R (!c) H1) : tNot t σ H R := h
theorem r_andV {ta tb : TE} (h : ta σ H (asB fun c H1 => if c = true then tb σ H1 Q else Q (.bl false) H1)) : tAndV ta tb σ H Q := h
theorem r_orV {ta tb : TE} (h : ta σ H (asB fun c H1 => if c = true then Q (.bl true) H1 else tb σ H1 Q)) : tOrV ta tb σ H Q := h
theorem r_notV {ta : TE} (h : ta σ H (asB fun c H1 => Q (.bl (!c)) H1)) : tNotV ta σ H Q := h
theorem r_if {t : TT} {ta tb : TE} (h : t σ H fun c H1 => if c = true then ta σ H1 Q else tb σ H1 Q) : tIf t ta tb σ H Q := h
theorem r_ifS {t : TT} {ta tb : TS} (h : t σ H fun c H1 => if c = true then ta D σ H1 else tb D σ H1) : tIfS t ta tb D σ H := h
theorem r_next (h : D.nx σ H) : tNext D σ H := h
theorem r_seq {t u : TS} (h : t { D with nx := u D } σ H) : tSeq t u D σ H := h
theorem r_brk (h : D.bk σ H) : tBreak D σ H := h
theorem r_cont (h : D.ct σ H) : tCont D σ H := h
theorem r_drop {te : TE} (h : te σ H fun _ H1 => D.nx σ H1) : tDrop te D σ H := h
theorem r_ret {te : TE} (h : te σ H D.rt) : tRet te D σ H := h
theorem r_retN (h : D.rt .non H) : tRetN D σ H := h
theorem r_gName {R : L2.St → Hp → Prop} {i : Nat} {v : V} (h : R (σ.set i (some v)) H) : gName i v σ H R := h
theorem r_asg {te : TE} {g : TG} (h : te σ H fun x H1 => g x σ H1 D.nx) : tAsg te g D σ H := h
theorem r_par {i j : Nat} {ta : TA} (h : ta σ H fun vs H1 => ∃ v w, vs = [v, w] ∧ D.nx ((σ.set i (some v)).set j (some w)) H1) : tPar i j ta D σ H := h
theorem r_par2 {R : L2.St → Hp → Prop} {i j : Nat} {x y : V} (h : R ((σ.set i (some x)).set j (some y)) H) : ∃ v w, [x, y] = [v, w] ∧ R ((σ.set i (some v)).set j (some w)) H := ⟨x, y, rfl, h⟩
theorem r_nil {R : List V → Hp → Prop} (h : R [] H) : tNil σ H R := h
theorem r_cons {ta : TE} {tr : TA} {R : List V → Hp → Prop} (h : ta σ H fun x H1 => tr σ H1 fun xs H2 => R (x :: xs) H2) : tCons ta tr σ H R := h
theorem r_call {sp : Sp} {dvs : List V} {E : XK} {t : TA} (h : t σ H fun vs H1 => sp (vs ++ dvs) H1 Q E) : tCall sp dvs E t σ H Q := h
theorem r_CB {r : List V → Hp → VK → Prop} {t : TA} (h : t σ H fun vs H1 => r vs H1 Q) : tCB r t σ H Q := h
theorem r_chain {r r' : R2} {ta tb tc : TE} (h : ta σ H fun x H1 => tb σ H1 fun y H2 => r x y H2 (asB fun k H3 => if k = true then tc σ H3 fun w' H4 => r' y w' H4 Q else Q (.bl false) H3)) : tChain r r' ta tb tc σ H Q := by
  refine h
theorem same_upd {H : Hp} {p : Addr} {o : HO} (h : H p = none) : Same H (upd H p o) := fun b x e => by
  rw [upd_ne (ne_of_none e h)]
  exact e
/-- a new tuple, a new list -/
def newT (Q : VK) : List V → Hp → Prop := fun xs H1 => xs.length ≤ sizeLine ∧ ∀ p, H1 p = none → Q (.ref p) (upd H1 p (.tup xs))
def newL (Q : VK) : List V → Hp → Prop := fun xs H1 => xs.length ≤ sizeLine ∧ ∀ p, H1 p = none → Q (.ref p) (upd H1 p (.lst xs))
theorem r_tup {t : TA} (h : t σ H (newT Q)) : tTup t σ H Q := h
theorem r_lst {t : TA} (h : t σ H (newL Q)) : tLst t σ H Q := h
theorem small1 {n : Nat} (h : Nat.ble n 1000 = true) : n ≤ 1000 := Nat.le_of_ble_eq_true h
theorem r_newT {xs : List V} (hn : xs.length ≤ sizeLine) (h : ∀ p H', H p = none → Same H H' → H' p = some (.tup xs) → (∀ q, q ≠ p → H' q = H q) → Q (.ref p) H') : newT Q xs H :=
  ⟨hn, fun p hp => h p _ hp (same_upd hp) upd_same fun _ hne => upd_ne hne⟩
theorem r_newL {xs : List V} (hn : xs.length ≤ sizeLine) (h : ∀ p H', H p = none → Same H H' → H' p = some (.lst xs) → (∀ q, q ≠ p → H' q = H q) → Q (.ref p) H') : newL Q xs H :=
  ⟨hn, fun p hp => h p _ hp (same_upd hp) upd_same fun _ hne => upd_ne hne⟩
theorem small_b {n : Nat} (h : Nat.ble n 10000000 = true) : n ≤ sizeLine := Nat.le_trans (Nat.le_of_ble_eq_true h) (by decide)
theorem small_bt {n : Nat} (h : Nat.ble n 10000000 = true) : n < sizeLine := Nat.lt_of_le_of_lt (Nat.le_of_ble_eq_true h) (by decide)
theorem r_true {A B : Prop} (h : A) : if true = true then A else B := iteT h
theorem r_false {A B : Prop} (h : B) : if false = true then A else B := iteF h
theorem r_notTrue {A B : Prop} (h : B) : if (!true) = true then A else B := iteF h
theorem r_notFalse {A B : Prop} (h : A) : if (!false) = true then A else B := iteT h
theorem if_T {c : Bool} {A B : Prop} (hc : c = true) (h : A) : if c = true then A else B := by rw [if_pos hc]; exact h
theorem if_F {c : Bool} {A B : Prop} (hc : c = false) (h : B) : if c = true then A else B := by rw [hc]; exact iteF h
theorem if_b {c : Bool} {A B : Prop} (h1 : c = true → A) (h2 : c = false → B) : if c = true then A else B := by
  cases c with
  | true => exact iteT (h1 rfl)
  | false => exact iteF (h2 rfl)
theorem if_d {p : Prop} [Decidable p] {A B : Prop} (h1 : p → A) (h2 : ¬ p → B) : if decide p = true then A else B := by
  by_cases h : p
  · rw [decide_eq_true h]; exact iteT (h1 h)
  · rw [decide_eq_false h]; exact iteF (h2 h)
theorem if_nd {p : Prop} [Decidable p] {A B : Prop} (h1 : ¬ p → A) (h2 : p → B) : if (!decide p) = true then A else B := by
  by_cases h : p
  · rw [decide_eq_true h]; exact iteF (h2 h)
  · rw [decide_eq_false h]; exact iteT (h1 h)
/-! ### what is carried along -/
theorem Same.sqT {H H' : Hp} {a : Addr} {xs : List V} (e : Same H H') (h : SqT K H a xs) : SqT K H' a xs := by
  rcases h with (h | ⟨o, h⟩) | h
  · exact .inl (.inl (e _ _ h))
  · exact .inl (.inr ⟨o, e _ _ h⟩)
  · exact .inr h
mutual
theorem Dp.mono {H H' : Hp} (e : Same H H') : ∀ {v : V} {d : PyData}, Dp K H v d → Dp K H' v d
  | _, _, .non => .non
  | _, _, .bl b => .bl b
  | _, _, .int i => .int i
  | _, _, .str x => .str x
  | _, _, .lst h a => .lst (e.seq h) (DpAll.mono e a)
  | _, _, .tup h a => .tup (Same.sqT e h) (DpAll.mono e a)
theorem DpAll.mono {H H' : Hp} (e : Same H H') : ∀ {v : List V} {d : List PyData}, DpAll K H v d → DpAll K H' v d
  | _, _, .nil => .nil
  | _, _, .cons a b => .cons (Dp.mono e a) (DpAll.mono e b)
end
theorem r_ixT {p : Addr} {xs : List V} {i : Int} {v : V} (hs : SqT K H p xs) (e : atI xs i = some v) (h : Q v H) : rIxT K (.ref p) (.int i) H Q := ⟨p, xs, i, v, rfl, rfl, hs, e, h⟩
theorem r_ixL {p : Addr} {xs : List V} {i : Int} {v : V} (hs : SqL K H p xs) (e : atI xs i = some v) (h : Q v H) : rIxL K (.ref p) (.int i) H Q := ⟨p, xs, i, v, rfl, rfl, hs, e, h⟩
theorem r_gTup {R : L2.St → Hp → Prop} {a : Addr} {xs : List V} {n : Nat} {t : TGs} (hs : SqT K H a xs) (hl : xs.length = n) (h : t xs σ H R) : gTup K n t (.ref a) σ H R := ⟨a, xs, rfl, hs, hl, h⟩
theorem r_gCons {R : L2.St → Hp → Prop} {t : TG} {u : TGs} {v : V} {r : List V} (h : t v σ H fun σ' H' => u r σ' H' R) : gCons t u (v :: r) σ H R := ⟨v, r, rfl, h⟩
theorem r_gNil {R : L2.St → Hp → Prop} (h : R σ H) : gNil [] σ H R := ⟨rfl, h⟩
end
/-! ### the library's rules under names of their own -/
def rIsN : R2 := fun x y H Q => y = .non ∧ Q (.bl (decide (x = .non))) H
def rNotN : R2 := fun x y H Q => y = .non ∧ Q (.bl (!decide (x = .non))) H
def rLenS (K : PySem.W.Frag) : List V → Hp → VK → Prop := fun xs H Q => ∃ p ys, xs = [V.ref p] ∧ (SqL K H p ys ∨ SqT K H p ys) ∧ Q (.int ys.length) H
def rLenStr : List V → Hp → VK → Prop := fun xs H Q => ∃ z, xs = [.str z] ∧ z.length ≤ sizeLine ∧ Q (.int z.length) H
def rInt1 : List V → Hp → VK → Prop := fun xs H Q => (∃ i, xs = [.int i] ∧ Q (.int i) H) ∨ ∃ k, xs = [.bl k] ∧ Q (.int (if k then 1 else 0)) H
def rBool1 : List V → Hp → VK → Prop := fun xs H Q => (∃ i, xs = [.int i] ∧ Q (.bl (i != 0)) H) ∨ ∃ k, xs = [.bl k] ∧ Q (.bl k) H
def rAbs : List V → Hp → VK → Prop := fun xs H Q => ∃ i, xs = [.int i] ∧ Q (.int (if i < 0 then -i else i)) H
def rMax2 : List V → Hp → VK → Prop := fun xs H Q => ∃ i j, xs = [.int i, .int j] ∧ Q (.int (if j > i then j else i)) H
def rMin2 : List V → Hp → VK → Prop := fun xs H Q => ∃ i j, xs = [.int i, .int j] ∧ Q (.int (if j < i then j else i)) H
def rStrI : List V → Hp → VK → Prop := fun xs H Q => ∃ i, xs = [.int i] ∧ i.natAbs.log2 < 1920 ∧ Q (.str (toString i)) H
def rListOf (K : PySem.W.Frag) : List V → Hp → VK → Prop := fun xs H Q => ∃ p ys, xs = [.ref p] ∧ (SqL K H p ys ∨ SqT K H p ys) ∧ ∀ l, H l = none → Q (.ref l) (upd H l (.lst ys))
def rTupOf (K : PySem.W.Frag) : List V → Hp → VK → Prop := fun xs H Q => ∃ p ys, xs = [.ref p] ∧ ((SqL K H p ys ∧ ∀ l, H l = none → Q (.ref l) (upd H l (.tup ys))) ∨ (SqT K H p ys ∧ Q (.ref p) H))
def rAddS : R2 := fun x y H Q => ∃ i j, x = .str i ∧ y = .str j ∧ i.length + j.length ≤ sizeLine ∧ Q (.str (i ++ j)) H
section
variable {X : Cx}
theorem o_isN : OpR X (compareOp .Is) rIsN := op_isN
theorem o_notN : OpR X (compareOp .IsNot) rNotN := op_notN
theorem c_len : CallR X (.builtin "len") (rLenS X.K) := call_len_seq
theorem c_lenStr : CallR X (.builtin "len") rLenStr := call_len_str
theorem c_int1 : CallR X (.type "int") rInt1 := call_int1
theorem c_bool1 : CallR X (.type "bool") rBool1 := call_bool1
theorem c_abs : CallR X (.builtin "abs") rAbs := call_abs
theorem c_max2 (hc : X.calm = true) : CallR X (.builtin "max") rMax2 := call_max2 hc
theorem c_min2 (hc : X.calm = true) : CallR X (.builtin "min") rMin2 := call_min2 hc
theorem c_strI : CallR X (.type "str") rStrI := call_str_int
theorem c_listOf : CallR X (.type "list") (rListOf X.K) := call_list_of
theorem c_tupOf : CallR X (.type "tuple") (rTupOf X.K) := call_tuple_of
theorem o_addS : OpR X (binaryOp .Add) rAddS := op_add_str
end
section
variable {K : PySem.W.Frag} {σ : L2.St} {H : Hp} {Q : VK} {D : Ends}
theorem r_isN {x : V} (h : Q (.bl (decide (x = .non))) H) : rIsN x .non H Q := ⟨rfl, h⟩
theorem r_notN {x : V} (h : Q (.bl (!decide (x = .non))) H) : rNotN x .non H Q := ⟨rfl, h⟩
theorem r_lenT {p : Addr} {xs : List V} (hs : SqT K H p xs) (h : Q (.int xs.length) H) : rLenS K [.ref p] H Q := ⟨p, xs, rfl, .inr hs, h⟩
theorem r_lenL {p : Addr} {xs : List V} (hs : SqL K H p xs) (h : Q (.int xs.length) H) : rLenS K [.ref p] H Q := ⟨p, xs, rfl, .inl hs, h⟩
theorem r_int {i : Int} (h : Q (.int i) H) : rInt1 [.int i] H Q := .inl ⟨i, rfl, h⟩
theorem r_intB {i : Bool} (h : Q (.int (if i then 1 else 0)) H) : rInt1 [.bl i] H Q := .inr ⟨i, rfl, h⟩
theorem r_abs {i : Int} (h : Q (.int (if i < 0 then -i else i)) H) : rAbs [.int i] H Q := ⟨i, rfl, h⟩
theorem r_min2 {i j : Int} (h : Q (.int (if j < i then j else i)) H) : rMin2 [.int i, .int j] H Q := ⟨i, j, rfl, h⟩
theorem r_max2 {i j : Int} (h : Q (.int (if j > i then j else i)) H) : rMax2 [.int i, .int j] H Q := ⟨i, j, rfl, h⟩
theorem r_listL {p : Addr} {ys : List V} (hs : SqL K H p ys) (h : ∀ p H', H p = none → Same H H' → H' p = some (.lst ys) → (∀ q, q ≠ p → H' q = H q) → Q (.ref p) H') : rListOf K [.ref p] H Q := ⟨p, ys, rfl, .inl hs, fun p hp => h p _ hp (same_upd hp) upd_same fun _ hne => upd_ne hne⟩
theorem r_tupL {p : Addr} {ys : List V} (hs : SqL K H p ys) (h : ∀ p H', H p = none → Same H H' → H' p = some (.tup ys) → (∀ q, q ≠ p → H' q = H q) → Q (.ref p) H') : rTupOf K [.ref p] H Q := ⟨p, ys, rfl, .inl ⟨hs, fun p hp => h p _ hp (same_upd hp) upd_same fun _ hne => upd_ne hne⟩⟩
/-! ### loops and comprehensions in apply form -/
def forT (K : PySem.W.Frag) (g : TG) (tb : TS) (D : Ends) (σ : L2.St) : VK := fun x H1 => ∃ a, x = .ref a ∧ (∃ xs, SqT K H1 a xs) ∧ ∃ W : Nat → Nat → L2.St → Hp → Prop, (∃ m, W 0 m σ H1) ∧ ∀ i m σ H, W i m σ H →
  ((Itt K a).stop i H ∧ D.nx σ H) ∨ ((Itt K a).go i H ∧ ∃ N : L2.St → Hp → Prop, (∀ σ' H', N σ' H' → ∃ m', m' < m ∧ W (i + 1) m' σ' H') ∧ ∀ x H', (Itt K a).yld i H x H' → g x σ H' fun σ2 H2 => tb { D with nx := N, ct := N, bk := D.nx } σ2 H2)
def forL (K : PySem.W.Frag) (g : TG) (tb : TS) (D : Ends) (σ : L2.St) : VK := fun x H1 => ∃ a, x = .ref a ∧ (∃ xs, SqL K H1 a xs) ∧ ∃ W : Nat → Nat → L2.St → Hp → Prop, (∃ m, W 0 m σ H1) ∧ ∀ i m σ H, W i m σ H →
  ((Itl K a).stop i H ∧ D.nx σ H) ∨ ((Itl K a).go i H ∧ ∃ N : L2.St → Hp → Prop, (∀ σ' H', N σ' H' → ∃ m', m' < m ∧ W (i + 1) m' σ' H') ∧ ∀ x H', (Itl K a).yld i H x H' → g x σ H' fun σ2 H2 => tb { D with nx := N, ct := N, bk := D.nx } σ2 H2)
def forR (g : TG) (tb : TS) (D : Ends) (σ : L2.St) (J : It) (H1 : Hp) : Prop := ∃ W : Nat → Nat → L2.St → Hp → Prop, (∃ m, W 0 m σ H1) ∧ ∀ i m σ H, W i m σ H →
  (J.stop i H ∧ D.nx σ H) ∨ (J.go i H ∧ ∃ N : L2.St → Hp → Prop, (∀ σ' H', N σ' H' → ∃ m', m' < m ∧ W (i + 1) m' σ' H') ∧ ∀ x H', J.yld i H x H' → g x σ H' fun σ2 H2 => tb { D with nx := N, ct := N, bk := D.nx } σ2 H2)
def forR1 (g : TG) (tb : TS) (D : Ends) (σ : L2.St) : List V → Hp → Prop := fun vs H1 => ∃ j : Int, vs = [.int j] ∧ -(2 ^ 62) ≤ j ∧ j < 2 ^ 62 ∧ forR g tb D σ (Itr 0 j.toNat) H1
def forR2 (g : TG) (tb : TS) (D : Ends) (σ : L2.St) : List V → Hp → Prop := fun vs H1 => ∃ i j : Int, vs = [.int i, .int j] ∧ (-(2 ^ 62) ≤ i ∧ i < 2 ^ 62 ∧ -(2 ^ 62) ≤ j ∧ j < 2 ^ 62) ∧ forR g tb D σ (Itr i (j - i).toNat) H1
theorem r_forT {tl : TE} {g : TG} {tb : TS} (h : tl σ H (forT K g tb D σ)) : tFor (iTup K tl) g tb D σ H := h
theorem r_forL {tl : TE} {g : TG} {tb : TS} (h : tl σ H (forL K g tb D σ)) : tFor (iList K tl) g tb D σ H := h
theorem r_forR1 {ta : TA} {g : TG} {tb : TS} (h : ta σ H (forR1 g tb D σ)) : tFor (iRng1 ta) g tb D σ H := h
theorem r_forR2 {ta : TA} {g : TG} {tb : TS} (h : ta σ H (forR2 g tb D σ)) : tFor (iRng2 ta) g tb D σ H := h
theorem forT_by {a : Addr} {xs : List V} {g : TG} {tb : TS} (Pv : Nat → L2.St → Hp → Prop) (hS : SqT K H a xs) (h0 : Pv 0 σ H) (hl : ∀ i σ H, i ≤ xs.length → Pv i σ H → SqT K H a xs)
    (hs : ∀ i x σ H, xs[i]? = some x → Pv i σ H → g x σ H fun σ2 H2 => tb { D with nx := Pv (i + 1), ct := Pv (i + 1), bk := D.nx } σ2 H2) (hd : ∀ σ H, Pv xs.length σ H → D.nx σ H) : forT K g tb D σ (.ref a) H :=
  ⟨a, rfl, ⟨_, hS⟩, for_tup Pv h0 hl hs hd⟩
theorem forL_by {a : Addr} {xs : List V} {g : TG} {tb : TS} (Pv : Nat → L2.St → Hp → Prop) (hS : SqL K H a xs) (h0 : Pv 0 σ H) (hl : ∀ i σ H, i ≤ xs.length → Pv i σ H → SqL K H a xs)
    (hs : ∀ i x σ H, xs[i]? = some x → Pv i σ H → g x σ H fun σ2 H2 => tb { D with nx := Pv (i + 1), ct := Pv (i + 1), bk := D.nx } σ2 H2) (hd : ∀ σ H, Pv xs.length σ H → D.nx σ H) : forL K g tb D σ (.ref a) H :=
  ⟨a, rfl, ⟨_, hS⟩, for_list Pv h0 hl hs hd⟩
theorem forR1_by {j : Int} {g : TG} {tb : TS} (Pv : Nat → L2.St → Hp → Prop) (h1 : -(2 ^ 62) ≤ j) (h2 : j < 2 ^ 62) (h0 : Pv 0 σ H)
    (hs : ∀ (i : Nat) σ H, (i : Int) < j → Pv i σ H → g (.int i) σ H fun σ2 H2 => tb { D with nx := Pv (i + 1), ct := Pv (i + 1), bk := D.nx } σ2 H2) (hd : ∀ σ H, Pv j.toNat σ H → D.nx σ H) : forR1 g tb D σ [.int j] H :=
  ⟨j, rfl, h1, h2, for_range Pv h0 (fun i σ H hi p => by rw [Int.zero_add]; exact hs i σ H (by omega) p) hd⟩
theorem forR2_by {i₀ j : Int} {g : TG} {tb : TS} (Pv : Nat → L2.St → Hp → Prop) (hb : -(2 ^ 62) ≤ i₀ ∧ i₀ < 2 ^ 62 ∧ -(2 ^ 62) ≤ j ∧ j < 2 ^ 62) (h0 : Pv 0 σ H)
    (hs : ∀ (i : Nat) σ H, i₀ + (i : Int) < j → Pv i σ H → g (.int (i₀ + i)) σ H fun σ2 H2 => tb { D with nx := Pv (i + 1), ct := Pv (i + 1), bk := D.nx } σ2 H2) (hd : ∀ σ H, Pv (j - i₀).toNat σ H → D.nx σ H) : forR2 g tb D σ [.int i₀, .int j] H :=
  ⟨i₀, j, rfl, hb, for_range Pv h0 (fun i σ H hi p => hs i σ H (by omega) p) hd⟩
def lcW (g : TG) (tt : TT) (te : TE) (vs : List Nat) (σ : L2.St) (Q : VK) (J : It) (H1 : Hp) : Prop := ∀ D, H1 D = none → ∃ W : Nat → Nat → Hp → Prop, (∃ m, W 0 m (upd H1 D (.lst []))) ∧ ∀ i m H, W i m H →
  (J.stop i H ∧ Q (.ref D) H) ∨ (J.go i H ∧ ∃ Nx : Hp → Prop, (∀ H', Nx H' → ∃ m', m' < m ∧ W (i + 1) m' H') ∧ ∀ x H', J.yld i H x H' → g x (wipe σ vs) H' fun σ2 H2 => wipe σ2 vs = wipe σ vs ∧ tt σ2 H2 fun b H3 =>
    if b = true then te σ2 H3 fun y H4 => ∃ acc, H4 D = some (.lst acc) ∧ acc.length < sizeLine ∧ Nx (upd H4 D (.lst (acc ++ [y]))) else Nx H3)
def lcT (K : PySem.W.Frag) (g : TG) (tt : TT) (te : TE) (vs : List Nat) (σ : L2.St) (Q : VK) : VK := fun x H1 => ∃ a, x = .ref a ∧ (∃ xs, SqT K H1 a xs) ∧ lcW g tt te vs σ Q (Itt K a) H1
def lcL (K : PySem.W.Frag) (g : TG) (tt : TT) (te : TE) (vs : List Nat) (σ : L2.St) (Q : VK) : VK := fun x H1 => ∃ a, x = .ref a ∧ (∃ xs, SqL K H1 a xs) ∧ lcW g tt te vs σ Q (Itl K a) H1
def lcR1 (g : TG) (tt : TT) (te : TE) (vs : List Nat) (σ : L2.St) (Q : VK) : List V → Hp → Prop := fun xs H1 => ∃ j : Int, xs = [.int j] ∧ -(2 ^ 62) ≤ j ∧ j < 2 ^ 62 ∧ lcW g tt te vs σ Q (Itr 0 j.toNat) H1
def lcR2 (g : TG) (tt : TT) (te : TE) (vs : List Nat) (σ : L2.St) (Q : VK) : List V → Hp → Prop := fun xs H1 => ∃ i j : Int, xs = [.int i, .int j] ∧ (-(2 ^ 62) ≤ i ∧ i < 2 ^ 62 ∧ -(2 ^ 62) ≤ j ∧ j < 2 ^ 62) ∧ lcW g tt te vs σ Q (Itr i (j - i).toNat) H1
theorem r_lcT {tl : TE} {g : TG} {tt : TT} {te : TE} {vs : List Nat} (h : tl σ H (lcT K g tt te vs σ Q)) : tLc (iTup K tl) g tt te vs σ H Q := h
theorem r_lcL {tl : TE} {g : TG} {tt : TT} {te : TE} {vs : List Nat} (h : tl σ H (lcL K g tt te vs σ Q)) : tLc (iList K tl) g tt te vs σ H Q := h
theorem r_lcR1 {ta : TA} {g : TG} {tt : TT} {te : TE} {vs : List Nat} (h : ta σ H (lcR1 g tt te vs σ Q)) : tLc (iRng1 ta) g tt te vs σ H Q := h
theorem r_lcR2 {ta : TA} {g : TG} {tt : TT} {te : TE} {vs : List Nat} (h : ta σ H (lcR2 g tt te vs σ Q)) : tLc (iRng2 ta) g tt te vs σ H Q := h
/-- one turn of a comprehension behind its target -/
def lcB (tt : TT) (te : TE) (D : Addr) (Nx : Hp → Prop) (σ2 : L2.St) (H2 : Hp) : Prop := tt σ2 H2 fun b H3 =>
    if b = true then te σ2 H3 fun y H4 => ∃ acc, H4 D = some (.lst acc) ∧ acc.length < sizeLine ∧ Nx (upd H4 D (.lst (acc ++ [y]))) else Nx H3
def addTo (D : Addr) (Nx : Hp → Prop) : VK := fun y H4 => ∃ acc, H4 D = some (.lst acc) ∧ acc.length < sizeLine ∧ Nx (upd H4 D (.lst (acc ++ [y])))
theorem r_lcB1 {te : TE} {E : Addr} {Nx : Hp → Prop} (h : te σ H (addTo E Nx)) : lcB tYes te E Nx σ H := by
  show (if true = true then te σ H (addTo E Nx) else Nx H)
  exact iteT h
theorem r_lcB {tt : TT} {te : TE} {E : Addr} {Nx : Hp → Prop} (h : tt σ H fun b H3 => if b = true then te σ H3 (addTo E Nx) else Nx H3) : lcB tt te E Nx σ H := h
/-- in every comprehension: all that stands in G stands still (G is H, or H without what the turns change); acc tells the list so far and what else holds -/
theorem lcT_by {G : Hp} {a : Addr} {xs : List V} {i₀ : Nat} {tt : TT} {te : TE} {vs : List Nat} (acc : Nat → Hp → List V → Prop) (sG : Same G H) (hS : SqT K G a xs) (h0 : ∀ H' D, H D = none → Same H H' → (∀ q, q ≠ D → H' q = H q) → acc 0 H' [])
    (hw : ∀ x : V, wipe ((wipe σ vs).set i₀ (some x)) vs = wipe σ vs)
    (hs : ∀ i x H' D ys, xs[i]? = some x → H D = none → Same G H' → H' D = some (.lst ys) → acc i H' ys → lcB tt te D (fun H2 => Same G H2 ∧ ∃ zs, H2 D = some (.lst zs) ∧ acc (i + 1) H2 zs) ((wipe σ vs).set i₀ (some x)) H')
    (hd : ∀ H' D ys, H D = none → Same G H' → H' D = some (.lst ys) → acc xs.length H' ys → Q (.ref D) H') : lcT K (gName i₀) tt te vs σ Q (.ref a) H :=
  ⟨a, rfl, ⟨_, Same.sqT sG hS⟩, fun D hD => lc_tup (fun i H' => Same G H' ∧ ∃ ys, H' D = some (.lst ys) ∧ acc i H' ys) ⟨sG.trans (same_upd hD), _, upd_same, h0 _ D hD (same_upd hD) (fun _ hq => upd_ne hq)⟩ (fun i H' _ h => Same.sqT h.1 hS)
    (fun i x H' hi ⟨sm, ys, hy, ha⟩ => ⟨hw x, hs i x H' D ys hi hD sm hy ha⟩) (fun H' ⟨sm, ys, hy, ha⟩ => hd H' D ys hD sm hy ha)⟩
theorem lcL_by {G : Hp} {a : Addr} {xs : List V} {i₀ : Nat} {tt : TT} {te : TE} {vs : List Nat} (acc : Nat → Hp → List V → Prop) (sG : Same G H) (hS : SqL K G a xs) (h0 : ∀ H' D, H D = none → Same H H' → (∀ q, q ≠ D → H' q = H q) → acc 0 H' [])
    (hw : ∀ x : V, wipe ((wipe σ vs).set i₀ (some x)) vs = wipe σ vs)
    (hs : ∀ i x H' D ys, xs[i]? = some x → H D = none → Same G H' → H' D = some (.lst ys) → acc i H' ys → lcB tt te D (fun H2 => Same G H2 ∧ ∃ zs, H2 D = some (.lst zs) ∧ acc (i + 1) H2 zs) ((wipe σ vs).set i₀ (some x)) H')
    (hd : ∀ H' D ys, H D = none → Same G H' → H' D = some (.lst ys) → acc xs.length H' ys → Q (.ref D) H') : lcL K (gName i₀) tt te vs σ Q (.ref a) H :=
  ⟨a, rfl, ⟨_, sG.seq hS⟩, fun D hD => lc_list (fun i H' => Same G H' ∧ ∃ ys, H' D = some (.lst ys) ∧ acc i H' ys) ⟨sG.trans (same_upd hD), _, upd_same, h0 _ D hD (same_upd hD) (fun _ hq => upd_ne hq)⟩ (fun i H' _ h => h.1.seq hS)
    (fun i x H' hi ⟨sm, ys, hy, ha⟩ => ⟨hw x, hs i x H' D ys hi hD sm hy ha⟩) (fun H' ⟨sm, ys, hy, ha⟩ => hd H' D ys hD sm hy ha)⟩
theorem lcR1_by {G : Hp} {j : Int} {i₀ : Nat} {tt : TT} {te : TE} {vs : List Nat} (acc : Nat → Hp → List V → Prop) (sG : Same G H) (h1 : -(2 ^ 62) ≤ j) (h2 : j < 2 ^ 62) (h0 : ∀ H' D, H D = none → Same H H' → (∀ q, q ≠ D → H' q = H q) → acc 0 H' [])
    (hw : ∀ x : V, wipe ((wipe σ vs).set i₀ (some x)) vs = wipe σ vs)
    (hs : ∀ (i : Nat) H' D ys, (i : Int) < j → H D = none → Same G H' → H' D = some (.lst ys) → acc i H' ys → lcB tt te D (fun H2 => Same G H2 ∧ ∃ zs, H2 D = some (.lst zs) ∧ acc (i + 1) H2 zs) ((wipe σ vs).set i₀ (some (.int i))) H')
    (hd : ∀ H' D ys, H D = none → Same G H' → H' D = some (.lst ys) → acc j.toNat H' ys → Q (.ref D) H') : lcR1 (gName i₀) tt te vs σ Q [.int j] H :=
  ⟨j, rfl, h1, h2, fun D hD => lc_range (fun i H' => Same G H' ∧ ∃ ys, H' D = some (.lst ys) ∧ acc i H' ys) ⟨sG.trans (same_upd hD), _, upd_same, h0 _ D hD (same_upd hD) (fun _ hq => upd_ne hq)⟩
    (fun i H' hi ⟨sm, ys, hy, ha⟩ => by rw [Int.zero_add]; exact ⟨hw _, hs i H' D ys (by omega) hD sm hy ha⟩) (fun H' ⟨sm, ys, hy, ha⟩ => hd H' D ys hD sm hy ha)⟩
/-- what a turn hands on: the item stands behind the others -/
theorem addTo_by {H₀ H' : Hp} {E : Addr} {ys : List V} {y : V} {A : Hp → List V → Prop} (hE : H₀ E = none) (sm : Same H₀ H') (hy : H' E = some (.lst ys)) (hz : ys.length < sizeLine)
    (h : ∀ H2, Same H₀ H2 → (∀ q, q ≠ E → H2 q = H' q) → H2 E = some (.lst (ys ++ [y])) → A H2 (ys ++ [y])) : addTo E (fun H2 => Same H₀ H2 ∧ ∃ zs, H2 E = some (.lst zs) ∧ A H2 zs) y H' := by
  have s2 : Same H₀ (upd H' E (.lst (ys ++ [y]))) := fun b o e => by
    rw [upd_ne (ne_of_none e hE)]
    exact sm _ _ e
  exact ⟨ys, hy, hz, s2, _, upd_same, h _ s2 (fun q hq => upd_ne hq) upd_same⟩
/-! ### slices, +, list(range(a, b, c)), [x] * n -/
def partK (Q : Option Int → Hp → Prop) : VK := fun x H1 => ∃ i, x = .int i ∧ Q (some i) H1
theorem r_part {t : TE} {R : Option Int → Hp → Prop} (h : t σ H (partK R)) : tPart t σ H R := h
theorem r_partK {i : Int} {R : Option Int → Hp → Prop} (h : R (some i) H) : partK R (.int i) H := ⟨i, rfl, h⟩
theorem r_noPart {R : Option Int → Hp → Prop} (h : R none H) : tNoPart σ H R := h
theorem r_sl {r : V → Option Int → Option Int → Hp → VK → Prop} {te : TE} {tl th : TO} (h : te σ H fun x H1 => tl σ H1 fun l H2 => th σ H2 fun u H3 => r x l u H3 Q) : tSl r te tl th σ H Q := h
def IsT (K : PySem.W.Frag) (H : Hp) (v : V) (xs : List V) : Prop := ∃ p, v = .ref p ∧ SqT K H p xs
theorem cutV_all {xs : List V} {lo hi : Option Int} (h : HT.sIx xs.length 0 lo = 0 ∧ HT.sIx xs.length xs.length hi = xs.length) : cutV xs lo hi = xs := by
  unfold cutV
  rw [h.1, h.2, List.drop_zero, Nat.sub_zero, List.take_length]
theorem r_slT {a : Addr} {xs : List V} {lo hi : Option Int} (hs : SqT K H a xs) (h : ∀ v H', Same H H' → IsT K H' v (cutV xs lo hi) → Q v H') : rSlA K (.ref a) lo hi H Q :=
  ⟨a, xs, rfl, hs, fun e => h _ _ (Same.refl H) ⟨a, rfl, by rw [cutV_all e]; exact hs⟩, fun _ p hp => h _ _ (same_upd hp) ⟨p, rfl, SqT.of upd_same⟩⟩
theorem r_slL {a : Addr} {xs : List V} {lo hi : Option Int} (hs : SqL K H a xs) (h : ∀ p H', H p = none → Same H H' → H' p = some (.lst (cutV xs lo hi)) → (∀ q, q ≠ p → H' q = H q) → Q (.ref p) H') : rSlL K (.ref a) lo hi H Q :=
  ⟨a, xs, rfl, hs, fun p hp => h p _ hp (same_upd hp) upd_same fun _ hne => upd_ne hne⟩
theorem r_catT {a b : Addr} {xs ys : List V} (ha : SqT K H a xs) (hb : SqT K H b ys) (hn : xs.length + ys.length ≤ sizeLine) (h : ∀ v H', Same H H' → IsT K H' v (xs ++ ys) → Q v H') : rCatA K (.ref a) (.ref b) H Q :=
  ⟨a, b, xs, ys, rfl, rfl, ha, hb, hn, fun e => h _ _ (Same.refl H) ⟨b, rfl, by rw [e, List.nil_append]; exact hb⟩, fun _ e => h _ _ (Same.refl H) ⟨a, rfl, by rw [e, List.append_nil]; exact ha⟩,
    fun _ _ p hp => h _ _ (same_upd hp) ⟨p, rfl, SqT.of upd_same⟩⟩
theorem cutV_to (xs : List V) (i : Nat) : cutV xs none (some (i : Int)) = xs.take i := by
  unfold cutV
  rw [HT.sIx_none, HT.sIx_nat, List.drop_zero, Nat.sub_zero]
  by_cases h : i ≤ xs.length
  · rw [Nat.min_eq_left h]
  · rw [Nat.min_eq_right (by omega), List.take_length, List.take_of_length_le (by omega)]
theorem cutV_from (xs : List V) (i : Nat) : cutV xs (some (i : Int)) none = xs.drop i := by
  unfold cutV
  rw [HT.sIx_none, HT.sIx_nat]
  by_cases h : i ≤ xs.length
  · rw [Nat.min_eq_left h]
    exact List.take_of_length_le (by rw [List.length_drop]; exact Nat.le_refl _)
  · rw [Nat.min_eq_right (by omega), Nat.sub_self, List.take_zero, List.drop_eq_nil_of_le (by omega)]
theorem r_rep {l : Addr} {k : Int} {xs : List V} (h : H l = some (.lst xs)) (h1 : -(2 ^ 63) ≤ k) (h2 : k < 2 ^ 63) (h3 : xs.length * k.toNat ≤ sizeLine)
    (q : ∀ p H', H p = none → Same H H' → H' p = some (.lst (List.replicate k.toNat xs).flatten) → (∀ q, q ≠ p → H' q = H q) → Q (.ref p) H') : rRep (.ref l) (.int k) H Q :=
  ⟨l, k, xs, rfl, rfl, h, h1, h2, h3, fun p hp => q p _ hp (same_upd hp) upd_same fun _ hne => upd_ne hne⟩
def rgV3 (a c : Int) (n : Nat) : List V := (List.range n).map fun i => V.int (a + (i : Nat) * c)
def lst3 (Q : VK) : List V → Hp → Prop := fun vs H1 => ∃ (i j c : Int) (n : Nat), vs = [.int i, .int j, .int c] ∧ RgC i j c n ∧ n ≤ 2 ^ 24 ∧ ∀ q, H1 q = none → Q (.ref q) (upd H1 q (.lst (rgV3 i c n)))
def tLst3 (ta : TA) : TE := fun σ H Q => ta σ H (lst3 Q)
theorem r_lst3 {ta : TA} (h : ta σ H (lst3 Q)) : tLst3 ta σ H Q := h
theorem r_lst3K {i j c : Int} {n : Nat} (hc : RgC i j c n) (hn : n ≤ 2 ^ 24) (h : ∀ p H', H p = none → Same H H' → H' p = some (.lst (rgV3 i c n)) → (∀ q, q ≠ p → H' q = H q) → Q (.ref p) H') : lst3 Q [.int i, .int j, .int c] H :=
  ⟨i, j, c, n, rfl, hc, hn, fun p hp => h p _ hp (same_upd hp) upd_same fun _ hne => upd_ne hne⟩
theorem vals_rg3 {a c : Int} {n : Nat} {acc : Array Value} (h : ItemsOf (fun i v => ∃ t, v = .int (a + i * c) t) acc n) : Vals (rgV3 a c n) acc.toList := by
  have e : acc.toList.length = n := by rw [Array.length_toList]; exact h.1
  unfold rgV3
  rw [← e]
  refine vals_of_get acc.toList _ fun j u hj => ?_
  obtain ⟨t, rfl⟩ := h.2 j u (by rw [← hj, Array.getElem?_toList])
  exact ⟨t, rfl⟩
theorem pe_list3 {X : Cx} {a b c : Expr} {ta : TA} {p pos p2 pos2 : Pos} (hc : X.calm = true) (hgl : Gl X "list") (hml : X.mg "list" = none) (hg : Gl X "range") (hm : X.mg "range" = none) (ha : PA X [a, b, c] ta)
    (hs : starEach [a, b, c] X.env = (false, eval a X.env) :: starEach [b, c] X.env := by rfl) (hpl : (backTo pos2 (starEach [b, c] X.env)).any (·.1) = false := by rfl)
    (na : starEach [.Call (.Name "range" p2) [a, b, c] [] pos2] X.env = (false, eval (.Call (.Name "range" p2) [a, b, c] [] pos2) X.env) :: starEach [] X.env := by rfl) :
    PE X (.Call (.Name "list" p) [.Call (.Name "range" p2) [a, b, c] [] pos2] [] pos) (tLst3 ta) := by
  refine ⟨fun pins s σ H Q I h => ?_⟩
  refine Call_ (ld_blt I hgl hml boot_list (PyProof.Rows.callWith_type1 (args_cons (Q := fun us s' => wpAny _ _ (call (.type "list") us) _ _ s') (thn (Q := fun x s1 => ∃ r i j k n t u v H1, x = .ref r ∧ IsRange s1.heap r i j k t u v ∧ Inv X pins σ H1 s1 ∧ RgC i j k n ∧ n ≤ 2 ^ 24 ∧ ∀ q, H1 q = none → Q (.ref q) (upd H1 q (.lst (rgV3 i k n)))) ?_ fun x s1 ⟨r, i, j, k, n, t, u, v, H1, ex, hr, I1, ok, hn, q⟩ => args_nil ?_) na) na))
  · refine Call_ (ld_blt I hg hm boot_range (PyProof.Rows.callWith_type1 (thn (ha.run pos2 pins s σ H _ I h) fun us s1 ⟨vs, H1, I1, r1, q1⟩ => ?_) hs hpl))
    obtain ⟨i, j, k, n, e, ok, hn, q⟩ := q1
    subst e
    cases r1 with
    | cons r rr =>
      cases rr with
      | cons r' rr =>
        cases rr with
        | cons r'' rr =>
          cases rr
          obtain ⟨t, rfl⟩ := r
          obtain ⟨t', rfl⟩ := r'
          obtain ⟨t'', rfl⟩ := r''
          refine call_range_3 ok.1 ?_ (.inl (PyProof.noPylong_small ok.2.1))
          exact ⟨_, i, j, k, n, _, _, _, H1, rfl, IsRange.new .., I1.kept (t' := s1.toks) fun b o e => Heap.get?_push_of_some _ e, ok, hn, q⟩
  · subst ex
    refine call_list_range (n := n) (I1.ok.hd hc) hr ok.2.2.1 ok.2.2.2 hn fun h' tk acc c' hk e' hi => ?_
    refine ⟨.ref s1.heap.objs.size, upd H1 s1.heap.objs.size (.lst (rgV3 i k n)), I1.laid hk (Nat.le_refl _) (show ObjOk X.prog X.w _ _ _ (.lst (rgV3 i k n)) from ⟨?_, acc.toList, c', vals_rg3 hi, ?_⟩), rfl, q _ (I1.hok.fresh (Nat.le_refl _))⟩
    · unfold rgV3
      rw [List.length_map, List.length_range, sizeLine_eq]
      exact hn
    · rw [Array.toArray_toList]
      exact e'
theorem r_gSub {to ti : TE} {t : TSet} {v : V} {R : L2.St → Hp → Prop} (h : to σ H fun o H1 => ti σ H1 fun i H2 => t o i v H2 fun H3 => R σ H3) : gSub to ti t v σ H R := h
theorem r_setL {p : Addr} {xs : List V} {k : Int} {i : Nat} {v : V} {R : Hp → Prop} (h : H p = some (.lst xs)) (e : ixN xs.length k = some i) (q : R (upd H p (.lst (xs.set i v)))) : rSetL (.ref p) (.int k) v H R := ⟨p, xs, k, i, rfl, rfl, h, e, q⟩
/-! ### a heap without one object that changes -/
def hide (p : Addr) (H : Hp) : Hp := fun b => if b = p then none else H b
theorem hide_at {p : Addr} {H : Hp} : hide p H p = none := if_pos rfl
theorem hide_ne {p b : Addr} {H : Hp} (h : b ≠ p) : hide p H b = H b := if_neg h
theorem hide_same {p : Addr} {H : Hp} : Same (hide p H) H := fun b o e => by
  by_cases h : b = p
  · rw [h, hide_at] at e
    cases e
  · rwa [hide_ne h] at e
/-- all but the object at p stands -/
def SX (p : Addr) (H H' : Hp) : Prop := Same (hide p H) (hide p H')
theorem SX.refl {p : Addr} {H : Hp} : SX p H H := Same.refl _
theorem SX.trans {p : Addr} {H H1 H2 : Hp} (a : SX p H H1) (b : SX p H1 H2) : SX p H H2 := Same.trans a b
theorem SX.of {p : Addr} {H H' : Hp} (s : Same H H') : SX p H H' := fun b o e => by
  by_cases h : b = p
  · rw [h, hide_at] at e
    cases e
  · rw [hide_ne h] at e ⊢
    exact s _ _ e
theorem SX.trans' {p : Addr} {H H1 : Hp} {H2 : Hp} (a : SX p H H1) (b : Same (hide p H1) H2) : Same (hide p H) H2 := Same.trans (show Same _ _ from a) b
theorem SX.at {p b : Addr} {H H' : Hp} {o : HO} (s : SX p H H') (hb : b ≠ p) (e : H b = some o) : H' b = some o := by
  have := s b o (by rw [hide_ne hb]; exact e)
  rwa [hide_ne hb] at this
theorem SX.same {p : Addr} {G H H' : Hp} (s : SX p H H') (hG : Same G H) (hp : G p = none) : Same G H' := fun b o e => s.at (ne_of_none e hp) (hG b o e)
theorem SX.to {p : Addr} {H H' : Hp} (s : SX p H H') : Same (hide p H) H' := Same.trans (show Same (hide p H) (hide p H') from s) hide_same
theorem hide_up {p q : Addr} {H' : Hp} {o : HO} (h : H' q = some o) (hq : q ≠ p) : hide p H' q = some o := by rw [hide_ne hq]; exact h
theorem SX.upd {p : Addr} {H : Hp} {o : HO} : SX p H (upd H p o) := fun b u e => by
  by_cases h : b = p
  · rw [h, hide_at] at e
    cases e
  · rw [hide_ne h] at e ⊢
    rw [upd_ne h]
    exact e
/-- the source of draws: a cell that is not negative, and a small number -/
def Src (H : Hp) (p : Addr) : Prop := ∃ c s : Int, H p = some (.lst [.int c, .int s]) ∧ 0 ≤ c ∧ 0 ≤ s ∧ s < 4294967296
theorem Src.some {H : Hp} {p : Addr} (h : Src H p) : ∃ o, H p = some o := let ⟨_, _, e, _⟩ := h; ⟨_, e⟩
theorem Src.same {H H' : Hp} {p : Addr} (h : Src H p) (s : Same H H') : Src H' p := let ⟨c, z, e, r⟩ := h; ⟨c, z, s _ _ e, r⟩
theorem Src.ne {H : Hp} {p q : Addr} (h : Src H p) (hq : H q = none) : q ≠ p := fun e => by
  obtain ⟨o, h⟩ := h.some
  rw [← e, hq] at h
  cases h
/-! ### what never changes: tuples and locked things -/
def imm : HO → Bool
  | .tup _ => true
  | .frz _ _ => true
  | _ => false
/-- all that never changes stands -/
def ST (H H' : Hp) : Prop := ∀ b o, H b = some o → imm o = true → H' b = some o
theorem ST.refl {H : Hp} : ST H H := fun _ _ e _ => e
theorem ST.trans {H H1 H2 : Hp} (a : ST H H1) (b : ST H1 H2) : ST H H2 := fun c o e i => b c o (a c o e i) i
theorem Same.st {H H' : Hp} (s : Same H H') : ST H H' := fun b o e _ => s b o e
theorem SX.st {H H' : Hp} {p : Addr} (s : SX p H H') (h : Src H p) : ST H H' := fun b o e i => by
  obtain ⟨c, z, hp, _⟩ := h
  refine s.at (fun q => ?_) e
  rw [q, hp] at e
  cases e
  cases i
theorem ST.ofUpd {H H' : Hp} {D : Addr} {ys : List V} (hD : H D = some (.lst ys)) (hf : ∀ q, q ≠ D → H' q = H q) : ST H H' := fun b o e i => by
  rw [hf b (fun q => by rw [q, hD] at e; cases e; cases i)]
  exact e
theorem ST.sqT {H H' : Hp} {a : Addr} {xs : List V} (e : ST H H') (h : SqT K H a xs) : SqT K H' a xs := by
  rcases h with (h | ⟨o, h⟩) | h
  · exact .inl (.inl (e _ _ h rfl))
  · exact .inl (.inr ⟨o, e _ _ h rfl⟩)
  · exact .inr h
end
/-! ### join -/
def rJoin (K : PySem.W.Frag) : V → List V → Hp → VK → Prop := fun x xs H Q => ∃ a p, ∃ ys : List Str, x = .str a ∧ xs = [.ref p] ∧ (SqL K H p (ys.map V.str) ∨ SqT K H p (ys.map V.str)) ∧ (ys.map (·.length)).sum + ys.length * a.length ≤ 16777216 ∧ Q (.str (Txt.join a ys)) H
theorem p_join {X : Cx} {o e : Expr} {to te : TE} {apos pos : Pos} (ho : PE X o to) (he : PE X e te) (hs : starEach [e] X.env = [(false, eval e X.env)] := by rfl) (hbase : attributeBase o "join" X.env (eval o X.env) = eval o X.env := by rfl) (hline : (apos.endLine == pos.line) = true := by rfl) :
    PE X (.Call (.Attribute o "join" apos) [e] [] pos) (tM1 (rJoin X.K) to te) := pe_join ho he hs hbase hline
section
variable {K : PySem.W.Frag} {σ : L2.St} {H : Hp} {Q : VK} {D : Ends}
def m1K (r : V → List V → Hp → VK → Prop) (te : TE) (σ : L2.St) (Q : VK) : VK := fun x H1 => (∃ a, x = .str a) ∧ te σ H1 fun y H2 => r x [y] H2 Q
theorem r_m1 {r : V → List V → Hp → VK → Prop} {to te : TE} (h : to σ H (m1K r te σ Q)) : tM1 r to te σ H Q := h
theorem r_m1K {r : V → List V → Hp → VK → Prop} {te : TE} {a : Str} (h : te σ H fun y H2 => r (.str a) [y] H2 Q) : m1K r te σ Q (.str a) H := ⟨⟨a, rfl⟩, h⟩
theorem r_joinL {a : Str} {p : Addr} {ys : List Str} (hs : SqL K H p (ys.map V.str)) (hz : (ys.map (·.length)).sum + ys.length * a.length ≤ 16777216) (h : Q (.str (Txt.join a ys)) H) : rJoin K (.str a) [.ref p] H Q := ⟨a, p, ys, rfl, rfl, .inl hs, hz, h⟩
theorem r_joinT {a : Str} {p : Addr} {ys : List Str} (hs : SqT K H p (ys.map V.str)) (hz : (ys.map (·.length)).sum + ys.length * a.length ≤ 16777216) (h : Q (.str (Txt.join a ys)) H) : rJoin K (.str a) [.ref p] H Q := ⟨a, p, ys, rfl, rfl, .inr hs, hz, h⟩
theorem r_catL {l b : Addr} {xs zs : List V} (hl : H l = some (.lst xs)) (hb : H b = some (.lst zs)) (hn : xs.length + zs.length ≤ sizeLine)
    (h : ∀ p H', H p = none → Same H H' → H' p = some (.lst (xs ++ zs)) → (∀ q, q ≠ p → H' q = H q) → Q (.ref p) H') : rCat (.ref l) (.ref b) H Q :=
  ⟨l, b, xs, zs, rfl, rfl, hl, hb, hn, fun p hp => h p _ hp (same_upd hp) upd_same fun _ hne => upd_ne hne⟩
theorem r_listT {p : Addr} {ys : List V} (hs : SqT K H p ys) (h : ∀ p H', H p = none → Same H H' → H' p = some (.lst ys) → (∀ q, q ≠ p → H' q = H q) → Q (.ref p) H') : rListOf K [.ref p] H Q := ⟨p, ys, rfl, .inr hs, fun p hp => h p _ hp (same_upd hp) upd_same fun _ hne => upd_ne hne⟩
theorem r_eqD {x y : V} {d e : PyData} (h1 : Dp K H x d) (h2 : Dp K H y e) (s1 : SeqAt.shaped d = true) (s2 : SeqAt.shaped e = true) (q : Q (.bl (PyData.eqv d e)) H) : rEqD K x y H Q := ⟨d, e, h1, h2, s1, s2, q⟩
theorem r_neD {x y : V} {d e : PyData} (h1 : Dp K H x d) (h2 : Dp K H y e) (s1 : SeqAt.shaped d = true) (s2 : SeqAt.shaped e = true) (q : Q (.bl (!PyData.eqv d e)) H) : rNeD K x y H Q := ⟨d, e, h1, h2, s1, s2, q⟩
/-- an int or a bool, plus an int -/
def numV : V → Option Int
  | .int i => some i
  | .bl b => some (if b = true then (1 : Int) else 0)
  | _ => none
def rAddN : R2 := fun x y H Q => ∃ i j, numV x = some i ∧ y = .int j ∧ Q (.int (i + j)) H
end
theorem o_addN {X : Cx} : OpR X (binaryOp .Add) rAddN := by
  intro pins s σ H x y v u Q I rx ry h
  obtain ⟨i, j, hi, rfl, q⟩ := h
  obtain ⟨t', rfl⟩ := ry
  cases x with
  | int k =>
    cases hi
    obtain ⟨t, rfl⟩ := rx
    exact add_int ⟨.int _, H, I.tok _, ⟨_, rfl⟩, q⟩
  | bl k =>
    cases hi
    cases rx
    exact PySem.IntBool.add_bool_int ⟨.int ((if k = true then (1 : Int) else 0) + j), H, I.tok _, ⟨_, rfl⟩, q⟩
  | _ => cases hi
section
variable {K : PySem.W.Frag} {σ : L2.St} {H : Hp} {Q : VK} {D : Ends}
theorem SqT.hide {p a : Addr} {xs : List V} (hp : Src H p) (h : SqT K H a xs) : SqT K (hide p H) a xs := by
  obtain ⟨c, z, e, _⟩ := hp
  rcases h with (h | ⟨o, h⟩) | h
  · exact .inl (.inl (hide_up h (fun q => by rw [q, e] at h; cases h)))
  · exact .inl (.inr ⟨o, hide_up h (fun q => by rw [q, e] at h; cases h)⟩)
  · exact .inr h
theorem IsT.hide {p : Addr} {v : V} {xs : List V} (hp : Src H p) (h : IsT K H v xs) : IsT K (Dt.hide p H) v xs := by
  obtain ⟨a, e, h⟩ := h
  exact ⟨a, e, SqT.hide hp h⟩
theorem r_cb2 {R : List V → Hp → Prop} (h : R [] H) : R [] H := h
end
end Dt
namespace Dt
open PySem PySem.Spec PyProof.Rows L2
/-! ### walkers and scripts -/
inductive Deed where | op | sh | tu
  deriving DecidableEq
structure Wk where
  left : Bool
  deed : Deed
  first : Int
  step : Int
  many : Option Int
  deriving DecidableEq
structure Wk.Ok (w : Wk) : Prop where
  f0 : 0 ≤ w.first
  f5 : w.first ≤ 5
  s1 : 1 ≤ w.step
  s6 : w.step ≤ 6
  m : ∀ m, w.many = some m → 1 ≤ m ∧ m ≤ 9
abbrev Scr := List Wk
structure ScrOk (s : Scr) : Prop where
  len : s.length ≤ 8
  ok : ∀ w ∈ s, w.Ok
def endS (l : Bool) : Str := if l then "left" else "right"
def Deed.s : Deed → Str
  | .op => "open"
  | .sh => "shut"
  | .tu => "turn"
def Deed.pr : Deed → Bool × Bool
  | .op => (true, true)
  | .sh => (false, false)
  | .tu => (true, false)
def manyV : Option Int → V
  | none => .non
  | some m => .int m
def Wk.vs (w : Wk) : List V := [.str (endS w.left), .str w.deed.s, .int w.first, .int w.step, manyV w.many]
def far (w : Wk) (n door : Int) : Int := (if w.left then door else n - 1 - door) - w.first
def manyOk (w : Wk) (f : Int) : Bool := match w.many with
  | none => true
  | some m => decide (f / w.step < m)
def comesTo (w : Wk) (n door : Int) : Bool := decide (0 ≤ far w n door) && (decide (far w n door % w.step = 0) && manyOk w (far w n door))
def then_ (a b : Bool × Bool) : Bool × Bool := (if a.1 then b.2 else b.1, if a.2 then b.2 else b.1)
def stepTo (n door : Int) (f : Bool × Bool) (w : Wk) : Bool × Bool := if comesTo w n door then then_ f w.deed.pr else f
def doneTo (s : Scr) (n door : Int) : Bool × Bool := s.foldl (stepTo n door) (false, true)
def openSo (s : Scr) (n door : Int) : Bool := (doneTo s n door).1
def perStep (f : Int) (w : Wk) : Int := f * w.step / (Int.gcd f w.step : Nat)
def periodOf (ss : List Scr) : Int := ss.flatten.foldl perStep 1
def edgeStep (f : Int) (w : Wk) : Int := max f (w.first + match w.many with | none => 0 | some m => w.step * m)
def reachOf (ss : List Scr) : Int := ss.flatten.foldl edgeStep 0
def edgeOf (ss : List Scr) : Int := (reachOf ss / periodOf ss + 1) * periodOf ss
section
variable (K : PySem.W.Frag) (H : Hp)
def IsWk (v : V) (w : Wk) : Prop := ∃ a, v = .ref a ∧ SqT K H a w.vs
def IsScr (v : V) (s : Scr) : Prop := ∃ a vs, v = .ref a ∧ SqT K H a vs ∧ Paired (IsWk K H) vs s
def IsScrs (v : V) (ss : List Scr) : Prop := ∃ a vs, v = .ref a ∧ SqT K H a vs ∧ Paired (IsScr K H) vs ss
def IsPr (v : V) (p : Bool × Bool) : Prop := ∃ a, v = .ref a ∧ SqT K H a [.bl p.1, .bl p.2]
end
section
variable {K : PySem.W.Frag} {H H' : Hp}
theorem IsWk.mono (e : Same H H') {v : V} {w : Wk} : IsWk K H v w → IsWk K H' v w := fun ⟨a, h, q⟩ => ⟨a, h, Same.sqT e q⟩
theorem IsScr.mono (e : Same H H') {v : V} {w : Scr} : IsScr K H v w → IsScr K H' v w := fun ⟨a, vs, h, q, r⟩ => ⟨a, vs, h, Same.sqT e q, Paired.mapP r fun _ _ => IsWk.mono e⟩
theorem IsScrs.mono (e : Same H H') {v : V} {w : List Scr} : IsScrs K H v w → IsScrs K H' v w := fun ⟨a, vs, h, q, r⟩ => ⟨a, vs, h, Same.sqT e q, Paired.mapP r fun _ _ => IsScr.mono e⟩
theorem IsPr.mono (e : Same H H') {v : V} {w : Bool × Bool} : IsPr K H v w → IsPr K H' v w := fun ⟨a, h, q⟩ => ⟨a, h, Same.sqT e q⟩
theorem IsWk.st (e : ST H H') {v : V} {w : Wk} : IsWk K H v w → IsWk K H' v w := fun ⟨a, h, q⟩ => ⟨a, h, e.sqT q⟩
theorem IsScr.st (e : ST H H') {v : V} {w : Scr} : IsScr K H v w → IsScr K H' v w := fun ⟨a, vs, h, q, r⟩ => ⟨a, vs, h, e.sqT q, Paired.mapP r fun _ _ => IsWk.st e⟩
theorem IsScrs.st (e : ST H H') {v : V} {w : List Scr} : IsScrs K H v w → IsScrs K H' v w := fun ⟨a, vs, h, q, r⟩ => ⟨a, vs, h, e.sqT q, Paired.mapP r fun _ _ => IsScr.st e⟩
theorem IsPr.st (e : ST H H') {v : V} {w : Bool × Bool} : IsPr K H v w → IsPr K H' v w := fun ⟨a, h, q⟩ => ⟨a, h, e.sqT q⟩
theorem paired_get {α β : Type} {F : α → β → Prop} : ∀ {xs : List α} {ys : List β} {i : Nat} {x : α}, Paired F xs ys → xs[i]? = some x → ∃ y, ys[i]? = some y ∧ F x y
  | _, _, _, _, .nil, e => by simp at e
  | _, _, 0, _, .cons r _, e => by simp at e; subst e; exact ⟨_, rfl, r⟩
  | _, _, i + 1, x, .cons _ t, e => by
    obtain ⟨u, h1, h2⟩ := paired_get (i := i) (x := x) t (by simpa using e)
    exact ⟨u, by simpa using h1, h2⟩
theorem paired_get' {α β : Type} {F : α → β → Prop} : ∀ {xs : List α} {ys : List β} {i : Nat} {y : β}, Paired F xs ys → ys[i]? = some y → ∃ x, xs[i]? = some x ∧ F x y
  | _, _, _, _, .nil, e => by simp at e
  | _, _, 0, _, .cons r _, e => by simp at e; subst e; exact ⟨_, rfl, r⟩
  | _, _, i + 1, x, .cons _ t, e => by
    obtain ⟨u, h1, h2⟩ := paired_get' (i := i) (y := x) t (by simpa using e)
    exact ⟨u, by simpa using h1, h2⟩
theorem paired_len {α β : Type} {F : α → β → Prop} {xs : List α} {ys : List β} (h : Paired F xs ys) : xs.length = ys.length := Paired.length h
theorem paired_take {α β : Type} {F : α → β → Prop} : ∀ {xs : List α} {ys : List β} (n : Nat), Paired F xs ys → Paired F (xs.take n) (ys.take n)
  | _, _, 0, _ => .nil
  | _, _, _ + 1, .nil => .nil
  | _, _, n + 1, .cons r t => .cons r (paired_take n t)
theorem paired_drop {α β : Type} {F : α → β → Prop} : ∀ {xs : List α} {ys : List β} (n : Nat), Paired F xs ys → Paired F (xs.drop n) (ys.drop n)
  | _, _, 0, r => r
  | _, _, _ + 1, .nil => .nil
  | _, _, n + 1, .cons _ t => paired_drop n t
theorem paired_app {α β : Type} {F : α → β → Prop} : ∀ {xs xs' : List α} {ys ys' : List β}, Paired F xs ys → Paired F xs' ys' → Paired F (xs ++ xs') (ys ++ ys')
  | _, _, _, _, .nil, r => r
  | _, _, _, _, .cons r t, q => .cons r (paired_app t q)
theorem take_more {α : Type} : ∀ {l : List α} {i : Nat} {x : α}, l[i]? = some x → l.take (i + 1) = l.take i ++ [x]
  | [], i, x, h => by simp at h
  | a :: l, 0, x, h => by
    have e : a = x := Option.some.inj h
    subst e
    rfl
  | a :: l, i + 1, x, h => by
    have ih := take_more (l := l) (i := i) (x := x) h
    show a :: l.take (i + 1) = a :: l.take i ++ [x]
    rw [ih]
    rfl
theorem foldl_more {α β : Type} {f : β → α → β} {b : β} {l : List α} {i : Nat} {x : α} (h : l[i]? = some x) : (l.take (i + 1)).foldl f b = f ((l.take i).foldl f b) x := by
  rw [take_more h, List.foldl_append]
  rfl
theorem gcd_turn {x y : Int} (hx : 0 ≤ x) (hy : 0 ≤ y) : Int.gcd y (x % y) = Int.gcd x y := by
  obtain ⟨m, rfl⟩ := Int.eq_ofNat_of_zero_le hx
  obtain ⟨n, rfl⟩ := Int.eq_ofNat_of_zero_le hy
  rw [← Int.natCast_emod]
  show Nat.gcd n (m % n) = Nat.gcd m n
  rw [Nat.gcd_comm n, ← Nat.gcd_rec, Nat.gcd_comm]
theorem small_line {n : Nat} (h : n ≤ 10000000) : n ≤ sizeLine := Nat.le_trans h (by decide)
theorem small_lt {n : Nat} (h : n ≤ 10000000) : n < sizeLine := Nat.lt_of_le_of_lt h (by decide)
theorem getI {σ : L2.St} {i : Nat} {v : V} (h : σ[i]? = some (some v)) : σ[i]? = some (some v) := h
/-! ### periods -/
def PerOk (f : Int) : Prop := 1 ≤ f ∧ f ≤ 60 ∧ f ∣ 60
theorem per_one : PerOk 1 := ⟨by decide, by decide, by decide⟩
theorem per_all : ∀ f : Fin 61, ∀ s : Fin 7, 1 ≤ f.val → f.val ∣ 60 → 1 ≤ s.val → 1 ≤ f.val * s.val / Nat.gcd f.val s.val ∧ f.val * s.val / Nat.gcd f.val s.val ≤ 60 ∧ f.val * s.val / Nat.gcd f.val s.val ∣ 60 ∧ f.val ∣ f.val * s.val / Nat.gcd f.val s.val ∧ s.val ∣ f.val * s.val / Nat.gcd f.val s.val := by decide +kernel
theorem perStep_nat (f s : Nat) (w : Wk) (h : w.step = (s : Int)) : perStep (f : Int) w = ((f * s / Nat.gcd f s : Nat) : Int) := by
  unfold perStep
  rw [h, Int.natCast_ediv, Int.natCast_mul]
  rfl
theorem perStep_all {f : Int} {w : Wk} (h : PerOk f) (ok : w.Ok) : PerOk (perStep f w) ∧ f ∣ perStep f w ∧ w.step ∣ perStep f w := by
  obtain ⟨h1, h2, h3⟩ := h
  obtain ⟨m, rfl⟩ := Int.eq_ofNat_of_zero_le (show 0 ≤ f by omega)
  have s1 := ok.s1
  have s6 := ok.s6
  obtain ⟨s, hs⟩ := Int.eq_ofNat_of_zero_le (show 0 ≤ w.step by omega)
  rw [perStep_nat m s w hs]
  have q := per_all ⟨m, by omega⟩ ⟨s, by omega⟩ (by show 1 ≤ m; omega) (by exact Int.natCast_dvd_natCast.mp h3) (by show 1 ≤ s; omega)
  obtain ⟨q1, q2, q3, q4, q5⟩ := q
  refine ⟨⟨?_, ?_, Int.natCast_dvd_natCast.mpr q3⟩, Int.natCast_dvd_natCast.mpr q4, ?_⟩
  · exact Int.ofNat_le.mpr q1
  · exact Int.ofNat_le.mpr q2
  · rw [hs]
    exact Int.natCast_dvd_natCast.mpr q5
theorem per_fold : ∀ (l : Scr), (∀ w ∈ l, w.Ok) → ∀ {f : Int}, PerOk f → PerOk (l.foldl perStep f)
  | [], _, _, h => h
  | w :: r, ok, _, h => per_fold r (fun x hx => ok x (List.mem_cons_of_mem _ hx)) (perStep_all h (ok w List.mem_cons_self)).1
theorem gcd_pos {a b : Int} (h : 1 ≤ b) : (1 : Int) ≤ (Int.gcd a b : Nat) := by
  have : 0 < Int.gcd a b := Nat.pos_of_ne_zero fun z => by
    have := (Int.gcd_eq_zero_iff.mp z).2
    omega
  omega
theorem gcd_le {a b : Int} (h : 1 ≤ b) : ((Int.gcd a b : Nat) : Int) ≤ b := Int.le_of_dvd (by omega) (Int.gcd_dvd_right ..)
end
theorem IsWk.out {K : PySem.W.Frag} {H : Hp} {v : V} {w : Wk} (h : IsWk K H v w) : ∃ a, v = .ref a ∧ SqT K H a [.str (endS w.left), .str w.deed.s, .int w.first, .int w.step, manyV w.many] := h
theorem end_left (l : Bool) : decide (V.str (endS l) = V.str "left") = l := by cases l <;> decide +kernel
theorem many_non (m : Option Int) : decide (manyV m = .non) = m.isNone := by cases m <;> rfl
/-! ### data -/
def tyN : PyData → String
  | .none => "NoneType"
  | .bool _ => "bool"
  | .int _ => "int"
  | .str _ => "str"
  | .list _ => "list"
  | .tuple _ => "tuple"
  | .dict _ => "dict"
section
variable {K : PySem.W.Frag} {H H' : Hp} {Q : VK}
theorem sqT_ty {a : Addr} {xs : List V} (h : SqT K H a xs) : TyX K H (.ref a) (.type "tuple") := by
  rcases h with (h | ⟨o, h⟩) | ⟨o, _, _, h, c, _⟩
  · exact .base (.tup h)
  · exact .fTuple h
  · exact .kTuple h c
theorem sqL_ty {a : Addr} {xs : List V} (h : SqL K H a xs) : TyX K H (.ref a) (.type "list") := by
  rcases h with (h | ⟨o, h⟩) | ⟨o, _, _, h, c, _⟩
  · exact .base (.lst h)
  · exact .base (.frz h)
  · exact .kList h c
theorem Dp.ty {x : V} {d : PyData} (h : Dp K H x d) : TyX K H x (.type (tyN d)) := by
  cases h with
  | non => exact .base .non
  | bl b => exact .base (.bl b)
  | int i => exact .base (.int i)
  | str s => exact .base (.str s)
  | lst h _ => exact sqL_ty h
  | tup h _ => exact sqT_ty h
theorem r_isi {x : V} {t : Value} {n : String} {b : Bool} (ty : TyX K H x t) (e : PySem.W.kitOne K t (.type n) = some b) (h : Q (.bl b) H) : rIsi K [x, .ty n] H Q := ⟨x, .ty n, t, .type n, b, rfl, .ty n, ty, e, h⟩
theorem Dp.isi {x : V} {d : PyData} {n : String} {b : Bool} (hd : Dp K H x d) (e : kitB (tyN d) n = some b) (h : Q (.bl b) H) : rIsi K [x, .ty n] H Q := r_isi (Dp.ty hd) (kit_ty e) h
end
theorem kk_NoneType_int : kitB "NoneType" "int" = some false := by decide +kernel
theorem kk_NoneType_bool : kitB "NoneType" "bool" = some false := by decide +kernel
theorem kk_NoneType_str : kitB "NoneType" "str" = some false := by decide +kernel
theorem kk_NoneType_tuple : kitB "NoneType" "tuple" = some false := by decide +kernel
theorem kk_NoneType_list : kitB "NoneType" "list" = some false := by decide +kernel
theorem kk_bool_int : kitB "bool" "int" = some true := by decide +kernel
theorem kk_bool_bool : kitB "bool" "bool" = some true := by decide +kernel
theorem kk_bool_str : kitB "bool" "str" = some false := by decide +kernel
theorem kk_bool_tuple : kitB "bool" "tuple" = some false := by decide +kernel
theorem kk_bool_list : kitB "bool" "list" = some false := by decide +kernel
theorem kk_int_int : kitB "int" "int" = some true := by decide +kernel
theorem kk_int_bool : kitB "int" "bool" = some false := by decide +kernel
theorem kk_int_str : kitB "int" "str" = some false := by decide +kernel
theorem kk_int_tuple : kitB "int" "tuple" = some false := by decide +kernel
theorem kk_int_list : kitB "int" "list" = some false := by decide +kernel
theorem kk_str_int : kitB "str" "int" = some false := by decide +kernel
theorem kk_str_bool : kitB "str" "bool" = some false := by decide +kernel
theorem kk_str_str : kitB "str" "str" = some true := by decide +kernel
theorem kk_str_tuple : kitB "str" "tuple" = some false := by decide +kernel
theorem kk_str_list : kitB "str" "list" = some false := by decide +kernel
theorem kk_list_int : kitB "list" "int" = some false := by decide +kernel
theorem kk_list_bool : kitB "list" "bool" = some false := by decide +kernel
theorem kk_list_str : kitB "list" "str" = some false := by decide +kernel
theorem kk_list_tuple : kitB "list" "tuple" = some false := by decide +kernel
theorem kk_list_list : kitB "list" "list" = some true := by decide +kernel
theorem kk_tuple_int : kitB "tuple" "int" = some false := by decide +kernel
theorem kk_tuple_bool : kitB "tuple" "bool" = some false := by decide +kernel
theorem kk_tuple_str : kitB "tuple" "str" = some false := by decide +kernel
theorem kk_tuple_tuple : kitB "tuple" "tuple" = some true := by decide +kernel
theorem kk_tuple_list : kitB "tuple" "list" = some false := by decide +kernel
def isTy (d : PyData) (n : String) : Bool := (kitB (tyN d) n).getD false
def isNumD (d : PyData) (l m : Int) : Bool := match d with
  | .int i => decide (l ≤ i) && decide (i ≤ m)
  | _ => false
def isTupD (d : PyData) (l m : Int) : Bool := match d with
  | .tuple ds => decide (l ≤ (ds.length : Int)) && decide ((ds.length : Int) ≤ m)
  | _ => false
def isWordD (d : PyData) (ws : List Str) : Bool := match d with
  | .str s => ws.contains s
  | _ => false
def manyD : Option Int → PyData
  | none => .none
  | some m => .int m
def goodW (d : PyData) : Bool := match d with
  | .tuple [a, b, c, e, f] => isWordD a ["left", "right"] && (isWordD b ["open", "shut", "turn"] && (isNumD c 0 5 && (isNumD e 1 6 && (match f with | .none => true | _ => isNumD f 1 9))))
  | _ => false
def goodS (d : PyData) : Bool := match d with
  | .tuple ds => decide (ds.length ≤ 8) && ds.all goodW
  | _ => false
def Wk.toD (w : Wk) : PyData := .tuple [.str (endS w.left), .str w.deed.s, .int w.first, .int w.step, manyD w.many]
def toDS (s : Scr) : PyData := .tuple (s.map Wk.toD)
section
variable {K : PySem.W.Frag} {H H' : Hp}
theorem manyDp (m : Option Int) : Dp K H (manyV m) (manyD m) := by
  cases m with
  | none => exact .non
  | some m => exact .int m
theorem IsWk.dp {v : V} {w : Wk} (h : IsWk K H v w) : Dp K H v w.toD := by
  obtain ⟨a, rfl, q⟩ := h
  exact .tup q (.cons (.str _) (.cons (.str _) (.cons (.int _) (.cons (.int _) (.cons (manyDp _) .nil)))))
theorem IsScr.dp {v : V} {s : Scr} (h : IsScr K H v s) : Dp K H v (toDS s) := by
  obtain ⟨a, vs, rfl, q, r⟩ := h
  refine .tup q ?_
  clear q
  induction r with
  | nil => exact .nil
  | cons r _ ih => exact .cons r.dp ih
theorem goodW_of {w : Wk} (h : w.Ok) : goodW w.toD = true := by
  have h1 := h.f0
  have h2 := h.f5
  have h3 := h.s1
  have h4 := h.s6
  have h5 : isNumD (.int w.first) 0 5 = true := by simp [isNumD, h1, h2]
  have h6 : isNumD (.int w.step) 1 6 = true := by simp [isNumD, h3, h4]
  have e1 : isWordD (.str (endS w.left)) ["left", "right"] = true := by
    cases w.left <;> decide +kernel
  have e2 : isWordD (.str w.deed.s) ["open", "shut", "turn"] = true := by
    cases w.deed <;> decide +kernel
  show (isWordD (.str (endS w.left)) ["left", "right"] && (isWordD (.str w.deed.s) ["open", "shut", "turn"] && (isNumD (.int w.first) 0 5 && (isNumD (.int w.step) 1 6 && (match manyD w.many with | .none => true | _ => isNumD (manyD w.many) 1 9))))) = true
  rw [e1, e2, h5, h6]
  cases e : w.many with
  | none => rfl
  | some m =>
    obtain ⟨a, b⟩ := h.m m e
    show isNumD (.int m) 1 9 = true
    simp [isNumD, a, b]
theorem goodS_of {s : Scr} (h : ScrOk s) : goodS (toDS s) = true := by
  have h1 := h.len
  show (decide ((s.map Wk.toD).length ≤ 8) && (s.map Wk.toD).all goodW) = true
  rw [List.length_map, decide_eq_true h1, Bool.true_and, List.all_eq_true]
  intro d hd
  obtain ⟨w, hw, rfl⟩ := List.mem_map.mp hd
  exact goodW_of (h.ok w hw)
end
theorem tup5 (d : PyData) : isTupD d 5 5 = false ∨ ∃ a b c e f, d = .tuple [a, b, c, e, f] := by
  cases d with
  | tuple ds =>
    match ds with
    | [a, b, c, e, f] => exact .inr ⟨a, b, c, e, f, rfl⟩
    | [] => exact .inl rfl
    | [_] => exact .inl rfl
    | [_, _] => exact .inl rfl
    | [_, _, _] => exact .inl rfl
    | [_, _, _, _] => exact .inl rfl
    | x1 :: x2 :: x3 :: x4 :: x5 :: x6 :: r =>
      have e : ¬ (((x1 :: x2 :: x3 :: x4 :: x5 :: x6 :: r).length : Int) ≤ 5) := by
        simp only [List.length_cons]
        omega
      refine .inl ?_
      simp only [isTupD, decide_eq_false e, Bool.and_false]
  | _ => exact .inl rfl
theorem goodW_no {d : PyData} (h : isTupD d 5 5 = false) : goodW d = false := by
  cases d with
  | tuple ds =>
    match ds, h with
    | [a, b, c, e, f], h => cases h
    | [], _ => rfl
    | [_], _ => rfl
    | [_, _], _ => rfl
    | [_, _, _], _ => rfl
    | [_, _, _, _], _ => rfl
    | _ :: _ :: _ :: _ :: _ :: _ :: r, _ => rfl
  | _ => rfl
/-! ### rows -/
def act : Deed → Bool → Bool
  | .op, _ => true
  | .sh, _ => false
  | .tu, b => !b
def app (p : Bool × Bool) (b : Bool) : Bool := if b then p.2 else p.1
theorem app_pr (d : Deed) (b : Bool) : app d.pr b = act d b := by cases d <;> cases b <;> rfl
theorem app_then (a b : Bool × Bool) (x : Bool) : app (then_ a b) x = app b (app a x) := by
  obtain ⟨a1, a2⟩ := a
  cases x <;> rfl
def actAt (n d : Int) (b : Bool) (w : Wk) : Bool := if comesTo w n d then act w.deed b else b
theorem app_done (n d : Int) : ∀ (s : Scr) (f : Bool × Bool) (b : Bool), app (s.foldl (stepTo n d) f) b = s.foldl (actAt n d) (app f b)
  | [], _, _ => rfl
  | w :: r, f, b => by
    rw [List.foldl_cons, List.foldl_cons, app_done n d r]
    congr 1
    unfold stepTo actAt
    cases comesTo w n d with
    | false => rfl
    | true =>
      show app (then_ f w.deed.pr) b = act w.deed (app f b)
      rw [app_then, app_pr]
theorem openSo_fold (s : Scr) (n d : Int) : openSo s n d = s.foldl (actAt n d) false := app_done n d s (false, true) false
def rowOf (s : Scr) (n : Nat) : List Bool := (List.range n).map fun (d : Nat) => openSo s n d
def walked (bs : List Bool) (w : Wk) : List Bool := bs.mapIdx fun d b => actAt bs.length d b w
theorem walked_len (bs : List Bool) (w : Wk) : (walked bs w).length = bs.length := by unfold walked; rw [List.length_mapIdx]
theorem walked_get {bs : List Bool} {w : Wk} {d : Nat} (h : d < bs.length) : (walked bs w)[d]? = some (actAt bs.length d bs[d] w) := by
  unfold walked
  rw [List.getElem?_mapIdx, List.getElem?_eq_getElem h]
  rfl
theorem fold_len : ∀ (s : Scr) (bs : List Bool), (s.foldl walked bs).length = bs.length
  | [], _ => rfl
  | w :: r, bs => by rw [List.foldl_cons, fold_len r, walked_len]
theorem fold_get (n : Nat) (d : Nat) : ∀ (s : Scr) (bs : List Bool) (b : Bool), bs.length = n → bs[d]? = some b → (s.foldl walked bs)[d]? = some (s.foldl (actAt n d) b)
  | [], _, _, _, h => h
  | w :: r, bs, b, hn, h => by
    rw [List.foldl_cons, List.foldl_cons]
    refine fold_get n d r _ _ (by rw [walked_len, hn]) ?_
    obtain ⟨h1, h2⟩ := List.getElem?_eq_some_iff.mp h
    rw [walked_get h1, h2, hn]
def lawRow (s : Scr) (n : Nat) : List Bool := s.foldl walked (List.replicate n false)
theorem lawRow_eq (s : Scr) (n : Nat) : lawRow s n = rowOf s n := by
  refine List.ext_getElem? fun d => ?_
  by_cases h : d < n
  · have h1 := fold_get n d s (List.replicate n false) false (by rw [List.length_replicate]) (by rw [List.getElem?_replicate, if_pos h])
    show (s.foldl walked (List.replicate n false))[d]? = _
    rw [h1]
    unfold rowOf
    rw [List.getElem?_map, List.getElem?_range h]
    show _ = some (openSo s n d)
    rw [openSo_fold]
  · rw [List.getElem?_eq_none (by unfold lawRow; rw [fold_len, List.length_replicate]; omega), List.getElem?_eq_none (by unfold rowOf; rw [List.length_map, List.length_range]; omega)]
theorem rowOf_len (s : Scr) (n : Nat) : (rowOf s n).length = n := by unfold rowOf; rw [List.length_map, List.length_range]
/-- the doors that a walker comes to, as the law lists them -/
def cutM (m : Option Int) (l : List Int) : List Int := match m with
  | none => l
  | some m => l.take m.toNat
def turnsOf (w : Wk) (n : Int) : Nat := (Builtin.Range.rangeSize w.first n w.step).toNat
def baseD (w : Wk) (n : Int) : List Int := cutM w.many ((List.range (turnsOf w n)).map fun (i : Nat) => w.first + (i : Int) * w.step)
def doorsL (w : Wk) (n : Int) : List Int := if w.left then baseD w n else (baseD w n).map fun d => n - 1 - d
theorem turns_lt {w : Wk} (ok : w.Ok) {n : Int} (i : Nat) : i < turnsOf w n ↔ w.first + (i : Int) * w.step < n := by
  have s1 := ok.s1
  unfold turnsOf Builtin.Range.rangeSize
  rw [if_pos (show w.step > 0 by omega)]
  generalize w.first = f
  generalize w.step = s at s1
  by_cases h : f < n
  · rw [if_pos h]
    have e := Int.mul_ediv_add_emod (n - f - 1) s
    have e1 := Int.emod_nonneg (n - f - 1) (show s ≠ 0 by omega)
    have e2 := Int.emod_lt_of_pos (n - f - 1) (show 0 < s by omega)
    have e3 : 0 ≤ (n - f - 1) / s := Int.ediv_nonneg (by omega) (by omega)
    generalize (n - f - 1) / s = q at e e3
    generalize (n - f - 1) % s = r at e e1 e2
    constructor
    · intro hi
      have h4 : (i : Int) ≤ q := by omega
      have h5 : (i : Int) * s ≤ s * q := by rw [Int.mul_comm s q]; exact Int.mul_le_mul_of_nonneg_right h4 (by omega)
      omega
    · intro hi
      have h4 : (i : Int) < q + 1 := by
        apply Int.lt_of_not_ge
        intro h6
        have h5 : s * (q + 1) ≤ (i : Int) * s := by rw [Int.mul_comm s]; exact Int.mul_le_mul_of_nonneg_right h6 (by omega)
        rw [Int.mul_add, Int.mul_one] at h5
        omega
      omega
  · rw [if_neg h]
    constructor
    · intro hi
      simp at hi
    · intro hi
      have h5 : 0 ≤ (i : Int) * s := Int.mul_nonneg (Int.natCast_nonneg _) (by omega)
      omega
theorem mem_base {w : Wk} (ok : w.Ok) {n e : Int} : e ∈ baseD w n ↔ ∃ i : Nat, e = w.first + (i : Int) * w.step ∧ e < n ∧ ∀ m, w.many = some m → (i : Int) < m := by
  unfold baseD
  cases hm : w.many with
  | none =>
    show e ∈ (List.range (turnsOf w n)).map _ ↔ _
    rw [List.mem_map]
    constructor
    · rintro ⟨i, hi, rfl⟩
      exact ⟨i, rfl, (turns_lt ok i).mp (List.mem_range.mp hi), fun _ z => by cases z⟩
    · rintro ⟨i, rfl, hi, _⟩
      exact ⟨i, List.mem_range.mpr ((turns_lt ok i).mpr hi), rfl⟩
  | some m =>
    show e ∈ ((List.range (turnsOf w n)).map _).take m.toNat ↔ _
    rw [← List.map_take, List.take_range, List.mem_map]
    have m1 := (ok.m m hm).1
    constructor
    · rintro ⟨i, hi, rfl⟩
      have := List.mem_range.mp hi
      exact ⟨i, rfl, (turns_lt ok i).mp (by omega), fun _ z => by cases z; omega⟩
    · rintro ⟨i, rfl, hi, hl⟩
      have h1 := (turns_lt ok i).mpr hi
      have h2 := hl m rfl
      exact ⟨i, List.mem_range.mpr (by omega), rfl⟩
theorem far_iff {w : Wk} (ok : w.Ok) (e : Int) : (∃ i : Nat, e = w.first + (i : Int) * w.step ∧ ∀ m, w.many = some m → (i : Int) < m) ↔ 0 ≤ e - w.first ∧ (e - w.first) % w.step = 0 ∧ manyOk w (e - w.first) = true := by
  have s1 := ok.s1
  constructor
  · rintro ⟨i, rfl, hm⟩
    have e1 : w.first + (i : Int) * w.step - w.first = (i : Int) * w.step := by omega
    rw [e1]
    refine ⟨Int.mul_nonneg (Int.natCast_nonneg _) (by omega), Int.mul_emod_left .., ?_⟩
    unfold manyOk
    cases hq : w.many with
    | none => rfl
    | some m =>
      show decide ((i : Int) * w.step / w.step < m) = true
      rw [Int.mul_ediv_cancel _ (by omega)]
      exact decide_eq_true (hm m hq)
  · rintro ⟨h0, h1, h2⟩
    have e3 := Int.mul_ediv_add_emod (e - w.first) w.step
    rw [h1, Int.add_zero] at e3
    have h3 : 0 ≤ (e - w.first) / w.step := Int.ediv_nonneg h0 (by omega)
    obtain ⟨i, hi⟩ := Int.eq_ofNat_of_zero_le h3
    refine ⟨i, ?_, fun m hm => ?_⟩
    · rw [hi, Int.mul_comm] at e3
      show e = w.first + (i : Int) * w.step
      have : ((i : Nat) : Int) * w.step = e - w.first := e3
      omega
    · unfold manyOk at h2
      rw [hm] at h2
      have := of_decide_eq_true h2
      rw [hi] at this
      exact this
theorem mem_doors {w : Wk} (ok : w.Ok) {n d : Int} : d ∈ doorsL w n ↔ 0 ≤ d ∧ d < n ∧ comesTo w n d = true := by
  have f0 := ok.f0
  have s1 := ok.s1
  have key : ∀ e : Int, e ∈ baseD w n ↔ 0 ≤ e ∧ e < n ∧ (0 ≤ e - w.first ∧ (e - w.first) % w.step = 0 ∧ manyOk w (e - w.first) = true) := fun e => by
    rw [mem_base ok, ← far_iff ok]
    constructor
    · rintro ⟨i, rfl, h1, h2⟩
      have : 0 ≤ (i : Int) * w.step := Int.mul_nonneg (Int.natCast_nonneg _) (by omega)
      exact ⟨by omega, h1, i, rfl, h2⟩
    · rintro ⟨h0, h1, i, e1, h2⟩
      exact ⟨i, e1, h1, h2⟩
  unfold doorsL comesTo far
  cases w.left with
  | true =>
    show d ∈ baseD w n ↔ 0 ≤ d ∧ d < n ∧ (decide (0 ≤ d - w.first) && (decide ((d - w.first) % w.step = 0) && manyOk w (d - w.first))) = true
    rw [key]
    simp only [Bool.and_eq_true, decide_eq_true_eq]
  | false =>
    show d ∈ (baseD w n).map (fun d => n - 1 - d) ↔ 0 ≤ d ∧ d < n ∧ (decide (0 ≤ n - 1 - d - w.first) && (decide ((n - 1 - d - w.first) % w.step = 0) && manyOk w (n - 1 - d - w.first))) = true
    simp only [Bool.and_eq_true, decide_eq_true_eq]
    constructor
    · intro h
      obtain ⟨e, he, rfl⟩ := List.mem_map.mp h
      obtain ⟨h1, h2, h3⟩ := (key e).mp he
      have e2 : n - 1 - (n - 1 - e) = e := by omega
      rw [e2]
      exact ⟨by omega, by omega, h3⟩
    · rintro ⟨h1, h2, h3⟩
      exact List.mem_map.mpr ⟨n - 1 - d, (key _).mpr ⟨by omega, by omega, h3⟩, by omega⟩
theorem nodup_base {w : Wk} (ok : w.Ok) (n : Int) : (baseD w n).Nodup := by
  have s1 := ok.s1
  have h : ((List.range (turnsOf w n)).map fun (i : Nat) => w.first + (i : Int) * w.step).Nodup := by
    refine List.Pairwise.map (R := fun a b : Nat => a ≠ b) _ (fun a b hab e => hab ?_) List.nodup_range
    have : (a : Int) * w.step = (b : Int) * w.step := by omega
    have := Int.eq_of_mul_eq_mul_right (show w.step ≠ 0 by omega) this
    omega
  unfold baseD
  cases w.many with
  | none => exact h
  | some m => exact List.Sublist.nodup (List.take_sublist ..) h
theorem nodup_doors {w : Wk} (ok : w.Ok) (n : Int) : (doorsL w n).Nodup := by
  unfold doorsL
  cases w.left with
  | true => exact nodup_base ok n
  | false =>
    show ((baseD w n).map fun d => n - 1 - d).Nodup
    refine List.Pairwise.map (R := fun a b : Int => a ≠ b) _ (fun a b hab e => hab (by omega)) (nodup_base ok n)
theorem turns_le {w : Wk} (ok : w.Ok) {n : Int} (hn : n ≤ 10000) : turnsOf w n ≤ 10000 := by
  apply Nat.le_of_not_lt
  intro h
  have := (turns_lt ok 10000).mp h
  have s1 := ok.s1
  have f0 := ok.f0
  have : (10000 : Int) * 1 ≤ ((10000 : Nat) : Int) * w.step := Int.mul_le_mul_of_nonneg_left s1 (by decide)
  omega
def upTo (bs : List Bool) (w : Wk) (S : List Int) : List Bool := bs.mapIdx fun d b => if (d : Int) ∈ S then act w.deed b else b
theorem upTo_len (bs : List Bool) (w : Wk) (S : List Int) : (upTo bs w S).length = bs.length := by unfold upTo; rw [List.length_mapIdx]
theorem upTo_get {bs : List Bool} {w : Wk} {S : List Int} {d : Nat} (h : d < bs.length) : (upTo bs w S)[d]? = some (if (d : Int) ∈ S then act w.deed bs[d] else bs[d]) := by
  unfold upTo
  rw [List.getElem?_mapIdx, List.getElem?_eq_getElem h]
  rfl
theorem upTo_snoc {bs : List Bool} {w : Wk} {S : List Int} {d : Nat} (h : d < bs.length) (hn : (d : Int) ∉ S) : (upTo bs w S).set d (act w.deed bs[d]) = upTo bs w (S ++ [(d : Int)]) := by
  refine List.ext_getElem? fun e => ?_
  by_cases he : e < bs.length
  · rw [upTo_get he, List.getElem?_set]
    by_cases q : d = e
    · subst q
      rw [if_pos rfl, if_pos (by rw [upTo_len]; exact h), if_pos (by simp)]
    · rw [if_neg q, upTo_get he]
      have : ((e : Int) ∈ S ++ [(d : Int)]) ↔ (e : Int) ∈ S := by
        rw [List.mem_append, List.mem_singleton]
        constructor
        · rintro (z | z)
          · exact z
          · omega
        · exact .inl
      simp only [this]
  · rw [List.getElem?_eq_none (by rw [List.length_set, upTo_len]; omega), List.getElem?_eq_none (by rw [upTo_len]; omega)]
theorem upTo_nil (bs : List Bool) (w : Wk) : upTo bs w [] = bs := by
  refine List.ext_getElem? fun e => ?_
  by_cases he : e < bs.length
  · rw [upTo_get he, if_neg (by simp), List.getElem?_eq_getElem he]
  · rw [List.getElem?_eq_none (by rw [upTo_len]; omega), List.getElem?_eq_none (by omega)]
theorem upTo_all {bs : List Bool} {w : Wk} (ok : w.Ok) : upTo bs w (doorsL w bs.length) = walked bs w := by
  refine List.ext_getElem? fun e => ?_
  by_cases he : e < bs.length
  · rw [upTo_get he, walked_get he]
    unfold actAt
    congr 1
    by_cases q : comesTo w bs.length e = true
    · rw [if_pos q, if_pos ((mem_doors ok).mpr ⟨by omega, by omega, q⟩)]
    · rw [if_neg q, if_neg (fun z => q ((mem_doors ok).mp z).2.2)]
  · rw [List.getElem?_eq_none (by rw [upTo_len]; omega), List.getElem?_eq_none (by rw [walked_len]; omega)]
def signW (b : Bool) : Str := if b then "o" else "s"
def signsOf (bs : List Bool) : Str := Txt.join "" (bs.map signW)
theorem signs_len (b : Bool) : (signW b).length = 1 := by cases b <;> decide +kernel
theorem signs_sum : ∀ bs : List Bool, ((bs.map signW).map (·.length)).sum = bs.length
  | [] => rfl
  | b :: r => by
    rw [List.map_cons, List.map_cons, List.sum_cons, signs_sum r, signs_len, List.length_cons, Nat.add_comm]
/-! ### the scripts of the document -/
def doc1 : Scr := [⟨true, .op, 0, 2, none⟩]
def doc2 : Scr := doc1 ++ [⟨false, .tu, 0, 3, none⟩]
def doc3 : Scr := [⟨true, .tu, 0, 1, none⟩, ⟨true, .tu, 1, 2, none⟩, ⟨true, .tu, 2, 3, none⟩]
def doc4 : Scr := [⟨true, .op, 0, 1, some 3⟩, ⟨false, .sh, 0, 1, some 2⟩]
def doc5 : Scr := [⟨false, .op, 0, 1, none⟩]
theorem strCase (d : PyData) : (∃ s, d = .str s) ∨ (kitB (tyN d) "str" = some false ∧ ∀ ws, isWordD d ws = false) := by
  cases d with
  | str s => exact .inl ⟨s, rfl⟩
  | none => exact .inr ⟨kk_NoneType_str, fun _ => rfl⟩
  | bool _ => exact .inr ⟨kk_bool_str, fun _ => rfl⟩
  | int _ => exact .inr ⟨kk_int_str, fun _ => rfl⟩
  | list _ => exact .inr ⟨kk_list_str, fun _ => rfl⟩
  | tuple _ => exact .inr ⟨kk_tuple_str, fun _ => rfl⟩
  | dict _ => exact .inr ⟨by show kitB "dict" "str" = _; decide +kernel, fun _ => rfl⟩
theorem tupCase (d : PyData) : (∃ ds, d = .tuple ds) ∨ (kitB (tyN d) "tuple" = some false ∧ goodW d = false ∧ goodS d = false) := by
  cases d with
  | str s => exact .inr ⟨kk_str_tuple, rfl, rfl⟩
  | none => exact .inr ⟨kk_NoneType_tuple, rfl, rfl⟩
  | bool _ => exact .inr ⟨kk_bool_tuple, rfl, rfl⟩
  | int _ => exact .inr ⟨kk_int_tuple, rfl, rfl⟩
  | list _ => exact .inr ⟨kk_list_tuple, rfl, rfl⟩
  | tuple ds => exact .inl ⟨ds, rfl⟩
  | dict _ => exact .inr ⟨by show kitB "dict" "tuple" = _; decide +kernel, rfl, rfl⟩
theorem flat_strs : ∀ ws : List Str, (ws.map V.str).all flatV = true
  | [] => rfl
  | _ :: r => flat_strs r
theorem inV_strs (s : Str) : ∀ ws : List Str, inV (.str s) (ws.map V.str) = ws.contains s
  | [] => rfl
  | z :: r => by
    have ih := inV_strs s r
    show (eqV (.str z) (.str s) || inV (.str s) (r.map V.str)) = (z :: r).contains s
    rw [ih, List.contains_cons]
    have e : eqV (.str z) (.str s) = (s == z) := by
      show (z == s) = (s == z)
      by_cases q : z = s
      · rw [q]
      · rw [beq_eq_false_iff_ne.mpr q, beq_eq_false_iff_ne.mpr (Ne.symm q)]
    rw [e]
theorem dpAll_len {K : PySem.W.Frag} {H : Hp} : ∀ {xs : List V} {ds : List PyData}, DpAll K H xs ds → xs.length = ds.length
  | _, _, .nil => rfl
  | _, _, .cons _ t => congrArg (· + 1) (dpAll_len t)
theorem dpAll_get {K : PySem.W.Frag} {H : Hp} : ∀ {xs : List V} {ds : List PyData} {i : Nat} {x : V}, DpAll K H xs ds → xs[i]? = some x → ∃ d, ds[i]? = some d ∧ Dp K H x d
  | _, _, _, _, .nil, e => by simp at e
  | _, _, 0, _, .cons r _, e => by simp at e; subst e; exact ⟨_, rfl, r⟩
  | _, _, i + 1, x, .cons _ t, e => by
    obtain ⟨u, h1, h2⟩ := dpAll_get (i := i) (x := x) t (by simpa using e)
    exact ⟨u, by simpa using h1, h2⟩
theorem dpAll_get' {K : PySem.W.Frag} {H : Hp} : ∀ {xs : List V} {ds : List PyData} {i : Nat} {d : PyData}, DpAll K H xs ds → ds[i]? = some d → ∃ x, xs[i]? = some x ∧ Dp K H x d
  | _, _, _, _, .nil, e => by simp at e
  | _, _, 0, _, .cons r _, e => by simp at e; subst e; exact ⟨_, rfl, r⟩
  | _, _, i + 1, x, .cons _ t, e => by
    obtain ⟨u, h1, h2⟩ := dpAll_get' (i := i) (d := x) t (by simpa using e)
    exact ⟨u, by simpa using h1, h2⟩
theorem dpAll_app {K : PySem.W.Frag} {H : Hp} : ∀ {xs ys : List V} {ds es : List PyData}, DpAll K H xs ds → DpAll K H ys es → DpAll K H (xs ++ ys) (ds ++ es)
  | _, _, _, _, .nil, r => r
  | _, _, _, _, .cons r t, q => .cons r (dpAll_app t q)
theorem dpAll_take {K : PySem.W.Frag} {H : Hp} : ∀ {xs : List V} {ds : List PyData} (n : Nat), DpAll K H xs ds → DpAll K H (xs.take n) (ds.take n)
  | _, _, 0, _ => .nil
  | _, _, _ + 1, .nil => .nil
  | _, _, n + 1, .cons r t => .cons r (dpAll_take n t)
theorem dpAll_drop {K : PySem.W.Frag} {H : Hp} : ∀ {xs : List V} {ds : List PyData} (n : Nat), DpAll K H xs ds → DpAll K H (xs.drop n) (ds.drop n)
  | _, _, 0, r => r
  | _, _, _ + 1, .nil => .nil
  | _, _, n + 1, .cons _ t => dpAll_drop n t
/-- data of at most k storeys, each of at most L items -/
def Dk (L : Nat) : Nat → PyData → Prop
  | _, .none => True
  | _, .bool _ => True
  | _, .int _ => True
  | _, .str s => PyData.strOk s = true
  | k + 1, .tuple ds => ds.length ≤ L ∧ ∀ d ∈ ds, Dk L k d
  | k + 1, .list ds => ds.length ≤ L ∧ ∀ d ∈ ds, Dk L k d
  | _, _ => False
theorem Dk.mono {L L' : Nat} (hL : L ≤ L') : ∀ {k k' : Nat} {d : PyData}, k ≤ k' → Dk L k d → Dk L' k' d := fun {k} => by
  induction k with
  | zero =>
    intro k' d _ h
    cases d with
    | tuple _ => exact h.elim
    | list _ => exact h.elim
    | dict _ => exact h.elim
    | str s => cases k' <;> exact h
    | none => cases k' <;> exact trivial
    | bool _ => cases k' <;> exact trivial
    | int _ => cases k' <;> exact trivial
  | succ k ih =>
    intro k' d hk h
    obtain ⟨j, rfl⟩ : ∃ j, k' = j + 1 := ⟨k' - 1, by omega⟩
    cases d with
    | tuple ds => exact ⟨Nat.le_trans h.1 hL, fun d hd => ih (by omega) (h.2 d hd)⟩
    | list ds => exact ⟨Nat.le_trans h.1 hL, fun d hd => ih (by omega) (h.2 d hd)⟩
    | dict _ => exact h.elim
    | str s => exact h
    | none => exact trivial
    | bool _ => exact trivial
    | int _ => exact trivial
theorem canLayAll_of : ∀ {ds : List PyData}, (∀ d ∈ ds, d.canLay0 = true) → PyData.canLayAll0 ds = true
  | [], _ => rfl
  | d :: r, h => by
    show (d.canLay0 && PyData.canLayAll0 r) = true
    rw [h d List.mem_cons_self, canLayAll_of fun x hx => h x (List.mem_cons_of_mem _ hx)]
    rfl
theorem depthAll_of {k : Nat} : ∀ {ds : List PyData}, (∀ d ∈ ds, d.depth ≤ k) → PyData.depthAll ds ≤ k
  | [], _ => Nat.zero_le _
  | d :: r, h => Nat.max_le.mpr ⟨h d List.mem_cons_self, depthAll_of fun x hx => h x (List.mem_cons_of_mem _ hx)⟩
theorem Dk.lay {L : Nat} : ∀ {k : Nat} {d : PyData}, Dk L k d → d.canLay0 = true ∧ d.depth ≤ k := fun {k} => by
  induction k with
  | zero =>
    intro d h
    cases d with
    | tuple _ => exact h.elim
    | list _ => exact h.elim
    | dict _ => exact h.elim
    | str s => exact ⟨h, Nat.le_refl _⟩
    | none => exact ⟨rfl, Nat.le_refl _⟩
    | bool _ => exact ⟨rfl, Nat.le_refl _⟩
    | int _ => exact ⟨rfl, Nat.le_refl _⟩
  | succ k ih =>
    intro d h
    cases d with
    | tuple ds => exact ⟨canLayAll_of fun x hx => (ih (h.2 x hx)).1, Nat.succ_le_succ (depthAll_of fun x hx => (ih (h.2 x hx)).2)⟩
    | list ds => exact ⟨canLayAll_of fun x hx => (ih (h.2 x hx)).1, Nat.succ_le_succ (depthAll_of fun x hx => (ih (h.2 x hx)).2)⟩
    | dict _ => exact h.elim
    | str s => exact ⟨h, Nat.zero_le _⟩
    | none => exact ⟨rfl, Nat.zero_le _⟩
    | bool _ => exact ⟨rfl, Nat.zero_le _⟩
    | int _ => exact ⟨rfl, Nat.zero_le _⟩
theorem Dk.shaped {L k : Nat} {d : PyData} (h : Dk L k d) (hk : k ≤ 64) : SeqAt.shaped d = true := by
  unfold SeqAt.shaped
  rw [h.lay.1, decide_eq_true (Nat.le_trans h.lay.2 hk)]
  rfl
def dkB (L : Nat) : Nat → PyData → Bool
  | _, .none => true
  | _, .bool _ => true
  | _, .int _ => true
  | _, .str s => PyData.strOk s
  | k + 1, .tuple ds => decide (ds.length ≤ L) && ds.all (dkB L k)
  | k + 1, .list ds => decide (ds.length ≤ L) && ds.all (dkB L k)
  | _, _ => false
theorem dk_of {L : Nat} : ∀ {k : Nat} {d : PyData}, dkB L k d = true → Dk L k d := fun {k} => by
  induction k with
  | zero =>
    intro d h
    cases d with
    | tuple _ => cases h
    | list _ => cases h
    | dict _ => cases h
    | str s => exact h
    | none => exact trivial
    | bool _ => exact trivial
    | int _ => exact trivial
  | succ k ih =>
    intro d h
    cases d with
    | tuple ds =>
      have h2 : (decide (ds.length ≤ L) && ds.all (dkB L k)) = true := h
      rw [Bool.and_eq_true, decide_eq_true_eq, List.all_eq_true] at h2
      exact ⟨h2.1, fun d hd => ih (h2.2 d hd)⟩
    | list ds =>
      have h2 : (decide (ds.length ≤ L) && ds.all (dkB L k)) = true := h
      rw [Bool.and_eq_true, decide_eq_true_eq, List.all_eq_true] at h2
      exact ⟨h2.1, fun d hd => ih (h2.2 d hd)⟩
    | dict _ => cases h
    | str s => exact h
    | none => exact trivial
    | bool _ => exact trivial
    | int _ => exact trivial
theorem IsScr.hide {K : PySem.W.Frag} {H : Hp} {p : Addr} {v : V} {s : Scr} (hp : Src H p) (h : IsScr K H v s) : IsScr K (Dt.hide p H) v s := by
  obtain ⟨a, vs, e, q, r⟩ := h
  exact ⟨a, vs, e, SqT.hide hp q, Paired.mapP r fun _ _ ⟨b, e, q⟩ => ⟨b, e, SqT.hide hp q⟩⟩
theorem IsWk.hide {K : PySem.W.Frag} {H : Hp} {p : Addr} {v : V} {s : Wk} (hp : Src H p) (h : IsWk K H v s) : IsWk K (Dt.hide p H) v s := by
  obtain ⟨b, e, q⟩ := h
  exact ⟨b, e, SqT.hide hp q⟩
theorem dk_wk (w : Wk) : Dk 8 1 w.toD := by
  have so : ∀ s : Str, s ∈ ([("left" : Str), "right", "open", "shut", "turn"] : List Str) → PyData.strOk s = true := by
    intro s hs
    have : ([("left" : Str), "right", "open", "shut", "turn"] : List Str).all PyData.strOk = true := by decide +kernel
    exact List.all_eq_true.mp this s hs
  refine ⟨Nat.le_of_ble_eq_true rfl, fun d hd => ?_⟩
  simp only [List.mem_cons, List.not_mem_nil, or_false] at hd
  rcases hd with rfl | rfl | rfl | rfl | rfl
  · cases w.left
    · exact so _ (by simp [endS])
    · exact so _ (by simp [endS])
  · cases w.deed
    · exact so _ (by simp [Deed.s])
    · exact so _ (by simp [Deed.s])
    · exact so _ (by simp [Deed.s])
  · exact trivial
  · exact trivial
  · cases w.many <;> exact trivial
theorem dk_scr {s : Scr} (h : s.length ≤ 8) : Dk 8 2 (toDS s) := by
  refine ⟨by rw [List.length_map]; exact h, fun d hd => ?_⟩
  obtain ⟨w, _, rfl⟩ := List.mem_map.mp hd
  exact dk_wk w
def wkB (w : Wk) : Bool := decide (0 ≤ w.first) && decide (w.first ≤ 5) && decide (1 ≤ w.step) && decide (w.step ≤ 6) && (match w.many with | none => true | some m => decide (1 ≤ m) && decide (m ≤ 9))
theorem wk_ok {w : Wk} (h : wkB w = true) : w.Ok := by
  unfold wkB at h
  simp only [Bool.and_eq_true, decide_eq_true_eq] at h
  obtain ⟨⟨⟨⟨h1, h2⟩, h3⟩, h4⟩, h5⟩ := h
  refine ⟨h1, h2, h3, h4, fun m e => ?_⟩
  rw [e] at h5
  simp only [Bool.and_eq_true, decide_eq_true_eq] at h5
  exact h5
theorem scr_ok {s : Scr} (h : (decide (s.length ≤ 8) && s.all wkB) = true) : ScrOk s := by
  rw [Bool.and_eq_true, decide_eq_true_eq, List.all_eq_true] at h
  exact ⟨h.1, fun w hw => wk_ok (h.2 w hw)⟩
end Dt

namespace Dt
open PySem PySem.Spec PyProof.Rows L2
section
variable {K : PySem.W.Frag} {σ : L2.St} {H : Hp} {Q : VK} {D : Ends}
/-! ### for i, x in enumerate(xs) -/
def forE (K : PySem.W.Frag) (g : TG) (tb : TS) (D : Ends) (σ : L2.St) : List V → Hp → Prop := fun vs H1 => ∃ a xs, vs = [.ref a] ∧ SqL K H1 a xs ∧ forR g tb D σ (Ite K a) H1
theorem r_forE {ta : TA} {g : TG} {tb : TS} (h : ta σ H (forE K g tb D σ)) : tFor (iEnum K ta) g tb D σ H := h
theorem forE_by {a : Addr} {xs : List V} {g : TG} {tb : TS} (Pv : Nat → L2.St → Hp → Prop) (hS : SqL K H a xs) (h0 : Pv 0 σ H) (hl : ∀ i σ H, i ≤ xs.length → Pv i σ H → SqL K H a xs)
    (hs : ∀ i x T σ H H', xs[i]? = some x → Pv i σ H → H T = none → Same H H' → H' T = some (.tup [.int (i : Nat), x]) → (∀ q, q ≠ T → H' q = H q) → g (.ref T) σ H' fun σ2 H2 => tb { D with nx := Pv (i + 1), ct := Pv (i + 1), bk := D.nx } σ2 H2)
    (hd : ∀ σ H, Pv xs.length σ H → D.nx σ H) : forE K g tb D σ [.ref a] H := by
  refine ⟨a, xs, rfl, hS, fun i m σ H => m = xs.length - i ∧ i ≤ xs.length ∧ Pv i σ H, ⟨xs.length, rfl, Nat.zero_le _, h0⟩, ?_⟩
  rintro i m σ H ⟨rfl, hi, p⟩
  have q := hl i σ H hi p
  by_cases hlt : i < xs.length
  · refine .inr ⟨⟨xs, xs[i], q, by simp [hlt]⟩, Pv (i + 1), fun σ' H' p' => ⟨xs.length - (i + 1), by omega, rfl, hlt, p'⟩, fun x H' y => ?_⟩
    obtain ⟨T, x, rfl, hT, rfl, hx⟩ := y
    exact hs i x T σ H _ (hx xs q) p hT (same_upd hT) upd_same fun _ hne => upd_ne hne
  · have e : i = xs.length := by omega
    subst e
    exact .inl ⟨⟨xs, q, Nat.le_refl _⟩, hd σ H p⟩
/-! ### a method of a built-in type, append -/
def bmK (K : PySem.W.Frag) (T : String) (r : V → List V → Hp → VK → Prop) (t : TA) (σ : L2.St) (Q : VK) : VK := fun x H1 => tyV K T x H1 ∧ t σ H1 fun xs H2 => r x xs H2 Q
theorem r_bm {T : String} {r : V → List V → Hp → VK → Prop} {to : TE} {t : TA} (h : to σ H (bmK K T r t σ Q)) : tBM K T r to t σ H Q := h
theorem r_bmL {r : V → List V → Hp → VK → Prop} {t : TA} {a : Addr} {xs : List V} (hs : SqL K H a xs) (h : t σ H fun vs H2 => r (.ref a) vs H2 Q) : bmK K "list" r t σ Q (.ref a) H := ⟨.inl ⟨rfl, _, hs⟩, h⟩
theorem r_append {l : Addr} {xs : List V} {y : V} (hl : H l = some (.lst xs)) (hz : xs.length < sizeLine) (h : ∀ H', H' l = some (.lst (xs ++ [y])) → (∀ q, q ≠ l → H' q = H q) → Q .non H') : rAppend (.ref l) [y] H Q :=
  ⟨l, xs, y, rfl, rfl, hl, hz, h _ upd_same fun _ hne => upd_ne hne⟩
/-- a list that is new since H has grown -/
theorem same_grow {H0 H1 H2 : Hp} {l : Addr} (s : Same H0 H1) (n : H0 l = none) (f : ∀ q, q ≠ l → H2 q = H1 q) : Same H0 H2 := fun b o e => by
  rw [f b (ne_of_none e n)]
  exact s _ _ e
end
theorem ne_none' {H H' : Hp} {d : Addr} (s : Same H H') (n : H' d = none) : H d = none := by
  cases e : H d with
  | none => rfl
  | some o =>
    rw [s d o e] at n
    cases n
/-! ### ways that meet again -/
theorem if_dm {p : Prop} [Decidable p] {A B G : Prop} (hG : G) (h1 : p → G → A) (h2 : ¬ p → G → B) : if decide p = true then A else B := if_d (fun h => h1 h hG) (fun h => h2 h hG)
theorem if_ndm {p : Prop} [Decidable p] {A B G : Prop} (hG : G) (h1 : ¬ p → G → A) (h2 : p → G → B) : if (!decide p) = true then A else B := if_nd (fun h => h1 h hG) (fun h => h2 h hG)
theorem if_bm {c : Bool} {A B G : Prop} (hG : G) (h1 : c = true → G → A) (h2 : c = false → G → B) : if c = true then A else B := if_b (fun h => h1 h hG) (fun h => h2 h hG)
theorem if_dh {p : Prop} [Decidable p] {A B : Prop} {G : Hp → Prop} (H1 : Hp) (hG : ∀ H2, Same H1 H2 → G H2) (h1 : p → (∀ H2, Same H1 H2 → G H2) → A) (h2 : ¬ p → (∀ H2, Same H1 H2 → G H2) → B) : if decide p = true then A else B := if_d (fun h => h1 h hG) (fun h => h2 h hG)
theorem if_bh {c : Bool} {A B : Prop} {G : Hp → Prop} (H1 : Hp) (hG : ∀ H2, Same H1 H2 → G H2) (h1 : c = true → (∀ H2, Same H1 H2 → G H2) → A) (h2 : c = false → (∀ H2, Same H1 H2 → G H2) → B) : if c = true then A else B := if_b (fun h => h1 h hG) (fun h => h2 h hG)
theorem sh_refl {d : PyData} (h : SeqAt.shaped d = true) : PyData.eqv d d = true := by
  unfold SeqAt.shaped at h
  rw [Bool.and_eq_true] at h
  exact SeqAt.eqv_refl d h.1
/-! ### within a comprehension's block the written part goes by its own name -/
section
variable {X : Cx} {K : PySem.W.Frag}
theorem ix_tupK (hK : X.K = K) : IxR X (rIxT K) := by subst hK; exact ix_tup
theorem ix_listK (hK : X.K = K) : IxR X (rIxL K) := by subst hK; exact ix_list
theorem c_lenK (hK : X.K = K) : CallR X (.builtin "len") (rLenS K) := by subst hK; exact c_len
theorem sl_listK (hK : X.K = K) : SlR X (rSlL K) := by subst hK; exact sl_list
theorem sl_tupAK (hK : X.K = K) : SlR X (rSlA K) := by subst hK; exact sl_tupA
theorem op_eqDK (hK : X.K = K) (hu : X.A.units + 64 < cLine) : OpR X (compareOp .Eq) (rEqD K) := by subst hK; exact op_eqD hu
theorem op_neDK (hK : X.K = K) (hu : X.A.units + 64 < cLine) : OpR X (compareOp .NotEq) (rNeD K) := by subst hK; exact op_neD hu
theorem op_in_seqK (hK : X.K = K) : OpR X (compareOp .In) (rIn K false) := by subst hK; exact op_in_seq
theorem op_notIn_seqK (hK : X.K = K) : OpR X (compareOp .NotIn) (rIn K true) := by subst hK; exact op_notIn_seq
theorem call_isiK (hK : X.K = K) : CallR X (.builtin "isinstance") (rIsi K) := by subst hK; exact call_isi
theorem cr_allK (hK : X.K = K) (hc : X.calm = true) : CallR X (.builtin "all") (rAll K) := by subst hK; exact cr_all hc
theorem op_catAK (hK : X.K = K) : OpR X (binaryOp .Add) (rCatA K) := by subst hK; exact op_catA
theorem c_tupOfK (hK : X.K = K) : CallR X (.type "tuple") (rTupOf K) := by subst hK; exact c_tupOf
theorem c_listOfK (hK : X.K = K) : CallR X (.type "list") (rListOf K) := by subst hK; exact c_listOf
end
end Dt

local macro_rules | `(tactic| walk_at "go1") => `(tactic| first
  | ((with_reducible refine Dt.r_var (v := ?v) ?k1 ?k2); (case k1 => rfl))
  | (with_reducible refine Dt.r_C ?_)
  | (with_reducible refine Dt.r_op ?_)
  | (with_reducible refine Dt.r_un ?_)
  | (with_reducible refine Dt.r_I0 ?_)
  | (with_reducible refine Dt.r_U ?_)
  | (with_reducible refine Dt.r_asB ?_)
  | (with_reducible refine Dt.r_test ?_)
  | (with_reducible refine Dt.r_tB ?_)
  | (with_reducible refine Dt.r_and ?_)
  | (with_reducible refine Dt.r_or ?_)
  | (with_reducible refine Dt.r_not ?_)
  | (with_reducible refine Dt.r_andV ?_)
  | (with_reducible refine Dt.r_orV ?_)
  | (with_reducible refine Dt.r_notV ?_)
  | (with_reducible refine Dt.r_if ?_)
  | (with_reducible refine Dt.r_ifS ?_)
  | (with_reducible refine Dt.r_next ?_)
  | (with_reducible refine Dt.r_seq ?_)
  | (with_reducible refine Dt.r_brk ?_)
  | (with_reducible refine Dt.r_cont ?_)
  | (with_reducible refine Dt.r_drop ?_)
  | (with_reducible refine Dt.r_ret ?_)
  | (with_reducible refine Dt.r_retN ?_)
  | (with_reducible refine Dt.r_gName ?_)
  | (with_reducible refine Dt.r_asg ?_)
  | (with_reducible refine Dt.r_par ?_)
  | (with_reducible refine Dt.r_par2 ?_)
  | (with_reducible refine Dt.r_nil ?_)
  | (with_reducible refine Dt.r_cons ?_)
  | (with_reducible refine Dt.r_call ?_)
  | (with_reducible refine Dt.r_CB ?_)
  | (with_reducible refine Dt.r_chain ?_)
  | (with_reducible refine Dt.r_gCons ?_)
  | (with_reducible refine Dt.r_gNil ?_)
  | (with_reducible refine Dt.r_isN ?_)
  | (with_reducible refine Dt.r_notN ?_)
  | (with_reducible refine Dt.r_int ?_)
  | (with_reducible refine Dt.r_intB ?_)
  | (with_reducible refine Dt.r_abs ?_)
  | (with_reducible refine Dt.r_min2 ?_)
  | (with_reducible refine Dt.r_max2 ?_)
  | (with_reducible refine Dt.r_tup ?_)
  | (with_reducible refine Dt.r_lst ?_)
  | (with_reducible refine Dt.r_true ?_)
  | (with_reducible refine Dt.r_false ?_)
  | (with_reducible refine Dt.r_notTrue ?_)
  | (with_reducible refine Dt.r_notFalse ?_)
  | ((with_reducible refine Dt.r_eq ?k1 ?k2); (case k1 => rfl))
  | ((with_reducible refine Dt.r_ne ?k1 ?k2); (case k1 => rfl))
  | ((with_reducible refine Dt.r_ixT (xs := ?xs) (v := ?v) ?k1 ?k2 ?k3); (case k1 => walk_at "hp"); (case k2 => rfl))
  | ((with_reducible refine Dt.r_ixL (xs := ?xs) (v := ?v) ?k1 ?k2 ?k3); (case k1 => walk_at "hp"); (case k2 => rfl))
  | ((with_reducible refine Dt.r_gTup (xs := ?xs) ?k1 ?k2 ?k3); (case k1 => walk_at "hp"); (case k2 => rfl))
  | ((with_reducible refine Dt.r_lenT (xs := ?xs) ?k1 ?k2); (case k1 => walk_at "hp"))
  | ((with_reducible refine Dt.r_lenL (xs := ?xs) ?k1 ?k2); (case k1 => walk_at "hp"))
  | ((with_reducible refine Dt.r_listL (ys := ?xs) ?k1 ?k2); (case k1 => walk_at "hp"))
  | ((with_reducible refine Dt.r_tupL (ys := ?xs) ?k1 ?k2); (case k1 => walk_at "hp"))
  | (with_reducible refine Dt.r_gSub ?_)
  | (with_reducible refine Dt.r_m1 ?_)
  | (with_reducible refine Dt.r_m1K ?_)
  | (with_reducible refine Dt.r_part ?_)
  | (with_reducible refine Dt.r_partK ?_)
  | (with_reducible refine Dt.r_noPart ?_)
  | (with_reducible refine Dt.r_sl ?_)
  | (with_reducible refine Dt.r_lst3 ?_)
  | ((with_reducible refine Dt.r_slT (xs := ?xs) ?k1 ?k2); (case k1 => walk_at "hp"))
  | ((with_reducible refine Dt.r_slL (xs := ?xs) ?k1 ?k2); (case k1 => walk_at "hp"))
  | (with_reducible refine Dt.r_forT ?_)
  | (with_reducible refine Dt.r_forL ?_)
  | (with_reducible refine Dt.r_forR1 ?_)
  | (with_reducible refine Dt.r_forR2 ?_)
  | (with_reducible refine Dt.r_lcT ?_)
  | (with_reducible refine Dt.r_lcL ?_)
  | (with_reducible refine Dt.r_lcR1 ?_)
  | (with_reducible refine Dt.r_lcR2 ?_)
  | (with_reducible refine Dt.r_lcB1 ?_)
  | (with_reducible refine Dt.r_lcB ?_)
  | (with_reducible refine Dt.r_forE ?_)
  | (with_reducible refine Dt.r_bm ?_)
  | ((with_reducible refine Dt.r_bmL (xs := ?xs) ?k1 ?k2); (case k1 => walk_at "hp"))
  | ((with_reducible refine Dt.r_newT ?k1 ?k2); (case k1 => exact Dt.small_b rfl))
  | ((with_reducible refine Dt.r_newL ?k1 ?k2); (case k1 => exact Dt.small_b rfl)))
local macro_rules | `(tactic| walk_at "go") => `(tactic| repeat walk_at "go1")
local macro_rules | `(tactic| walk_at "kk") => `(tactic| first | exact Dt.kk_NoneType_int | exact Dt.kk_NoneType_bool | exact Dt.kk_NoneType_str | exact Dt.kk_NoneType_tuple | exact Dt.kk_NoneType_list | exact Dt.kk_bool_int | exact Dt.kk_bool_bool | exact Dt.kk_bool_str | exact Dt.kk_bool_tuple | exact Dt.kk_bool_list | exact Dt.kk_int_int | exact Dt.kk_int_bool | exact Dt.kk_int_str | exact Dt.kk_int_tuple | exact Dt.kk_int_list | exact Dt.kk_str_int | exact Dt.kk_str_bool | exact Dt.kk_str_str | exact Dt.kk_str_tuple | exact Dt.kk_str_list | exact Dt.kk_list_int | exact Dt.kk_list_bool | exact Dt.kk_list_str | exact Dt.kk_list_tuple | exact Dt.kk_list_list | exact Dt.kk_tuple_int | exact Dt.kk_tuple_bool | exact Dt.kk_tuple_str | exact Dt.kk_tuple_tuple | exact Dt.kk_tuple_list)
local macro_rules | `(tactic| walk_at "hp") => `(tactic| first
  | assumption | exact L2.Same.refl _ | exact L2.SqT.of (by assumption) | exact L2.SqL.of (by assumption)
  | (refine Dt.Same.sqT (by assumption) ?_; walk_at "hp") | (refine L2.Same.seq (by assumption) ?_; walk_at "hp") | (refine Dt.Dp.mono (by assumption) ?_; walk_at "hp")
  | (refine Dt.IsWk.mono (by assumption) ?_; walk_at "hp") | (refine Dt.IsScr.mono (by assumption) ?_; walk_at "hp") | (refine Dt.IsScrs.mono (by assumption) ?_; walk_at "hp") | (refine Dt.IsPr.mono (by assumption) ?_; walk_at "hp")
  | (refine L2.Same.trans ?_ (by assumption); walk_at "hp"))

namespace Dt
open PySem PySem.Spec PyProof.Rows L2
/-! ### far from an end only rests count -/
def farOk (w : Wk) (x : Int) : Bool := decide (0 ≤ x - w.first) && (decide ((x - w.first) % w.step = 0) && manyOk w (x - w.first))
theorem comes_far (w : Wk) (n d : Int) : comesTo w n d = farOk w (if w.left then d else n - 1 - d) := rfl
structure Fits (w : Wk) (E p : Int) : Prop where
  ok : w.Ok
  dvd : w.step ∣ p
  hi : w.first ≤ E
  hm : ∀ m, w.many = some m → w.first + w.step * m ≤ E
theorem far_shift {w : Wk} {E p x : Int} (h : Fits w E p) (hp : 0 ≤ p) (hx : E ≤ x) : farOk w (x + p) = farOk w x := by
  have s1 := h.ok.s1
  have f1 := h.hi
  unfold farOk
  have e1 : decide (0 ≤ x + p - w.first) = decide (0 ≤ x - w.first) := by
    rw [decide_eq_true (show 0 ≤ x - w.first by omega), decide_eq_true (show 0 ≤ x + p - w.first by omega)]
  have e2 : (x + p - w.first) % w.step = (x - w.first) % w.step := by
    rw [show x + p - w.first = (x - w.first) + p by omega]
    obtain ⟨k, rfl⟩ := h.dvd
    exact Int.add_mul_emod_self_left ..
  have e3 : manyOk w (x + p - w.first) = manyOk w (x - w.first) := by
    unfold manyOk
    cases hm : w.many with
    | none => rfl
    | some m =>
      have q := h.hm m hm
      have a1 : m ≤ (x - w.first) / w.step := (Int.le_ediv_iff_mul_le (by omega)).mpr (by rw [Int.mul_comm]; omega)
      have a2 : m ≤ (x + p - w.first) / w.step := (Int.le_ediv_iff_mul_le (by omega)).mpr (by rw [Int.mul_comm]; omega)
      show decide _ = decide _
      rw [decide_eq_false (by omega), decide_eq_false (by omega)]
  rw [e1, e2, e3]
theorem open_congr {s : Scr} {n n' d d' : Int} (h : ∀ w ∈ s, comesTo w n d = comesTo w n' d') : openSo s n d = openSo s n' d' := by
  rw [openSo_fold, openSo_fold]
  generalize false = b
  induction s generalizing b with
  | nil => rfl
  | cons w r ih =>
    rw [List.foldl_cons, List.foldl_cons]
    have e : actAt n d b w = actAt n' d' b w := by
      unfold actAt
      rw [h w List.mem_cons_self]
    rw [e]
    exact ih (fun x hx => h x (List.mem_cons_of_mem _ hx)) _
theorem open_left {s : Scr} {E p n d : Int} (h : ∀ w ∈ s, Fits w E p) (hp : 0 ≤ p) (hd : E + p ≤ d) : openSo s n d = openSo s (n - p) (d - p) := open_congr fun w hw => by
  rw [comes_far, comes_far]
  cases w.left with
  | true =>
    show farOk w d = farOk w (d - p)
    have := far_shift (x := d - p) (h w hw) hp (by omega)
    rw [show d - p + p = d by omega] at this
    exact this
  | false =>
    show farOk w (n - 1 - d) = farOk w (n - p - 1 - (d - p))
    congr 1
    omega
theorem open_right {s : Scr} {E p n d : Int} (h : ∀ w ∈ s, Fits w E p) (hp : 0 ≤ p) (hd : E + p ≤ n - 1 - d) : openSo s n d = openSo s (n - p) d := open_congr fun w hw => by
  rw [comes_far, comes_far]
  cases w.left with
  | true => rfl
  | false =>
    show farOk w (n - 1 - d) = farOk w (n - p - 1 - d)
    have := far_shift (x := n - p - 1 - d) (h w hw) hp (by omega)
    rw [show n - p - 1 - d + p = n - 1 - d by omega] at this
    exact this
/-! ### the edge and the period of scripts -/
theorem fold_per_dvd : ∀ (l : Scr), (∀ w ∈ l, w.Ok) → ∀ {f : Int}, PerOk f → f ∣ l.foldl perStep f ∧ ∀ w ∈ l, w.step ∣ l.foldl perStep f
  | [], _, f, _ => ⟨Int.dvd_refl f, fun _ h => by cases h⟩
  | w :: r, ok, f, h => by
    obtain ⟨h1, h2, h3⟩ := perStep_all h (ok w List.mem_cons_self)
    obtain ⟨q1, q2⟩ := fold_per_dvd r (fun x hx => ok x (List.mem_cons_of_mem _ hx)) h1
    refine ⟨Int.dvd_trans h2 q1, fun x hx => ?_⟩
    rcases List.mem_cons.mp hx with e | e
    · rw [e]
      exact Int.dvd_trans h3 q1
    · exact q2 x e
def reachW (w : Wk) : Int := w.first + match w.many with | none => 0 | some m => w.step * m
theorem fold_edge : ∀ (l : Scr) (f : Int), f ≤ l.foldl edgeStep f ∧ ∀ w ∈ l, reachW w ≤ l.foldl edgeStep f
  | [], f => ⟨Int.le_refl f, fun _ h => by cases h⟩
  | w :: r, f => by
    obtain ⟨q1, q2⟩ := fold_edge r (edgeStep f w)
    have a1 : f ≤ edgeStep f w := Int.le_max_left ..
    have a2 : reachW w ≤ edgeStep f w := Int.le_max_right ..
    refine ⟨Int.le_trans a1 q1, fun x hx => ?_⟩
    rcases List.mem_cons.mp hx with e | e
    · rw [e]
      exact Int.le_trans a2 q1
    · exact q2 x e
theorem fold_edge_le : ∀ (l : Scr) (f B : Int), f ≤ B → (∀ w ∈ l, reachW w ≤ B) → l.foldl edgeStep f ≤ B
  | [], _, _, h, _ => h
  | w :: r, f, B, h, hw => fold_edge_le r _ B (Int.max_le.mpr ⟨h, hw w List.mem_cons_self⟩) fun x hx => hw x (List.mem_cons_of_mem _ hx)
theorem flat_ok {ss : List Scr} (ok : ∀ s ∈ ss, ∀ w ∈ s, w.Ok) : ∀ w ∈ ss.flatten, w.Ok := fun w hw => by
  obtain ⟨s, hs, h⟩ := List.mem_flatten.mp hw
  exact ok s hs w h
theorem period_ok {ss : List Scr} (ok : ∀ s ∈ ss, ∀ w ∈ s, w.Ok) : PerOk (periodOf ss) := per_fold _ (flat_ok ok) per_one
theorem edge_gt {ss : List Scr} (ok : ∀ s ∈ ss, ∀ w ∈ s, w.Ok) : reachOf ss < edgeOf ss ∧ 0 ≤ reachOf ss ∧ edgeOf ss ≤ reachOf ss + periodOf ss := by
  have h1 := (period_ok ok).1
  have h0 := (fold_edge ss.flatten 0).1
  have e := Int.mul_ediv_add_emod (reachOf ss) (periodOf ss)
  have e1 := Int.emod_nonneg (reachOf ss) (show periodOf ss ≠ 0 by omega)
  have e2 := Int.emod_lt_of_pos (reachOf ss) (show 0 < periodOf ss by omega)
  unfold edgeOf
  rw [Int.add_mul, Int.one_mul, Int.mul_comm (reachOf ss / periodOf ss)]
  refine ⟨by omega, h0, by omega⟩
theorem fits_of {ss : List Scr} (ok : ∀ s ∈ ss, ∀ w ∈ s, w.Ok) {s : Scr} (hs : s ∈ ss) : ∀ w ∈ s, Fits w (edgeOf ss) (periodOf ss) := fun w hw => by
  have hw2 : w ∈ ss.flatten := List.mem_flatten.mpr ⟨s, hs, hw⟩
  have a1 : w.step ∣ periodOf ss := (fold_per_dvd _ (flat_ok ok) per_one).2 w hw2
  have a2 : reachW w ≤ reachOf ss := (fold_edge ss.flatten 0).2 w hw2
  have a3 := (edge_gt ok).1
  have okw := ok s hs w hw
  have s1 := okw.s1
  refine ⟨okw, a1, ?_, fun m hm => ?_⟩
  · cases hm : w.many with
    | none =>
      have : reachW w = w.first + 0 := by unfold reachW; rw [hm]
      omega
    | some m =>
      have : reachW w = w.first + w.step * m := by unfold reachW; rw [hm]
      have q := (okw.m m hm).1
      have : 0 ≤ w.step * m := Int.mul_nonneg (by omega) (by omega)
      omega
  · have : reachW w = w.first + w.step * m := by unfold reachW; rw [hm]
    omega
/-! ### two scripts -/
def sameTo (a b : Scr) (N : Int) : Prop := ∀ n d : Nat, (n : Int) ≤ N → d < n → openSo a n d = openSo b n d
theorem same_all {a b : Scr} {E p : Int} (ha : ∀ w ∈ a, Fits w E p) (hb : ∀ w ∈ b, Fits w E p) (hE : 0 ≤ E) (hp : 1 ≤ p) (h : sameTo a b (2 * E + 2 * p)) : ∀ n d : Nat, d < n → openSo a n d = openSo b n d := by
  intro n
  induction n using Nat.strongRecOn with
  | _ n ih =>
    intro d hd
    by_cases hn : (n : Int) ≤ 2 * E + 2 * p
    · exact h n d hn hd
    · obtain ⟨q, rfl⟩ := Int.eq_ofNat_of_zero_le (show 0 ≤ p by omega)
      have hq : 1 ≤ q := by omega
      have e1 : ((n - q : Nat) : Int) = (n : Int) - (q : Int) := by omega
      by_cases hl : E + (q : Int) ≤ d
      · rw [open_left ha (by omega) hl, open_left hb (by omega) hl]
        have e2 : ((d - q : Nat) : Int) = (d : Int) - (q : Int) := by omega
        have := ih (n - q) (by omega) (d - q) (by omega)
        rw [e1, e2] at this
        exact this
      · rw [open_right (n := n) (d := d) ha (by omega) (by omega), open_right (n := n) (d := d) hb (by omega) (by omega)]
        have := ih (n - q) (by omega) d (by omega)
        rw [e1] at this
        exact this
def boundOf (a b : Scr) : Int := 2 * edgeOf [a, b] + 2 * periodOf [a, b]
def partAt (a b : Scr) (n : Nat) : Option Nat := (List.range n).find? fun (d : Nat) => openSo a n d != openSo b n d
/-- the first number of doors and the first door that part them -/
def firstPair (a b : Scr) : Option (Nat × Nat) := (List.range (boundOf a b + 1).toNat).findSome? fun n => (partAt a b n).map fun d => (n, d)
theorem partAt_none {a b : Scr} {n : Nat} : partAt a b n = none ↔ ∀ d : Nat, d < n → openSo a n d = openSo b n d := by
  unfold partAt
  rw [List.find?_eq_none]
  constructor
  · intro h d hd
    have := h d (List.mem_range.mpr hd)
    simpa using this
  · intro h d hd
    have := h d (List.mem_range.mp hd)
    simpa using this
theorem firstPair_none {a b : Scr} : firstPair a b = none ↔ sameTo a b (boundOf a b) := by
  unfold firstPair
  rw [List.findSome?_eq_none_iff]
  constructor
  · intro h n d hn hd
    have := h n (List.mem_range.mpr (by omega))
    rw [Option.map_eq_none_iff] at this
    exact partAt_none.mp this d hd
  · intro h n hn
    have hn := List.mem_range.mp hn
    rw [Option.map_eq_none_iff]
    exact partAt_none.mpr fun d hd => h n d (by omega) hd
theorem pair_ok {a b : Scr} (ha : ∀ w ∈ a, w.Ok) (hb : ∀ w ∈ b, w.Ok) : ∀ s ∈ [a, b], ∀ w ∈ s, w.Ok := fun s hs => by
  simp only [List.mem_cons, List.not_mem_nil, or_false] at hs
  rcases hs with rfl | rfl
  · exact ha
  · exact hb
theorem bound_ge {a b : Scr} (ha : ∀ w ∈ a, w.Ok) (hb : ∀ w ∈ b, w.Ok) : 0 ≤ boundOf a b ∧ boundOf a b ≤ 1000 := by
  have ok := pair_ok ha hb
  have h1 := period_ok ok
  obtain ⟨h2, h3, h4⟩ := edge_gt ok
  have h5 : reachOf [a, b] ≤ 59 := fold_edge_le _ _ _ (by decide) fun w hw => by
    have okw := flat_ok ok w hw
    have := okw.f5
    have := okw.s1
    have := okw.s6
    unfold reachW
    cases hm : w.many with
    | none => show w.first + 0 ≤ 59; omega
    | some m =>
      have q := okw.m m hm
      show w.first + w.step * m ≤ 59
      have : w.step * m ≤ 6 * 9 := Int.mul_le_mul (by omega) (by omega) (by omega) (by omega)
      omega
  obtain ⟨h6, h7, _⟩ := h1
  unfold boundOf
  omega
theorem same_pair {a b : Scr} (ha : ∀ w ∈ a, w.Ok) (hb : ∀ w ∈ b, w.Ok) : firstPair a b = none ↔ ∀ n d : Nat, d < n → openSo a n d = openSo b n d := by
  rw [firstPair_none]
  have ok := pair_ok ha hb
  obtain ⟨h2, h3, h4⟩ := edge_gt ok
  constructor
  · intro h
    exact same_all (fits_of ok (by simp)) (fits_of ok (by simp)) (by omega) (period_ok ok).1 h
  · intro h n d _ hd
    exact h n d hd
def withoutAt (s : Scr) (i : Nat) : Scr := s.take i ++ s.drop (i + 1)
def swapAt (s : Scr) (i : Nat) : Scr := s.take i ++ (s[i + 1]?.toList ++ s[i]?.toList) ++ s.drop (i + 2)
def idleOf (s : Scr) : List Nat := (List.range s.length).filter fun i => (firstPair s (withoutAt s i)).isNone
def exchOf (s : Scr) : List Nat := (List.range (s.length - 1)).filter fun i => (firstPair s (swapAt s i)).isNone
theorem without_mem {s : Scr} {i : Nat} {w : Wk} (h : w ∈ withoutAt s i) : w ∈ s := by
  rcases List.mem_append.mp h with h | h
  · exact List.mem_of_mem_take h
  · exact List.mem_of_mem_drop h
theorem swap_mem {s : Scr} {i : Nat} {w : Wk} (h : w ∈ swapAt s i) : w ∈ s := by
  rcases List.mem_append.mp h with h | h
  · rcases List.mem_append.mp h with h | h
    · exact List.mem_of_mem_take h
    · rcases List.mem_append.mp h with h | h
      · exact List.mem_of_getElem? (Option.mem_toList.mp h)
      · exact List.mem_of_getElem? (Option.mem_toList.mp h)
  · exact List.mem_of_mem_drop h
end Dt

namespace Dt
open PySem PySem.Spec PyProof.Rows L2
/-! ### k07: rows up to seventy-five doors tell all -/
theorem rows_eq {a b : Scr} {n : Nat} : rowOf a n = rowOf b n ↔ ∀ d : Nat, d < n → openSo a n d = openSo b n d := by
  unfold rowOf
  constructor
  · intro h d hd
    have := congrArg (fun l : List Bool => l[d]?) h
    simp only [List.getElem?_map, List.getElem?_range hd, Option.map_some] at this
    exact Option.some.inj this
  · intro h
    exact List.map_congr_left fun d hd => h d (List.mem_range.mp hd)
def lawAlike (a b : Scr) : Bool := (List.range 76).all fun n => decide (rowOf a n = rowOf b n)
theorem lawAlike_iff {a b : Scr} : lawAlike a b = true ↔ sameTo a b 75 := by
  unfold lawAlike
  rw [List.all_eq_true]
  constructor
  · intro h n d hn hd
    exact rows_eq.mp (of_decide_eq_true (h n (List.mem_range.mpr (by omega)))) d hd
  · intro h n hn
    have := List.mem_range.mp hn
    exact decide_eq_true (rows_eq.mpr fun d hd => h n d (by omega) hd)
def Small (s : Scr) : Prop := ∀ w ∈ s, w.Ok ∧ w.first ≤ 2 ∧ w.step ≤ 3
theorem per6_all : ∀ f : Fin 7, ∀ s : Fin 4, 1 ≤ f.val → f.val ∣ 6 → 1 ≤ s.val → 1 ≤ f.val * s.val / Nat.gcd f.val s.val ∧ f.val * s.val / Nat.gcd f.val s.val ≤ 6 ∧ f.val * s.val / Nat.gcd f.val s.val ∣ 6 := by decide +kernel
theorem per6_step {f : Int} {w : Wk} (h1 : 1 ≤ f) (h6 : f ≤ 6) (hd : f ∣ 6) (ok : w.Ok) (h3 : w.step ≤ 3) : 1 ≤ perStep f w ∧ perStep f w ≤ 6 ∧ perStep f w ∣ 6 := by
  obtain ⟨m, rfl⟩ := Int.eq_ofNat_of_zero_le (show 0 ≤ f by omega)
  have s1 := ok.s1
  obtain ⟨s, hs⟩ := Int.eq_ofNat_of_zero_le (show 0 ≤ w.step by omega)
  rw [perStep_nat m s w hs]
  obtain ⟨q1, q2, q3⟩ := per6_all ⟨m, by omega⟩ ⟨s, by omega⟩ (by show 1 ≤ m; omega) (by exact Int.natCast_dvd_natCast.mp hd) (by show 1 ≤ s; omega)
  exact ⟨Int.ofNat_le.mpr q1, Int.ofNat_le.mpr q2, Int.natCast_dvd_natCast.mpr q3⟩
theorem per6_fold : ∀ (l : Scr), (∀ w ∈ l, w.Ok ∧ w.step ≤ 3) → ∀ {f : Int}, 1 ≤ f → f ≤ 6 → f ∣ 6 → 1 ≤ l.foldl perStep f ∧ l.foldl perStep f ≤ 6 ∧ l.foldl perStep f ∣ 6
  | [], _, _, h1, h2, h3 => ⟨h1, h2, h3⟩
  | w :: r, ok, f, h1, h2, h3 => by
    obtain ⟨ow, ow3⟩ := ok w List.mem_cons_self
    obtain ⟨q1, q2, q3⟩ := per6_step h1 h2 h3 ow ow3
    exact per6_fold r (fun x hx => ok x (List.mem_cons_of_mem _ hx)) q1 q2 q3
theorem small_ok {s : Scr} (h : Small s) : ∀ w ∈ s, w.Ok := fun w hw => (h w hw).1
theorem six_cases {p : Int} (h1 : 1 ≤ p) (h6 : p ≤ 6) (hd : p ∣ 6) : p = 1 ∨ p = 2 ∨ p = 3 ∨ p = 6 := by
  have : p = 1 ∨ p = 2 ∨ p = 3 ∨ p = 4 ∨ p = 5 ∨ p = 6 := by omega
  rcases this with h | h | h | h | h | h
  · exact .inl h
  · exact .inr (.inl h)
  · exact .inr (.inr (.inl h))
  · rw [h] at hd; exact absurd hd (by decide)
  · rw [h] at hd; exact absurd hd (by decide)
  · exact .inr (.inr (.inr h))
theorem bound_small {a b : Scr} (ha : Small a) (hb : Small b) : boundOf a b ≤ 75 := by
  have hs : ∀ w ∈ ([a, b] : List Scr).flatten, w.Ok ∧ w.first ≤ 2 ∧ w.step ≤ 3 := fun w hw => by
    obtain ⟨s, hs, h⟩ := List.mem_flatten.mp hw
    simp only [List.mem_cons, List.not_mem_nil, or_false] at hs
    rcases hs with rfl | rfl
    · exact ha w h
    · exact hb w h
  have hR : reachOf [a, b] ≤ 29 := fold_edge_le _ _ _ (by decide) fun w hw => by
    obtain ⟨ok, h2, h3⟩ := hs w hw
    have s1 := ok.s1
    unfold reachW
    cases hm : w.many with
    | none => show w.first + 0 ≤ 29; omega
    | some m =>
      have q := ok.m m hm
      show w.first + w.step * m ≤ 29
      have : w.step * m ≤ 3 * 9 := Int.mul_le_mul h3 q.2 (by omega) (by omega)
      omega
  have hR0 : 0 ≤ reachOf [a, b] := (fold_edge _ 0).1
  obtain ⟨p1, p2, p3⟩ := per6_fold ([a, b] : List Scr).flatten (fun w hw => ⟨(hs w hw).1, (hs w hw).2.2⟩) (f := 1) (by decide) (by decide) (by decide)
  have hp : periodOf [a, b] = 1 ∨ periodOf [a, b] = 2 ∨ periodOf [a, b] = 3 ∨ periodOf [a, b] = 6 := six_cases p1 p2 p3
  unfold boundOf edgeOf
  generalize reachOf [a, b] = R at hR hR0
  generalize periodOf [a, b] = p at hp
  rcases hp with h | h | h | h <;> subst h <;> omega
theorem lawAlike_eq {a b : Scr} (ha : Small a) (hb : Small b) : lawAlike a b = (firstPair a b).isNone := by
  have key : lawAlike a b = true ↔ firstPair a b = none := by
    rw [lawAlike_iff]
    constructor
    · intro h
      have hB := bound_small ha hb
      exact firstPair_none.mpr fun n d hn hd => h n d (by omega) hd
    · intro h n d _ hd
      exact (same_pair (small_ok ha) (small_ok hb)).mp h n d hd
  cases e : firstPair a b with
  | none => exact key.mpr e
  | some x =>
    cases e2 : lawAlike a b with
    | false => rfl
    | true =>
      rw [key.mp e2] at e
      cases e
theorem small_without {s : Scr} (h : Small s) (i : Nat) : Small (withoutAt s i) := fun w hw => h w (without_mem hw)
theorem small_swap {s : Scr} (h : Small s) (i : Nat) : Small (swapAt s i) := fun w hw => h w (swap_mem hw)
theorem eqv_bools : ∀ xs ys : List Bool, PyData.eqv (.list (xs.map .bool)) (.list (ys.map .bool)) = decide (xs = ys) := by
  intro xs
  have key : ∀ xs ys : List Bool, PyData.eqvAll (xs.map .bool) (ys.map .bool) = decide (xs = ys) := by
    intro xs
    induction xs with
    | nil =>
      intro ys
      cases ys with
      | nil => rfl
      | cons y ys => exact (decide_eq_false (by simp)).symm
    | cons x xs ih =>
      intro ys
      cases ys with
      | nil => exact (decide_eq_false (by simp)).symm
      | cons y ys =>
        show (PyData.eqv (.bool x) (.bool y) && PyData.eqvAll (xs.map .bool) (ys.map .bool)) = _
        rw [ih]
        show ((x == y) && decide (xs = ys)) = decide (x :: xs = y :: ys)
        by_cases h1 : x = y
        · subst h1
          rw [beq_self_eq_true, Bool.true_and]
          by_cases h2 : xs = ys
          · rw [decide_eq_true h2, decide_eq_true (by rw [h2])]
          · rw [decide_eq_false h2, decide_eq_false (by simpa using h2)]
        · rw [beq_false_of_ne h1, Bool.false_and, decide_eq_false (fun z => h1 (List.cons.inj z).1)]
  exact key xs
theorem dk_bools {xs : List Bool} : Dk xs.length 1 (.list (xs.map .bool)) := ⟨by rw [List.length_map]; exact Nat.le_refl _, fun d hd => by
  obtain ⟨b, _, rfl⟩ := List.mem_map.mp hd
  exact trivial⟩
def natsD (is : List Nat) : List PyData := is.map fun (i : Nat) => .int (i : Int)
def natsV (is : List Nat) : List V := is.map fun (i : Nat) => .int (i : Int)
theorem dk_nats {is : List Nat} : Dk is.length 1 (.list (natsD is)) := ⟨by unfold natsD; rw [List.length_map]; exact Nat.le_refl _, fun d hd => by
  obtain ⟨b, _, rfl⟩ := List.mem_map.mp hd
  exact trivial⟩
theorem dps_nats {K : PySem.W.Frag} {H : Hp} : ∀ is : List Nat, DpAll K H (natsV is) (natsD is)
  | [] => .nil
  | i :: r => .cons (.int _) (dps_nats r)
theorem dps_bools {K : PySem.W.Frag} {H : Hp} : ∀ bs : List Bool, DpAll K H (bs.map V.bl) (bs.map .bool)
  | [] => .nil
  | b :: r => .cons (.bl _) (dps_bools r)
def shutsD : Scr := [⟨true, .sh, 0, 1, none⟩, ⟨false, .sh, 2, 3, some 4⟩]
theorem known_idle : idleOf (doc1 ++ doc5) = [0] ∧ idleOf doc3 = [] ∧ idleOf shutsD = [0, 1] ∧ idleOf [] = [] := by decide +kernel
theorem known_exch : exchOf doc3 = [0, 1] ∧ exchOf doc4 = [] ∧ exchOf doc1 = [] := by decide +kernel
theorem find_range {N j : Nat} {p : Nat → Bool} (hj : j < N) (h : p j = true) (hb : ∀ d, d < j → p d = false) : (List.range N).find? p = some j := by
  rw [List.find?_range_eq_some]
  exact ⟨h, List.mem_range.mpr hj, fun d hd => by rw [hb d hd]; rfl⟩
theorem findSome_range {α : Type} {N i : Nat} {f : Nat → Option α} {r : α} (hi : i < N) (h : f i = some r) (hb : ∀ m, m < i → f m = none) : (List.range N).findSome? f = some r := by
  rw [List.findSome?_eq_some_iff]
  refine ⟨List.range i, i, (List.range N).drop (i + 1), ?_, h, fun x hx => hb x (List.mem_range.mp hx)⟩
  have e1 : (List.range N).take i = List.range i := by rw [List.take_range, Nat.min_eq_left (by omega)]
  have e2 : (List.range N).drop i = i :: (List.range N).drop (i + 1) := by
    rw [List.drop_eq_getElem_cons (by rw [List.length_range]; exact hi), List.getElem_range]
  rw [← e1, ← e2, List.take_append_drop]
theorem firstPair_some {a b : Scr} {i j : Nat} (hi : (i : Int) ≤ boundOf a b) (hn : ∀ n, n < i → partAt a b n = none) (hj : j < i) (hd : ∀ d : Nat, d < j → openSo a i d = openSo b i d) (h : openSo a i j ≠ openSo b i j) : firstPair a b = some (i, j) := by
  have e : partAt a b i = some j := find_range hj (by simpa using h) fun d q => by
    rw [hd d q]
    simp
  unfold firstPair
  refine findSome_range (i := i) (by omega) (by rw [e]; rfl) fun m hm => ?_
  rw [hn m hm]
  rfl
theorem firstPair_end {a b : Scr} (hn : ∀ n : Nat, n < (boundOf a b + 1).toNat → partAt a b n = none) : firstPair a b = none := by
  unfold firstPair
  rw [List.findSome?_eq_none_iff]
  intro n h
  rw [hn n (List.mem_range.mp h)]
  rfl
end Dt

namespace Dt
open PySem PySem.Spec PyProof.Rows L2
def top (i : Nat) : Stmt := PySem.Challenge.pw_doorsturned_k07_walkers_who_never_matter.main.body.getD i (.Pass ⟨0, 0, 0, 0⟩)
abbrev s_divisor : Stmt := top 1
theorem sc_divisor : FnScope ["one", "other"] ["one", "other"] (defScope s_divisor) := ⟨rfl, rfl, rfl, by decide +kernel, rfl, by decide +kernel, by decide +kernel⟩
abbrev s_period_of : Stmt := top 2
theorem sc_period_of : FnScope ["scripts", "found", "script", "end", "deed", "first", "step", "many"] ["scripts"] (defScope s_period_of) := ⟨rfl, rfl, rfl, by decide +kernel, rfl, by decide +kernel, by decide +kernel⟩
abbrev s_edge_of : Stmt := top 3
theorem sc_edge_of : FnScope ["scripts", "found", "period", "script", "end", "deed", "first", "step", "many"] ["scripts"] (defScope s_edge_of) := ⟨rfl, rfl, rfl, by decide +kernel, rfl, by decide +kernel, by decide +kernel⟩
abbrev s_is_number : Stmt := top 12
theorem sc_is_number : FnScope ["value", "least", "most"] ["value", "least", "most"] (defScope s_is_number) := ⟨rfl, rfl, rfl, by decide +kernel, rfl, by decide +kernel, by decide +kernel⟩
abbrev s_is_tuple : Stmt := top 13
theorem sc_is_tuple : FnScope ["value", "least", "most"] ["value", "least", "most"] (defScope s_is_tuple) := ⟨rfl, rfl, rfl, by decide +kernel, rfl, by decide +kernel, by decide +kernel⟩
abbrev s_is_word : Stmt := top 14
theorem sc_is_word : FnScope ["value", "words"] ["value", "words"] (defScope s_is_word) := ⟨rfl, rfl, rfl, by decide +kernel, rfl, by decide +kernel, by decide +kernel⟩
abbrev s_is_good_walker : Stmt := top 15
theorem sc_is_good_walker : FnScope ["value"] ["value"] (defScope s_is_good_walker) := ⟨rfl, rfl, rfl, by decide +kernel, rfl, by decide +kernel, by decide +kernel⟩
abbrev s_is_good_script : Stmt := top 16
theorem sc_is_good_script : FnScope ["value", "walker"] ["value"] (defScope s_is_good_script) := ⟨rfl, rfl, rfl, by decide +kernel, rfl, by decide +kernel, by decide +kernel⟩
abbrev s_need_script : Stmt := top 17
theorem sc_need_script : FnScope ["value"] ["value"] (defScope s_need_script) := ⟨rfl, rfl, rfl, by decide +kernel, rfl, by decide +kernel, by decide +kernel⟩
abbrev s_comes_to : Stmt := top 18
theorem sc_comes_to : FnScope ["walker", "n", "door", "end", "deed", "first", "step", "many", "far"] ["walker", "n", "door"] (defScope s_comes_to) := ⟨rfl, rfl, rfl, by decide +kernel, rfl, by decide +kernel, by decide +kernel⟩
abbrev s_deed_of : Stmt := top 19
theorem sc_deed_of : FnScope ["walker"] ["walker"] (defScope s_deed_of) := ⟨rfl, rfl, rfl, by decide +kernel, rfl, by decide +kernel, by decide +kernel⟩
abbrev s_then : Stmt := top 20
theorem sc_then : FnScope ["one", "other"] ["one", "other"] (defScope s_then) := ⟨rfl, rfl, rfl, by decide +kernel, rfl, by decide +kernel, by decide +kernel⟩
abbrev s_done_to : Stmt := top 21
theorem sc_done_to : FnScope ["script", "n", "door", "found", "walker"] ["script", "n", "door"] (defScope s_done_to) := ⟨rfl, rfl, rfl, by decide +kernel, rfl, by decide +kernel, by decide +kernel⟩
abbrev s_open_so : Stmt := top 22
theorem sc_open_so : FnScope ["script", "n", "door"] ["script", "n", "door"] (defScope s_open_so) := ⟨rfl, rfl, rfl, by decide +kernel, rfl, by decide +kernel, by decide +kernel⟩
abbrev s_first_pair : Stmt := top 24
theorem sc_first_pair : FnScope ["one", "other", "both", "n", "door"] ["one", "other"] (defScope s_first_pair) := ⟨rfl, rfl, rfl, by decide +kernel, rfl, by decide +kernel, by decide +kernel⟩
abbrev s_without : Stmt := top 25
theorem sc_without : FnScope ["script", "index"] ["script", "index"] (defScope s_without) := ⟨rfl, rfl, rfl, by decide +kernel, rfl, by decide +kernel, by decide +kernel⟩
abbrev s_exchanged : Stmt := top 26
theorem sc_exchanged : FnScope ["script", "index"] ["script", "index"] (defScope s_exchanged) := ⟨rfl, rfl, rfl, by decide +kernel, rfl, by decide +kernel, by decide +kernel⟩
abbrev s_idle_walkers : Stmt := top 27
theorem sc_idle_walkers : FnScope ["script", "index"] ["script"] (defScope s_idle_walkers) := ⟨rfl, rfl, rfl, by decide +kernel, rfl, by decide +kernel, by decide +kernel⟩
abbrev s_exchangeable : Stmt := top 28
theorem sc_exchangeable : FnScope ["script", "index"] ["script"] (defScope s_exchangeable) := ⟨rfl, rfl, rfl, by decide +kernel, rfl, by decide +kernel, by decide +kernel⟩
abbrev s__law_source : Stmt := top 30
theorem sc__law_source : FnScope ["script", "k", "cell"] ["script", "k"] (defScope s__law_source) := ⟨rfl, rfl, rfl, by decide +kernel, rfl, by decide +kernel, by decide +kernel⟩
abbrev s__law_draw : Stmt := top 31
theorem sc__law_draw : FnScope ["source", "many", "found"] ["source", "many"] (defScope s__law_draw) := ⟨rfl, rfl, rfl, by decide +kernel, rfl, by decide +kernel, by decide +kernel⟩
abbrev s__law_of : Stmt := top 32
theorem sc__law_of : FnScope ["source", "items"] ["source", "items"] (defScope s__law_of) := ⟨rfl, rfl, rfl, by decide +kernel, rfl, by decide +kernel, by decide +kernel⟩
abbrev s__law_walker : Stmt := top 33
theorem sc__law_walker : FnScope ["source", "end", "deed", "step", "many", "first"] ["source"] (defScope s__law_walker) := ⟨rfl, rfl, rfl, by decide +kernel, rfl, by decide +kernel, by decide +kernel⟩
abbrev s__law_doors : Stmt := top 34
theorem sc__law_doors : FnScope ["walker", "n", "end", "deed", "first", "step", "many", "found", "door"] ["walker", "n"] (defScope s__law_doors) := ⟨rfl, rfl, rfl, by decide +kernel, rfl, by decide +kernel, by decide +kernel⟩
abbrev s__law_walked : Stmt := top 35
theorem sc__law_walked : FnScope ["doors", "walker", "found", "door", "due"] ["doors", "walker"] (defScope s__law_walked) := ⟨rfl, rfl, rfl, by decide +kernel, rfl, by decide +kernel, by decide +kernel⟩
abbrev s__law_row : Stmt := top 36
theorem sc__law_row : FnScope ["script", "n", "doors", "walker"] ["script", "n"] (defScope s__law_row) := ⟨rfl, rfl, rfl, by decide +kernel, rfl, by decide +kernel, by decide +kernel⟩
abbrev s__law_known : Stmt := top 37
theorem sc__law_known : FnScope ["one", "two", "three", "four"] [] (defScope s__law_known) := ⟨rfl, rfl, rfl, by decide +kernel, rfl, by decide +kernel, by decide +kernel⟩
abbrev s__law_alike : Stmt := top 38
theorem sc__law_alike : FnScope ["one", "other", "n"] ["one", "other"] (defScope s__law_alike) := ⟨rfl, rfl, rfl, by decide +kernel, rfl, by decide +kernel, by decide +kernel⟩
abbrev s_law : Stmt := top 39
theorem sc_law : FnScope ["script", "k", "source", "walks", "turn", "end", "deed", "first", "step", "many", "due", "at", "second", "one", "two", "three", "four", "five", "shuts"] ["script"] (defScope s_law) := ⟨rfl, rfl, rfl, by decide +kernel, rfl, by decide +kernel, by decide +kernel⟩
/-- what the top has written -/
structure Txt (P : Program) (K : PySem.W.Frag) (mg : Str → Option Value) where
  f_divisor : Addr
  d_divisor : FuncData
  F_divisor : Fun K "divisor" "divisor" s_divisor f_divisor d_divisor
  b_divisor : Binds K d_divisor ["one", "other"] []
  g_divisor : mg "divisor" = some (.ref f_divisor)
  f_period_of : Addr
  d_period_of : FuncData
  F_period_of : Fun K "period_of" "period_of" s_period_of f_period_of d_period_of
  b_period_of : Binds K d_period_of ["scripts"] []
  g_period_of : mg "period_of" = some (.ref f_period_of)
  f_edge_of : Addr
  d_edge_of : FuncData
  F_edge_of : Fun K "edge_of" "edge_of" s_edge_of f_edge_of d_edge_of
  b_edge_of : Binds K d_edge_of ["scripts"] []
  g_edge_of : mg "edge_of" = some (.ref f_edge_of)
  f_is_number : Addr
  d_is_number : FuncData
  F_is_number : Fun K "is_number" "is_number" s_is_number f_is_number d_is_number
  b_is_number : Binds K d_is_number ["value", "least", "most"] []
  g_is_number : mg "is_number" = some (.ref f_is_number)
  f_is_tuple : Addr
  d_is_tuple : FuncData
  F_is_tuple : Fun K "is_tuple" "is_tuple" s_is_tuple f_is_tuple d_is_tuple
  b_is_tuple : Binds K d_is_tuple ["value", "least", "most"] []
  g_is_tuple : mg "is_tuple" = some (.ref f_is_tuple)
  f_is_word : Addr
  d_is_word : FuncData
  F_is_word : Fun K "is_word" "is_word" s_is_word f_is_word d_is_word
  b_is_word : Binds K d_is_word ["value", "words"] []
  g_is_word : mg "is_word" = some (.ref f_is_word)
  f_is_good_walker : Addr
  d_is_good_walker : FuncData
  F_is_good_walker : Fun K "is_good_walker" "is_good_walker" s_is_good_walker f_is_good_walker d_is_good_walker
  b_is_good_walker : Binds K d_is_good_walker ["value"] []
  g_is_good_walker : mg "is_good_walker" = some (.ref f_is_good_walker)
  f_is_good_script : Addr
  d_is_good_script : FuncData
  F_is_good_script : Fun K "is_good_script" "is_good_script" s_is_good_script f_is_good_script d_is_good_script
  b_is_good_script : Binds K d_is_good_script ["value"] []
  g_is_good_script : mg "is_good_script" = some (.ref f_is_good_script)
  f_need_script : Addr
  d_need_script : FuncData
  F_need_script : Fun K "need_script" "need_script" s_need_script f_need_script d_need_script
  b_need_script : Binds K d_need_script ["value"] []
  g_need_script : mg "need_script" = some (.ref f_need_script)
  f_comes_to : Addr
  d_comes_to : FuncData
  F_comes_to : Fun K "comes_to" "comes_to" s_comes_to f_comes_to d_comes_to
  b_comes_to : Binds K d_comes_to ["walker", "n", "door"] []
  g_comes_to : mg "comes_to" = some (.ref f_comes_to)
  f_deed_of : Addr
  d_deed_of : FuncData
  F_deed_of : Fun K "deed_of" "deed_of" s_deed_of f_deed_of d_deed_of
  b_deed_of : Binds K d_deed_of ["walker"] []
  g_deed_of : mg "deed_of" = some (.ref f_deed_of)
  f_then : Addr
  d_then : FuncData
  F_then : Fun K "then" "then" s_then f_then d_then
  b_then : Binds K d_then ["one", "other"] []
  g_then : mg "then" = some (.ref f_then)
  f_done_to : Addr
  d_done_to : FuncData
  F_done_to : Fun K "done_to" "done_to" s_done_to f_done_to d_done_to
  b_done_to : Binds K d_done_to ["script", "n", "door"] []
  g_done_to : mg "done_to" = some (.ref f_done_to)
  f_open_so : Addr
  d_open_so : FuncData
  F_open_so : Fun K "open_so" "open_so" s_open_so f_open_so d_open_so
  b_open_so : Binds K d_open_so ["script", "n", "door"] []
  g_open_so : mg "open_so" = some (.ref f_open_so)
  f_first_pair : Addr
  d_first_pair : FuncData
  F_first_pair : Fun K "first_pair" "first_pair" s_first_pair f_first_pair d_first_pair
  b_first_pair : Binds K d_first_pair ["one", "other"] []
  g_first_pair : mg "first_pair" = some (.ref f_first_pair)
  f_without : Addr
  d_without : FuncData
  F_without : Fun K "without" "without" s_without f_without d_without
  b_without : Binds K d_without ["script", "index"] []
  g_without : mg "without" = some (.ref f_without)
  f_exchanged : Addr
  d_exchanged : FuncData
  F_exchanged : Fun K "exchanged" "exchanged" s_exchanged f_exchanged d_exchanged
  b_exchanged : Binds K d_exchanged ["script", "index"] []
  g_exchanged : mg "exchanged" = some (.ref f_exchanged)
  f_idle_walkers : Addr
  d_idle_walkers : FuncData
  F_idle_walkers : Fun K "idle_walkers" "idle_walkers" s_idle_walkers f_idle_walkers d_idle_walkers
  b_idle_walkers : Binds K d_idle_walkers ["script"] []
  g_idle_walkers : mg "idle_walkers" = some (.ref f_idle_walkers)
  f_exchangeable : Addr
  d_exchangeable : FuncData
  F_exchangeable : Fun K "exchangeable" "exchangeable" s_exchangeable f_exchangeable d_exchangeable
  b_exchangeable : Binds K d_exchangeable ["script"] []
  g_exchangeable : mg "exchangeable" = some (.ref f_exchangeable)
  f__law_source : Addr
  d__law_source : FuncData
  F__law_source : Fun K "_law_source" "_law_source" s__law_source f__law_source d__law_source
  b__law_source : Binds K d__law_source ["script", "k"] []
  g__law_source : mg "_law_source" = some (.ref f__law_source)
  f__law_draw : Addr
  d__law_draw : FuncData
  F__law_draw : Fun K "_law_draw" "_law_draw" s__law_draw f__law_draw d__law_draw
  b__law_draw : Binds K d__law_draw ["source", "many"] []
  g__law_draw : mg "_law_draw" = some (.ref f__law_draw)
  f__law_of : Addr
  d__law_of : FuncData
  F__law_of : Fun K "_law_of" "_law_of" s__law_of f__law_of d__law_of
  b__law_of : Binds K d__law_of ["source", "items"] []
  g__law_of : mg "_law_of" = some (.ref f__law_of)
  f__law_walker : Addr
  d__law_walker : FuncData
  F__law_walker : Fun K "_law_walker" "_law_walker" s__law_walker f__law_walker d__law_walker
  b__law_walker : Binds K d__law_walker ["source"] []
  g__law_walker : mg "_law_walker" = some (.ref f__law_walker)
  f__law_doors : Addr
  d__law_doors : FuncData
  F__law_doors : Fun K "_law_doors" "_law_doors" s__law_doors f__law_doors d__law_doors
  b__law_doors : Binds K d__law_doors ["walker", "n"] []
  g__law_doors : mg "_law_doors" = some (.ref f__law_doors)
  f__law_walked : Addr
  d__law_walked : FuncData
  F__law_walked : Fun K "_law_walked" "_law_walked" s__law_walked f__law_walked d__law_walked
  b__law_walked : Binds K d__law_walked ["doors", "walker"] []
  g__law_walked : mg "_law_walked" = some (.ref f__law_walked)
  f__law_row : Addr
  d__law_row : FuncData
  F__law_row : Fun K "_law_row" "_law_row" s__law_row f__law_row d__law_row
  b__law_row : Binds K d__law_row ["script", "n"] []
  g__law_row : mg "_law_row" = some (.ref f__law_row)
  f__law_known : Addr
  d__law_known : FuncData
  F__law_known : Fun K "_law_known" "_law_known" s__law_known f__law_known d__law_known
  b__law_known : Binds K d__law_known [] []
  g__law_known : mg "_law_known" = some (.ref f__law_known)
  f__law_alike : Addr
  d__law_alike : FuncData
  F__law_alike : Fun K "_law_alike" "_law_alike" s__law_alike f__law_alike d__law_alike
  b__law_alike : Binds K d__law_alike ["one", "other"] []
  g__law_alike : mg "_law_alike" = some (.ref f__law_alike)
  f_law : Addr
  d_law : FuncData
  F_law : Fun K "law" "law" s_law f_law d_law
  b_law : Binds K d_law ["script"] []
  g_law : mg "law" = some (.ref f_law)
  a_SHUT : Addr
  g_SHUT : mg "SHUT" = some (.ref a_SHUT)
  t_SHUT : ∀ H, SqT K H a_SHUT [.bl false, .bl false]
  a_OPEN : Addr
  g_OPEN : mg "OPEN" = some (.ref a_OPEN)
  t_OPEN : ∀ H, SqT K H a_OPEN [.bl true, .bl true]
  a_TURN : Addr
  g_TURN : mg "TURN" = some (.ref a_TURN)
  t_TURN : ∀ H, SqT K H a_TURN [.bl true, .bl false]
  a_STAY : Addr
  g_STAY : mg "STAY" = some (.ref a_STAY)
  t_STAY : ∀ H, SqT K H a_STAY [.bl false, .bl true]
  z_range : mg "range" = none
  z_list : mg "list" = none
  z_isinstance : mg "isinstance" = none
  z_int : mg "int" = none
  z_tuple : mg "tuple" = none
  z_str : mg "str" = none
  z_all : mg "all" = none
  z_len : mg "len" = none
  z_abs : mg "abs" = none
  z_max : mg "max" = none
  z_bool : mg "bool" = none
  z_min : mg "min" = none
end Dt
namespace Dt
open PySem PySem.Spec PyProof.Rows L2
section
variable {P : Program} {w : World} {K : PySem.W.Frag} {mg : Str → Option Value} {base : Heap}
def sp_divisor (_ : PySem.W.Frag) : Sp := fun vs H Q _ => ∃ a b : Int, vs = [.int a, .int b] ∧ 0 ≤ a ∧ 0 ≤ b ∧ Q (.int (Int.gcd a b : Nat)) H
theorem ok_divisor (T : Txt P K mg) : FnOk P w K mg base CX0 1 T.f_divisor T.d_divisor ["one", "other"] (sp_divisor K) := by
  refine T.F_divisor.ok sc_divisor (fun vs H Q E h => ?_) (fun cdv A outer s H vs Q E hr h => ?_)
  · obtain ⟨a, b, rfl, _⟩ := h
    rfl
  · obtain ⟨a, b, rfl, h1, h2, k⟩ := h
    refine ⟨_, (pss_cons (ps_while PassesOwn.never (pt_cmpR op_ne (pv 1) pe_int (nomark _)) (pss_one (ps_par (i := 0) (j := 1) rfl sc_divisor.nd rfl rfl (by decide) rfl rfl (pa_cons (pv 1) (pa_cons (pe_op op_mod (pv 0) (pv 1)) pa_nil)) (by rfl))))
    (pss_one (ps_ret (pv 0)))), ?_⟩
    walk_at "go"
    refine while_by (fun σ H' => ∃ x y : Int, σ = [some (.int x), some (.int y)] ∧ 0 ≤ x ∧ 0 ≤ y ∧ Int.gcd x y = Int.gcd a b ∧ H' = H) (fun σ _ => match σ with | [_, some (.int y)] => y.toNat | _ => 0) ⟨a, b, rfl, h1, h2, rfl, rfl⟩ ?_
      (fun σ H Q Q' hq ⟨v, e, w, k, e2, q⟩ => ⟨v, e, w, k, e2, hq _ _ q⟩)
    rintro σ H' ⟨x, y, rfl, hx, hy, e, rfl⟩
    walk_at "go"
    refine if_nd (fun n => ?_) (fun n => ?_)
    · walk_at "go"
      have ny : y ≠ 0 := fun z => n (by rw [z])
      refine r_I (show 0 < y by omega) ?_
      walk_at "go"
      refine ⟨⟨y, x % y, rfl, hy, Int.emod_nonneg _ ny, ?_, rfl⟩, ?_⟩
      · rw [← e]
        exact gcd_turn hx hy
      · have := Int.emod_lt_of_pos x (show 0 < y by omega)
        show (x % y).toNat < y.toNat
        omega
    · have ey : y = 0 := V.int.inj n
      subst ey
      walk_at "go"
      have e2 : ((Int.gcd a b : Nat) : Int) = x := by
        rw [← e, Int.gcd_zero_right]
        omega
      rw [e2] at k
      exact k
end
end Dt
namespace Dt
open PySem PySem.Spec PyProof.Rows L2
section
variable {P : Program} {w : World} {K : PySem.W.Frag} {mg : Str → Option Value} {base : Heap}
def sp_period_of (K : PySem.W.Frag) : Sp := fun vs H Q _ => ∃ (x : V) (ss : List Scr), vs = [x] ∧ IsScrs K H x ss ∧ (∀ s ∈ ss, ∀ w ∈ s, w.Ok) ∧ Q (.int (periodOf ss)) H
theorem ok_period_of (T : Txt P K mg) : FnOk P w K mg base CX0 2 T.f_period_of T.d_period_of ["scripts"] (sp_period_of K) := by
  have G_divisor : FnOk P w K mg base CX0 1 T.f_divisor T.d_divisor ["one", "other"] (sp_divisor K) := ok_divisor T
  refine T.F_period_of.ok sc_period_of (fun vs H Q E h => ?_) (fun cdv A outer s H vs Q E hr h => ?_)
  · obtain ⟨x, ss, rfl, _⟩ := h
    rfl
  · obtain ⟨x, ss, rfl, ⟨a, xs, rfl, hs, hp⟩, ok, k⟩ := h
    refine ⟨_, (pss_cons (ps_set (i := 1) sc_period_of.nd rfl (Or.inl rfl) pe_int)
    (pss_cons (ps_for PassesOwn.never rfl (pi_tup (pv 0)) (pg_name (i := 2) sc_period_of.nd rfl (Or.inl rfl))
      (pss_one (ps_for PassesOwn.never rfl (pi_tup (pv 2)) (pg_tup rfl (pgs_cons (pg_name (i := 3) sc_period_of.nd rfl (Or.inl rfl)) (pgs_cons (pg_name (i := 4) sc_period_of.nd rfl (Or.inl rfl)) (pgs_cons (pg_name (i := 5) sc_period_of.nd rfl (Or.inl rfl)) (pgs_cons (pg_name (i := 6) sc_period_of.nd rfl (Or.inl rfl)) (pgs_cons (pg_name (i := 7) sc_period_of.nd rfl (Or.inl rfl)) pgs_nil))))))
      (pss_one (ps_set (i := 1) sc_period_of.nd rfl (Or.inl rfl) (pe_op op_fdiv (pe_op op_mul (pv 1) (pv 6)) (pe_call G_divisor (hr.mono (by decide)) (by rfl) T.g_divisor T.F_divisor.kp T.b_divisor .nil pass0 (pa_cons (pv 1) (pa_cons (pv 6) pa_nil)))))))))
    (pss_one (ps_ret (pv 1))))), ?_⟩
    walk_at "go"
    refine forT_by (fun i σ H' => ∃ o2 o3 o4 o5 o6 o7, σ = [some (.ref a), some (.int ((ss.take i).flatten.foldl perStep 1)), o2, o3, o4, o5, o6, o7] ∧ H' = H) hs ⟨none, none, none, none, none, none, rfl, rfl⟩ (fun _ _ _ _ ⟨_, _, _, _, _, _, _, e⟩ => e ▸ hs) ?_ ?_
    · rintro i y σ H' hi ⟨o2, o3, o4, o5, o6, o7, rfl, rfl⟩
      obtain ⟨sc, hsc, b, ys, rfl, hb, hq⟩ := paired_get hp hi
      have okS := ok sc (List.mem_of_getElem? hsc)
      walk_at "go"
      refine forT_by (fun j σ H2 => ∃ o3 o4 o5 o6 o7, σ = [some (.ref a), some (.int ((sc.take j).foldl perStep ((ss.take i).flatten.foldl perStep 1))), some (.ref b), o3, o4, o5, o6, o7] ∧ H2 = H') hb ⟨o3, o4, o5, o6, o7, rfl, rfl⟩ (fun _ _ _ _ ⟨_, _, _, _, _, _, e⟩ => e ▸ hb) ?_ ?_
      · rintro j z σ H2 hj ⟨o3, o4, o5, o6, o7, rfl, rfl⟩
        obtain ⟨wk, hw, iw⟩ := paired_get hq hj
        have okw := okS wk (List.mem_of_getElem? hw)
        obtain ⟨c, rfl, hc⟩ := iw.out
        rw [foldl_more hw]
        have pf := per_fold (ss.take i).flatten (fun w hw => by
          obtain ⟨s, hs1, hs2⟩ := List.mem_flatten.mp hw
          exact ok s (List.mem_of_mem_take hs1) w hs2) per_one
        have pf2 := per_fold (sc.take j) (fun w hw => okS w (List.mem_of_mem_take hw)) pf
        generalize (sc.take j).foldl perStep ((ss.take i).flatten.foldl perStep 1) = f at pf2 ⊢
        have b1 := pf2.1
        have b2 := pf2.2
        have s1 := okw.s1
        have s6 := okw.s6
        walk_at "go"
        refine r_I ?_ ?_
        · exact .inl ⟨by omega, by omega⟩
        walk_at "go"
        refine ⟨f, wk.step, rfl, by omega, by omega, ?_⟩
        refine r_I ?_ ?_
        · have g1 := gcd_pos (a := f) s1
          have g2 := gcd_le (a := f) s1
          exact ⟨by omega, by omega⟩
        walk_at "go"
        exact ⟨_, _, _, _, _, rfl, rfl⟩
      · rintro σ H2 ⟨o3, o4, o5, o6, o7, rfl, rfl⟩
        refine ⟨some (.ref b), o3, o4, o5, o6, o7, ?_, rfl⟩
        rw [take_more hsc, List.flatten_append, List.foldl_append, List.flatten_cons, List.flatten_nil, List.append_nil, paired_len hq, List.take_length]
    · rintro σ H' ⟨o2, o3, o4, o5, o6, o7, rfl, rfl⟩
      walk_at "go"
      rw [paired_len hp, List.take_length]
      exact k
end
end Dt
namespace Dt
open PySem PySem.Spec PyProof.Rows L2
section
variable {P : Program} {w : World} {K : PySem.W.Frag} {mg : Str → Option Value} {base : Heap}
def sp_edge_of (K : PySem.W.Frag) : Sp := fun vs H Q _ => ∃ (x : V) (ss : List Scr), vs = [x] ∧ IsScrs K H x ss ∧ (∀ s ∈ ss, ∀ w ∈ s, w.Ok) ∧ Q (.int (edgeOf ss)) H
theorem ok_edge_of (T : Txt P K mg) : FnOk P w K mg base CX0 3 T.f_edge_of T.d_edge_of ["scripts"] (sp_edge_of K) := by
  have G_period_of : FnOk P w K mg base CX0 2 T.f_period_of T.d_period_of ["scripts"] (sp_period_of K) := ok_period_of T
  refine T.F_edge_of.ok sc_edge_of (fun vs H Q E h => ?_) (fun cdv A outer s H vs Q E hr h => ?_)
  · obtain ⟨x, ss, rfl, _⟩ := h
    rfl
  · obtain ⟨x, ss, rfl, ⟨a, xs, rfl, hs, hp⟩, ok, k⟩ := h
    refine ⟨_, (pss_cons (ps_par (i := 1) (j := 2) rfl sc_edge_of.nd rfl rfl (by decide) rfl rfl (pa_cons pe_int (pa_cons (pe_call G_period_of (hr.mono (by decide)) (by rfl) T.g_period_of T.F_period_of.kp T.b_period_of .nil pass0 (pa_cons (pv 0) pa_nil)) pa_nil)) (by rfl))
    (pss_cons (ps_for PassesOwn.never rfl (pi_tup (pv 0)) (pg_name (i := 3) sc_edge_of.nd rfl (Or.inl rfl))
      (pss_one (ps_for PassesOwn.never rfl (pi_tup (pv 3)) (pg_tup rfl (pgs_cons (pg_name (i := 4) sc_edge_of.nd rfl (Or.inl rfl)) (pgs_cons (pg_name (i := 5) sc_edge_of.nd rfl (Or.inl rfl)) (pgs_cons (pg_name (i := 6) sc_edge_of.nd rfl (Or.inl rfl)) (pgs_cons (pg_name (i := 7) sc_edge_of.nd rfl (Or.inl rfl)) (pgs_cons (pg_name (i := 8) sc_edge_of.nd rfl (Or.inl rfl)) pgs_nil))))))
      (pss_one (ps_set (i := 1) sc_edge_of.nd rfl (Or.inl rfl) (pe_callB (c_max2 rfl) (by rfl) T.z_max (by decide +kernel) (pa_cons (pe_callTy c_int1 (by rfl) T.z_int (by decide +kernel) (pa_cons (pv 1) pa_nil)) (pa_cons (pe_op op_add (pv 6) (pe_ifExp (pt_cmpR o_isN (pv 8) pe_non (nomark _)) pe_int (pe_op op_mul (pv 7) (pv 8)))) pa_nil))))))))
    (pss_one (ps_ret (pe_op op_mul (pe_op op_add (pe_op op_fdiv (pv 1) (pv 2)) pe_int) (pv 2)))))), ?_⟩
    walk_at "go"
    refine ⟨_, ss, rfl, ⟨a, xs, rfl, hs, hp⟩, ok, ?_⟩
    walk_at "go"
    have okF : ∀ w ∈ ss.flatten, w.Ok := fun w hw => by
      obtain ⟨s, hs1, hs2⟩ := List.mem_flatten.mp hw
      exact ok s hs1 w hs2
    have pp : 1 ≤ periodOf ss ∧ periodOf ss ≤ 60 := ⟨(per_fold _ okF per_one).1, (per_fold _ okF per_one).2.1⟩
    refine forT_by (fun i σ H' => ∃ o3 o4 o5 o6 o7 o8, σ = [some (.ref a), some (.int ((ss.take i).flatten.foldl edgeStep 0)), some (.int (periodOf ss)), o3, o4, o5, o6, o7, o8] ∧ H' = H) hs ⟨none, none, none, none, none, none, rfl, rfl⟩ (fun _ _ _ _ ⟨_, _, _, _, _, _, _, e⟩ => e ▸ hs) ?_ ?_
    · rintro i y σ H' hi ⟨o3, o4, o5, o6, o7, o8, rfl, rfl⟩
      obtain ⟨sc, hsc, b, ys, rfl, hb, hq⟩ := paired_get hp hi
      have okS := ok sc (List.mem_of_getElem? hsc)
      walk_at "go"
      refine forT_by (fun j σ H2 => ∃ o4 o5 o6 o7 o8, σ = [some (.ref a), some (.int ((sc.take j).foldl edgeStep ((ss.take i).flatten.foldl edgeStep 0))), some (.int (periodOf ss)), some (.ref b), o4, o5, o6, o7, o8] ∧ H2 = H') hb ⟨o4, o5, o6, o7, o8, rfl, rfl⟩ (fun _ _ _ _ ⟨_, _, _, _, _, _, e⟩ => e ▸ hb) ?_ ?_
      · rintro j z σ H2 hj ⟨o4, o5, o6, o7, o8, rfl, rfl⟩
        obtain ⟨wk, hw, iw⟩ := paired_get hq hj
        have okw := okS wk (List.mem_of_getElem? hw)
        obtain ⟨c, rfl, hc⟩ := iw.out
        rw [foldl_more hw]
        generalize (sc.take j).foldl edgeStep ((ss.take i).flatten.foldl edgeStep 0) = f
        walk_at "go"
        rw [many_non]
        have mx : ∀ y : Int, (if y > f then y else f) = max f y := fun y => by omega
        cases em : wk.many with
        | none =>
          rw [show (none : Option Int).isNone = true from rfl]
          walk_at "go"
          rw [mx, show edgeStep f wk = max f (wk.first + 0) by unfold edgeStep; rw [em]]
          exact ⟨_, _, _, _, _, rfl, rfl⟩
        | some m =>
          rw [show (some m).isNone = false from rfl, show manyV (some m) = V.int m from rfl]
          walk_at "go"
          have s1 := okw.s1
          have s6 := okw.s6
          refine r_I ?_ ?_
          · exact .inl ⟨by omega, by omega⟩
          walk_at "go"
          rw [mx, show edgeStep f wk = max f (wk.first + wk.step * m) by unfold edgeStep; rw [em]]
          exact ⟨_, _, _, _, _, rfl, rfl⟩
      · rintro σ H2 ⟨o4, o5, o6, o7, o8, rfl, rfl⟩
        refine ⟨some (.ref b), o4, o5, o6, o7, o8, ?_, rfl⟩
        rw [take_more hsc, List.flatten_append, List.foldl_append, List.flatten_cons, List.flatten_nil, List.append_nil, paired_len hq, List.take_length]
    · rintro σ H' ⟨o3, o4, o5, o6, o7, o8, rfl, rfl⟩
      rw [paired_len hp, List.take_length]
      walk_at "go"
      refine r_I ?_ ?_
      · exact ⟨by omega, by omega⟩
      walk_at "go"
      refine r_I ?_ ?_
      · exact .inr ⟨by omega, by omega⟩
      exact k
end
end Dt
namespace Dt
open PySem PySem.Spec PyProof.Rows L2
section
variable {P : Program} {w : World} {K : PySem.W.Frag} {mg : Str → Option Value} {base : Heap}
def sp_is_number (K : PySem.W.Frag) : Sp := fun vs H Q _ => ∃ (x : V) (d : PyData) (l m : Int), vs = [x, .int l, .int m] ∧ Dp K H x d ∧ Q (.bl (isNumD d l m)) H
theorem ok_is_number (T : Txt P K mg) : FnOk P w K mg base CX0 1 T.f_is_number T.d_is_number ["value", "least", "most"] (sp_is_number K) := by
  refine T.F_is_number.ok sc_is_number (fun vs H Q E h => ?_) (fun cdv A outer s H vs Q E hr h => ?_)
  · obtain ⟨x, d, l, m, rfl, _⟩ := h
    rfl
  · obtain ⟨x, d, l, m, rfl, hd, k⟩ := h
    refine ⟨_, (pss_one (ps_ret (pe_and (pe_callB call_isi (by rfl) T.z_isinstance (by decide +kernel) (pa_cons (pv 0) (pa_cons (pe_bltn (v := .ty "int") (by rfl) T.z_int (by decide +kernel) rfl) pa_nil))) (pe_and (pe_not (pe_callB call_isi (by rfl) T.z_isinstance (by decide +kernel) (pa_cons (pv 0) (pa_cons (pe_bltn (v := .ty "bool") (by rfl) T.z_bool (by decide +kernel) rfl) pa_nil)))) (pe_one (pe_chain op_le op_le (pv 1) (pv 0) (pv 2))))))), ?_⟩
    walk_at "go"
    cases d with
    | int i =>
      cases hd
      refine Dp.isi (b := true) (.int i) (by walk_at "kk") ?_
      walk_at "go"
      refine Dp.isi (b := false) (.int i) (by walk_at "kk") ?_
      walk_at "go"
      refine if_d (fun h => ?_) (fun h => ?_)
      · walk_at "go"
        have e : isNumD (.int i) l m = decide (i ≤ m) := by simp [isNumD, h]
        rw [e] at k
        exact k
      · have e : isNumD (.int i) l m = false := by simp [isNumD, h]
        rw [e] at k
        exact k
    | bool b =>
      refine Dp.isi (b := true) hd (by walk_at "kk") ?_
      walk_at "go"
      refine Dp.isi (b := true) hd (by walk_at "kk") ?_
      walk_at "go"
      exact k
    | none => exact Dp.isi (b := false) hd (by walk_at "kk") (r_asB (r_false k))
    | str _ => exact Dp.isi (b := false) hd (by walk_at "kk") (r_asB (r_false k))
    | list _ => exact Dp.isi (b := false) hd (by walk_at "kk") (r_asB (r_false k))
    | tuple _ => exact Dp.isi (b := false) hd (by walk_at "kk") (r_asB (r_false k))
    | dict _ => cases hd
end
end Dt
namespace Dt
open PySem PySem.Spec PyProof.Rows L2
section
variable {P : Program} {w : World} {K : PySem.W.Frag} {mg : Str → Option Value} {base : Heap}
def sp_is_tuple (K : PySem.W.Frag) : Sp := fun vs H Q _ => ∃ (x : V) (d : PyData) (l m : Int), vs = [x, .int l, .int m] ∧ Dp K H x d ∧ Q (.bl (isTupD d l m)) H
theorem ok_is_tuple (T : Txt P K mg) : FnOk P w K mg base CX0 1 T.f_is_tuple T.d_is_tuple ["value", "least", "most"] (sp_is_tuple K) := by
  refine T.F_is_tuple.ok sc_is_tuple (fun vs H Q E h => ?_) (fun cdv A outer s H vs Q E hr h => ?_)
  · obtain ⟨x, d, l, m, rfl, _⟩ := h
    rfl
  · obtain ⟨x, d, l, m, rfl, hd, k⟩ := h
    refine ⟨_, (pss_one (ps_ret (pe_and (pe_callB call_isi (by rfl) T.z_isinstance (by decide +kernel) (pa_cons (pv 0) (pa_cons (pe_bltn (v := .ty "tuple") (by rfl) T.z_tuple (by decide +kernel) rfl) pa_nil))) (pe_one (pe_chain op_le op_le (pv 1) (pe_callB c_len (by rfl) T.z_len PySem.boot_len (pa_cons (pv 0) pa_nil)) (pv 2)))))), ?_⟩
    walk_at "go"
    cases d with
    | tuple ds =>
      refine Dp.isi (b := true) hd (by walk_at "kk") ?_
      walk_at "go"
      cases hd with
      | tup hs ha =>
        refine ⟨_, _, rfl, .inr hs, ?_⟩
        rw [dpAll_len ha]
        walk_at "go"
        refine if_d (fun h => ?_) (fun h => ?_)
        · walk_at "go"
          have e : isTupD (.tuple ds) l m = decide ((ds.length : Int) ≤ m) := by simp [isTupD, h]
          rw [e] at k
          exact k
        · have e : isTupD (.tuple ds) l m = false := by simp [isTupD, h]
          rw [e] at k
          exact k
    | bool b => exact Dp.isi (b := false) hd (by walk_at "kk") (r_asB (r_false k))
    | int _ => exact Dp.isi (b := false) hd (by walk_at "kk") (r_asB (r_false k))
    | none => exact Dp.isi (b := false) hd (by walk_at "kk") (r_asB (r_false k))
    | str _ => exact Dp.isi (b := false) hd (by walk_at "kk") (r_asB (r_false k))
    | list _ => exact Dp.isi (b := false) hd (by walk_at "kk") (r_asB (r_false k))
    | dict _ => cases hd
end
end Dt
namespace Dt
open PySem PySem.Spec PyProof.Rows L2
section
variable {P : Program} {w : World} {K : PySem.W.Frag} {mg : Str → Option Value} {base : Heap}
def sp_is_word (K : PySem.W.Frag) : Sp := fun vs H Q _ => ∃ (x : V) (d : PyData) (a : Addr) (ws : List Str), vs = [x, .ref a] ∧ Dp K H x d ∧ SqT K H a (ws.map V.str) ∧ Q (.bl (isWordD d ws)) H
theorem ok_is_word (T : Txt P K mg) : FnOk P w K mg base CX0 1 T.f_is_word T.d_is_word ["value", "words"] (sp_is_word K) := by
  refine T.F_is_word.ok sc_is_word (fun vs H Q E h => ?_) (fun cdv A outer s H vs Q E hr h => ?_)
  · obtain ⟨x, d, a, ws, rfl, _⟩ := h
    rfl
  · obtain ⟨x, d, a, ws, rfl, hd, hw, k⟩ := h
    refine ⟨_, (pss_one (ps_ret (pe_and (pe_callB call_isi (by rfl) T.z_isinstance (by decide +kernel) (pa_cons (pv 0) (pa_cons (pe_bltn (v := .ty "str") (by rfl) T.z_str (by decide +kernel) rfl) pa_nil))) (pe_one (pe_cmpR op_in_seq (pv 0) (pv 1) (by rfl)))))), ?_⟩
    walk_at "go"
    cases d with
    | str z =>
      cases hd
      refine Dp.isi (b := true) (.str z) (by walk_at "kk") ?_
      walk_at "go"
      refine ⟨a, _, rfl, .inr hw, rfl, flat_strs ws, ?_⟩
      rw [if_neg (by decide), inV_strs]
      exact k
    | bool b => exact Dp.isi (b := false) hd (by walk_at "kk") (r_asB (r_false k))
    | int _ => exact Dp.isi (b := false) hd (by walk_at "kk") (r_asB (r_false k))
    | none => exact Dp.isi (b := false) hd (by walk_at "kk") (r_asB (r_false k))
    | tuple _ => exact Dp.isi (b := false) hd (by walk_at "kk") (r_asB (r_false k))
    | list _ => exact Dp.isi (b := false) hd (by walk_at "kk") (r_asB (r_false k))
    | dict _ => cases hd
end
end Dt
namespace Dt
open PySem PySem.Spec PyProof.Rows L2
section
variable {P : Program} {w : World} {K : PySem.W.Frag} {mg : Str → Option Value} {base : Heap}
def sp_is_good_walker (K : PySem.W.Frag) : Sp := fun vs H Q _ => ∃ (x : V) (d : PyData), vs = [x] ∧ Dp K H x d ∧ ∀ H', Same H H' → Q (.bl (goodW d)) H'
theorem ok_is_good_walker (T : Txt P K mg) : FnOk P w K mg base CX0 2 T.f_is_good_walker T.d_is_good_walker ["value"] (sp_is_good_walker K) := by
  have G_is_number : FnOk P w K mg base CX0 1 T.f_is_number T.d_is_number ["value", "least", "most"] (sp_is_number K) := ok_is_number T
  have G_is_tuple : FnOk P w K mg base CX0 1 T.f_is_tuple T.d_is_tuple ["value", "least", "most"] (sp_is_tuple K) := ok_is_tuple T
  have G_is_word : FnOk P w K mg base CX0 1 T.f_is_word T.d_is_word ["value", "words"] (sp_is_word K) := ok_is_word T
  refine T.F_is_good_walker.ok sc_is_good_walker (fun vs H Q E h => ?_) (fun cdv A outer s H vs Q E hr h => ?_)
  · obtain ⟨x, d, rfl, _⟩ := h
    rfl
  · obtain ⟨x, d, rfl, hd, k⟩ := h
    refine ⟨_, (pss_cons (ps_if (PW.pt (pw_or (pt_not (pt_val (pe_call G_is_tuple (hr.mono (by decide)) (by rfl) T.g_is_tuple T.F_is_tuple.kp T.b_is_tuple .nil pass0 (pa_cons (pv 0) (pa_cons pe_int (pa_cons pe_int pa_nil)))))) (pw_or1 (pt_not (pt_val (pe_call G_is_word (hr.mono (by decide)) (by rfl) T.g_is_word T.F_is_word.kp T.b_is_word .nil pass0 (pa_cons (pe_ix ix_tup (pv 0) pe_int (fun _ _ => rfl)) (pa_cons (pe_tup (pa_cons pe_str (pa_cons pe_str pa_nil))) pa_nil)))))))) (pss_one (ps_ret pe_bl)) pss_nil)
    (pss_cons (ps_if (PW.pt (pw_or (pt_not (pt_val (pe_call G_is_word (hr.mono (by decide)) (by rfl) T.g_is_word T.F_is_word.kp T.b_is_word .nil pass0 (pa_cons (pe_ix ix_tup (pv 0) pe_int (fun _ _ => rfl)) (pa_cons (pe_tup (pa_cons pe_str (pa_cons pe_str (pa_cons pe_str pa_nil)))) pa_nil))))) (pw_or1 (pt_not (pt_val (pe_call G_is_number (hr.mono (by decide)) (by rfl) T.g_is_number T.F_is_number.kp T.b_is_number .nil pass0 (pa_cons (pe_ix ix_tup (pv 0) pe_int (fun _ _ => rfl)) (pa_cons pe_int (pa_cons pe_int pa_nil))))))))) (pss_one (ps_ret pe_bl)) pss_nil)
    (pss_one (ps_ret (pe_and (pe_call G_is_number (hr.mono (by decide)) (by rfl) T.g_is_number T.F_is_number.kp T.b_is_number .nil pass0 (pa_cons (pe_ix ix_tup (pv 0) pe_int (fun _ _ => rfl)) (pa_cons pe_int (pa_cons pe_int pa_nil)))) (pe_one (pe_or (pe_cmpR o_isN (pe_ix ix_tup (pv 0) pe_int (fun _ _ => rfl)) pe_non (nomark _)) (pe_one (pe_call G_is_number (hr.mono (by decide)) (by rfl) T.g_is_number T.F_is_number.kp T.b_is_number .nil pass0 (pa_cons (pe_ix ix_tup (pv 0) pe_int (fun _ _ => rfl)) (pa_cons pe_int (pa_cons pe_int pa_nil)))))))))))), ?_⟩
    walk_at "go"
    refine ⟨x, d, 5, 5, rfl, hd, ?_⟩
    walk_at "go"
    rcases tup5 d with h5 | ⟨a, b, c, e, f, rfl⟩
    · rw [h5]
      walk_at "go"
      have := k H (Same.refl H)
      rw [goodW_no h5] at this
      exact this
    · have t5 : isTupD (.tuple [a, b, c, e, f]) 5 5 = true := rfl
      rw [t5]
      cases hd with
      | tup hs ha =>
      cases ha with
      | cons da ha =>
      cases ha with
      | cons db ha =>
      cases ha with
      | cons dc ha =>
      cases ha with
      | cons de ha =>
      cases ha with
      | cons df ha =>
      cases ha with
      | nil =>
      walk_at "go"
      intro p H1 np s1 hp _
      walk_at "go"
      refine ⟨_, a, p, ["left", "right"], rfl, by walk_at "hp", SqT.of hp, ?_⟩
      walk_at "go"
      cases ea : isWordD a ["left", "right"] with
      | false =>
        walk_at "go"
        have q := k H1 s1
        rw [show goodW (.tuple [a, b, c, e, f]) = false by simp [goodW, ea]] at q
        exact q
      | true =>
        walk_at "go"
        intro p2 H2 np2 s2 hp2 _
        walk_at "go"
        refine ⟨_, b, p2, ["open", "shut", "turn"], rfl, by walk_at "hp", SqT.of hp2, ?_⟩
        walk_at "go"
        have s02 : Same H H2 := s1.trans s2
        cases eb : isWordD b ["open", "shut", "turn"] with
        | false =>
          walk_at "go"
          have q := k H2 s02
          rw [show goodW (.tuple [a, b, c, e, f]) = false by simp [goodW, ea, eb]] at q
          exact q
        | true =>
          walk_at "go"
          refine ⟨_, c, 0, 5, rfl, by walk_at "hp", ?_⟩
          walk_at "go"
          cases ec : isNumD c 0 5 with
          | false =>
            walk_at "go"
            have q := k H2 s02
            rw [show goodW (.tuple [a, b, c, e, f]) = false by simp [goodW, ea, eb, ec]] at q
            exact q
          | true =>
            walk_at "go"
            refine ⟨_, e, 1, 6, rfl, by walk_at "hp", ?_⟩
            walk_at "go"
            cases ee : isNumD e 1 6 with
            | false =>
              walk_at "go"
              have q := k H2 s02
              rw [show goodW (.tuple [a, b, c, e, f]) = false by simp [goodW, ea, eb, ec, ee]] at q
              exact q
            | true =>
              walk_at "go"
              have q := k H2 s02
              refine if_d (fun hn => ?_) (fun hn => ?_)
              · walk_at "go"
                subst hn
                cases df
                rw [show goodW (.tuple [a, b, c, e, .none]) = true by simp [goodW, ea, eb, ec, ee]] at q
                exact q
              · walk_at "go"
                refine ⟨_, f, 1, 9, rfl, by walk_at "hp", ?_⟩
                have ef : goodW (.tuple [a, b, c, e, f]) = isNumD f 1 9 := by
                  cases df <;> first | (exact absurd rfl hn) | simp [goodW, ea, eb, ec, ee]
                rw [ef] at q
                exact q
end
end Dt
namespace Dt
open PySem PySem.Spec PyProof.Rows L2
section
variable {P : Program} {w : World} {K : PySem.W.Frag} {mg : Str → Option Value} {base : Heap}
def sp_is_good_script (K : PySem.W.Frag) : Sp := fun vs H Q _ => ∃ (x : V) (d : PyData), vs = [x] ∧ Dp K H x d ∧ (∀ ds, d = .tuple ds → ds.length ≤ 10000) ∧ ∀ H', Same H H' → Q (.bl (goodS d)) H'
theorem ok_is_good_script (T : Txt P K mg) : FnOk P w K mg base CX0 3 T.f_is_good_script T.d_is_good_script ["value"] (sp_is_good_script K) := by
  have G_is_tuple : FnOk P w K mg base CX0 1 T.f_is_tuple T.d_is_tuple ["value", "least", "most"] (sp_is_tuple K) := ok_is_tuple T
  have G_is_good_walker : FnOk P w K mg base CX0 2 T.f_is_good_walker T.d_is_good_walker ["value"] (sp_is_good_walker K) := ok_is_good_walker T
  refine T.F_is_good_script.ok sc_is_good_script (fun vs H Q E h => ?_) (fun cdv A outer s H vs Q E hr h => ?_)
  · obtain ⟨x, d, rfl, _⟩ := h
    rfl
  · obtain ⟨x, d, rfl, hd, hsz, k⟩ := h
    refine ⟨_, (pss_one (ps_ret (pe_and (pe_call G_is_tuple (hr.mono (by decide)) (by rfl) T.g_is_tuple T.F_is_tuple.kp T.b_is_tuple .nil pass0 (pa_cons (pv 0) (pa_cons pe_int (pa_cons pe_int pa_nil)))) (pe_one (pe_callB (cr_all rfl) (by rfl) T.z_all (by decide +kernel) (pa_cons (pe_lc (own := [("walker", 1)]) (g := gName 1) (tt := tYes) rfl sc_is_good_script.nd (pi_tup (pv 0)) (blkOk_by (own := [("walker", 1)]) (N := ["value", "walker"]) (sc := defScope s_is_good_script) (by decide +kernel)) (fun _ _ _ _ _ => pg_name (i := 1) sc_is_good_script.nd rfl (Or.inl rfl)) (fun _ _ _ _ _ => pts_nil) (fun _ _ _ _ _ => (pe_call G_is_good_walker (hr.mono (by decide)) (by rfl) T.g_is_good_walker T.F_is_good_walker.kp T.b_is_good_walker .nil pass0 (pa_cons (pv 1) pa_nil)))) pa_nil)))))), ?_⟩
    walk_at "go"
    refine ⟨x, d, 0, 8, rfl, hd, ?_⟩
    walk_at "go"
    cases e8 : isTupD d 0 8 with
    | false =>
      walk_at "go"
      have q := k H (Same.refl H)
      have e : goodS d = false := by
        cases d with
        | tuple ds =>
          have h : ¬ ds.length ≤ 8 := fun h => by
            have : isTupD (.tuple ds) 0 8 = true := by
              have h1 : (0 : Int) ≤ (ds.length : Int) := Int.natCast_nonneg _
              have h2 : (ds.length : Int) ≤ 8 := by omega
              simp [isTupD, h1, h2]
            rw [this] at e8
            cases e8
          simp [goodS, h]
        | _ => rfl
      rw [e] at q
      exact q
    | true =>
      cases d with
      | tuple ds =>
        have h8 : ds.length ≤ 8 := by
          have h : (ds.length : Int) ≤ 8 := by
            simp [isTupD] at e8
            omega
          omega
        cases hd with
        | @tup a xs _ hs ha =>
          walk_at "go"
          refine lcT_by (fun i H' ys => ys = (ds.take i).map fun d => .bl (goodW d)) (Same.refl H) hs (fun _ _ _ _ _ => rfl) (fun x => rfl) ?_ ?_
          · rintro i y H' D ys hi hD sm hy rfl
            obtain ⟨d, hdi, dy⟩ := dpAll_get ha hi
            walk_at "go"
            refine ⟨y, d, rfl, Dt.Dp.mono sm dy, fun H2 s2 => ?_⟩
            refine addTo_by hD (sm.trans s2) (s2 _ _ hy) (small_lt (by rw [List.length_map, List.length_take]; omega)) fun H3 s3 _ hz => ?_
            rw [take_more hdi, List.map_append]
            rfl
          · rintro H' D ys hD sm hy rfl
            have el : xs.length = ds.length := dpAll_len ha
            rw [el, List.take_length] at hy
            walk_at "go"
            refine ⟨D, ds.map goodW, rfl, SqL.of (by rw [List.map_map]; exact hy), ?_⟩
            have q := k H' sm
            have e : goodS (.tuple ds) = (ds.map goodW).all id := by
              simp [goodS, h8, List.all_map]
            rw [e] at q
            exact q
      | _ => cases e8
end
end Dt
namespace Dt
open PySem PySem.Spec PyProof.Rows L2
section
variable {P : Program} {w : World} {K : PySem.W.Frag} {mg : Str → Option Value} {base : Heap}
def sp_need_script (K : PySem.W.Frag) : Sp := fun vs H Q _ => ∃ (x : V) (sc : Scr), vs = [x] ∧ IsScr K H x sc ∧ ScrOk sc ∧ ∀ H', Same H H' → Q .non H'
theorem ok_need_script (T : Txt P K mg) : FnOk P w K mg base CX0 4 T.f_need_script T.d_need_script ["value"] (sp_need_script K) := by
  have G_is_good_script : FnOk P w K mg base CX0 3 T.f_is_good_script T.d_is_good_script ["value"] (sp_is_good_script K) := ok_is_good_script T
  refine T.F_need_script.ok sc_need_script (fun vs H Q E h => ?_) (fun cdv A outer s H vs Q E hr h => ?_)
  · obtain ⟨x, d, rfl, _⟩ := h
    rfl
  · obtain ⟨x, sc, rfl, hx, ok, k⟩ := h
    refine ⟨_, (pss_one (ps_if (pt_not (pt_val (pe_call G_is_good_script (hr.mono (by decide)) (by rfl) T.g_is_good_script T.F_is_good_script.kp T.b_is_good_script .nil pass0 (pa_cons (pv 0) pa_nil)))) pss_never pss_nil)), ?_⟩
    walk_at "go"
    refine ⟨x, toDS sc, rfl, hx.dp, fun ds e => ?_, fun H1 s1 => ?_⟩
    · cases e
      have := ok.len
      rw [List.length_map]
      omega
    · rw [goodS_of ok]
      walk_at "go"
      exact k H1 s1
end
end Dt
namespace Dt
open PySem PySem.Spec PyProof.Rows L2
section
variable {P : Program} {w : World} {K : PySem.W.Frag} {mg : Str → Option Value} {base : Heap}
def sp_comes_to (K : PySem.W.Frag) : Sp := fun vs H Q _ => ∃ (x : V) (wk : Wk) (n d : Int), vs = [x, .int n, .int d] ∧ IsWk K H x wk ∧ wk.Ok ∧ Q (.bl (comesTo wk n d)) H
theorem ok_comes_to (T : Txt P K mg) : FnOk P w K mg base CX0 1 T.f_comes_to T.d_comes_to ["walker", "n", "door"] (sp_comes_to K) := by
  refine T.F_comes_to.ok sc_comes_to (fun vs H Q E h => ?_) (fun cdv A outer s H vs Q E hr h => ?_)
  · obtain ⟨x, wk, n, d, rfl, _⟩ := h
    rfl
  · obtain ⟨x, wk, n, d, rfl, hx, ok, k⟩ := h
    refine ⟨_, (pss_cons (ps_asg (pv 0) (pg_tup rfl (pgs_cons (pg_name (i := 3) sc_comes_to.nd rfl (Or.inl rfl)) (pgs_cons (pg_name (i := 4) sc_comes_to.nd rfl (Or.inl rfl)) (pgs_cons (pg_name (i := 5) sc_comes_to.nd rfl (Or.inl rfl)) (pgs_cons (pg_name (i := 6) sc_comes_to.nd rfl (Or.inl rfl)) (pgs_cons (pg_name (i := 7) sc_comes_to.nd rfl (Or.inl rfl)) pgs_nil)))))))
    (pss_cons (ps_set (i := 8) sc_comes_to.nd rfl (Or.inl rfl) (pe_op op_sub (pe_ifExp (pt_cmpR op_eq (pv 3) pe_str (nomark _)) (pv 2) (pe_op op_sub (pe_op op_sub (pv 1) pe_int) (pv 2))) (pv 5)))
    (pss_one (ps_ret (pe_and (pe_cmpR op_ge (pv 8) pe_int (nomark _)) (pe_and (pe_cmpR op_eq (pe_op op_mod (pv 8) (pv 6)) pe_int (nomark _)) (pe_one (pe_or (pe_cmpR o_isN (pv 7) pe_non (nomark _)) (pe_one (pe_cmpR op_lt (pe_op op_fdiv (pv 8) (pv 6)) (pv 7) (nomark _))))))))))), ?_⟩
    obtain ⟨a, rfl, hs⟩ := hx.out
    walk_at "go"
    rw [end_left]
    refine if_b (fun hl => ?_) (fun hl => ?_)
    all_goals
      walk_at "go"
      first
        | rw [show d - wk.first = far wk n d by simp [far, hl]]
        | rw [show n - 1 - d - wk.first = far wk n d by simp [far, hl]]
      refine if_d (fun h0 => ?_) (fun h0 => ?_)
      · walk_at "go"
        refine r_I (show 0 < wk.step by have := ok.s1; omega) ?_
        walk_at "go"
        refine if_d (fun h1 => ?_) (fun h1 => ?_)
        · have h1 : far wk n d % wk.step = 0 := V.int.inj h1
          walk_at "go"
          rw [many_non]
          cases em : wk.many with
          | none =>
            rw [show (none : Option Int).isNone = true from rfl]
            walk_at "go"
            have e : comesTo wk n d = true := by simp [comesTo, manyOk, h0, h1, em]
            rw [e] at k
            exact k
          | some m =>
            rw [show (some m).isNone = false from rfl, show manyV (some m) = V.int m from rfl]
            walk_at "go"
            refine r_I ?_ ?_
            · exact ⟨by have := ok.s1; omega, by have := ok.s6; omega⟩
            walk_at "go"
            have e : comesTo wk n d = decide (far wk n d / wk.step < m) := by simp [comesTo, manyOk, h0, h1, em]
            rw [e] at k
            exact k
        · have h1 : ¬ far wk n d % wk.step = 0 := fun z => h1 (congrArg V.int z)
          walk_at "go"
          have e : comesTo wk n d = false := by simp [comesTo, h1]
          rw [e] at k
          exact k
      · walk_at "go"
        have e : comesTo wk n d = false := by simp [comesTo, h0]
        rw [e] at k
        exact k
end
end Dt
namespace Dt
open PySem PySem.Spec PyProof.Rows L2
section
variable {P : Program} {w : World} {K : PySem.W.Frag} {mg : Str → Option Value} {base : Heap}
def sp_deed_of (K : PySem.W.Frag) : Sp := fun vs H Q _ => ∃ (x : V) (wk : Wk), vs = [x] ∧ IsWk K H x wk ∧ ∀ v H', Same H H' → IsPr K H' v wk.deed.pr → Q v H'
theorem ok_deed_of (T : Txt P K mg) : FnOk P w K mg base CX0 1 T.f_deed_of T.d_deed_of ["walker"] (sp_deed_of K) := by
  refine T.F_deed_of.ok sc_deed_of (fun vs H Q E h => ?_) (fun cdv A outer s H vs Q E hr h => ?_)
  · obtain ⟨x, wk, rfl, _⟩ := h
    rfl
  · obtain ⟨x, wk, rfl, hx, k⟩ := h
    refine ⟨_, (pss_one (ps_ret (pe_dget (hu_of hr) (pe_disp (pps_cons pe_str (pe_glob (v := .ref T.a_OPEN) (by rfl) T.g_OPEN rfl) (pps_cons pe_str (pe_glob (v := .ref T.a_SHUT) (by rfl) T.g_SHUT rfl) (pps_cons pe_str (pe_glob (v := .ref T.a_TURN) (by rfl) T.g_TURN rfl) pps_nil))) (by rfl) (by rfl) (fun z => by cases z) (by decide)) (pe_ix ix_tup (pv 0) pe_int (fun _ _ => rfl)) (fun _ _ => rfl)))), ?_⟩
    obtain ⟨a, rfl, hs⟩ := hx.out
    walk_at "go"
    intro p hp
    refine ⟨upd_same, [(.inr "open", .ref T.a_OPEN), (.inr "shut", .ref T.a_SHUT), (.inr "turn", .ref T.a_TURN)], rfl, Nat.le_of_ble_eq_true rfl, ?_⟩
    rw [upd_upd]
    have s1 : Same H (upd H p (.dK (mergeK [] [(.inr "open", .ref T.a_OPEN), (.inr "shut", .ref T.a_SHUT), (.inr "turn", .ref T.a_TURN)]))) := same_upd hp
    have hp2 : (upd H p (.dK (mergeK [] [(.inr "open", .ref T.a_OPEN), (.inr "shut", .ref T.a_SHUT), (.inr "turn", .ref T.a_TURN)]))) p = some (.dK (mergeK [] [(.inr "open", .ref T.a_OPEN), (.inr "shut", .ref T.a_SHUT), (.inr "turn", .ref T.a_TURN)])) := upd_same
    generalize upd H p (.dK (mergeK [] [(.inr "open", .ref T.a_OPEN), (.inr "shut", .ref T.a_SHUT), (.inr "turn", .ref T.a_TURN)])) = H1 at s1 hp2 ⊢
    walk_at "go"
    have e1 : ¬ ("shut" : Str) = "open" := by decide +kernel
    have e2 : ¬ ("turn" : Str) = "open" := by decide +kernel
    have e3 : ¬ ("turn" : Str) = "shut" := by decide +kernel
    have em : mergeK [] [(.inr "open", V.ref T.a_OPEN), (.inr "shut", .ref T.a_SHUT), (.inr "turn", .ref T.a_TURN)] = [((.inr "open" : Key), V.ref T.a_OPEN), (.inr "shut", .ref T.a_SHUT), (.inr "turn", .ref T.a_TURN)] := by
      simp [mergeK, putK, e1, e2, e3, Ne.symm]
    rw [em] at hp2
    obtain ⟨lf, dd, f, st, mn⟩ := wk
    cases dd with
    | op => exact ⟨p, .ref T.a_OPEN, rfl, DGet.k (k := .inr "open") hp2, k _ H1 s1 ⟨_, rfl, T.t_OPEN _⟩⟩
    | sh =>
      refine ⟨p, .ref T.a_SHUT, rfl, ?_, k _ H1 s1 ⟨_, rfl, T.t_SHUT _⟩⟩
      have q := DGet.k (k := .inr "shut") hp2
      rw [valV_neg (by simpa using Ne.symm e1), valV_pos rfl] at q
      exact q
    | tu =>
      refine ⟨p, .ref T.a_TURN, rfl, ?_, k _ H1 s1 ⟨_, rfl, T.t_TURN _⟩⟩
      have q := DGet.k (k := .inr "turn") hp2
      rw [valV_neg (by simpa using Ne.symm e2), valV_neg (by simpa using Ne.symm e3), valV_pos rfl] at q
      exact q
end
end Dt
namespace Dt
open PySem PySem.Spec PyProof.Rows L2
section
variable {P : Program} {w : World} {K : PySem.W.Frag} {mg : Str → Option Value} {base : Heap}
def sp_then (K : PySem.W.Frag) : Sp := fun vs H Q _ => ∃ (x y : V) (a b : Bool × Bool), vs = [x, y] ∧ IsPr K H x a ∧ IsPr K H y b ∧ ∀ v H', Same H H' → IsPr K H' v (then_ a b) → Q v H'
theorem ok_then (T : Txt P K mg) : FnOk P w K mg base CX0 1 T.f_then T.d_then ["one", "other"] (sp_then K) := by
  refine T.F_then.ok sc_then (fun vs H Q E h => ?_) (fun cdv A outer s H vs Q E hr h => ?_)
  · obtain ⟨x, y, a, b, rfl, _⟩ := h
    rfl
  · obtain ⟨x, y, a, b, rfl, ⟨p, rfl, hp⟩, ⟨q, rfl, hq⟩, k⟩ := h
    refine ⟨_, (pss_one (ps_ret (pe_tup (pa_cons (pe_ix ix_tup (pv 1) (pe_callTy c_int1 (by rfl) T.z_int (by decide +kernel) (pa_cons (pe_ix ix_tup (pv 0) pe_int (fun _ _ => rfl)) pa_nil)) (fun _ _ => rfl)) (pa_cons (pe_ix ix_tup (pv 1) (pe_callTy c_int1 (by rfl) T.z_int (by decide +kernel) (pa_cons (pe_ix ix_tup (pv 0) pe_int (fun _ _ => rfl)) pa_nil)) (fun _ _ => rfl)) pa_nil))))), ?_⟩
    have ix : ∀ c : Bool, atI [V.bl b.1, V.bl b.2] (if c then 1 else 0) = some (.bl (if c then b.2 else b.1)) := fun c => by cases c <;> rfl
    walk_at "go"
    refine r_ixT hq (ix a.1) ?_
    walk_at "go"
    refine r_ixT hq (ix a.2) ?_
    walk_at "go"
    intro t H1 nt s1 ht _
    exact k _ _ s1 ⟨t, rfl, SqT.of ht⟩
end
end Dt
namespace Dt
open PySem PySem.Spec PyProof.Rows L2
section
variable {P : Program} {w : World} {K : PySem.W.Frag} {mg : Str → Option Value} {base : Heap}
def sp_done_to (K : PySem.W.Frag) : Sp := fun vs H Q _ => ∃ (x : V) (sc : Scr) (n d : Int), vs = [x, .int n, .int d] ∧ IsScr K H x sc ∧ (∀ w ∈ sc, w.Ok) ∧ ∀ v H', Same H H' → IsPr K H' v (doneTo sc n d) → Q v H'
theorem ok_done_to (T : Txt P K mg) : FnOk P w K mg base CX0 2 T.f_done_to T.d_done_to ["script", "n", "door"] (sp_done_to K) := by
  have G_comes_to : FnOk P w K mg base CX0 1 T.f_comes_to T.d_comes_to ["walker", "n", "door"] (sp_comes_to K) := ok_comes_to T
  have G_then : FnOk P w K mg base CX0 1 T.f_then T.d_then ["one", "other"] (sp_then K) := ok_then T
  have G_deed_of : FnOk P w K mg base CX0 1 T.f_deed_of T.d_deed_of ["walker"] (sp_deed_of K) := ok_deed_of T
  refine T.F_done_to.ok sc_done_to (fun vs H Q E h => ?_) (fun cdv A outer s H vs Q E hr h => ?_)
  · obtain ⟨x, sc, n, d, rfl, _⟩ := h
    rfl
  · obtain ⟨x, sc, n, d, rfl, ⟨a, xs, rfl, hs, hp⟩, ok, k⟩ := h
    refine ⟨_, (pss_cons (ps_set (i := 3) sc_done_to.nd rfl (Or.inl rfl) (pe_glob (v := .ref T.a_STAY) (by rfl) T.g_STAY rfl))
    (pss_cons (ps_for PassesOwn.never rfl (pi_tup (pv 0)) (pg_name (i := 4) sc_done_to.nd rfl (Or.inl rfl))
      (pss_one (ps_set (i := 3) sc_done_to.nd rfl (Or.inl rfl) (pe_ifExp (pt_val (pe_call G_comes_to (hr.mono (by decide)) (by rfl) T.g_comes_to T.F_comes_to.kp T.b_comes_to .nil pass0 (pa_cons (pv 4) (pa_cons (pv 1) (pa_cons (pv 2) pa_nil))))) (pe_call G_then (hr.mono (by decide)) (by rfl) T.g_then T.F_then.kp T.b_then .nil pass0 (pa_cons (pv 3) (pa_cons (pe_call G_deed_of (hr.mono (by decide)) (by rfl) T.g_deed_of T.F_deed_of.kp T.b_deed_of .nil pass0 (pa_cons (pv 4) pa_nil)) pa_nil))) (pv 3)))))
    (pss_one (ps_ret (pv 3))))), ?_⟩
    walk_at "go"
    refine forT_by (fun i σ H' => ∃ v u, σ = [some (.ref a), some (.int n), some (.int d), some v, u] ∧ Same H H' ∧ IsPr K H' v ((sc.take i).foldl (stepTo n d) (false, true)))
      hs ⟨.ref T.a_STAY, none, rfl, Same.refl _, _, rfl, T.t_STAY _⟩ (fun i σ H' _ ⟨_, _, _, sm, _⟩ => Same.sqT sm hs) ?_ ?_
    · rintro i y σ H' hi ⟨v, u, rfl, sm, hv⟩
      obtain ⟨wk, hw, iw⟩ := paired_get hp hi
      have okw := ok wk (List.mem_of_getElem? hw)
      have iw' := iw.mono sm
      rw [foldl_more hw]
      walk_at "go"
      refine ⟨y, wk, n, d, rfl, iw', okw, ?_⟩
      walk_at "go"
      cases ec : comesTo wk n d with
      | false =>
        walk_at "go"
        refine ⟨v, _, rfl, sm, ?_⟩
        simp only [stepTo, ec]
        exact hv
      | true =>
        walk_at "go"
        refine ⟨y, wk, rfl, iw', fun z H2 s2 hz => ?_⟩
        walk_at "go"
        refine ⟨v, z, _, _, rfl, hv.mono s2, hz, fun z2 H3 s3 hz2 => ?_⟩
        walk_at "go"
        refine ⟨z2, _, rfl, sm.trans (s2.trans s3), ?_⟩
        simp only [stepTo, ec]
        exact hz2
    · rintro σ H' ⟨v, u, rfl, sm, hv⟩
      walk_at "go"
      rw [paired_len hp, List.take_length] at hv
      exact k v H' sm hv
end
end Dt
namespace Dt
open PySem PySem.Spec PyProof.Rows L2
section
variable {P : Program} {w : World} {K : PySem.W.Frag} {mg : Str → Option Value} {base : Heap}
def sp_open_so (K : PySem.W.Frag) : Sp := fun vs H Q _ => ∃ (x : V) (sc : Scr) (n d : Int), vs = [x, .int n, .int d] ∧ IsScr K H x sc ∧ (∀ w ∈ sc, w.Ok) ∧ ∀ H', Same H H' → Q (.bl (openSo sc n d)) H'
theorem ok_open_so (T : Txt P K mg) : FnOk P w K mg base CX0 3 T.f_open_so T.d_open_so ["script", "n", "door"] (sp_open_so K) := by
  have G_done_to : FnOk P w K mg base CX0 2 T.f_done_to T.d_done_to ["script", "n", "door"] (sp_done_to K) := ok_done_to T
  refine T.F_open_so.ok sc_open_so (fun vs H Q E h => ?_) (fun cdv A outer s H vs Q E hr h => ?_)
  · obtain ⟨x, sc, n, d, rfl, _⟩ := h
    rfl
  · obtain ⟨x, sc, n, d, rfl, hx, ok, k⟩ := h
    refine ⟨_, (pss_one (ps_ret (pe_ix ix_tup (pe_call G_done_to (hr.mono (by decide)) (by rfl) T.g_done_to T.F_done_to.kp T.b_done_to .nil pass0 (pa_cons (pv 0) (pa_cons (pv 1) (pa_cons (pv 2) pa_nil)))) pe_int (fun _ _ => rfl)))), ?_⟩
    walk_at "go"
    refine ⟨x, sc, n, d, rfl, hx, ok, fun v H1 s1 ⟨p, e, hp⟩ => ?_⟩
    subst e
    walk_at "go"
    exact k H1 s1
end
end Dt
namespace Dt
open PySem PySem.Spec PyProof.Rows L2
section
variable {P : Program} {w : World} {K : PySem.W.Frag} {mg : Str → Option Value} {base : Heap}
def pairV (K : PySem.W.Frag) (H : Hp) (v : V) : Option (Nat × Nat) → Prop
  | none => v = .non
  | some (n, d) => ∃ p, v = .ref p ∧ SqT K H p [.int (n : Nat), .int (d : Nat)]
theorem pairV_non {K : PySem.W.Frag} {H : Hp} {v : V} {o : Option (Nat × Nat)} (h : pairV K H v o) : decide (v = .non) = o.isNone := by
  cases o with
  | none =>
    have e : v = .non := h
    subst e
    rfl
  | some x =>
    obtain ⟨n, d⟩ := x
    obtain ⟨p, rfl, _⟩ := h
    rfl
def sp_first_pair (K : PySem.W.Frag) : Sp := fun vs H Q _ => ∃ (x y : V) (a b : Scr), vs = [x, y] ∧ IsScr K H x a ∧ IsScr K H y b ∧ (∀ w ∈ a, w.Ok) ∧ (∀ w ∈ b, w.Ok) ∧ ∀ v H', Same H H' → pairV K H' v (firstPair a b) → Q v H'
theorem ok_first_pair (T : Txt P K mg) : FnOk P w K mg base CX0 4 T.f_first_pair T.d_first_pair ["one", "other"] (sp_first_pair K) := by
  have G_open_so : FnOk P w K mg base CX0 3 T.f_open_so T.d_open_so ["script", "n", "door"] (sp_open_so K) := ok_open_so T
  have G_edge_of : FnOk P w K mg base CX0 3 T.f_edge_of T.d_edge_of ["scripts"] (sp_edge_of K) := ok_edge_of T
  have G_period_of : FnOk P w K mg base CX0 2 T.f_period_of T.d_period_of ["scripts"] (sp_period_of K) := ok_period_of T
  refine T.F_first_pair.ok sc_first_pair (fun vs H Q E h => ?_) (fun cdv A outer s H vs Q E hr h => ?_)
  · obtain ⟨x, y, a, b, rfl, _⟩ := h
    rfl
  · obtain ⟨x, y, a, b, rfl, ia, ib, oka, okb, k⟩ := h
    refine ⟨_, (pss_cons (ps_set (i := 2) sc_first_pair.nd rfl (Or.inl rfl) (pe_tup (pa_cons (pv 0) (pa_cons (pv 1) pa_nil))))
    (pss_cons (ps_for PassesOwn.never rfl (pi_range1 (by rfl) T.z_range (pa_cons (pe_op op_add (pe_op op_add (pe_op op_mul pe_int (pe_call G_edge_of (hr.mono (by decide)) (by rfl) T.g_edge_of T.F_edge_of.kp T.b_edge_of .nil pass0 (pa_cons (pv 2) pa_nil))) (pe_op op_mul pe_int (pe_call G_period_of (hr.mono (by decide)) (by rfl) T.g_period_of T.F_period_of.kp T.b_period_of .nil pass0 (pa_cons (pv 2) pa_nil)))) pe_int) pa_nil)) (pg_name (i := 3) sc_first_pair.nd rfl (Or.inl rfl))
      (pss_one (ps_for PassesOwn.never rfl (pi_range1 (by rfl) T.z_range (pa_cons (pv 3) pa_nil)) (pg_name (i := 4) sc_first_pair.nd rfl (Or.inl rfl))
      (pss_one (ps_if (pt_cmpR op_ne (pe_call G_open_so (hr.mono (by decide)) (by rfl) T.g_open_so T.F_open_so.kp T.b_open_so .nil pass0 (pa_cons (pv 0) (pa_cons (pv 3) (pa_cons (pv 4) pa_nil)))) (pe_call G_open_so (hr.mono (by decide)) (by rfl) T.g_open_so T.F_open_so.kp T.b_open_so .nil pass0 (pa_cons (pv 1) (pa_cons (pv 3) (pa_cons (pv 4) pa_nil)))) (nomark _)) (pss_one (ps_ret (pe_tup (pa_cons (pv 3) (pa_cons (pv 4) pa_nil))))) pss_nil)))))
    (pss_one (ps_ret pe_non)))), ?_⟩
    walk_at "go"
    intro p H1 np s1 hp _
    have iss : IsScrs K H1 (.ref p) [a, b] := ⟨p, _, rfl, SqT.of hp, .cons (ia.mono s1) (.cons (ib.mono s1) .nil)⟩
    have ok := pair_ok oka okb
    obtain ⟨hB0, hB⟩ := bound_ge oka okb
    walk_at "go"
    refine ⟨.ref p, [a, b], rfl, iss, ok, ?_⟩
    refine r_I (.inl ⟨by decide, by decide⟩) ?_
    walk_at "go"
    refine ⟨.ref p, [a, b], rfl, iss, ok, ?_⟩
    refine r_I (.inl ⟨by decide, by decide⟩) ?_
    walk_at "go"
    have hBe : 2 * edgeOf [a, b] + 2 * periodOf [a, b] = boundOf a b := rfl
    rw [hBe]
    generalize hBn : boundOf a b = B at hB0 hB
    refine forR1_by (fun i σ H' => ∃ o3 o4, σ = [some x, some y, some (.ref p), o3, o4] ∧ Same H H' ∧ ∀ n, n < i → partAt a b n = none) (by omega) (by omega) ⟨none, none, rfl, s1, fun _ z => absurd z (Nat.not_lt_zero _)⟩ ?_ ?_
    · rintro i σ H2 hi ⟨o3, o4, rfl, sm, hn⟩
      walk_at "go"
      refine forR1_by (fun j σ H' => ∃ o4, σ = [some x, some y, some (.ref p), some (.int (i : Nat)), o4] ∧ Same H H' ∧ ∀ d : Nat, d < j → openSo a i d = openSo b i d) (by omega) (by omega) ⟨_, rfl, sm, fun _ z => absurd z (Nat.not_lt_zero _)⟩ ?_ ?_
      · rintro j σ H3 hj ⟨o4, rfl, sm, hd⟩
        walk_at "go"
        refine ⟨x, a, i, j, rfl, ia.mono sm, oka, fun H4 s4 => ?_⟩
        walk_at "go"
        refine ⟨y, b, i, j, rfl, ib.mono (sm.trans s4), okb, fun H5 s5 => ?_⟩
        have sm5 := sm.trans (s4.trans s5)
        walk_at "go"
        refine if_nd (fun h => ?_) (fun h => ?_)
        · walk_at "go"
          intro q H6 nq s6 hq _
          refine k _ H6 (sm5.trans s6) ?_
          rw [firstPair_some (i := i) (j := j) (by omega) hn (by omega) hd fun z => h (by rw [z])]
          exact ⟨q, rfl, SqT.of hq⟩
        · walk_at "go"
          refine ⟨_, rfl, sm5, fun d hdj => ?_⟩
          by_cases e : d < j
          · exact hd d e
          · rw [show d = j by omega]
            exact V.bl.inj h
      · rintro σ H3 ⟨o4, rfl, sm, hd⟩
        refine ⟨_, _, rfl, sm, fun n hni => ?_⟩
        by_cases e : n < i
        · exact hn n e
        · rw [show n = i by omega]
          exact partAt_none.mpr fun d hdi => hd d (by omega)
    · rintro σ H2 ⟨o3, o4, rfl, sm, hn⟩
      walk_at "go"
      have := k .non H2 sm
      rw [firstPair_end (by rw [hBn]; exact hn)] at this
      exact this rfl
end
end Dt
namespace Dt
open PySem PySem.Spec PyProof.Rows L2
section
variable {P : Program} {w : World} {K : PySem.W.Frag} {mg : Str → Option Value} {base : Heap}
def sp_without (K : PySem.W.Frag) : Sp := fun vs H Q _ => ∃ (x : V) (sc : Scr) (i : Nat), vs = [x, .int i] ∧ IsScr K H x sc ∧ sc.length ≤ 1000 ∧ ∀ v H', Same H H' → IsScr K H' v (sc.take i ++ sc.drop (i + 1)) → Q v H'
theorem ok_without (T : Txt P K mg) : FnOk P w K mg base CX0 1 T.f_without T.d_without ["script", "index"] (sp_without K) := by
  refine T.F_without.ok sc_without (fun vs H Q E h => ?_) (fun cdv A outer s H vs Q E hr h => ?_)
  · obtain ⟨x, sc, i, rfl, _⟩ := h
    rfl
  · obtain ⟨x, sc, i, rfl, ⟨a, xs, rfl, hs, hp⟩, hl, k⟩ := h
    refine ⟨_, (pss_one (ps_ret (pe_op op_catA (pe_slice sl_tupA (pv 0) po_none (po_some (pv 1))) (pe_slice sl_tupA (pv 0) (po_some (pe_op op_add (pv 1) pe_int)) po_none)))), ?_⟩
    walk_at "go"
    rintro _ H1 s1 ⟨p, rfl, h1⟩
    walk_at "go"
    rintro _ H2 s2 ⟨q, rfl, h2⟩
    rw [cutV_to] at h1
    rw [show ((i : Int) + 1) = ((i + 1 : Nat) : Int) from rfl, cutV_from] at h2
    have e := paired_len hp
    refine r_catT (Same.sqT s2 h1) h2 (small_line (by rw [List.length_take, List.length_drop]; omega)) ?_
    rintro _ H3 s3 ⟨r, rfl, h3⟩
    have s03 := s1.trans (s2.trans s3)
    exact k _ _ s03 ⟨r, _, rfl, h3, paired_app (paired_take i (Paired.mapP hp fun _ _ => IsWk.mono s03)) (paired_drop (i + 1) (Paired.mapP hp fun _ _ => IsWk.mono s03))⟩
end
end Dt
namespace Dt
open PySem PySem.Spec PyProof.Rows L2
section
variable {P : Program} {w : World} {K : PySem.W.Frag} {mg : Str → Option Value} {base : Heap}
def sp_exchanged (K : PySem.W.Frag) : Sp := fun vs H Q _ => ∃ (x : V) (sc : Scr) (i : Nat) (w1 w2 : Wk), vs = [x, .int i] ∧ IsScr K H x sc ∧ sc.length ≤ 1000 ∧ sc[i]? = some w1 ∧ sc[i + 1]? = some w2 ∧
  ∀ v H', Same H H' → IsScr K H' v (sc.take i ++ [w2, w1] ++ sc.drop (i + 2)) → Q v H'
theorem ok_exchanged (T : Txt P K mg) : FnOk P w K mg base CX0 1 T.f_exchanged T.d_exchanged ["script", "index"] (sp_exchanged K) := by
  refine T.F_exchanged.ok sc_exchanged (fun vs H Q E h => ?_) (fun cdv A outer s H vs Q E hr h => ?_)
  · obtain ⟨x, sc, i, w1, w2, rfl, _⟩ := h
    rfl
  · obtain ⟨x, sc, i, w1, w2, rfl, ⟨a, xs, rfl, hs, hp⟩, hl, e1, e2, k⟩ := h
    refine ⟨_, (pss_one (ps_ret (pe_op op_catA (pe_op op_catA (pe_slice sl_tupA (pv 0) po_none (po_some (pv 1))) (pe_tup (pa_cons (pe_ix ix_tup (pv 0) (pe_op op_add (pv 1) pe_int) (fun _ _ => rfl)) (pa_cons (pe_ix ix_tup (pv 0) (pv 1) (fun _ _ => rfl)) pa_nil)))) (pe_slice sl_tupA (pv 0) (po_some (pe_op op_add (pv 1) pe_int)) po_none)))), ?_⟩
    have e := paired_len hp
    obtain ⟨v1, g1, i1⟩ := paired_get' hp e1
    obtain ⟨v2, g2, i2⟩ := paired_get' hp e2
    walk_at "go"
    rintro _ H1 s1 ⟨p, rfl, h1⟩
    walk_at "go"
    refine r_ixT (by walk_at "hp") (show atI xs (((i + 1 : Nat) : Int)) = some v2 from atI_nat g2) ?_
    walk_at "go"
    refine r_ixT (by walk_at "hp") (atI_nat g1) ?_
    walk_at "go"
    intro q H2 nq s2 hq _
    rw [cutV_to] at h1
    refine r_catT (Same.sqT s2 h1) (SqT.of hq) (small_line (by rw [List.length_take]; show _ + 2 ≤ _; omega)) ?_
    rintro _ H3 s3 ⟨r, rfl, h3⟩
    walk_at "go"
    rintro _ H4 s4 ⟨r4, rfl, h4⟩
    rw [show ((i : Int) + 2) = ((i + 2 : Nat) : Int) from rfl, cutV_from] at h4
    refine r_catT (Same.sqT s4 h3) h4 (small_line (by rw [List.length_append, List.length_take, List.length_drop]; show _ + 2 + _ ≤ _; omega)) ?_
    rintro _ H5 s5 ⟨r5, rfl, h5⟩
    have s05 := s1.trans (s2.trans (s3.trans (s4.trans s5)))
    have hp5 := Paired.mapP hp fun _ _ => IsWk.mono (K := K) s05
    exact k _ _ s05 ⟨r5, _, rfl, h5, paired_app (paired_app (paired_take i hp5) (.cons (i2.mono s05) (.cons (i1.mono s05) .nil))) (paired_drop (i + 2) hp5)⟩
end
end Dt
namespace Dt
open PySem PySem.Spec PyProof.Rows L2
section
variable {P : Program} {w : World} {K : PySem.W.Frag} {mg : Str → Option Value} {base : Heap}
def sp_idle_walkers (K : PySem.W.Frag) : Sp := fun vs H Q _ => ∃ (x : V) (sc : Scr), vs = [x] ∧ IsScr K H x sc ∧ ScrOk sc ∧ ∀ p H', H p = none → Same H H' → H' p = some (.lst (natsV (idleOf sc))) → Q (.ref p) H'
theorem ok_idle_walkers (T : Txt P K mg) : FnOk P w K mg base CX0 5 T.f_idle_walkers T.d_idle_walkers ["script"] (sp_idle_walkers K) := by
  have G_need_script : FnOk P w K mg base CX0 4 T.f_need_script T.d_need_script ["value"] (sp_need_script K) := ok_need_script T
  have G_first_pair : FnOk P w K mg base CX0 4 T.f_first_pair T.d_first_pair ["one", "other"] (sp_first_pair K) := ok_first_pair T
  have G_without : FnOk P w K mg base CX0 1 T.f_without T.d_without ["script", "index"] (sp_without K) := ok_without T
  refine T.F_idle_walkers.ok sc_idle_walkers (fun vs H Q E h => ?_) (fun cdv A outer s H vs Q E hr h => ?_)
  · obtain ⟨x, sc, rfl, _⟩ := h
    rfl
  · obtain ⟨x, sc, rfl, ⟨a, us, rfl, hs, hps⟩, ok, k⟩ := h
    refine ⟨_, (pss_cons (ps_expr (pe_call G_need_script (hr.mono (by decide)) (by rfl) T.g_need_script T.F_need_script.kp T.b_need_script .nil pass0 (pa_cons (pv 0) pa_nil)))
    (pss_one (ps_ret (pe_lc (own := [("index", 1)]) (g := gName 1) (tt := _) rfl sc_idle_walkers.nd (pi_range1 (by rfl) T.z_range (pa_cons (pe_callB c_len (by rfl) T.z_len PySem.boot_len (pa_cons (pv 0) pa_nil)) pa_nil)) (blkOk_by (own := [("index", 1)]) (N := ["script", "index"]) (sc := defScope s_idle_walkers) (by decide +kernel)) (fun _ _ _ _ _ => pg_name (i := 1) sc_idle_walkers.nd rfl (Or.inl rfl)) (fun _ _ _ _ _ => (pts_one (pt_cmpR o_isN (pe_call G_first_pair (hr.mono (by decide)) (by rfl) T.g_first_pair T.F_first_pair.kp T.b_first_pair .nil pass0 (pa_cons (pv 0) (pa_cons (pe_call G_without (hr.mono (by decide)) (by rfl) T.g_without T.F_without.kp T.b_without .nil pass0 (pa_cons (pv 0) (pa_cons (pv 1) pa_nil))) pa_nil))) pe_non (nomark _)))) (fun _ _ _ _ _ => (pv 1)))))), ?_⟩
    have ix : IsScr K H (.ref a) sc := ⟨a, us, rfl, hs, hps⟩
    have el := paired_len hps
    have h8 := ok.len
    walk_at "go"
    refine ⟨.ref a, sc, rfl, ix, ok, fun H1 s1 => ?_⟩
    walk_at "go"
    rw [el]
    refine lcR1_by (fun i H' ys => ys = natsV ((List.range i).filter fun i => (firstPair sc (withoutAt sc i)).isNone)) (Same.refl H1) (by omega) (by omega) (fun _ _ _ _ _ => rfl) (fun x => rfl) ?_ ?_
    · rintro i H' D ys hi hD sm hy rfl
      walk_at "go"
      refine ⟨.ref a, sc, i, rfl, ix.mono (s1.trans sm), by omega, fun v H2 s2 iv => ?_⟩
      walk_at "go"
      refine ⟨.ref a, v, sc, withoutAt sc i, rfl, ix.mono (s1.trans (sm.trans s2)), iv, ok.ok, fun w hw => ok.ok w (without_mem hw), fun z H3 s3 hz => ?_⟩
      refine r_isN ?_
      rw [pairV_non hz]
      have st := sm.trans (s2.trans s3)
      have hy3 := (s2.trans s3) _ _ hy
      have hle : (natsV ((List.range i).filter fun i => (firstPair sc (withoutAt sc i)).isNone)).length ≤ i := by
        unfold natsV
        rw [List.length_map]
        exact Nat.le_trans (List.length_filter_le _ _) (by rw [List.length_range]; exact Nat.le_refl _)
      cases e : (firstPair sc (withoutAt sc i)).isNone with
      | true =>
        walk_at "go"
        refine addTo_by hD st hy3 (small_lt (by omega)) fun H4 s4 _ h4 => ?_
        rw [List.range_succ, List.filter_append, List.filter_cons_of_pos (by exact e)]
        unfold natsV
        rw [List.map_append]
        rfl
      | false =>
        walk_at "go"
        refine ⟨st, _, hy3, ?_⟩
        rw [List.range_succ, List.filter_append, List.filter_cons_of_neg (by rw [e]; decide), List.filter_nil, List.append_nil]
    · rintro H' D ys hD sm hy rfl
      exact k D H' (ne_none' s1 hD) (s1.trans sm) hy
end
end Dt
namespace Dt
open PySem PySem.Spec PyProof.Rows L2
section
variable {P : Program} {w : World} {K : PySem.W.Frag} {mg : Str → Option Value} {base : Heap}
def sp_exchangeable (K : PySem.W.Frag) : Sp := fun vs H Q _ => ∃ (x : V) (sc : Scr), vs = [x] ∧ IsScr K H x sc ∧ ScrOk sc ∧ ∀ p H', H p = none → Same H H' → H' p = some (.lst (natsV (exchOf sc))) → Q (.ref p) H'
theorem ok_exchangeable (T : Txt P K mg) : FnOk P w K mg base CX0 5 T.f_exchangeable T.d_exchangeable ["script"] (sp_exchangeable K) := by
  have G_need_script : FnOk P w K mg base CX0 4 T.f_need_script T.d_need_script ["value"] (sp_need_script K) := ok_need_script T
  have G_first_pair : FnOk P w K mg base CX0 4 T.f_first_pair T.d_first_pair ["one", "other"] (sp_first_pair K) := ok_first_pair T
  have G_exchanged : FnOk P w K mg base CX0 1 T.f_exchanged T.d_exchanged ["script", "index"] (sp_exchanged K) := ok_exchanged T
  refine T.F_exchangeable.ok sc_exchangeable (fun vs H Q E h => ?_) (fun cdv A outer s H vs Q E hr h => ?_)
  · obtain ⟨x, sc, rfl, _⟩ := h
    rfl
  · obtain ⟨x, sc, rfl, ⟨a, us, rfl, hs, hps⟩, ok, k⟩ := h
    refine ⟨_, (pss_cons (ps_expr (pe_call G_need_script (hr.mono (by decide)) (by rfl) T.g_need_script T.F_need_script.kp T.b_need_script .nil pass0 (pa_cons (pv 0) pa_nil)))
    (pss_one (ps_ret (pe_lc (own := [("index", 1)]) (g := gName 1) (tt := _) rfl sc_exchangeable.nd (pi_range1 (by rfl) T.z_range (pa_cons (pe_op op_sub (pe_callB c_len (by rfl) T.z_len PySem.boot_len (pa_cons (pv 0) pa_nil)) pe_int) pa_nil)) (blkOk_by (own := [("index", 1)]) (N := ["script", "index"]) (sc := defScope s_exchangeable) (by decide +kernel)) (fun _ _ _ _ _ => pg_name (i := 1) sc_exchangeable.nd rfl (Or.inl rfl)) (fun _ _ _ _ _ => (pts_one (pt_cmpR o_isN (pe_call G_first_pair (hr.mono (by decide)) (by rfl) T.g_first_pair T.F_first_pair.kp T.b_first_pair .nil pass0 (pa_cons (pv 0) (pa_cons (pe_call G_exchanged (hr.mono (by decide)) (by rfl) T.g_exchanged T.F_exchanged.kp T.b_exchanged .nil pass0 (pa_cons (pv 0) (pa_cons (pv 1) pa_nil))) pa_nil))) pe_non (nomark _)))) (fun _ _ _ _ _ => (pv 1)))))), ?_⟩
    have ix : IsScr K H (.ref a) sc := ⟨a, us, rfl, hs, hps⟩
    have el := paired_len hps
    have h8 := ok.len
    walk_at "go"
    refine ⟨.ref a, sc, rfl, ix, ok, fun H1 s1 => ?_⟩
    walk_at "go"
    rw [el]
    refine lcR1_by (fun i H' ys => ys = natsV ((List.range i).filter fun i => (firstPair sc (swapAt sc i)).isNone)) (Same.refl H1) (by omega) (by omega) (fun _ _ _ _ _ => rfl) (fun x => rfl) ?_ ?_
    · rintro i H' D ys hi hD sm hy rfl
      walk_at "go"
      obtain ⟨w1, e1⟩ : ∃ w, sc[i]? = some w := ⟨sc[i]'(by omega), List.getElem?_eq_getElem (by omega)⟩
      obtain ⟨w2, e2⟩ : ∃ w, sc[i + 1]? = some w := ⟨sc[i + 1]'(by omega), List.getElem?_eq_getElem (by omega)⟩
      refine ⟨.ref a, sc, i, w1, w2, rfl, ix.mono (s1.trans sm), by omega, e1, e2, fun v H2 s2 iv => ?_⟩
      have iv : IsScr K H2 v (swapAt sc i) := by
        unfold swapAt
        rw [e1, e2]
        exact iv
      walk_at "go"
      refine ⟨.ref a, v, sc, swapAt sc i, rfl, ix.mono (s1.trans (sm.trans s2)), iv, ok.ok, fun w hw => ok.ok w (swap_mem hw), fun z H3 s3 hz => ?_⟩
      refine r_isN ?_
      rw [pairV_non hz]
      have st := sm.trans (s2.trans s3)
      have hy3 := (s2.trans s3) _ _ hy
      have hle : (natsV ((List.range i).filter fun i => (firstPair sc (swapAt sc i)).isNone)).length ≤ i := by
        unfold natsV
        rw [List.length_map]
        exact Nat.le_trans (List.length_filter_le _ _) (by rw [List.length_range]; exact Nat.le_refl _)
      cases e : (firstPair sc (swapAt sc i)).isNone with
      | true =>
        walk_at "go"
        refine addTo_by hD st hy3 (small_lt (by omega)) fun H4 s4 _ h4 => ?_
        rw [List.range_succ, List.filter_append, List.filter_cons_of_pos (by exact e)]
        unfold natsV
        rw [List.map_append]
        rfl
      | false =>
        walk_at "go"
        refine ⟨st, _, hy3, ?_⟩
        rw [List.range_succ, List.filter_append, List.filter_cons_of_neg (by rw [e]; decide), List.filter_nil, List.append_nil]
    · rintro H' D ys hD sm hy rfl
      rw [show ((sc.length : Int) - 1).toNat = sc.length - 1 by omega] at hy
      exact k D H' (ne_none' s1 hD) (s1.trans sm) hy
end
end Dt
namespace Dt
open PySem PySem.Spec PyProof.Rows L2
section
variable {P : Program} {w : World} {K : PySem.W.Frag} {mg : Str → Option Value} {base : Heap}
def sp__law_source (K : PySem.W.Frag) : Sp := fun vs H Q _ => ∃ (a : Addr) (ns : List Int) (k : Nat), vs = [.ref a, .int k] ∧ SqL K H a (ns.map V.int) ∧ ns.length ≤ 63 ∧ k ≤ 1000 ∧ ∀ p H', H p = none → Same H H' → Src H' p → Q (.ref p) H'
theorem ok__law_source (T : Txt P K mg) : FnOk P w K mg base CX0 1 T.f__law_source T.d__law_source ["script", "k"] (sp__law_source K) := by
  refine T.F__law_source.ok sc__law_source (fun vs H Q E h => ?_) (fun cdv A outer s H vs Q E hr h => ?_)
  · obtain ⟨a, ns, k, rfl, _⟩ := h
    rfl
  · obtain ⟨a, ns, k, rfl, hs, hl, hk, q⟩ := h
    refine ⟨_, (pss_cons (ps_set (i := 2) sc__law_source.nd rfl (Or.inl rfl) pe_int)
    (pss_cons (ps_if (pt_cmpR op_lt (pv 1) (pe_callB c_len (by rfl) T.z_len PySem.boot_len (pa_cons (pv 0) pa_nil)) (nomark _)) (pss_one (ps_set (i := 2) sc__law_source.nd rfl (Or.inl rfl) (pe_callB c_abs (by rfl) T.z_abs (by decide +kernel) (pa_cons (pe_callTy c_int1 (by rfl) T.z_int (by decide +kernel) (pa_cons (pe_ix ix_list (pv 0) (pv 1) (fun _ _ => rfl)) pa_nil)) pa_nil)))) pss_nil)
    (pss_cons (ps_if (pt_cmpR op_lt (pv 2) (pe_op op_pow pe_int pe_int) (nomark _)) (pss_one (ps_ret (pe_lst (pa_cons pe_int (pa_cons (pe_op op_add pe_int (pe_op op_mod (pe_callTy c_int1 (by rfl) T.z_int (by decide +kernel) (pa_cons (pe_op op_add (pe_op op_mul (pv 2) pe_int) (pe_op op_mul pe_int (pv 1))) pa_nil)) pe_int)) pa_nil))))) pss_nil)
    (pss_one (ps_ret (pe_lst (pa_cons (pv 2) (pa_cons (pe_op op_add pe_int (pe_op op_mod (pe_callTy c_int1 (by rfl) T.z_int (by decide +kernel) (pa_cons (pe_op op_add (pv 2) (pv 1)) pa_nil)) pe_int)) pa_nil)))))))), ?_⟩
    -- behind the first if: any cell
    have rest : ∀ c : Int, 0 ≤ c → tSeq (tIfS (tTest (tOp (rI0 fun i j => .bl (decide (i < j))) (tVar 2) (tOp (rI CPow fun i j => .int (i ^ j.toNat)) (tC (.int 10)) (tC (.int 18)))))
        (tRet (tLst (tCons (tC (.int 0)) (tCons (tOp (rI0 fun i j => .int (i + j)) (tC (.int 1)) (tOp (rI (fun _ j => 0 < j) fun i j => .int (i % j)) (tCB rInt1 (tCons (tOp (rI0 fun i j => .int (i + j)) (tOp (rI CMul fun i j => .int (i * j)) (tVar 2) (tC (.int 7919))) (tOp (rI CMul fun i j => .int (i * j)) (tC (.int 104729)) (tVar 1))) tNil)) (tC (.int 2147483646)))) tNil)))) tNext)
        (tRet (tLst (tCons (tVar 2) (tCons (tOp (rI0 fun i j => .int (i + j)) (tC (.int 1)) (tOp (rI (fun _ j => 0 < j) fun i j => .int (i % j)) (tCB rInt1 (tCons (tOp (rI0 fun i j => .int (i + j)) (tVar 2) (tVar 1)) tNil)) (tC (.int 2147483646)))) tNil)))) { nx := fun _ H' => Q .non H', rt := Q } [some (.ref a), some (.int k), some (.int c)] H := fun c hc => by
      walk_at "go"
      refine r_I ?_ ?_
      · exact ⟨by decide, by decide, by decide⟩
      walk_at "go"
      refine if_d (fun h => ?_) (fun h => ?_)
      · walk_at "go"
        have hb : c < 10 ^ 18 := h
        refine r_I ?_ ?_
        · exact .inl ⟨by omega, by omega⟩
        walk_at "go"
        refine r_I ?_ ?_
        · exact .inl ⟨by decide, by decide⟩
        walk_at "go"
        refine r_I (by decide) ?_
        walk_at "go"
        intro p H1 np s1 hp _
        exact q p H1 np s1 ⟨_, _, hp, Int.le_refl _, by omega, by omega⟩
      · walk_at "go"
        refine r_I (by decide) ?_
        walk_at "go"
        intro p H1 np s1 hp _
        exact q p H1 np s1 ⟨_, _, hp, hc, by omega, by omega⟩
    walk_at "go"
    refine if_d (fun h => ?_) (fun h => ?_)
    · have hk2 : k < ns.length := by
        rw [List.length_map] at h
        omega
      walk_at "go"
      refine r_ixL hs (atI_nat (v := .int ns[k]) (by rw [List.getElem?_map, List.getElem?_eq_getElem hk2]; rfl)) ?_
      iterate 4 walk_at "go1"
      exact rest _ (by split <;> omega)
    · exact rest 0 (Int.le_refl _)
end
end Dt
namespace Dt
open PySem PySem.Spec PyProof.Rows L2
section
variable {P : Program} {w : World} {K : PySem.W.Frag} {mg : Str → Option Value} {base : Heap}
def sp__law_draw (K : PySem.W.Frag) : Sp := fun vs H Q _ => ∃ (p : Addr) (m : Int), vs = [.ref p, .int m] ∧ Src H p ∧ 1 ≤ m ∧ m.natAbs < 2 ^ 200 ∧ ∀ r H', 0 ≤ r → r < m → SX p H H' → Src H' p → Q (.int r) H'
theorem ok__law_draw (T : Txt P K mg) : FnOk P w K mg base CX0 1 T.f__law_draw T.d__law_draw ["source", "many"] (sp__law_draw K) := by
  refine T.F__law_draw.ok sc__law_draw (fun vs H Q E h => ?_) (fun cdv A outer s H vs Q E hr h => ?_)
  · obtain ⟨p, m, rfl, _⟩ := h
    rfl
  · obtain ⟨p, m, rfl, ⟨c, z, hp, hc, hz, hz2⟩, hm, hb, q⟩ := h
    refine ⟨_, (pss_cons (ps_if (pt_cmpR op_gt (pe_ix ix_list (pv 0) pe_int (fun _ _ => rfl)) pe_int (nomark _)) (pss_cons (ps_set (i := 2) sc__law_draw.nd rfl (Or.inl rfl) (pe_op op_mod (pe_callTy c_int1 (by rfl) T.z_int (by decide +kernel) (pa_cons (pe_ix ix_list (pv 0) pe_int (fun _ _ => rfl)) pa_nil)) (pv 1)))
    (pss_cons (ps_asg (pe_op op_fdivW (pe_ix ix_list (pv 0) pe_int (fun _ _ => rfl)) (pv 1)) (pg_sub (pv 0) pe_int set_list))
    (pss_one (ps_ret (pv 2))))) pss_nil)
    (pss_cons (ps_asg (pe_op op_mod (pe_callTy c_int1 (by rfl) T.z_int (by decide +kernel) (pa_cons (pe_op op_mul (pe_ix ix_list (pv 0) pe_int (fun _ _ => rfl)) pe_int) pa_nil)) pe_int) (pg_sub (pv 0) pe_int set_list))
    (pss_one (ps_ret (pe_op op_mod (pe_callTy c_int1 (by rfl) T.z_int (by decide +kernel) (pa_cons (pe_op op_fdiv (pe_op op_mod (pe_callTy c_int1 (by rfl) T.z_int (by decide +kernel) (pa_cons (pe_op op_mul (pe_ix ix_list (pv 0) pe_int (fun _ _ => rfl)) (pe_ix ix_list (pv 0) pe_int (fun _ _ => rfl))) pa_nil)) pe_int) pe_int) pa_nil)) (pv 1)))))), ?_⟩
    have m0 : m ≠ 0 := by omega
    walk_at "go"
    refine if_d (fun h => ?_) (fun h => ?_)
    · walk_at "go"
      refine r_I (by omega) ?_
      walk_at "go"
      refine r_I (wide_div (b := 200) (by omega) hb (by decide) (by decide)) ?_
      walk_at "go"
      refine r_setL (i := 0) hp rfl ?_
      walk_at "go"
      exact q _ _ (Int.emod_nonneg _ m0) (Int.emod_lt_of_pos _ (by omega)) SX.upd ⟨_, z, upd_same, Int.ediv_nonneg hc (by omega), hz, hz2⟩
    · walk_at "go"
      refine r_I ?_ ?_
      · exact .inl ⟨by omega, by omega⟩
      walk_at "go"
      refine r_I (by decide) ?_
      walk_at "go"
      refine r_setL (i := 1) hp rfl ?_
      have h2 : upd H p (.lst ([V.int c, V.int z].set 1 (.int (z * 48271 % 2147483647)))) p = some (.lst [.int c, .int (z * 48271 % 2147483647)]) := upd_same
      have x2 : SX p H (upd H p (.lst ([V.int c, V.int z].set 1 (.int (z * 48271 % 2147483647))))) := SX.upd
      generalize upd H p (.lst ([V.int c, V.int z].set 1 (.int (z * 48271 % 2147483647)))) = H2 at h2 x2 ⊢
      have y0 : 0 ≤ z * 48271 % 2147483647 := by omega
      have y1 : z * 48271 % 2147483647 < 2147483647 := by omega
      generalize z * 48271 % 2147483647 = y at h2 y0 y1 ⊢
      walk_at "go"
      refine r_I ?_ ?_
      · exact .inl ⟨by omega, by omega⟩
      walk_at "go"
      refine r_I (by decide) ?_
      walk_at "go"
      refine r_I ?_ ?_
      · exact ⟨by decide, by decide⟩
      walk_at "go"
      refine r_I (by omega) ?_
      exact q _ _ (Int.emod_nonneg _ m0) (Int.emod_lt_of_pos _ (by omega)) x2 ⟨c, y, h2, hc, y0, by omega⟩
end
end Dt
namespace Dt
open PySem PySem.Spec PyProof.Rows L2
section
variable {P : Program} {w : World} {K : PySem.W.Frag} {mg : Str → Option Value} {base : Heap}
def sp__law_of (K : PySem.W.Frag) : Sp := fun vs H Q _ => ∃ (p b : Addr) (xs : List V), vs = [.ref p, .ref b] ∧ Src H p ∧ SqL K (hide p H) b xs ∧ xs ≠ [] ∧ xs.length ≤ 1000 ∧ ∀ v H', v ∈ xs → SX p H H' → Src H' p → Q v H'
theorem ok__law_of (T : Txt P K mg) : FnOk P w K mg base CX0 2 T.f__law_of T.d__law_of ["source", "items"] (sp__law_of K) := by
  have G__law_draw : FnOk P w K mg base CX0 1 T.f__law_draw T.d__law_draw ["source", "many"] (sp__law_draw K) := ok__law_draw T
  refine T.F__law_of.ok sc__law_of (fun vs H Q E h => ?_) (fun cdv A outer s H vs Q E hr h => ?_)
  · obtain ⟨p, b, xs, rfl, _⟩ := h
    rfl
  · obtain ⟨p, b, xs, rfl, hp, hs, hne, hl, q⟩ := h
    refine ⟨_, (pss_one (ps_ret (pe_ix ix_list (pv 1) (pe_call G__law_draw (hr.mono (by decide)) (by rfl) T.g__law_draw T.F__law_draw.kp T.b__law_draw .nil pass0 (pa_cons (pv 0) (pa_cons (pe_callB c_len (by rfl) T.z_len PySem.boot_len (pa_cons (pv 1) pa_nil)) pa_nil))) (fun _ _ => rfl)))), ?_⟩
    have h0 : xs.length ≠ 0 := fun e => hne (List.eq_nil_of_length_eq_zero e)
    walk_at "go"
    refine r_lenL (hide_same.seq hs) ?_
    walk_at "go"
    refine ⟨p, _, rfl, hp, by omega, ?_, fun r H1 r0 r1 x1 hp1 => ?_⟩
    · have : ((xs.length : Int)).natAbs ≤ 1000 := by omega
      exact Nat.lt_of_le_of_lt this (by decide)
    · obtain ⟨j, rfl⟩ := Int.eq_ofNat_of_zero_le r0
      have hj : j < xs.length := by omega
      refine r_ixL (x1.to.seq hs) (atI_nat (List.getElem?_eq_getElem hj)) ?_
      exact q _ _ (List.getElem_mem hj) x1 hp1
end
end Dt
namespace Dt
open PySem PySem.Spec PyProof.Rows L2
section
variable {P : Program} {w : World} {K : PySem.W.Frag} {mg : Str → Option Value} {base : Heap}
def sp__law_walker (K : PySem.W.Frag) : Sp := fun vs H Q _ => ∃ (p : Addr), vs = [.ref p] ∧ Src H p ∧ ∀ v wk H', wk.Ok → SX p H H' → Src H' p → IsWk K H' v wk → Q v H'
theorem ok__law_walker (T : Txt P K mg) : FnOk P w K mg base CX0 3 T.f__law_walker T.d__law_walker ["source"] (sp__law_walker K) := by
  have G__law_of : FnOk P w K mg base CX0 2 T.f__law_of T.d__law_of ["source", "items"] (sp__law_of K) := ok__law_of T
  have G__law_draw : FnOk P w K mg base CX0 1 T.f__law_draw T.d__law_draw ["source", "many"] (sp__law_draw K) := ok__law_draw T
  refine T.F__law_walker.ok sc__law_walker (fun vs H Q E h => ?_) (fun cdv A outer s H vs Q E hr h => ?_)
  · obtain ⟨p, rfl, _⟩ := h
    rfl
  · obtain ⟨p, rfl, hp, q⟩ := h
    refine ⟨_, (pss_cons (ps_set (i := 1) sc__law_walker.nd rfl (Or.inl rfl) (pe_call G__law_of (hr.mono (by decide)) (by rfl) T.g__law_of T.F__law_of.kp T.b__law_of .nil pass0 (pa_cons (pv 0) (pa_cons (pe_lst (pa_cons pe_str (pa_cons pe_str pa_nil))) pa_nil))))
    (pss_cons (ps_set (i := 2) sc__law_walker.nd rfl (Or.inl rfl) (pe_call G__law_of (hr.mono (by decide)) (by rfl) T.g__law_of T.F__law_of.kp T.b__law_of .nil pass0 (pa_cons (pv 0) (pa_cons (pe_lst (pa_cons pe_str (pa_cons pe_str (pa_cons pe_str (pa_cons pe_str (pa_cons pe_str pa_nil)))))) pa_nil))))
    (pss_cons (ps_set (i := 3) sc__law_walker.nd rfl (Or.inl rfl) (pe_call G__law_of (hr.mono (by decide)) (by rfl) T.g__law_of T.F__law_of.kp T.b__law_of .nil pass0 (pa_cons (pv 0) (pa_cons (pe_lst (pa_cons pe_int (pa_cons pe_int (pa_cons pe_int (pa_cons pe_int (pa_cons pe_int (pa_cons (pe_op op_add pe_int (pe_call G__law_draw (hr.mono (by decide)) (by rfl) T.g__law_draw T.F__law_draw.kp T.b__law_draw .nil pass0 (pa_cons (pv 0) (pa_cons pe_int pa_nil)))) pa_nil))))))) pa_nil))))
    (pss_cons (ps_set (i := 4) sc__law_walker.nd rfl (Or.inl rfl) (pe_call G__law_of (hr.mono (by decide)) (by rfl) T.g__law_of T.F__law_of.kp T.b__law_of .nil pass0 (pa_cons (pv 0) (pa_cons (pe_lst (pa_cons pe_non (pa_cons pe_non (pa_cons pe_non (pa_cons (pe_op op_add pe_int (pe_call G__law_draw (hr.mono (by decide)) (by rfl) T.g__law_draw T.F__law_draw.kp T.b__law_draw .nil pass0 (pa_cons (pv 0) (pa_cons pe_int pa_nil)))) pa_nil))))) pa_nil))))
    (pss_cons (ps_set (i := 5) sc__law_walker.nd rfl (Or.inl rfl) (pe_call G__law_of (hr.mono (by decide)) (by rfl) T.g__law_of T.F__law_of.kp T.b__law_of .nil pass0 (pa_cons (pv 0) (pa_cons (pe_lst (pa_cons pe_int (pa_cons (pe_call G__law_draw (hr.mono (by decide)) (by rfl) T.g__law_draw T.F__law_draw.kp T.b__law_draw .nil pass0 (pa_cons (pv 0) (pa_cons pe_int pa_nil))) pa_nil))) pa_nil))))
    (pss_one (ps_ret (pe_tup (pa_cons (pv 1) (pa_cons (pv 2) (pa_cons (pv 5) (pa_cons (pv 3) (pa_cons (pv 4) pa_nil))))))))))))), ?_⟩
    -- end
    walk_at "go"
    intro b1 H1 n1 s1 h1 f1
    have p1 := hp.same s1
    walk_at "go"
    refine ⟨p, b1, _, rfl, p1, .inl (.inl (by rw [hide_ne (hp.ne n1)]; exact h1)), by simp, small1 rfl, fun ve H2 me x2 p2 => ?_⟩
    walk_at "go"
    -- deed
    intro b3 H3 n3 s3 h3 f3
    have p3 := p2.same s3
    walk_at "go"
    refine ⟨p, b3, _, rfl, p3, .inl (.inl (by rw [hide_ne (p2.ne n3)]; exact h3)), by simp, small1 rfl, fun vd H4 md x4 p4 => ?_⟩
    walk_at "go"
    -- step
    refine ⟨p, 6, rfl, p4, by decide, by decide, fun r5 H5 r50 r51 x5 p5 => ?_⟩
    walk_at "go"
    intro b6 H6 n6 s6 h6 f6
    have p6 := p5.same s6
    walk_at "go"
    refine ⟨p, b6, _, rfl, p6, .inl (.inl (by rw [hide_ne (p5.ne n6)]; exact h6)), by simp, small1 rfl, fun vst H7 mst x7 p7 => ?_⟩
    walk_at "go"
    -- many
    refine ⟨p, 9, rfl, p7, by decide, by decide, fun r8 H8 r80 r81 x8 p8 => ?_⟩
    walk_at "go"
    intro b9 H9 n9 s9 h9 f9
    have p9 := p8.same s9
    walk_at "go"
    refine ⟨p, b9, _, rfl, p9, .inl (.inl (by rw [hide_ne (p8.ne n9)]; exact h9)), by simp, small1 rfl, fun vm H10 mm x10 p10 => ?_⟩
    walk_at "go"
    -- first
    refine ⟨p, 6, rfl, p10, by decide, by decide, fun r11 H11 r110 r111 x11 p11 => ?_⟩
    walk_at "go"
    intro b12 H12 n12 s12 h12 f12
    have p12 := p11.same s12
    walk_at "go"
    refine ⟨p, b12, _, rfl, p12, .inl (.inl (by rw [hide_ne (p11.ne n12)]; exact h12)), by simp, small1 rfl, fun vf H13 mf x13 p13 => ?_⟩
    walk_at "go"
    intro t H14 n14 s14 h14 f14
    obtain ⟨l, rfl⟩ : ∃ l, ve = .str (endS l) := by
      simp only [List.mem_cons, List.not_mem_nil, or_false] at me
      rcases me with rfl | rfl
      · exact ⟨true, rfl⟩
      · exact ⟨false, rfl⟩
    obtain ⟨d, rfl⟩ : ∃ d : Deed, vd = .str d.s := by
      simp only [List.mem_cons, List.not_mem_nil, or_false] at md
      rcases md with rfl | rfl | rfl | rfl | rfl
      · exact ⟨.op, rfl⟩
      · exact ⟨.op, rfl⟩
      · exact ⟨.tu, rfl⟩
      · exact ⟨.tu, rfl⟩
      · exact ⟨.sh, rfl⟩
    obtain ⟨st, rfl, st1, st6⟩ : ∃ i : Int, vst = .int i ∧ 1 ≤ i ∧ i ≤ 6 := by
      simp only [List.mem_cons, List.not_mem_nil, or_false] at mst
      rcases mst with rfl | rfl | rfl | rfl | rfl | rfl
      · exact ⟨_, rfl, by decide, by decide⟩
      · exact ⟨_, rfl, by decide, by decide⟩
      · exact ⟨_, rfl, by decide, by decide⟩
      · exact ⟨_, rfl, by decide, by decide⟩
      · exact ⟨_, rfl, by decide, by decide⟩
      · exact ⟨_, rfl, by omega, by omega⟩
    obtain ⟨mn, rfl, hmn⟩ : ∃ m : Option Int, vm = manyV m ∧ ∀ i, m = some i → 1 ≤ i ∧ i ≤ 9 := by
      simp only [List.mem_cons, List.not_mem_nil, or_false] at mm
      rcases mm with rfl | rfl | rfl | rfl
      · exact ⟨none, rfl, fun _ e => by cases e⟩
      · exact ⟨none, rfl, fun _ e => by cases e⟩
      · exact ⟨none, rfl, fun _ e => by cases e⟩
      · exact ⟨some _, rfl, fun i e => by cases e; omega⟩
    obtain ⟨fi, rfl, fi0, fi5⟩ : ∃ i : Int, vf = .int i ∧ 0 ≤ i ∧ i ≤ 5 := by
      simp only [List.mem_cons, List.not_mem_nil, or_false] at mf
      rcases mf with rfl | rfl
      · exact ⟨_, rfl, by decide, by decide⟩
      · exact ⟨_, rfl, by omega, by omega⟩
    have x014 : SX p H H14 := (SX.of s1).trans (x2.trans ((SX.of s3).trans (x4.trans (x5.trans ((SX.of s6).trans (x7.trans (x8.trans ((SX.of s9).trans (x10.trans (x11.trans ((SX.of s12).trans (x13.trans (SX.of s14)))))))))))))
    refine q _ ⟨l, d, fi, st, mn⟩ H14 ⟨fi0, fi5, st1, st6, hmn⟩ x014 (p13.same s14) ⟨t, rfl, SqT.of h14⟩
end
end Dt
namespace Dt
open PySem PySem.Spec PyProof.Rows L2
section
variable {P : Program} {w : World} {K : PySem.W.Frag} {mg : Str → Option Value} {base : Heap}
def sp__law_doors (K : PySem.W.Frag) : Sp := fun vs H Q _ => ∃ (x : V) (wk : Wk) (n : Nat), vs = [x, .int n] ∧ IsWk K H x wk ∧ wk.Ok ∧ n ≤ 10000 ∧ ∀ p H', H p = none → Same H H' → H' p = some (.lst ((doorsL wk n).map V.int)) → Q (.ref p) H'
theorem rgC_ok {w : Wk} (ok : w.Ok) {n : Nat} (hn : n ≤ 10000) : RgC w.first n w.step (turnsOf w n) := by
  have s1 := ok.s1
  have s6 := ok.s6
  have f0 := ok.f0
  have f5 := ok.f5
  have hr : 0 ≤ Builtin.Range.rangeSize w.first n w.step ∧ Builtin.Range.rangeSize w.first n w.step = (turnsOf w n : Nat) := by
    unfold turnsOf
    have : 0 ≤ Builtin.Range.rangeSize w.first n w.step := by
      unfold Builtin.Range.rangeSize
      rw [if_pos (show w.step > 0 by omega)]
      split
      · have : 0 ≤ ((n : Int) - w.first - 1) / w.step := Int.ediv_nonneg (by omega) (by omega)
        omega
      · exact Int.le_refl _
    exact ⟨this, by omega⟩
  have ht := turns_le ok (n := n) (by omega)
  refine ⟨by omega, by omega, ?_, hr.2⟩
  unfold Builtin.Range.small
  rw [hr.2]
  have fits : ∀ i : Int, -100000 ≤ i → i ≤ 100000 → Builtin.Range.rangeFitsLong i = true := fun i h1 h2 => by
    unfold Builtin.Range.rangeFitsLong
    simp only [Bool.and_eq_true, decide_eq_true_eq]
    omega
  rw [fits _ (by omega) (by omega), fits _ (by omega) (by omega), fits _ (by omega) (by omega), fits _ (by omega) (by omega), if_pos (show w.step > 0 by omega), fits _ (by omega) (by omega)]
  simp
theorem base_len {w : Wk} (ok : w.Ok) {n : Nat} (hn : n ≤ 10000) : (baseD w n).length ≤ 10000 := by
  have ht := turns_le ok (n := n) (by omega)
  unfold baseD
  cases w.many with
  | none =>
    show ((List.range _).map _).length ≤ _
    rw [List.length_map, List.length_range]
    exact ht
  | some m =>
    show (((List.range _).map _).take _).length ≤ _
    rw [List.length_take, List.length_map, List.length_range]
    omega
theorem ok__law_doors (T : Txt P K mg) : FnOk P w K mg base CX0 1 T.f__law_doors T.d__law_doors ["walker", "n"] (sp__law_doors K) := by
  refine T.F__law_doors.ok sc__law_doors (fun vs H Q E h => ?_) (fun cdv A outer s H vs Q E hr h => ?_)
  · obtain ⟨x, wk, n, rfl, _⟩ := h
    rfl
  · obtain ⟨x, wk, n, rfl, hx, ok, hn, k⟩ := h
    refine ⟨_, (pss_cons (ps_asg (pv 0) (pg_tup rfl (pgs_cons (pg_name (i := 2) sc__law_doors.nd rfl (Or.inl rfl)) (pgs_cons (pg_name (i := 3) sc__law_doors.nd rfl (Or.inl rfl)) (pgs_cons (pg_name (i := 4) sc__law_doors.nd rfl (Or.inl rfl)) (pgs_cons (pg_name (i := 5) sc__law_doors.nd rfl (Or.inl rfl)) (pgs_cons (pg_name (i := 6) sc__law_doors.nd rfl (Or.inl rfl)) pgs_nil)))))))
    (pss_cons (ps_set (i := 7) sc__law_doors.nd rfl (Or.inl rfl) (Dt.pe_list3 rfl (by rfl) T.z_list (by rfl) T.z_range (pa_cons (pv 4) (pa_cons (pv 1) (pa_cons (pv 5) pa_nil)))))
    (pss_cons (ps_if (pt_cmpR o_notN (pv 6) pe_non (nomark _)) (pss_one (ps_set (i := 7) sc__law_doors.nd rfl (Or.inl rfl) (pe_slice sl_list (pv 7) po_none (po_some (pv 6))))) pss_nil)
    (pss_one (ps_ret (pe_ifExp (pt_cmpR op_eq (pv 2) pe_str (nomark _)) (pv 7) (pe_lc (own := [("door", 8)]) (g := gName 8) (tt := tYes) rfl sc__law_doors.nd (pi_list (pv 7)) (blkOk_by (own := [("door", 8)]) (N := ["walker", "n", "end", "deed", "first", "step", "many", "found", "door"]) (sc := defScope s__law_doors) (by decide +kernel)) (fun _ _ _ _ _ => pg_name (i := 8) sc__law_doors.nd rfl (Or.inl rfl)) (fun _ _ _ _ _ => pts_nil) (fun _ _ _ _ _ => (pe_op op_sub (pe_op op_sub (pv 1) pe_int) (pv 8)))))))))), ?_⟩
    obtain ⟨a, rfl, hs⟩ := hx.out
    walk_at "go"
    refine r_lst3K (rgC_ok ok hn) (Nat.le_trans (turns_le ok (by omega)) (by decide)) fun p H1 np s1 hp f1 => ?_
    -- behind the cut: the list at q
    have rest : ∀ q H2, H q = none → Same H H2 → H2 q = some (.lst ((baseD wk n).map V.int)) → tRet (tIf (tTest (tOp rEq (tVar 2) (tC (.str "left")))) (tVar 7) (tLc (iList K (tVar 7)) (gName 8) tYes (tOp (rI0 fun i j => .int (i - j)) (tOp (rI0 fun i j => .int (i - j)) (tVar 1) (tC (.int 1))) (tVar 8)) [8])) { nx := fun _ H' => Q .non H', rt := Q }
        [some (.ref a), some (.int n), some (.str (endS wk.left)), some (.str wk.deed.s), some (.int wk.first), some (.int wk.step), some (manyV wk.many), some (.ref q), none] H2 := fun q H2 nq s2 hq => by
      walk_at "go"
      rw [end_left]
      refine if_b (fun hl => ?_) (fun hl => ?_)
      · walk_at "go"
        refine k q H2 nq s2 ?_
        rw [hq]
        unfold doorsL
        rw [hl]
        rfl
      · walk_at "go"
        refine lcL_by (fun i H' ys => ys = (((baseD wk n).take i).map fun d : Int => (n : Int) - 1 - d).map V.int) (Same.refl H2) (SqL.of hq) (fun _ _ _ _ _ => rfl) (fun x => rfl) ?_ ?_
        · rintro i y H' D ys hi hD sm hy rfl
          obtain ⟨e, he, rfl⟩ : ∃ e, (baseD wk n)[i]? = some e ∧ y = .int e := by
            rw [List.getElem?_map] at hi
            cases e : (baseD wk n)[i]? with
            | none => rw [e] at hi; cases hi
            | some b => rw [e] at hi; exact ⟨b, rfl, (Option.some.inj hi).symm⟩
          walk_at "go"
          refine addTo_by hD sm hy (small_lt (by rw [List.length_map, List.length_map, List.length_take]; have := base_len ok hn; omega)) fun H3 s3 _ hz => ?_
          rw [take_more he, List.map_append, List.map_append]
          rfl
        · rintro H' D ys hD sm hy rfl
          rw [List.length_map, List.take_length] at hy
          refine k D H' (s2.free hD) (s2.trans sm) ?_
          rw [hy]
          unfold doorsL
          rw [hl]
          rfl
    have eb : (rgV3 wk.first wk.step (turnsOf wk n)) = ((List.range (turnsOf wk n)).map fun (i : Nat) => wk.first + (i : Int) * wk.step).map V.int := by
      unfold rgV3
      rw [List.map_map]
      rfl
    rw [eb] at hp
    walk_at "go"
    rw [many_non]
    cases em : wk.many with
    | none =>
      rw [show (none : Option Int).isNone = true from rfl]
      refine r_notTrue ?_
      have := rest p H1 np s1 (by rw [hp]; unfold baseD; rw [em]; rfl)
      rw [em] at this
      exact this
    | some m =>
      have m1 := (ok.m m em).1
      rw [show (some m).isNone = false from rfl, show manyV (some m) = V.int m from rfl]
      refine r_notFalse ?_
      walk_at "go"
      intro q H2 nq s2 hq f2
      have := rest q H2 (s1.free nq) (s1.trans s2) (by
        rw [hq, show m = ((m.toNat : Nat) : Int) by omega, cutV_to]
        unfold baseD
        rw [em, ← List.map_take]
        rfl)
      rw [em] at this
      exact this
end
end Dt
namespace Dt
open PySem PySem.Spec PyProof.Rows L2
section
variable {P : Program} {w : World} {K : PySem.W.Frag} {mg : Str → Option Value} {base : Heap}
def sp__law_walked (K : PySem.W.Frag) : Sp := fun vs H Q _ => ∃ (x : V) (wk : Wk) (a : Addr) (bs : List Bool), vs = [.ref a, x] ∧ SqL K H a (bs.map V.bl) ∧ IsWk K H x wk ∧ wk.Ok ∧ bs.length ≤ 10000 ∧ ∀ p H', H p = none → Same H H' → H' p = some (.lst ((walked bs wk).map V.bl)) → Q (.ref p) H'
theorem deed_open (d : Deed) : decide (V.str d.s = V.str "open") = decide (d = .op) := by cases d <;> decide +kernel
theorem deed_turn (d : Deed) : decide (V.str d.s = V.str "turn") = decide (d = .tu) := by cases d <;> decide +kernel
theorem ok__law_walked (T : Txt P K mg) : FnOk P w K mg base CX0 2 T.f__law_walked T.d__law_walked ["doors", "walker"] (sp__law_walked K) := by
  have G__law_doors : FnOk P w K mg base CX0 1 T.f__law_doors T.d__law_doors ["walker", "n"] (sp__law_doors K) := ok__law_doors T
  refine T.F__law_walked.ok sc__law_walked (fun vs H Q E h => ?_) (fun cdv A outer s H vs Q E hr h => ?_)
  · obtain ⟨x, wk, a, bs, rfl, _⟩ := h
    rfl
  · obtain ⟨x, wk, a, bs, rfl, ha, hx, ok, hl, k⟩ := h
    refine ⟨_, (pss_cons (ps_set (i := 2) sc__law_walked.nd rfl (Or.inl rfl) (pe_callTy c_listOf (by rfl) T.z_list (by decide +kernel) (pa_cons (pv 0) pa_nil)))
    (pss_cons (ps_for PassesOwn.never rfl (pi_list (pe_call G__law_doors (hr.mono (by decide)) (by rfl) T.g__law_doors T.F__law_doors.kp T.b__law_doors .nil pass0 (pa_cons (pv 1) (pa_cons (pe_callB c_len (by rfl) T.z_len PySem.boot_len (pa_cons (pv 0) pa_nil)) pa_nil)))) (pg_name (i := 3) sc__law_walked.nd rfl (Or.inl rfl))
      (pss_cons (ps_set (i := 4) sc__law_walked.nd rfl (Or.inl rfl) (pe_cmpR op_eq (pe_ix ix_tup (pv 1) pe_int (fun _ _ => rfl)) pe_str (nomark _)))
    (pss_one (ps_asg (pe_ifExp (pt_cmpR op_eq (pe_ix ix_tup (pv 1) pe_int (fun _ _ => rfl)) pe_str (nomark _)) (pe_not (pe_ix ix_list (pv 2) (pv 3) (fun _ _ => rfl))) (pv 4)) (pg_sub (pv 2) (pv 3) set_list)))))
    (pss_one (ps_ret (pv 2))))), ?_⟩
    obtain ⟨b, rfl, hb⟩ := hx.out
    walk_at "go"
    intro p H1 np s1 hp f1
    walk_at "go"
    rw [List.length_map]
    refine ⟨.ref b, wk, bs.length, rfl, ⟨b, rfl, Same.sqT s1 hb⟩, ok, hl, fun q H2 nq s2 hq => ?_⟩
    have npq : p ≠ q := ne_of_none hp nq
    have hp2 := s2 _ _ hp
    have s02 := s1.trans s2
    refine forL_by (fun i σ H' => ∃ o3 o4, σ = [some (.ref a), some (.ref b), some (.ref p), o3, o4] ∧ Same H H' ∧ H' q = some (.lst ((doorsL wk bs.length).map V.int)) ∧ H' p = some (.lst ((upTo bs wk ((doorsL wk bs.length).take i)).map V.bl)))
      (SqL.of hq) ⟨none, none, rfl, s02, hq, by rw [List.take_zero, upTo_nil]; exact hp2⟩ (fun i σ H' _ ⟨_, _, _, _, z, _⟩ => SqL.of z) ?_ ?_
    · rintro i y σ H' hi ⟨o3, o4, rfl, sm, hq', hp'⟩
      obtain ⟨e, he, rfl⟩ : ∃ e, (doorsL wk bs.length)[i]? = some e ∧ y = .int e := by
        rw [List.getElem?_map] at hi
        cases e : (doorsL wk bs.length)[i]? with
        | none => rw [e] at hi; cases hi
        | some b => rw [e] at hi; exact ⟨b, rfl, (Option.some.inj hi).symm⟩
      obtain ⟨e0, e1, e2⟩ := (mem_doors ok).mp (List.mem_of_getElem? he)
      obtain ⟨d, rfl⟩ := Int.eq_ofNat_of_zero_le e0
      have hd : d < bs.length := by omega
      have hnot : ((d : Nat) : Int) ∉ (doorsL wk bs.length).take i := fun hm => by
        obtain ⟨j, hj⟩ := List.getElem?_of_mem hm
        rw [List.getElem?_take] at hj
        split at hj
        · rename_i hji
          obtain ⟨h1, h2⟩ := List.getElem?_eq_some_iff.mp hj
          obtain ⟨h3, h4⟩ := List.getElem?_eq_some_iff.mp he
          have := (List.getElem_inj (nodup_doors ok _)).mp (h2.trans h4.symm)
          omega
        · cases hj
      have hb' : SqT K H' b [.str (endS wk.left), .str wk.deed.s, .int wk.first, .int wk.step, manyV wk.many] := Same.sqT sm hb
      have hix : ixN ((upTo bs wk ((doorsL wk bs.length).take i)).map V.bl).length ((d : Nat) : Int) = some d := by
        unfold ixN
        rw [List.length_map, upTo_len, if_pos e0, if_pos (by omega)]
        rfl
      have hget : atI ((upTo bs wk ((doorsL wk bs.length).take i)).map V.bl) ((d : Nat) : Int) = some (.bl bs[d]) := by
        refine atI_nat ?_
        rw [List.getElem?_map, upTo_get hd, if_neg hnot]
        rfl
      have fin : ∀ (v : Bool) (o : Option V), v = act wk.deed bs[d] → ∃ o3 o4, ([some (.ref a), some (.ref b), some (.ref p), some (.int ((d : Nat) : Int)), o] : L2.St) = [some (.ref a), some (.ref b), some (.ref p), o3, o4] ∧ Same H (upd H' p (.lst (((upTo bs wk ((doorsL wk bs.length).take i)).map V.bl).set d (.bl v)))) ∧
          (upd H' p (.lst (((upTo bs wk ((doorsL wk bs.length).take i)).map V.bl).set d (.bl v)))) q = some (.lst ((doorsL wk bs.length).map V.int)) ∧
          (upd H' p (.lst (((upTo bs wk ((doorsL wk bs.length).take i)).map V.bl).set d (.bl v)))) p = some (.lst ((upTo bs wk ((doorsL wk bs.length).take (i + 1))).map V.bl)) := fun v o ev => by
        refine ⟨_, _, rfl, fun c u eu => ?_, ?_, ?_⟩
        · rw [upd_ne (ne_of_none eu np)]
          exact sm _ _ eu
        · rw [upd_ne npq.symm]
          exact hq'
        · rw [upd_same, take_more he, ← upTo_snoc hd hnot, List.map_set, ev]
      walk_at "go"
      rw [deed_turn]
      refine if_d (fun ht => ?_) (fun ht => ?_)
      · walk_at "go"
        refine r_ixL (SqL.of hp') hget ?_
        walk_at "go"
        refine r_setL hp' hix ?_
        refine fin _ _ ?_
        rw [ht]
        rfl
      · walk_at "go"
        refine r_setL hp' hix ?_
        rw [deed_open]
        refine fin _ _ ?_
        cases hdd : wk.deed with
        | op => rfl
        | sh => rfl
        | tu => exact absurd hdd ht
    · rintro σ H' ⟨o3, o4, rfl, sm, hq', hp'⟩
      rw [List.length_map, List.take_length, upTo_all ok] at hp'
      walk_at "go"
      exact k p H' np sm hp'
end
end Dt
namespace Dt
open PySem PySem.Spec PyProof.Rows L2
section
variable {P : Program} {w : World} {K : PySem.W.Frag} {mg : Str → Option Value} {base : Heap}
def sp__law_row (K : PySem.W.Frag) : Sp := fun vs H Q _ => ∃ (x : V) (sc : Scr) (n : Nat), vs = [x, .int n] ∧ IsScr K H x sc ∧ (∀ w ∈ sc, w.Ok) ∧ n ≤ 10000 ∧ ∀ p H', H p = none → Same H H' → H' p = some (.lst ((rowOf sc n).map V.bl)) → Q (.ref p) H'
theorem ok__law_row (T : Txt P K mg) : FnOk P w K mg base CX0 3 T.f__law_row T.d__law_row ["script", "n"] (sp__law_row K) := by
  have G__law_walked : FnOk P w K mg base CX0 2 T.f__law_walked T.d__law_walked ["doors", "walker"] (sp__law_walked K) := ok__law_walked T
  refine T.F__law_row.ok sc__law_row (fun vs H Q E h => ?_) (fun cdv A outer s H vs Q E hr h => ?_)
  · obtain ⟨x, sc, n, rfl, _⟩ := h
    rfl
  · obtain ⟨x, sc, n, rfl, ⟨a, xs, rfl, hs, hp⟩, ok, hn, k⟩ := h
    refine ⟨_, (pss_cons (ps_set (i := 2) sc__law_row.nd rfl (Or.inl rfl) (pe_op op_rep (pe_lst (pa_cons pe_bl pa_nil)) (pv 1)))
    (pss_cons (ps_for PassesOwn.never rfl (pi_tup (pv 0)) (pg_name (i := 3) sc__law_row.nd rfl (Or.inl rfl))
      (pss_one (ps_set (i := 2) sc__law_row.nd rfl (Or.inl rfl) (pe_call G__law_walked (hr.mono (by decide)) (by rfl) T.g__law_walked T.F__law_walked.kp T.b__law_walked .nil pass0 (pa_cons (pv 2) (pa_cons (pv 3) pa_nil))))))
    (pss_one (ps_ret (pv 2))))), ?_⟩
    walk_at "go"
    intro l0 H0 nl0 s0 hl0 f0
    walk_at "go"
    refine r_rep hl0 (by omega) (by omega) (small_line (by show 1 * _ ≤ _; omega)) fun l1 H1 nl1 s1 hl1 f1 => ?_
    have e1 : (List.replicate (n : Int).toNat [V.bl false]).flatten = (List.replicate n false).map V.bl := by
      rw [show (n : Int).toNat = n by omega]
      clear hl1 hn k
      induction n with
      | zero => rfl
      | succ n ih =>
        rw [List.replicate_succ, List.replicate_succ, List.flatten_cons, ih]
        rfl
    rw [e1] at hl1
    have s01 := s0.trans s1
    walk_at "go"
    refine forT_by (fun i σ H' => ∃ l o3, σ = [some (.ref a), some (.int n), some (.ref l), o3] ∧ H l = none ∧ Same H H' ∧ H' l = some (.lst (((sc.take i).foldl walked (List.replicate n false)).map V.bl)))
      (Same.sqT s01 hs) ⟨l1, none, rfl, s0.free nl1, s01, hl1⟩ (fun i σ H' _ ⟨_, _, _, _, sm, _⟩ => Same.sqT sm hs) ?_ ?_
    · rintro i y σ H' hi ⟨l, o3, rfl, nl, sm, hl⟩
      obtain ⟨wk, hw, iw⟩ := paired_get hp hi
      have okw := ok wk (List.mem_of_getElem? hw)
      rw [foldl_more hw]
      walk_at "go"
      refine ⟨y, wk, l, _, rfl, SqL.of hl, iw.mono sm, okw, by rw [fold_len, List.length_replicate]; exact hn, fun p H2 np s2 hp2 => ?_⟩
      walk_at "go"
      exact ⟨p, _, rfl, sm.free np, sm.trans s2, hp2⟩
    · rintro σ H' ⟨l, o3, rfl, nl, sm, hl⟩
      walk_at "go"
      rw [paired_len hp, List.take_length] at hl
      refine k l H' nl sm ?_
      rw [hl, ← lawRow_eq]
      rfl
end
end Dt
namespace Dt
open PySem PySem.Spec PyProof.Rows L2
section
variable {P : Program} {w : World} {K : PySem.W.Frag} {mg : Str → Option Value} {base : Heap}
def sp__law_known (K : PySem.W.Frag) : Sp := fun vs H Q _ => vs = [] ∧ ∀ a v1 v2 v3 v4 v5 H', Same H H' → SqT K H' a [v1, v2, v3, v4, v5] → IsScr K H' v1 doc1 → IsScr K H' v2 doc2 → IsScr K H' v3 doc3 → IsScr K H' v4 doc4 → IsScr K H' v5 doc5 → Q (.ref a) H'
theorem ok__law_known (T : Txt P K mg) : FnOk P w K mg base CX0 1 T.f__law_known T.d__law_known [] (sp__law_known K) := by
  refine T.F__law_known.ok sc__law_known (fun vs H Q E h => ?_) (fun cdv A outer s H vs Q E hr h => ?_)
  · obtain ⟨rfl, _⟩ := h
    rfl
  · obtain ⟨rfl, k⟩ := h
    refine ⟨_, (pss_cons (ps_set (i := 0) sc__law_known.nd rfl (Or.inl rfl) (pe_tup (pa_cons (pe_tup (pa_cons pe_str (pa_cons pe_str (pa_cons pe_int (pa_cons pe_int (pa_cons pe_non pa_nil)))))) pa_nil)))
    (pss_cons (ps_set (i := 1) sc__law_known.nd rfl (Or.inl rfl) (pe_op op_catA (pv 0) (pe_tup (pa_cons (pe_tup (pa_cons pe_str (pa_cons pe_str (pa_cons pe_int (pa_cons pe_int (pa_cons pe_non pa_nil)))))) pa_nil))))
    (pss_cons (ps_set (i := 2) sc__law_known.nd rfl (Or.inl rfl) (pe_tup (pa_cons (pe_tup (pa_cons pe_str (pa_cons pe_str (pa_cons pe_int (pa_cons pe_int (pa_cons pe_non pa_nil)))))) (pa_cons (pe_tup (pa_cons pe_str (pa_cons pe_str (pa_cons pe_int (pa_cons pe_int (pa_cons pe_non pa_nil)))))) (pa_cons (pe_tup (pa_cons pe_str (pa_cons pe_str (pa_cons pe_int (pa_cons pe_int (pa_cons pe_non pa_nil)))))) pa_nil)))))
    (pss_cons (ps_set (i := 3) sc__law_known.nd rfl (Or.inl rfl) (pe_tup (pa_cons (pe_tup (pa_cons pe_str (pa_cons pe_str (pa_cons pe_int (pa_cons pe_int (pa_cons pe_int pa_nil)))))) (pa_cons (pe_tup (pa_cons pe_str (pa_cons pe_str (pa_cons pe_int (pa_cons pe_int (pa_cons pe_int pa_nil)))))) pa_nil))))
    (pss_one (ps_ret (pe_tup (pa_cons (pv 0) (pa_cons (pv 1) (pa_cons (pv 2) (pa_cons (pv 3) (pa_cons (pe_tup (pa_cons (pe_tup (pa_cons pe_str (pa_cons pe_str (pa_cons pe_int (pa_cons pe_int (pa_cons pe_non pa_nil)))))) pa_nil)) pa_nil)))))))))))), ?_⟩
    -- one
    walk_at "go"
    intro p1 H1 n1 s1 h1 _
    walk_at "go"
    intro p2 H2 n2 s2 h2 _
    -- two
    walk_at "go"
    intro p3 H3 n3 s3 h3 _
    walk_at "go"
    intro p4 H4 n4 s4 h4 _
    walk_at "go"
    have s24 := s3.trans s4
    refine r_catT (SqT.of (s24 _ _ h2)) (SqT.of h4) (small_b rfl) ?_
    rintro _ H5 s5 ⟨p5, rfl, h5⟩
    have s15 := s2.trans (s24.trans s5)
    have w1 : IsWk K H5 (.ref p1) ⟨true, .op, 0, 2, none⟩ := ⟨p1, rfl, SqT.of (s15 _ _ h1)⟩
    have w2 : IsWk K H5 (.ref p3) ⟨false, .tu, 0, 3, none⟩ := ⟨p3, rfl, SqT.of (s4.trans s5 _ _ h3)⟩
    have d1 : IsScr K H5 (.ref p2) doc1 := ⟨p2, _, rfl, SqT.of (s24.trans s5 _ _ h2), .cons w1 .nil⟩
    have d2 : IsScr K H5 (.ref p5) doc2 := ⟨p5, _, rfl, h5, .cons w1 (.cons w2 .nil)⟩
    have s05 := s1.trans s15
    clear w1 w2 h1 h2 h3 h4 h5 s15 s24
    -- three
    walk_at "go"
    intro p6 H6 n6 s6 h6 _
    walk_at "go"
    intro p7 H7 n7 s7 h7 _
    walk_at "go"
    intro p8 H8 n8 s8 h8 _
    walk_at "go"
    intro p9 H9 n9 s9 h9 _
    have d3 : IsScr K H9 (.ref p9) doc3 := ⟨p9, _, rfl, SqT.of h9, .cons ⟨p6, rfl, SqT.of (s7.trans (s8.trans s9) _ _ h6)⟩ (.cons ⟨p7, rfl, SqT.of (s8.trans s9 _ _ h7)⟩ (.cons ⟨p8, rfl, SqT.of (s9 _ _ h8)⟩ .nil))⟩
    have s59 := s6.trans (s7.trans (s8.trans s9))
    -- four
    walk_at "go"
    intro p10 H10 n10 s10 h10 _
    walk_at "go"
    intro p11 H11 n11 s11 h11 _
    walk_at "go"
    intro p12 H12 n12 s12 h12 _
    have d4 : IsScr K H12 (.ref p12) doc4 := ⟨p12, _, rfl, SqT.of h12, .cons ⟨p10, rfl, SqT.of (s11.trans s12 _ _ h10)⟩ (.cons ⟨p11, rfl, SqT.of (s12 _ _ h11)⟩ .nil)⟩
    have s912 := s10.trans (s11.trans s12)
    walk_at "go"
    intro p13 H13 n13 s13 h13 _
    walk_at "go"
    intro p14 H14 n14 s14 h14 _
    have d5 : IsScr K H14 (.ref p14) doc5 := ⟨p14, _, rfl, SqT.of h14, .cons ⟨p13, rfl, SqT.of (s14 _ _ h13)⟩ .nil⟩
    have s1214 := s13.trans s14
    walk_at "go"
    intro p15 H15 n15 s15 h15 _
    have s1215 := s1214.trans s15
    have s915 := s912.trans s1215
    have s515 := s59.trans s915
    exact k p15 _ _ _ _ _ H15 (s05.trans s515) (SqT.of h15) (d1.mono s515) (d2.mono s515) (d3.mono s915) (d4.mono s1215) (d5.mono s15)
end
end Dt
namespace Dt
open PySem PySem.Spec PyProof.Rows L2
section
variable {P : Program} {w : World} {K : PySem.W.Frag} {mg : Str → Option Value} {base : Heap}
def sp__law_alike (K : PySem.W.Frag) : Sp := fun vs H Q _ => ∃ (x y : V) (a b : Scr), vs = [x, y] ∧ IsScr K H x a ∧ IsScr K H y b ∧ (∀ w ∈ a, w.Ok) ∧ (∀ w ∈ b, w.Ok) ∧ ∀ H', Same H H' → Q (.bl (lawAlike a b)) H'
theorem alike_no {a b : Scr} {n : Nat} (hn : n < 76) (h : rowOf a n ≠ rowOf b n) : lawAlike a b = false := by
  cases e : lawAlike a b with
  | false => rfl
  | true =>
    unfold lawAlike at e
    exact absurd (of_decide_eq_true (List.all_eq_true.mp e n (List.mem_range.mpr hn))) h
theorem alike_yes {a b : Scr} (h : ∀ n : Nat, n < 76 → rowOf a n = rowOf b n) : lawAlike a b = true := by
  unfold lawAlike
  rw [List.all_eq_true]
  exact fun n hn => decide_eq_true (h n (List.mem_range.mp hn))
theorem ok__law_alike (T : Txt P K mg) : FnOk P w K mg base CX0 4 T.f__law_alike T.d__law_alike ["one", "other"] (sp__law_alike K) := by
  have G__law_row : FnOk P w K mg base CX0 3 T.f__law_row T.d__law_row ["script", "n"] (sp__law_row K) := ok__law_row T
  refine T.F__law_alike.ok sc__law_alike (fun vs H Q E h => ?_) (fun cdv A outer s H vs Q E hr h => ?_)
  · obtain ⟨x, y, a, b, rfl, _⟩ := h
    rfl
  · obtain ⟨x, y, a, b, rfl, ia, ib, oka, okb, k⟩ := h
    refine ⟨_, (pss_cons (ps_for PassesOwn.never rfl (pi_range1 (by rfl) T.z_range (pa_cons pe_int pa_nil)) (pg_name (i := 2) sc__law_alike.nd rfl (Or.inl rfl))
      (pss_one (ps_if (pt_cmpR (op_neD hr.units) (pe_call G__law_row (hr.mono (by decide)) (by rfl) T.g__law_row T.F__law_row.kp T.b__law_row .nil pass0 (pa_cons (pv 0) (pa_cons (pv 2) pa_nil))) (pe_call G__law_row (hr.mono (by decide)) (by rfl) T.g__law_row T.F__law_row.kp T.b__law_row .nil pass0 (pa_cons (pv 1) (pa_cons (pv 2) pa_nil))) (nomark _)) (pss_one (ps_ret pe_bl)) pss_nil)))
    (pss_one (ps_ret pe_bl))), ?_⟩
    walk_at "go"
    refine forR1_by (fun i σ H' => ∃ o2, σ = [some x, some y, o2] ∧ Same H H' ∧ ∀ n : Nat, n < i → rowOf a n = rowOf b n) (by decide) (by decide) ⟨none, rfl, Same.refl H, fun _ z => absurd z (Nat.not_lt_zero _)⟩ ?_ ?_
    · rintro i σ H2 hi ⟨o2, rfl, sm, hn⟩
      walk_at "go"
      refine ⟨x, a, i, rfl, ia.mono sm, oka, by omega, fun p H3 np s3 hp => ?_⟩
      walk_at "go"
      refine ⟨y, b, i, rfl, ib.mono (sm.trans s3), okb, by omega, fun q H4 nq s4 hq => ?_⟩
      refine r_neD (d := .list ((rowOf a i).map .bool)) (e := .list ((rowOf b i).map .bool)) (.lst (SqL.of (s4 _ _ hp)) (dps_bools _)) (.lst (SqL.of hq) (dps_bools _)) (dk_bools.shaped (by decide)) (dk_bools.shaped (by decide)) ?_
      rw [eqv_bools]
      walk_at "go"
      refine if_nd (fun h => ?_) (fun h => ?_)
      · walk_at "go"
        have := k H4 (sm.trans (s3.trans s4))
        rw [alike_no (n := i) (by omega) h] at this
        exact this
      · walk_at "go"
        refine ⟨_, rfl, sm.trans (s3.trans s4), fun n hni => ?_⟩
        by_cases e : n < i
        · exact hn n e
        · rw [show n = i by omega]
          exact h
    · rintro σ H2 ⟨o2, rfl, sm, hn⟩
      walk_at "go"
      have := k H2 sm
      rw [alike_yes hn] at this
      exact this
end
end Dt
namespace Dt
open PySem PySem.Spec PyProof.Rows L2
section
variable {P : Program} {w : World} {K : PySem.W.Frag} {mg : Str → Option Value} {base : Heap}
def sp_law (K : PySem.W.Frag) : Sp := fun vs H Q _ => ∃ (a : Addr) (ns : List Int), vs = [.ref a] ∧ SqL K H a (ns.map V.int) ∧ ns.length ≤ 63 ∧ (∀ z ∈ ns, Builtin.Int.intBits z ≤ 1048576) ∧ ∀ H', Q (.bl true) H'
theorem nats_snoc (p : Nat → Bool) (i : Nat) : natsV ((List.range (i + 1)).filter p) = natsV ((List.range i).filter p) ++ (if p i = true then [V.int (i : Int)] else []) := by
  unfold natsV
  rw [List.range_succ, List.filter_append, List.map_append]
  by_cases h : p i = true
  · rw [if_pos h, List.filter_cons_of_pos h]
    rfl
  · rw [if_neg h, List.filter_cons_of_neg h]
    rfl
theorem nats_len (p : Nat → Bool) (i : Nat) : (natsV ((List.range i).filter p)).length ≤ i := by
  unfold natsV
  rw [List.length_map]
  exact Nat.le_trans (List.length_filter_le _ _) (by rw [List.length_range]; exact Nat.le_refl _)
theorem filt_congr {p q : Nat → Bool} {n : Nat} (h : ∀ i, i < n → p i = q i) : (List.range n).filter p = (List.range n).filter q := List.filter_congr fun i hi => h i (List.mem_range.mp hi)
theorem small_snoc {s : Scr} {w : Wk} (h : Small s) (hw : w.Ok ∧ w.first ≤ 2 ∧ w.step ≤ 3) : Small (s ++ [w]) := fun x hx => by
  rcases List.mem_append.mp hx with z | z
  · exact h x z
  · rw [List.mem_singleton.mp z]
    exact hw
theorem ok_law (T : Txt P K mg) : FnOk P w K mg base CX0 6 T.f_law T.d_law ["script"] (sp_law K) := by
  have G__law_known : FnOk P w K mg base CX0 1 T.f__law_known T.d__law_known [] (sp__law_known K) := ok__law_known T
  have G__law_source : FnOk P w K mg base CX0 1 T.f__law_source T.d__law_source ["script", "k"] (sp__law_source K) := ok__law_source T
  have G__law_draw : FnOk P w K mg base CX0 1 T.f__law_draw T.d__law_draw ["source", "many"] (sp__law_draw K) := ok__law_draw T
  have G__law_walker : FnOk P w K mg base CX0 3 T.f__law_walker T.d__law_walker ["source"] (sp__law_walker K) := ok__law_walker T
  have G__law_alike : FnOk P w K mg base CX0 4 T.f__law_alike T.d__law_alike ["one", "other"] (sp__law_alike K) := ok__law_alike T
  have G_idle_walkers : FnOk P w K mg base CX0 5 T.f_idle_walkers T.d_idle_walkers ["script"] (sp_idle_walkers K) := ok_idle_walkers T
  have G_exchangeable : FnOk P w K mg base CX0 5 T.f_exchangeable T.d_exchangeable ["script"] (sp_exchangeable K) := ok_exchangeable T
  refine T.F_law.ok sc_law (fun vs H Q E h => ?_) (fun cdv A outer s H vs Q E hr h => ?_)
  · obtain ⟨a, ns, rfl, _⟩ := h
    rfl
  · obtain ⟨a, ns, rfl, hS, hl, _, fin⟩ := h
    refine ⟨_, (pss_cons (ps_for PassesOwn.never rfl (pi_range1 (by rfl) T.z_range (pa_cons (pe_op op_add pe_int (pe_callB (c_min2 rfl) (by rfl) T.z_min (by decide +kernel) (pa_cons (pe_callB c_len (by rfl) T.z_len PySem.boot_len (pa_cons (pv 0) pa_nil)) (pa_cons pe_int pa_nil)))) pa_nil)) (pg_name (i := 1) sc_law.nd rfl (Or.inl rfl))
      (pss_cons (ps_set (i := 2) sc_law.nd rfl (Or.inl rfl) (pe_call G__law_source (hr.mono (by decide)) (by rfl) T.g__law_source T.F__law_source.kp T.b__law_source .nil pass0 (pa_cons (pv 0) (pa_cons (pv 1) pa_nil))))
    (pss_cons (ps_set (i := 3) sc_law.nd rfl (Or.inl rfl) (pe_tup pa_nil))
    (pss_cons (ps_for PassesOwn.never rfl (pi_range1 (by rfl) T.z_range (pa_cons (pe_call G__law_draw (hr.mono (by decide)) (by rfl) T.g__law_draw T.F__law_draw.kp T.b__law_draw .nil pass0 (pa_cons (pv 2) (pa_cons pe_int pa_nil))) pa_nil)) (pg_name (i := 4) sc_law.nd rfl (Or.inl rfl))
      (pss_cons (ps_asg (pe_call G__law_walker (hr.mono (by decide)) (by rfl) T.g__law_walker T.F__law_walker.kp T.b__law_walker .nil pass0 (pa_cons (pv 2) pa_nil)) (pg_tup rfl (pgs_cons (pg_name (i := 5) sc_law.nd rfl (Or.inl rfl)) (pgs_cons (pg_name (i := 6) sc_law.nd rfl (Or.inl rfl)) (pgs_cons (pg_name (i := 7) sc_law.nd rfl (Or.inl rfl)) (pgs_cons (pg_name (i := 8) sc_law.nd rfl (Or.inl rfl)) (pgs_cons (pg_name (i := 9) sc_law.nd rfl (Or.inl rfl)) pgs_nil)))))))
    (pss_one (ps_set (i := 3) sc_law.nd rfl (Or.inl rfl) (pe_op op_catA (pv 3) (pe_tup (pa_cons (pe_tup (pa_cons (pv 5) (pa_cons (pv 6) (pa_cons (pe_op op_mod (pv 7) pe_int) (pa_cons (pe_op op_add pe_int (pe_op op_mod (pv 8) pe_int)) (pa_cons (pv 9) pa_nil)))))) pa_nil)))))))
    (pss_cons (ps_set (i := 10) sc_law.nd rfl (Or.inl rfl) (pe_lst pa_nil))
    (pss_cons (ps_for PassesOwn.never rfl (pi_range1 (by rfl) T.z_range (pa_cons (pe_callB c_len (by rfl) T.z_len PySem.boot_len (pa_cons (pv 3) pa_nil)) pa_nil)) (pg_name (i := 11) sc_law.nd rfl (Or.inl rfl))
      (pss_one (ps_if (pt_val (pe_call G__law_alike (hr.mono (by decide)) (by rfl) T.g__law_alike T.F__law_alike.kp T.b__law_alike .nil pass0 (pa_cons (pv 3) (pa_cons (pe_op op_catA (pe_slice sl_tupA (pv 3) po_none (po_some (pv 11))) (pe_slice sl_tupA (pv 3) (po_some (pe_op op_add (pv 11) pe_int)) po_none)) pa_nil)))) (pss_one (ps_expr (pe_bm PySem.F.plainAttrs_list PySem.F.slot_list_append PySem.F.type_list_append mt_append (pv 10) (pa_cons (pv 11) pa_nil)))) pss_nil)))
    (pss_cons (ps_if (pt_cmpR (op_neD hr.units) (pe_call G_idle_walkers (hr.mono (by decide)) (by rfl) T.g_idle_walkers T.F_idle_walkers.kp T.b_idle_walkers .nil pass0 (pa_cons (pv 3) pa_nil)) (pv 10) (nomark _)) (pss_one (ps_ret pe_bl)) pss_nil)
    (pss_cons (ps_set (i := 10) sc_law.nd rfl (Or.inl rfl) (pe_lst pa_nil))
    (pss_cons (ps_for PassesOwn.never rfl (pi_range1 (by rfl) T.z_range (pa_cons (pe_op op_sub (pe_callB c_len (by rfl) T.z_len PySem.boot_len (pa_cons (pv 3) pa_nil)) pe_int) pa_nil)) (pg_name (i := 11) sc_law.nd rfl (Or.inl rfl))
      (pss_cons (ps_set (i := 12) sc_law.nd rfl (Or.inl rfl) (pe_op op_catA (pe_op op_catA (pe_slice sl_tupA (pv 3) po_none (po_some (pv 11))) (pe_tup (pa_cons (pe_ix ix_tup (pv 3) (pe_op op_add (pv 11) pe_int) (fun _ _ => rfl)) (pa_cons (pe_ix ix_tup (pv 3) (pv 11) (fun _ _ => rfl)) pa_nil)))) (pe_slice sl_tupA (pv 3) (po_some (pe_op op_add (pv 11) pe_int)) po_none)))
    (pss_one (ps_if (pt_val (pe_call G__law_alike (hr.mono (by decide)) (by rfl) T.g__law_alike T.F__law_alike.kp T.b__law_alike .nil pass0 (pa_cons (pv 3) (pa_cons (pv 12) pa_nil)))) (pss_one (ps_expr (pe_bm PySem.F.plainAttrs_list PySem.F.slot_list_append PySem.F.type_list_append mt_append (pv 10) (pa_cons (pv 11) pa_nil)))) pss_nil))))
    (pss_one (ps_if (pt_cmpR (op_neD hr.units) (pe_call G_exchangeable (hr.mono (by decide)) (by rfl) T.g_exchangeable T.F_exchangeable.kp T.b_exchangeable .nil pass0 (pa_cons (pv 3) pa_nil)) (pv 10) (nomark _)) (pss_one (ps_ret pe_bl)) pss_nil)))))))))))
    (pss_cons (ps_asg (pe_call0 G__law_known (hr.mono (by decide)) (by rfl) T.g__law_known T.F__law_known.kp T.b__law_known .nil pass0) (pg_tup rfl (pgs_cons (pg_name (i := 13) sc_law.nd rfl (Or.inl rfl)) (pgs_cons (pg_name (i := 14) sc_law.nd rfl (Or.inl rfl)) (pgs_cons (pg_name (i := 15) sc_law.nd rfl (Or.inl rfl)) (pgs_cons (pg_name (i := 16) sc_law.nd rfl (Or.inl rfl)) (pgs_cons (pg_name (i := 17) sc_law.nd rfl (Or.inl rfl)) pgs_nil)))))))
    (pss_cons (ps_if (PW.pt (pw_or (pt_cmpR (op_neD hr.units) (pe_call G_idle_walkers (hr.mono (by decide)) (by rfl) T.g_idle_walkers T.F_idle_walkers.kp T.b_idle_walkers .nil pass0 (pa_cons (pe_op op_catA (pv 13) (pv 17)) pa_nil)) (pe_lst (pa_cons pe_int pa_nil)) (nomark _)) (pw_or1 (pt_cmpR (op_neD hr.units) (pe_call G_idle_walkers (hr.mono (by decide)) (by rfl) T.g_idle_walkers T.F_idle_walkers.kp T.b_idle_walkers .nil pass0 (pa_cons (pv 15) pa_nil)) (pe_lst pa_nil) (nomark _))))) (pss_one (ps_ret pe_bl)) pss_nil)
    (pss_cons (ps_if (PW.pt (pw_or (pt_cmpR (op_neD hr.units) (pe_call G_exchangeable (hr.mono (by decide)) (by rfl) T.g_exchangeable T.F_exchangeable.kp T.b_exchangeable .nil pass0 (pa_cons (pv 15) pa_nil)) (pe_lst (pa_cons pe_int (pa_cons pe_int pa_nil))) (nomark _)) (pw_or1 (pt_cmpR (op_neD hr.units) (pe_call G_exchangeable (hr.mono (by decide)) (by rfl) T.g_exchangeable T.F_exchangeable.kp T.b_exchangeable .nil pass0 (pa_cons (pv 16) pa_nil)) (pe_lst pa_nil) (nomark _))))) (pss_one (ps_ret pe_bl)) pss_nil)
    (pss_cons (ps_set (i := 18) sc_law.nd rfl (Or.inl rfl) (pe_tup (pa_cons (pe_tup (pa_cons pe_str (pa_cons pe_str (pa_cons pe_int (pa_cons pe_int (pa_cons pe_non pa_nil)))))) (pa_cons (pe_tup (pa_cons pe_str (pa_cons pe_str (pa_cons pe_int (pa_cons pe_int (pa_cons pe_int pa_nil)))))) pa_nil))))
    (pss_one (ps_ret (pe_and (pe_cmpR (op_eqD hr.units) (pe_call G_idle_walkers (hr.mono (by decide)) (by rfl) T.g_idle_walkers T.F_idle_walkers.kp T.b_idle_walkers .nil pass0 (pa_cons (pv 18) pa_nil)) (pe_lst (pa_cons pe_int (pa_cons pe_int pa_nil))) (nomark _)) (pe_and (pe_cmpR (op_eqD hr.units) (pe_call G_idle_walkers (hr.mono (by decide)) (by rfl) T.g_idle_walkers T.F_idle_walkers.kp T.b_idle_walkers .nil pass0 (pa_cons (pe_tup pa_nil) pa_nil)) (pe_lst pa_nil) (nomark _)) (pe_one (pe_cmpR (op_eqD hr.units) (pe_call G_exchangeable (hr.mono (by decide)) (by rfl) T.g_exchangeable T.F_exchangeable.kp T.b_exchangeable .nil pass0 (pa_cons (pv 13) pa_nil)) (pe_lst pa_nil) (nomark _)))))))))))), ?_⟩
    walk_at "go"
    rw [List.length_map]
    refine forR1_by (fun i σ H' => ∃ o1 o2 o3 o4 o5 o6 o7 o8 o9 o10 o11 o12 o13 o14 o15 o16 o17 o18, σ = [some (.ref a), o1, o2, o3, o4, o5, o6, o7, o8, o9, o10, o11, o12, o13, o14, o15, o16, o17, o18] ∧ Same H H') (by split <;> omega) (by split <;> omega)
      ⟨none, none, none, none, none, none, none, none, none, none, none, none, none, none, none, none, none, none, rfl, Same.refl _⟩ ?_ ?_
    · rintro i σ H4 hi ⟨o1, o2, o3, o4, o5, o6, o7, o8, o9, o10, o11, o12, o13, o14, o15, o16, o17, o18, rfl, s04⟩
      have hi10 : i ≤ 10 := by split at hi <;> omega
      walk_at "go"
      refine ⟨a, ns, i, rfl, s04.seq hS, hl, by omega, fun p H5 np s5 p5 => ?_⟩
      walk_at "go"
      intro b0 H6 n0 s6 h0 _
      have p6 := p5.same s6
      walk_at "go"
      refine ⟨p, 7, rfl, p6, by decide, by decide, fun r1 H7 r10 r11 x7 p7 => ?_⟩
      refine forR1_by (fun j σ H' => ∃ v sc o4 o5 o6 o7 o8 o9, σ = [some (.ref a), some (.int i), some (.ref p), some v, o4, o5, o6, o7, o8, o9, o10, o11, o12, o13, o14, o15, o16, o17, o18] ∧ SX p H5 H' ∧ Src H' p ∧ IsScr K H' v sc ∧ Small sc ∧ sc.length = j) (by omega) (by omega)
        ⟨.ref b0, [], _, _, _, _, _, _, rfl, (SX.of s6).trans x7, p7, ⟨b0, [], rfl, SqT.of (x7.at (p5.ne n0) h0), .nil⟩, fun _ z => (by cases z), rfl⟩ ?_ ?_
      · rintro j σ H8 hj ⟨v, sc, o4, o5, o6, o7, o8, o9, rfl, x8, p8, isc, sml, len⟩
        walk_at "go"
        refine ⟨p, rfl, p8, fun vw wk H9 okw x9 p9 iw => ?_⟩
        obtain ⟨bw, rfl, hbw⟩ := iw.out
        walk_at "go"
        refine r_I (by decide) ?_
        walk_at "go"
        refine r_I (by decide) ?_
        walk_at "go"
        intro b10 H10 n10 s10 h10 _
        walk_at "go"
        intro b11 H11 n11 s11 h11 _
        have isc9 := isc.st (x9.st p8)
        obtain ⟨bs, us, rfl, hbs, hps⟩ := isc9.mono (s10.trans s11)
        have el := paired_len hps
        refine r_catT hbs (SqT.of h11) (small_line (by rw [el]; show _ + 1 ≤ _; omega)) ?_
        rintro _ H12 s12 ⟨b12, rfl, h12⟩
        walk_at "go"
        have f0 := okw.f0
        have s1 := okw.s1
        refine ⟨.ref b12, sc ++ [⟨wk.left, wk.deed, wk.first % 3, 1 + wk.step % 3, wk.many⟩], _, _, _, _, _, _, rfl, x8.trans (x9.trans (SX.of (s10.trans (s11.trans s12)))), p9.same (s10.trans (s11.trans s12)), ⟨b12, _, rfl, h12, ?_⟩, small_snoc sml ⟨⟨?_, ?_, ?_, ?_, okw.m⟩, ?_, ?_⟩, ?_⟩
        · exact paired_app (Paired.mapP hps fun _ _ => IsWk.mono s12) (.cons ⟨b10, rfl, SqT.of ((s11.trans s12) _ _ h10)⟩ .nil)
        · show 0 ≤ wk.first % 3; omega
        · show wk.first % 3 ≤ 5; omega
        · show 1 ≤ 1 + wk.step % 3; omega
        · show 1 + wk.step % 3 ≤ 6; omega
        · show wk.first % 3 ≤ 2; omega
        · show 1 + wk.step % 3 ≤ 3; omega
        · rw [List.length_append, len]
          rfl
      rintro σ H8 ⟨v, sc, o4, o5, o6, o7, o8, o9, rfl, x8, p8, isc, sml, len⟩
      have s48 : Same H4 H8 := x8.same s5 np
      have len6 : sc.length ≤ 6 := by omega
      obtain ⟨bs, us, rfl, hbs, hps⟩ := isc
      have isc : IsScr K H8 (.ref bs) sc := ⟨bs, us, rfl, hbs, hps⟩
      have el := paired_len hps
      have oks : ScrOk sc := ⟨by omega, small_ok sml⟩
      walk_at "go"
      intro l H9 nl s9 hl9 _
      walk_at "go"
      rw [el]
      refine forR1_by (fun j σ H' => ∃ o11, σ = [some (.ref a), some (.int i), some (.ref p), some (.ref bs), o4, o5, o6, o7, o8, o9, some (.ref l), o11, o12, o13, o14, o15, o16, o17, o18] ∧ Same H8 H' ∧ H' l = some (.lst (natsV ((List.range j).filter fun i => lawAlike sc (withoutAt sc i))))) (by omega) (by omega)
        ⟨_, rfl, s9, hl9⟩ ?_ ?_
      · rintro j σ H10 hj ⟨o11, rfl, sm, hl10⟩
        walk_at "go"
        rintro _ H11 s11 ⟨b11, rfl, h11⟩
        rw [cutV_to] at h11
        walk_at "go"
        rintro _ H12 s12 ⟨b12, rfl, h12⟩
        rw [show ((j : Int) + 1) = ((j + 1 : Nat) : Int) from rfl, cutV_from] at h12
        refine r_catT (Same.sqT s12 h11) h12 (small_line (by rw [List.length_take, List.length_drop]; omega)) ?_
        rintro _ H13 s13 ⟨b13, rfl, h13⟩
        walk_at "go"
        have s1013 := s11.trans (s12.trans s13)
        have s813 := sm.trans s1013
        have iw : IsScr K H13 (.ref b13) (withoutAt sc j) := ⟨b13, _, rfl, h13, paired_app (paired_take j (Paired.mapP hps fun _ _ => IsWk.mono s813)) (paired_drop (j + 1) (Paired.mapP hps fun _ _ => IsWk.mono s813))⟩
        refine ⟨.ref bs, .ref b13, sc, withoutAt sc j, rfl, isc.mono s813, iw, small_ok sml, small_ok (small_without sml j), fun H14 s14 => ?_⟩
        walk_at "go"
        have s1014 := s1013.trans s14
        have hl14 := s1014 _ _ hl10
        cases e : lawAlike sc (withoutAt sc j) with
        | true =>
          walk_at "go"
          refine r_append hl14 (small_lt (by have := nats_len (fun i => lawAlike sc (withoutAt sc i)) j; omega)) fun H15 h15 f15 => ?_
          walk_at "go"
          refine ⟨_, rfl, same_grow (sm.trans s1014) nl f15, ?_⟩
          rw [h15, nats_snoc, if_pos e]
        | false =>
          walk_at "go"
          refine ⟨_, rfl, sm.trans s1014, ?_⟩
          rw [hl14, nats_snoc, if_neg (by rw [e]; decide), List.append_nil]
      rintro σ H10 ⟨o11, rfl, sm, hl10⟩
      rw [show ((sc.length : Int)).toNat = sc.length by omega, show ((List.range sc.length).filter fun i => lawAlike sc (withoutAt sc i)) = idleOf sc from filt_congr fun i _ => lawAlike_eq sml (small_without sml i)] at hl10
      walk_at "go"
      refine ⟨.ref bs, sc, rfl, isc.mono sm, oks, fun q H11 nq s11 hq => ?_⟩
      walk_at "go"
      refine r_neD (.lst (SqL.of hq) (dps_nats (idleOf sc))) (.lst (SqL.of (s11 _ _ hl10)) (dps_nats (idleOf sc))) (dk_nats.shaped (by decide)) (dk_nats.shaped (by decide)) ?_
      rw [sh_refl (dk_nats.shaped (by decide))]
      walk_at "go"
      intro l2 H12 nl2 s12 hl12 _
      walk_at "go"
      rw [el]
      have s812 := sm.trans (s11.trans s12)
      have s811 := sm.trans s11
      refine forR1_by (fun j σ H' => ∃ o11 o12, σ = [some (.ref a), some (.int i), some (.ref p), some (.ref bs), o4, o5, o6, o7, o8, o9, some (.ref l2), o11, o12, o13, o14, o15, o16, o17, o18] ∧ Same H11 H' ∧ H' l2 = some (.lst (natsV ((List.range j).filter fun i => lawAlike sc (swapAt sc i))))) (by omega) (by omega)
        ⟨_, _, rfl, s12, hl12⟩ ?_ ?_
      · rintro j σ H13 hj ⟨o11, o12, rfl, sm2, hl13⟩
        obtain ⟨w1, e1⟩ : ∃ w, sc[j]? = some w := ⟨sc[j]'(by omega), List.getElem?_eq_getElem (by omega)⟩
        obtain ⟨w2, e2⟩ : ∃ w, sc[j + 1]? = some w := ⟨sc[j + 1]'(by omega), List.getElem?_eq_getElem (by omega)⟩
        obtain ⟨v1, g1, i1⟩ := paired_get' hps e1
        obtain ⟨v2, g2, i2⟩ := paired_get' hps e2
        have sA := s811.trans sm2
        walk_at "go"
        rintro _ H14 s14 ⟨b14, rfl, h14⟩
        rw [cutV_to] at h14
        walk_at "go"
        refine r_ixT (by walk_at "hp") (show atI us (((j + 1 : Nat) : Int)) = some v2 from atI_nat g2) ?_
        walk_at "go"
        refine r_ixT (by walk_at "hp") (atI_nat g1) ?_
        walk_at "go"
        intro b15 H15 n15 s15 h15 _
        refine r_catT (Same.sqT s15 h14) (SqT.of h15) (small_line (by rw [List.length_take]; show _ + 2 ≤ _; omega)) ?_
        rintro _ H16 s16 ⟨b16, rfl, h16⟩
        walk_at "go"
        rintro _ H17 s17 ⟨b17, rfl, h17⟩
        rw [show ((j : Int) + 2) = ((j + 2 : Nat) : Int) from rfl, cutV_from] at h17
        refine r_catT (Same.sqT s17 h16) h17 (small_line (by rw [List.length_append, List.length_take, List.length_drop]; show _ + 2 + _ ≤ _; omega)) ?_
        rintro _ H18 s18 ⟨b18, rfl, h18⟩
        walk_at "go"
        have s1318 := s14.trans (s15.trans (s16.trans (s17.trans s18)))
        have s818 := sA.trans s1318
        have hp8 := Paired.mapP hps fun _ _ => IsWk.mono (K := K) s818
        have iw : IsScr K H18 (.ref b18) (swapAt sc j) := by
          unfold swapAt
          rw [e1, e2]
          exact ⟨b18, _, rfl, h18, paired_app (paired_app (paired_take j hp8) (.cons (i2.mono s818) (.cons (i1.mono s818) .nil))) (paired_drop (j + 2) hp8)⟩
        refine ⟨.ref bs, .ref b18, sc, swapAt sc j, rfl, isc.mono s818, iw, small_ok sml, small_ok (small_swap sml j), fun H19 s19 => ?_⟩
        walk_at "go"
        have s1319 := s1318.trans s19
        have hl19 := s1319 _ _ hl13
        cases e : lawAlike sc (swapAt sc j) with
        | true =>
          walk_at "go"
          refine r_append hl19 (small_lt (by have := nats_len (fun i => lawAlike sc (swapAt sc i)) j; omega)) fun H20 h20 f20 => ?_
          walk_at "go"
          refine ⟨_, _, rfl, same_grow (sm2.trans s1319) nl2 f20, ?_⟩
          rw [h20, nats_snoc, if_pos e]
        | false =>
          walk_at "go"
          refine ⟨_, _, rfl, sm2.trans s1319, ?_⟩
          rw [hl19, nats_snoc, if_neg (by rw [e]; decide), List.append_nil]
      rintro σ H13 ⟨o11, o12, rfl, sm2, hl13⟩
      rw [show ((sc.length : Int) - 1).toNat = sc.length - 1 by omega, show ((List.range (sc.length - 1)).filter fun i => lawAlike sc (swapAt sc i)) = exchOf sc from filt_congr fun i _ => lawAlike_eq sml (small_swap sml i)] at hl13
      walk_at "go"
      refine ⟨.ref bs, sc, rfl, isc.mono (s811.trans sm2), oks, fun q2 H14 nq2 s14 hq2 => ?_⟩
      walk_at "go"
      refine r_neD (.lst (SqL.of hq2) (dps_nats (exchOf sc))) (.lst (SqL.of (s14 _ _ hl13)) (dps_nats (exchOf sc))) (dk_nats.shaped (by decide)) (dk_nats.shaped (by decide)) ?_
      rw [sh_refl (dk_nats.shaped (by decide))]
      walk_at "go"
      exact ⟨_, _, _, _, _, _, _, _, _, _, _, _, _, _, _, _, _, _, rfl, s04.trans (s48.trans (s811.trans (sm2.trans s14)))⟩
    rintro σ H4 ⟨o1, o2, o3, o4, o5, o6, o7, o8, o9, o10, o11, o12, o13, o14, o15, o16, o17, o18, rfl, s04⟩
    obtain ⟨ki1, ki2, ki3, ki4⟩ := known_idle
    obtain ⟨ke1, ke2, ke3⟩ := known_exch
    walk_at "go"
    refine ⟨rfl, fun e v1 v2 v3 v4 v5 A1 t1 he d1 d2 d3 d4 d5 => ?_⟩
    walk_at "go"
    obtain ⟨b1, u1, rfl, hb1, q1⟩ := d1
    obtain ⟨b5, u5, rfl, hb5, q5⟩ := d5
    have l1 := paired_len q1
    have l5 := paired_len q5
    have d1 : IsScr K A1 (.ref b1) doc1 := ⟨b1, u1, rfl, hb1, q1⟩
    refine r_catT hb1 hb5 (small_line (by rw [l1, l5]; decide)) ?_
    rintro _ A2 t2 ⟨b6, rfl, g6⟩
    have idl : ∀ (A : Hp) (v : V) (sc : Scr) (is : List Nat) (Q' : VK), IsScr K A v sc → ScrOk sc → idleOf sc = is → (∀ q A', Same A A' → Dp K A' (.ref q) (.list (natsD is)) → Q' (.ref q) A') → sp_idle_walkers K [v] A Q' E0 := fun A v sc is Q' hv ok hi hk => ⟨v, sc, rfl, hv, ok, fun q A' _ s hq => hk q A' s (by rw [hi] at hq; exact .lst (SqL.of hq) (dps_nats is))⟩
    have exl : ∀ (A : Hp) (v : V) (sc : Scr) (is : List Nat) (Q' : VK), IsScr K A v sc → ScrOk sc → exchOf sc = is → (∀ q A', Same A A' → Dp K A' (.ref q) (.list (natsD is)) → Q' (.ref q) A') → sp_exchangeable K [v] A Q' E0 := fun A v sc is Q' hv ok hi hk => ⟨v, sc, rfl, hv, ok, fun q A' _ s hq => hk q A' s (by rw [hi] at hq; exact .lst (SqL.of hq) (dps_nats is))⟩
    have sh0 : SeqAt.shaped (.list (natsD [])) = true := by decide +kernel
    have sh1 : SeqAt.shaped (.list (natsD [0])) = true := by decide +kernel
    have sh2 : SeqAt.shaped (.list (natsD [0, 1])) = true := by decide +kernel
    walk_at "go"
    refine idl _ _ (doc1 ++ doc5) _ _ ⟨b6, _, rfl, g6, paired_app (Paired.mapP q1 fun _ _ => IsWk.mono t2) (Paired.mapP q5 fun _ _ => IsWk.mono t2)⟩ (scr_ok (by decide +kernel)) ki1 fun q A3 t3 dq => ?_
    walk_at "go"
    intro b7 A4 m7 t4 g7 _
    refine r_neD (Dt.Dp.mono t4 dq) (.lst (SqL.of g7) (dps_nats [0])) sh1 sh1 ?_
    rw [sh_refl sh1]
    walk_at "go"
    have t14 := t2.trans (t3.trans t4)
    refine idl _ _ doc3 _ _ (d3.mono t14) (scr_ok (by decide +kernel)) ki2 fun q A5 t5 dq => ?_
    walk_at "go"
    intro b8 A6 m8 t6 g8 _
    refine r_neD (Dt.Dp.mono t6 dq) (.lst (SqL.of g8) (dps_nats [])) sh0 sh0 ?_
    rw [sh_refl sh0]
    walk_at "go"
    have t16 := t14.trans (t5.trans t6)
    refine exl _ _ doc3 _ _ (d3.mono t16) (scr_ok (by decide +kernel)) ke1 fun q A7 t7 dq => ?_
    walk_at "go"
    intro b9 A8 m9 t8 g9 _
    refine r_neD (Dt.Dp.mono t8 dq) (.lst (SqL.of g9) (dps_nats [0, 1])) sh2 sh2 ?_
    rw [sh_refl sh2]
    walk_at "go"
    have t18 := t16.trans (t7.trans t8)
    refine exl _ _ doc4 _ _ (d4.mono t18) (scr_ok (by decide +kernel)) ke2 fun q A9 t9 dq => ?_
    walk_at "go"
    intro b10 A10 m10 t10 g10 _
    refine r_neD (Dt.Dp.mono t10 dq) (.lst (SqL.of g10) (dps_nats [])) sh0 sh0 ?_
    rw [sh_refl sh0]
    walk_at "go"
    have t110 := t18.trans (t9.trans t10)
    intro b11 A11 m11 t11 g11 _
    walk_at "go"
    intro b12 A12 m12 t12 g12 _
    walk_at "go"
    intro b13 A13 m13 t13 g13 _
    walk_at "go"
    refine idl _ _ shutsD _ _ ⟨b13, _, rfl, SqT.of g13, .cons ⟨b11, rfl, SqT.of ((t12.trans t13) _ _ g11)⟩ (.cons ⟨b12, rfl, SqT.of (t13 _ _ g12)⟩ .nil)⟩ (scr_ok (by decide +kernel)) ki3 fun q A14 t14 dq => ?_
    walk_at "go"
    intro b15 A15 m15 t15 g15 _
    refine r_eqD (Dt.Dp.mono t15 dq) (.lst (SqL.of g15) (dps_nats [0, 1])) sh2 sh2 ?_
    rw [sh_refl sh2]
    walk_at "go"
    intro b16 A16 m16 t16' g16 _
    walk_at "go"
    refine idl _ _ [] _ _ ⟨b16, _, rfl, SqT.of g16, .nil⟩ (scr_ok (by decide +kernel)) ki4 fun q A17 t17 dq => ?_
    walk_at "go"
    intro b18 A18 m18 t18' g18 _
    refine r_eqD (Dt.Dp.mono t18' dq) (.lst (SqL.of g18) (dps_nats [])) sh0 sh0 ?_
    rw [sh_refl sh0]
    walk_at "go"
    refine exl _ _ doc1 _ _ (d1.mono (t110.trans (t11.trans (t12.trans (t13.trans (t14.trans (t15.trans (t16'.trans (t17.trans t18'))))))))) (scr_ok (by decide +kernel)) ke3 fun q A19 t19 dq => ?_
    walk_at "go"
    intro b20 A20 m20 t20 g20 _
    refine r_eqD (Dt.Dp.mono t20 dq) (.lst (SqL.of g20) (dps_nats [])) sh0 sh0 ?_
    rw [sh_refl sh0]
    exact fin _
end
end Dt
namespace Dt
open PySem PySem.Spec PyProof.Rows L2
theorem all_mk {l : PySem.W.OpenLaw} {w : World} {K : PySem.W.Frag} {h : Heap} {mg : Str → Option Value} {fa : Addr} (X : K.In h) (G : h.Ns mainGlobals mg) (hfa : mg "law" = some (.ref fa))
    {od0 an0 : Option Addr} {sl0 : Array (Option Value)} {oc0 kV0 dc0 pm0 cd0 ct0 : Value} {f0 : Addr}
    {od1 an1 : Option Addr} {sl1 : Array (Option Value)} {oc1 kV1 dc1 pm1 cd1 ct1 : Value} {f1 : Addr}
    {od2 an2 : Option Addr} {sl2 : Array (Option Value)} {oc2 kV2 dc2 pm2 cd2 ct2 : Value} {f2 : Addr}
    {od3 an3 : Option Addr} {sl3 : Array (Option Value)} {oc3 kV3 dc3 pm3 cd3 ct3 : Value} {f3 : Addr}
    {od4 an4 : Option Addr} {sl4 : Array (Option Value)} {oc4 kV4 dc4 pm4 cd4 ct4 : Value} {f4 : Addr}
    {od5 an5 : Option Addr} {sl5 : Array (Option Value)} {oc5 kV5 dc5 pm5 cd5 ct5 : Value} {f5 : Addr}
    {od6 an6 : Option Addr} {sl6 : Array (Option Value)} {oc6 kV6 dc6 pm6 cd6 ct6 : Value} {f6 : Addr}
    {od7 an7 : Option Addr} {sl7 : Array (Option Value)} {oc7 kV7 dc7 pm7 cd7 ct7 : Value} {f7 : Addr}
    {od8 an8 : Option Addr} {sl8 : Array (Option Value)} {oc8 kV8 dc8 pm8 cd8 ct8 : Value} {f8 : Addr}
    {od9 an9 : Option Addr} {sl9 : Array (Option Value)} {oc9 kV9 dc9 pm9 cd9 ct9 : Value} {f9 : Addr}
    {od10 an10 : Option Addr} {sl10 : Array (Option Value)} {oc10 kV10 dc10 pm10 cd10 ct10 : Value} {f10 : Addr}
    {od11 an11 : Option Addr} {sl11 : Array (Option Value)} {oc11 kV11 dc11 pm11 cd11 ct11 : Value} {f11 : Addr}
    {od12 an12 : Option Addr} {sl12 : Array (Option Value)} {oc12 kV12 dc12 pm12 cd12 ct12 : Value} {f12 : Addr}
    {od13 an13 : Option Addr} {sl13 : Array (Option Value)} {oc13 kV13 dc13 pm13 cd13 ct13 : Value} {f13 : Addr}
    {od14 an14 : Option Addr} {sl14 : Array (Option Value)} {oc14 kV14 dc14 pm14 cd14 ct14 : Value} {f14 : Addr}
    {od15 an15 : Option Addr} {sl15 : Array (Option Value)} {oc15 kV15 dc15 pm15 cd15 ct15 : Value} {f15 : Addr}
    {od16 an16 : Option Addr} {sl16 : Array (Option Value)} {oc16 kV16 dc16 pm16 cd16 ct16 : Value} {f16 : Addr}
    {od17 an17 : Option Addr} {sl17 : Array (Option Value)} {oc17 kV17 dc17 pm17 cd17 ct17 : Value} {f17 : Addr}
    {od18 an18 : Option Addr} {sl18 : Array (Option Value)} {oc18 kV18 dc18 pm18 cd18 ct18 : Value} {f18 : Addr}
    {od19 an19 : Option Addr} {sl19 : Array (Option Value)} {oc19 kV19 dc19 pm19 cd19 ct19 : Value} {f19 : Addr}
    {od20 an20 : Option Addr} {sl20 : Array (Option Value)} {oc20 kV20 dc20 pm20 cd20 ct20 : Value} {f20 : Addr}
    {od21 an21 : Option Addr} {sl21 : Array (Option Value)} {oc21 kV21 dc21 pm21 cd21 ct21 : Value} {f21 : Addr}
    {od22 an22 : Option Addr} {sl22 : Array (Option Value)} {oc22 kV22 dc22 pm22 cd22 ct22 : Value} {f22 : Addr}
    {od23 an23 : Option Addr} {sl23 : Array (Option Value)} {oc23 kV23 dc23 pm23 cd23 ct23 : Value} {f23 : Addr}
    {od24 an24 : Option Addr} {sl24 : Array (Option Value)} {oc24 kV24 dc24 pm24 cd24 ct24 : Value} {f24 : Addr}
    {od25 an25 : Option Addr} {sl25 : Array (Option Value)} {oc25 kV25 dc25 pm25 cd25 ct25 : Value} {f25 : Addr}
    {od26 an26 : Option Addr} {sl26 : Array (Option Value)} {oc26 kV26 dc26 pm26 cd26 ct26 : Value} {f26 : Addr}
    {od27 an27 : Option Addr} {sl27 : Array (Option Value)} {oc27 kV27 dc27 pm27 cd27 ct27 : Value} {f27 : Addr}
    {od28 an28 : Option Addr} {sl28 : Array (Option Value)} {oc28 kV28 dc28 pm28 cd28 ct28 : Value} {f28 : Addr}
    {od_SHUT : Option Addr} {n_SHUT : Nat} {sl_SHUT : Array (Option Value)} {a_SHUT : Addr}
    {od_OPEN : Option Addr} {n_OPEN : Nat} {sl_OPEN : Array (Option Value)} {a_OPEN : Addr}
    {od_TURN : Option Addr} {n_TURN : Nat} {sl_TURN : Array (Option Value)} {a_TURN : Addr}
    {od_STAY : Option Addr} {n_STAY : Nat} {sl_STAY : Array (Option Value)} {a_STAY : Addr}
    (a0 : PySem.W.nsIn K mainGlobals "divisor" = some (some (.ref f0)))
    (l0 : K.lookup f0 = some ⟨oc0, od0, .func (PySem.W.fnOf "divisor" "divisor" (defArgs s_divisor) (defBody s_divisor) (defScope s_divisor) .none kV0 dc0 pm0 an0 cd0 ct0), sl0⟩)
    (c0 : PySem.W.codeIn K cd0 "divisor" = true) (k0 : PySem.W.keepIn K (.ref f0) = true)
    (a1 : PySem.W.nsIn K mainGlobals "period_of" = some (some (.ref f1)))
    (l1 : K.lookup f1 = some ⟨oc1, od1, .func (PySem.W.fnOf "period_of" "period_of" (defArgs s_period_of) (defBody s_period_of) (defScope s_period_of) .none kV1 dc1 pm1 an1 cd1 ct1), sl1⟩)
    (c1 : PySem.W.codeIn K cd1 "period_of" = true) (k1 : PySem.W.keepIn K (.ref f1) = true)
    (a2 : PySem.W.nsIn K mainGlobals "edge_of" = some (some (.ref f2)))
    (l2 : K.lookup f2 = some ⟨oc2, od2, .func (PySem.W.fnOf "edge_of" "edge_of" (defArgs s_edge_of) (defBody s_edge_of) (defScope s_edge_of) .none kV2 dc2 pm2 an2 cd2 ct2), sl2⟩)
    (c2 : PySem.W.codeIn K cd2 "edge_of" = true) (k2 : PySem.W.keepIn K (.ref f2) = true)
    (a3 : PySem.W.nsIn K mainGlobals "is_number" = some (some (.ref f3)))
    (l3 : K.lookup f3 = some ⟨oc3, od3, .func (PySem.W.fnOf "is_number" "is_number" (defArgs s_is_number) (defBody s_is_number) (defScope s_is_number) .none kV3 dc3 pm3 an3 cd3 ct3), sl3⟩)
    (c3 : PySem.W.codeIn K cd3 "is_number" = true) (k3 : PySem.W.keepIn K (.ref f3) = true)
    (a4 : PySem.W.nsIn K mainGlobals "is_tuple" = some (some (.ref f4)))
    (l4 : K.lookup f4 = some ⟨oc4, od4, .func (PySem.W.fnOf "is_tuple" "is_tuple" (defArgs s_is_tuple) (defBody s_is_tuple) (defScope s_is_tuple) .none kV4 dc4 pm4 an4 cd4 ct4), sl4⟩)
    (c4 : PySem.W.codeIn K cd4 "is_tuple" = true) (k4 : PySem.W.keepIn K (.ref f4) = true)
    (a5 : PySem.W.nsIn K mainGlobals "is_word" = some (some (.ref f5)))
    (l5 : K.lookup f5 = some ⟨oc5, od5, .func (PySem.W.fnOf "is_word" "is_word" (defArgs s_is_word) (defBody s_is_word) (defScope s_is_word) .none kV5 dc5 pm5 an5 cd5 ct5), sl5⟩)
    (c5 : PySem.W.codeIn K cd5 "is_word" = true) (k5 : PySem.W.keepIn K (.ref f5) = true)
    (a6 : PySem.W.nsIn K mainGlobals "is_good_walker" = some (some (.ref f6)))
    (l6 : K.lookup f6 = some ⟨oc6, od6, .func (PySem.W.fnOf "is_good_walker" "is_good_walker" (defArgs s_is_good_walker) (defBody s_is_good_walker) (defScope s_is_good_walker) .none kV6 dc6 pm6 an6 cd6 ct6), sl6⟩)
    (c6 : PySem.W.codeIn K cd6 "is_good_walker" = true) (k6 : PySem.W.keepIn K (.ref f6) = true)
    (a7 : PySem.W.nsIn K mainGlobals "is_good_script" = some (some (.ref f7)))
    (l7 : K.lookup f7 = some ⟨oc7, od7, .func (PySem.W.fnOf "is_good_script" "is_good_script" (defArgs s_is_good_script) (defBody s_is_good_script) (defScope s_is_good_script) .none kV7 dc7 pm7 an7 cd7 ct7), sl7⟩)
    (c7 : PySem.W.codeIn K cd7 "is_good_script" = true) (k7 : PySem.W.keepIn K (.ref f7) = true)
    (a8 : PySem.W.nsIn K mainGlobals "need_script" = some (some (.ref f8)))
    (l8 : K.lookup f8 = some ⟨oc8, od8, .func (PySem.W.fnOf "need_script" "need_script" (defArgs s_need_script) (defBody s_need_script) (defScope s_need_script) .none kV8 dc8 pm8 an8 cd8 ct8), sl8⟩)
    (c8 : PySem.W.codeIn K cd8 "need_script" = true) (k8 : PySem.W.keepIn K (.ref f8) = true)
    (a9 : PySem.W.nsIn K mainGlobals "comes_to" = some (some (.ref f9)))
    (l9 : K.lookup f9 = some ⟨oc9, od9, .func (PySem.W.fnOf "comes_to" "comes_to" (defArgs s_comes_to) (defBody s_comes_to) (defScope s_comes_to) .none kV9 dc9 pm9 an9 cd9 ct9), sl9⟩)
    (c9 : PySem.W.codeIn K cd9 "comes_to" = true) (k9 : PySem.W.keepIn K (.ref f9) = true)
    (a10 : PySem.W.nsIn K mainGlobals "deed_of" = some (some (.ref f10)))
    (l10 : K.lookup f10 = some ⟨oc10, od10, .func (PySem.W.fnOf "deed_of" "deed_of" (defArgs s_deed_of) (defBody s_deed_of) (defScope s_deed_of) .none kV10 dc10 pm10 an10 cd10 ct10), sl10⟩)
    (c10 : PySem.W.codeIn K cd10 "deed_of" = true) (k10 : PySem.W.keepIn K (.ref f10) = true)
    (a11 : PySem.W.nsIn K mainGlobals "then" = some (some (.ref f11)))
    (l11 : K.lookup f11 = some ⟨oc11, od11, .func (PySem.W.fnOf "then" "then" (defArgs s_then) (defBody s_then) (defScope s_then) .none kV11 dc11 pm11 an11 cd11 ct11), sl11⟩)
    (c11 : PySem.W.codeIn K cd11 "then" = true) (k11 : PySem.W.keepIn K (.ref f11) = true)
    (a12 : PySem.W.nsIn K mainGlobals "done_to" = some (some (.ref f12)))
    (l12 : K.lookup f12 = some ⟨oc12, od12, .func (PySem.W.fnOf "done_to" "done_to" (defArgs s_done_to) (defBody s_done_to) (defScope s_done_to) .none kV12 dc12 pm12 an12 cd12 ct12), sl12⟩)
    (c12 : PySem.W.codeIn K cd12 "done_to" = true) (k12 : PySem.W.keepIn K (.ref f12) = true)
    (a13 : PySem.W.nsIn K mainGlobals "open_so" = some (some (.ref f13)))
    (l13 : K.lookup f13 = some ⟨oc13, od13, .func (PySem.W.fnOf "open_so" "open_so" (defArgs s_open_so) (defBody s_open_so) (defScope s_open_so) .none kV13 dc13 pm13 an13 cd13 ct13), sl13⟩)
    (c13 : PySem.W.codeIn K cd13 "open_so" = true) (k13 : PySem.W.keepIn K (.ref f13) = true)
    (a14 : PySem.W.nsIn K mainGlobals "first_pair" = some (some (.ref f14)))
    (l14 : K.lookup f14 = some ⟨oc14, od14, .func (PySem.W.fnOf "first_pair" "first_pair" (defArgs s_first_pair) (defBody s_first_pair) (defScope s_first_pair) .none kV14 dc14 pm14 an14 cd14 ct14), sl14⟩)
    (c14 : PySem.W.codeIn K cd14 "first_pair" = true) (k14 : PySem.W.keepIn K (.ref f14) = true)
    (a15 : PySem.W.nsIn K mainGlobals "without" = some (some (.ref f15)))
    (l15 : K.lookup f15 = some ⟨oc15, od15, .func (PySem.W.fnOf "without" "without" (defArgs s_without) (defBody s_without) (defScope s_without) .none kV15 dc15 pm15 an15 cd15 ct15), sl15⟩)
    (c15 : PySem.W.codeIn K cd15 "without" = true) (k15 : PySem.W.keepIn K (.ref f15) = true)
    (a16 : PySem.W.nsIn K mainGlobals "exchanged" = some (some (.ref f16)))
    (l16 : K.lookup f16 = some ⟨oc16, od16, .func (PySem.W.fnOf "exchanged" "exchanged" (defArgs s_exchanged) (defBody s_exchanged) (defScope s_exchanged) .none kV16 dc16 pm16 an16 cd16 ct16), sl16⟩)
    (c16 : PySem.W.codeIn K cd16 "exchanged" = true) (k16 : PySem.W.keepIn K (.ref f16) = true)
    (a17 : PySem.W.nsIn K mainGlobals "idle_walkers" = some (some (.ref f17)))
    (l17 : K.lookup f17 = some ⟨oc17, od17, .func (PySem.W.fnOf "idle_walkers" "idle_walkers" (defArgs s_idle_walkers) (defBody s_idle_walkers) (defScope s_idle_walkers) .none kV17 dc17 pm17 an17 cd17 ct17), sl17⟩)
    (c17 : PySem.W.codeIn K cd17 "idle_walkers" = true) (k17 : PySem.W.keepIn K (.ref f17) = true)
    (a18 : PySem.W.nsIn K mainGlobals "exchangeable" = some (some (.ref f18)))
    (l18 : K.lookup f18 = some ⟨oc18, od18, .func (PySem.W.fnOf "exchangeable" "exchangeable" (defArgs s_exchangeable) (defBody s_exchangeable) (defScope s_exchangeable) .none kV18 dc18 pm18 an18 cd18 ct18), sl18⟩)
    (c18 : PySem.W.codeIn K cd18 "exchangeable" = true) (k18 : PySem.W.keepIn K (.ref f18) = true)
    (a19 : PySem.W.nsIn K mainGlobals "_law_source" = some (some (.ref f19)))
    (l19 : K.lookup f19 = some ⟨oc19, od19, .func (PySem.W.fnOf "_law_source" "_law_source" (defArgs s__law_source) (defBody s__law_source) (defScope s__law_source) .none kV19 dc19 pm19 an19 cd19 ct19), sl19⟩)
    (c19 : PySem.W.codeIn K cd19 "_law_source" = true) (k19 : PySem.W.keepIn K (.ref f19) = true)
    (a20 : PySem.W.nsIn K mainGlobals "_law_draw" = some (some (.ref f20)))
    (l20 : K.lookup f20 = some ⟨oc20, od20, .func (PySem.W.fnOf "_law_draw" "_law_draw" (defArgs s__law_draw) (defBody s__law_draw) (defScope s__law_draw) .none kV20 dc20 pm20 an20 cd20 ct20), sl20⟩)
    (c20 : PySem.W.codeIn K cd20 "_law_draw" = true) (k20 : PySem.W.keepIn K (.ref f20) = true)
    (a21 : PySem.W.nsIn K mainGlobals "_law_of" = some (some (.ref f21)))
    (l21 : K.lookup f21 = some ⟨oc21, od21, .func (PySem.W.fnOf "_law_of" "_law_of" (defArgs s__law_of) (defBody s__law_of) (defScope s__law_of) .none kV21 dc21 pm21 an21 cd21 ct21), sl21⟩)
    (c21 : PySem.W.codeIn K cd21 "_law_of" = true) (k21 : PySem.W.keepIn K (.ref f21) = true)
    (a22 : PySem.W.nsIn K mainGlobals "_law_walker" = some (some (.ref f22)))
    (l22 : K.lookup f22 = some ⟨oc22, od22, .func (PySem.W.fnOf "_law_walker" "_law_walker" (defArgs s__law_walker) (defBody s__law_walker) (defScope s__law_walker) .none kV22 dc22 pm22 an22 cd22 ct22), sl22⟩)
    (c22 : PySem.W.codeIn K cd22 "_law_walker" = true) (k22 : PySem.W.keepIn K (.ref f22) = true)
    (a23 : PySem.W.nsIn K mainGlobals "_law_doors" = some (some (.ref f23)))
    (l23 : K.lookup f23 = some ⟨oc23, od23, .func (PySem.W.fnOf "_law_doors" "_law_doors" (defArgs s__law_doors) (defBody s__law_doors) (defScope s__law_doors) .none kV23 dc23 pm23 an23 cd23 ct23), sl23⟩)
    (c23 : PySem.W.codeIn K cd23 "_law_doors" = true) (k23 : PySem.W.keepIn K (.ref f23) = true)
    (a24 : PySem.W.nsIn K mainGlobals "_law_walked" = some (some (.ref f24)))
    (l24 : K.lookup f24 = some ⟨oc24, od24, .func (PySem.W.fnOf "_law_walked" "_law_walked" (defArgs s__law_walked) (defBody s__law_walked) (defScope s__law_walked) .none kV24 dc24 pm24 an24 cd24 ct24), sl24⟩)
    (c24 : PySem.W.codeIn K cd24 "_law_walked" = true) (k24 : PySem.W.keepIn K (.ref f24) = true)
    (a25 : PySem.W.nsIn K mainGlobals "_law_row" = some (some (.ref f25)))
    (l25 : K.lookup f25 = some ⟨oc25, od25, .func (PySem.W.fnOf "_law_row" "_law_row" (defArgs s__law_row) (defBody s__law_row) (defScope s__law_row) .none kV25 dc25 pm25 an25 cd25 ct25), sl25⟩)
    (c25 : PySem.W.codeIn K cd25 "_law_row" = true) (k25 : PySem.W.keepIn K (.ref f25) = true)
    (a26 : PySem.W.nsIn K mainGlobals "_law_known" = some (some (.ref f26)))
    (l26 : K.lookup f26 = some ⟨oc26, od26, .func (PySem.W.fnOf "_law_known" "_law_known" (defArgs s__law_known) (defBody s__law_known) (defScope s__law_known) .none kV26 dc26 pm26 an26 cd26 ct26), sl26⟩)
    (c26 : PySem.W.codeIn K cd26 "_law_known" = true) (k26 : PySem.W.keepIn K (.ref f26) = true)
    (a27 : PySem.W.nsIn K mainGlobals "_law_alike" = some (some (.ref f27)))
    (l27 : K.lookup f27 = some ⟨oc27, od27, .func (PySem.W.fnOf "_law_alike" "_law_alike" (defArgs s__law_alike) (defBody s__law_alike) (defScope s__law_alike) .none kV27 dc27 pm27 an27 cd27 ct27), sl27⟩)
    (c27 : PySem.W.codeIn K cd27 "_law_alike" = true) (k27 : PySem.W.keepIn K (.ref f27) = true)
    (a28 : PySem.W.nsIn K mainGlobals "law" = some (some (.ref f28)))
    (l28 : K.lookup f28 = some ⟨oc28, od28, .func (PySem.W.fnOf "law" "law" (defArgs s_law) (defBody s_law) (defScope s_law) .none kV28 dc28 pm28 an28 cd28 ct28), sl28⟩)
    (c28 : PySem.W.codeIn K cd28 "law" = true) (k28 : PySem.W.keepIn K (.ref f28) = true)
    (a_SHUT' : PySem.W.nsIn K mainGlobals "SHUT" = some (some (.ref a_SHUT))) (l_SHUT : K.lookup a_SHUT = some ⟨.type "tuple", od_SHUT, .seq #[.bool false, .bool false] n_SHUT, sl_SHUT⟩)
    (a_OPEN' : PySem.W.nsIn K mainGlobals "OPEN" = some (some (.ref a_OPEN))) (l_OPEN : K.lookup a_OPEN = some ⟨.type "tuple", od_OPEN, .seq #[.bool true, .bool true] n_OPEN, sl_OPEN⟩)
    (a_TURN' : PySem.W.nsIn K mainGlobals "TURN" = some (some (.ref a_TURN))) (l_TURN : K.lookup a_TURN = some ⟨.type "tuple", od_TURN, .seq #[.bool true, .bool false] n_TURN, sl_TURN⟩)
    (a_STAY' : PySem.W.nsIn K mainGlobals "STAY" = some (some (.ref a_STAY))) (l_STAY : K.lookup a_STAY = some ⟨.type "tuple", od_STAY, .seq #[.bool false, .bool true] n_STAY, sl_STAY⟩)
    (z_range : PySem.W.nsIn K mainGlobals "range" = some none)
    (z_list : PySem.W.nsIn K mainGlobals "list" = some none)
    (z_isinstance : PySem.W.nsIn K mainGlobals "isinstance" = some none)
    (z_int : PySem.W.nsIn K mainGlobals "int" = some none)
    (z_tuple : PySem.W.nsIn K mainGlobals "tuple" = some none)
    (z_str : PySem.W.nsIn K mainGlobals "str" = some none)
    (z_all : PySem.W.nsIn K mainGlobals "all" = some none)
    (z_len : PySem.W.nsIn K mainGlobals "len" = some none)
    (z_abs : PySem.W.nsIn K mainGlobals "abs" = some none)
    (z_max : PySem.W.nsIn K mainGlobals "max" = some none)
    (z_bool : PySem.W.nsIn K mainGlobals "bool" = some none)
    (z_min : PySem.W.nsIn K mainGlobals "min" = some none) :
    ∃ fd : FuncData, (∀ (s : Shared) (v : Value), BindsTo s fd ⟨[v], []⟩ [("script", v)]) ∧ ∀ base : Heap, K.In base → base.Ns mainGlobals mg → FnOk l.prog w K mg base CX0 6 fa fd ["script"] (sp_law K) := by
  have e := hfa.symm.trans (PySem.W.mg_of X G a28)
  cases e
  let T : Txt l.prog K mg := {
    f_divisor := f0, d_divisor := _, F_divisor := fun_mk (st := s_divisor) l0 c0 k0, b_divisor := (fun_mk (st := s_divisor) l0 c0 k0).binds (ps := ["one", "other"]) (fun _ _ _ _ _ _ us hl => match us, hl with | [_, _], _ => rfl), g_divisor := PySem.W.mg_of X G a0,
    f_period_of := f1, d_period_of := _, F_period_of := fun_mk (st := s_period_of) l1 c1 k1, b_period_of := (fun_mk (st := s_period_of) l1 c1 k1).binds (ps := ["scripts"]) (fun _ _ _ _ _ _ us hl => match us, hl with | [_], _ => rfl), g_period_of := PySem.W.mg_of X G a1,
    f_edge_of := f2, d_edge_of := _, F_edge_of := fun_mk (st := s_edge_of) l2 c2 k2, b_edge_of := (fun_mk (st := s_edge_of) l2 c2 k2).binds (ps := ["scripts"]) (fun _ _ _ _ _ _ us hl => match us, hl with | [_], _ => rfl), g_edge_of := PySem.W.mg_of X G a2,
    f_is_number := f3, d_is_number := _, F_is_number := fun_mk (st := s_is_number) l3 c3 k3, b_is_number := (fun_mk (st := s_is_number) l3 c3 k3).binds (ps := ["value", "least", "most"]) (fun _ _ _ _ _ _ us hl => match us, hl with | [_, _, _], _ => rfl), g_is_number := PySem.W.mg_of X G a3,
    f_is_tuple := f4, d_is_tuple := _, F_is_tuple := fun_mk (st := s_is_tuple) l4 c4 k4, b_is_tuple := (fun_mk (st := s_is_tuple) l4 c4 k4).binds (ps := ["value", "least", "most"]) (fun _ _ _ _ _ _ us hl => match us, hl with | [_, _, _], _ => rfl), g_is_tuple := PySem.W.mg_of X G a4,
    f_is_word := f5, d_is_word := _, F_is_word := fun_mk (st := s_is_word) l5 c5 k5, b_is_word := (fun_mk (st := s_is_word) l5 c5 k5).binds (ps := ["value", "words"]) (fun _ _ _ _ _ _ us hl => match us, hl with | [_, _], _ => rfl), g_is_word := PySem.W.mg_of X G a5,
    f_is_good_walker := f6, d_is_good_walker := _, F_is_good_walker := fun_mk (st := s_is_good_walker) l6 c6 k6, b_is_good_walker := (fun_mk (st := s_is_good_walker) l6 c6 k6).binds (ps := ["value"]) (fun _ _ _ _ _ _ us hl => match us, hl with | [_], _ => rfl), g_is_good_walker := PySem.W.mg_of X G a6,
    f_is_good_script := f7, d_is_good_script := _, F_is_good_script := fun_mk (st := s_is_good_script) l7 c7 k7, b_is_good_script := (fun_mk (st := s_is_good_script) l7 c7 k7).binds (ps := ["value"]) (fun _ _ _ _ _ _ us hl => match us, hl with | [_], _ => rfl), g_is_good_script := PySem.W.mg_of X G a7,
    f_need_script := f8, d_need_script := _, F_need_script := fun_mk (st := s_need_script) l8 c8 k8, b_need_script := (fun_mk (st := s_need_script) l8 c8 k8).binds (ps := ["value"]) (fun _ _ _ _ _ _ us hl => match us, hl with | [_], _ => rfl), g_need_script := PySem.W.mg_of X G a8,
    f_comes_to := f9, d_comes_to := _, F_comes_to := fun_mk (st := s_comes_to) l9 c9 k9, b_comes_to := (fun_mk (st := s_comes_to) l9 c9 k9).binds (ps := ["walker", "n", "door"]) (fun _ _ _ _ _ _ us hl => match us, hl with | [_, _, _], _ => rfl), g_comes_to := PySem.W.mg_of X G a9,
    f_deed_of := f10, d_deed_of := _, F_deed_of := fun_mk (st := s_deed_of) l10 c10 k10, b_deed_of := (fun_mk (st := s_deed_of) l10 c10 k10).binds (ps := ["walker"]) (fun _ _ _ _ _ _ us hl => match us, hl with | [_], _ => rfl), g_deed_of := PySem.W.mg_of X G a10,
    f_then := f11, d_then := _, F_then := fun_mk (st := s_then) l11 c11 k11, b_then := (fun_mk (st := s_then) l11 c11 k11).binds (ps := ["one", "other"]) (fun _ _ _ _ _ _ us hl => match us, hl with | [_, _], _ => rfl), g_then := PySem.W.mg_of X G a11,
    f_done_to := f12, d_done_to := _, F_done_to := fun_mk (st := s_done_to) l12 c12 k12, b_done_to := (fun_mk (st := s_done_to) l12 c12 k12).binds (ps := ["script", "n", "door"]) (fun _ _ _ _ _ _ us hl => match us, hl with | [_, _, _], _ => rfl), g_done_to := PySem.W.mg_of X G a12,
    f_open_so := f13, d_open_so := _, F_open_so := fun_mk (st := s_open_so) l13 c13 k13, b_open_so := (fun_mk (st := s_open_so) l13 c13 k13).binds (ps := ["script", "n", "door"]) (fun _ _ _ _ _ _ us hl => match us, hl with | [_, _, _], _ => rfl), g_open_so := PySem.W.mg_of X G a13,
    f_first_pair := f14, d_first_pair := _, F_first_pair := fun_mk (st := s_first_pair) l14 c14 k14, b_first_pair := (fun_mk (st := s_first_pair) l14 c14 k14).binds (ps := ["one", "other"]) (fun _ _ _ _ _ _ us hl => match us, hl with | [_, _], _ => rfl), g_first_pair := PySem.W.mg_of X G a14,
    f_without := f15, d_without := _, F_without := fun_mk (st := s_without) l15 c15 k15, b_without := (fun_mk (st := s_without) l15 c15 k15).binds (ps := ["script", "index"]) (fun _ _ _ _ _ _ us hl => match us, hl with | [_, _], _ => rfl), g_without := PySem.W.mg_of X G a15,
    f_exchanged := f16, d_exchanged := _, F_exchanged := fun_mk (st := s_exchanged) l16 c16 k16, b_exchanged := (fun_mk (st := s_exchanged) l16 c16 k16).binds (ps := ["script", "index"]) (fun _ _ _ _ _ _ us hl => match us, hl with | [_, _], _ => rfl), g_exchanged := PySem.W.mg_of X G a16,
    f_idle_walkers := f17, d_idle_walkers := _, F_idle_walkers := fun_mk (st := s_idle_walkers) l17 c17 k17, b_idle_walkers := (fun_mk (st := s_idle_walkers) l17 c17 k17).binds (ps := ["script"]) (fun _ _ _ _ _ _ us hl => match us, hl with | [_], _ => rfl), g_idle_walkers := PySem.W.mg_of X G a17,
    f_exchangeable := f18, d_exchangeable := _, F_exchangeable := fun_mk (st := s_exchangeable) l18 c18 k18, b_exchangeable := (fun_mk (st := s_exchangeable) l18 c18 k18).binds (ps := ["script"]) (fun _ _ _ _ _ _ us hl => match us, hl with | [_], _ => rfl), g_exchangeable := PySem.W.mg_of X G a18,
    f__law_source := f19, d__law_source := _, F__law_source := fun_mk (st := s__law_source) l19 c19 k19, b__law_source := (fun_mk (st := s__law_source) l19 c19 k19).binds (ps := ["script", "k"]) (fun _ _ _ _ _ _ us hl => match us, hl with | [_, _], _ => rfl), g__law_source := PySem.W.mg_of X G a19,
    f__law_draw := f20, d__law_draw := _, F__law_draw := fun_mk (st := s__law_draw) l20 c20 k20, b__law_draw := (fun_mk (st := s__law_draw) l20 c20 k20).binds (ps := ["source", "many"]) (fun _ _ _ _ _ _ us hl => match us, hl with | [_, _], _ => rfl), g__law_draw := PySem.W.mg_of X G a20,
    f__law_of := f21, d__law_of := _, F__law_of := fun_mk (st := s__law_of) l21 c21 k21, b__law_of := (fun_mk (st := s__law_of) l21 c21 k21).binds (ps := ["source", "items"]) (fun _ _ _ _ _ _ us hl => match us, hl with | [_, _], _ => rfl), g__law_of := PySem.W.mg_of X G a21,
    f__law_walker := f22, d__law_walker := _, F__law_walker := fun_mk (st := s__law_walker) l22 c22 k22, b__law_walker := (fun_mk (st := s__law_walker) l22 c22 k22).binds (ps := ["source"]) (fun _ _ _ _ _ _ us hl => match us, hl with | [_], _ => rfl), g__law_walker := PySem.W.mg_of X G a22,
    f__law_doors := f23, d__law_doors := _, F__law_doors := fun_mk (st := s__law_doors) l23 c23 k23, b__law_doors := (fun_mk (st := s__law_doors) l23 c23 k23).binds (ps := ["walker", "n"]) (fun _ _ _ _ _ _ us hl => match us, hl with | [_, _], _ => rfl), g__law_doors := PySem.W.mg_of X G a23,
    f__law_walked := f24, d__law_walked := _, F__law_walked := fun_mk (st := s__law_walked) l24 c24 k24, b__law_walked := (fun_mk (st := s__law_walked) l24 c24 k24).binds (ps := ["doors", "walker"]) (fun _ _ _ _ _ _ us hl => match us, hl with | [_, _], _ => rfl), g__law_walked := PySem.W.mg_of X G a24,
    f__law_row := f25, d__law_row := _, F__law_row := fun_mk (st := s__law_row) l25 c25 k25, b__law_row := (fun_mk (st := s__law_row) l25 c25 k25).binds (ps := ["script", "n"]) (fun _ _ _ _ _ _ us hl => match us, hl with | [_, _], _ => rfl), g__law_row := PySem.W.mg_of X G a25,
    f__law_known := f26, d__law_known := _, F__law_known := fun_mk (st := s__law_known) l26 c26 k26, b__law_known := (fun_mk (st := s__law_known) l26 c26 k26).binds (ps := []) (fun _ _ _ _ _ _ us hl => match us, hl with | [], _ => rfl), g__law_known := PySem.W.mg_of X G a26,
    f__law_alike := f27, d__law_alike := _, F__law_alike := fun_mk (st := s__law_alike) l27 c27 k27, b__law_alike := (fun_mk (st := s__law_alike) l27 c27 k27).binds (ps := ["one", "other"]) (fun _ _ _ _ _ _ us hl => match us, hl with | [_, _], _ => rfl), g__law_alike := PySem.W.mg_of X G a27,
    f_law := fa, d_law := _, F_law := fun_mk (st := s_law) l28 c28 k28, b_law := (fun_mk (st := s_law) l28 c28 k28).binds (ps := ["script"]) (fun _ _ _ _ _ _ us hl => match us, hl with | [_], _ => rfl), g_law := PySem.W.mg_of X G a28,
    a_SHUT := a_SHUT, g_SHUT := PySem.W.mg_of X G a_SHUT', t_SHUT := fun _ => .inr ⟨_, _, _, l_SHUT, rfl, rfl, (by decide), .cons rfl (.cons rfl .nil)⟩,
    a_OPEN := a_OPEN, g_OPEN := PySem.W.mg_of X G a_OPEN', t_OPEN := fun _ => .inr ⟨_, _, _, l_OPEN, rfl, rfl, (by decide), .cons rfl (.cons rfl .nil)⟩,
    a_TURN := a_TURN, g_TURN := PySem.W.mg_of X G a_TURN', t_TURN := fun _ => .inr ⟨_, _, _, l_TURN, rfl, rfl, (by decide), .cons rfl (.cons rfl .nil)⟩,
    a_STAY := a_STAY, g_STAY := PySem.W.mg_of X G a_STAY', t_STAY := fun _ => .inr ⟨_, _, _, l_STAY, rfl, rfl, (by decide), .cons rfl (.cons rfl .nil)⟩,
    z_range := PySem.W.mg_none_of X G z_range,
    z_list := PySem.W.mg_none_of X G z_list,
    z_isinstance := PySem.W.mg_none_of X G z_isinstance,
    z_int := PySem.W.mg_none_of X G z_int,
    z_tuple := PySem.W.mg_none_of X G z_tuple,
    z_str := PySem.W.mg_none_of X G z_str,
    z_all := PySem.W.mg_none_of X G z_all,
    z_len := PySem.W.mg_none_of X G z_len,
    z_abs := PySem.W.mg_none_of X G z_abs,
    z_max := PySem.W.mg_none_of X G z_max,
    z_bool := PySem.W.mg_none_of X G z_bool,
    z_min := PySem.W.mg_none_of X G z_min }
  exact ⟨PySem.W.fnOf "law" "law" (defArgs s_law) (defBody s_law) (defScope s_law) .none kV28 dc28 pm28 an28 cd28 ct28, fun s v => .of_eq rfl, fun base _ _ => ok_law T⟩
theorem walk {l : PySem.W.OpenLaw} {q : Program} {loose : List Str} {XP : (Str → Option Value) → Heap → Prop} {YP : World → Heap → Prop} {d : DefRec} {K : Params → PySem.W.Frag} (hn : l.most = some 63) (hdf : d.params.defaults = [])
    (hY : ∀ (w : World) (h : Heap), YP w h → (K w.params).In h)
    (F : ∀ (w : World) (mg : Str → Option Value) (fa : Addr) (h : Heap), (K w.params).In h → h.Ns mainGlobals mg → mg d.name = some (.ref fa) →
      ∃ fd : FuncData, (∀ (s : Shared) (u : Value), BindsTo s fd ⟨[u], []⟩ [("script", u)]) ∧ ∀ base : Heap, (K w.params).In base → base.Ns mainGlobals mg → FnOk l.prog w (K w.params) mg base CX0 6 fa fd ["script"] (sp_law (K w.params))) :
    PySem.W.WalkO q loose XP YP l.row.toRowW d [] (fun f vs => PySem.call f vs) :=
  L2.walk_ofB (n := 63) (k := 6) (x := "script") (CX := fun _ => CX0) (sp := fun w => sp_law (K w.params)) hn (by decide) hdf ⟨rfl, by decide, by decide⟩ hY F (fun _ _ a ns hl hb _ hS => ⟨a, ns, rfl, hS, hl, hb, fun _ => rfl⟩) fun _ _ _ _ _ z => z
end Dt
open PySem PySem.W PyProof.Rows in
set_option maxRecDepth 100000 in
set_option maxHeartbeats 0 in
theorem PySem.Challenge.cw_doorsturned_k07_walkers_who_never_matter_holds : PySem.Challenge.rw_doorsturned_k07_walkers_who_never_matter.Holds := by
  w_on; o_law; k_head; (case hw => w_witness2)
  k_fill
  refine Dt.walk (l := PySem.Challenge.rw_doorsturned_k07_walkers_who_never_matter) rfl rfl (fun w h Y => PySem.W.kIn_of Y) ?F
  case F =>
    intro w mg fa h KX G hmg
    refine' Dt.all_mk KX G hmg ?a0 ?l0 ?c0 ?k0 ?a1 ?l1 ?c1 ?k1 ?a2 ?l2 ?c2 ?k2 ?a3 ?l3 ?c3 ?k3 ?a4 ?l4 ?c4 ?k4 ?a5 ?l5 ?c5 ?k5 ?a6 ?l6 ?c6 ?k6 ?a7 ?l7 ?c7 ?k7 ?a8 ?l8 ?c8 ?k8 ?a9 ?l9 ?c9 ?k9 ?a10 ?l10 ?c10 ?k10 ?a11 ?l11 ?c11 ?k11 ?a12 ?l12 ?c12 ?k12 ?a13 ?l13 ?c13 ?k13 ?a14 ?l14 ?c14 ?k14 ?a15 ?l15 ?c15 ?k15 ?a16 ?l16 ?c16 ?k16 ?a17 ?l17 ?c17 ?k17 ?a18 ?l18 ?c18 ?k18 ?a19 ?l19 ?c19 ?k19 ?a20 ?l20 ?c20 ?k20 ?a21 ?l21 ?c21 ?k21 ?a22 ?l22 ?c22 ?k22 ?a23 ?l23 ?c23 ?k23 ?a24 ?l24 ?c24 ?k24 ?a25 ?l25 ?c25 ?k25 ?a26 ?l26 ?c26 ?k26 ?a27 ?l27 ?c27 ?k27 ?a28 ?l28 ?c28 ?k28 ?a_SHUT' ?l_SHUT ?a_OPEN' ?l_OPEN ?a_TURN' ?l_TURN ?a_STAY' ?l_STAY ?z_range ?z_list ?z_isinstance ?z_int ?z_tuple ?z_str ?z_all ?z_len ?z_abs ?z_max ?z_bool ?z_min
    (case a0 => k_is)
    (case l0 => k_is)
    (case c0 => k_is)
    (case k0 => k_is)
    (case a1 => k_is)
    (case l1 => k_is)
    (case c1 => k_is)
    (case k1 => k_is)
    (case a2 => k_is)
    (case l2 => k_is)
    (case c2 => k_is)
    (case k2 => k_is)
    (case a3 => k_is)
    (case l3 => k_is)
    (case c3 => k_is)
    (case k3 => k_is)
    (case a4 => k_is)
    (case l4 => k_is)
    (case c4 => k_is)
    (case k4 => k_is)
    (case a5 => k_is)
    (case l5 => k_is)
    (case c5 => k_is)
    (case k5 => k_is)
    (case a6 => k_is)
    (case l6 => k_is)
    (case c6 => k_is)
    (case k6 => k_is)
    (case a7 => k_is)
    (case l7 => k_is)
    (case c7 => k_is)
    (case k7 => k_is)
    (case a8 => k_is)
    (case l8 => k_is)
    (case c8 => k_is)
    (case k8 => k_is)
    (case a9 => k_is)
    (case l9 => k_is)
    (case c9 => k_is)
    (case k9 => k_is)
    (case a10 => k_is)
    (case l10 => k_is)
    (case c10 => k_is)
    (case k10 => k_is)
    (case a11 => k_is)
    (case l11 => k_is)
    (case c11 => k_is)
    (case k11 => k_is)
    (case a12 => k_is)
    (case l12 => k_is)
    (case c12 => k_is)
    (case k12 => k_is)
    (case a13 => k_is)
    (case l13 => k_is)
    (case c13 => k_is)
    (case k13 => k_is)
    (case a14 => k_is)
    (case l14 => k_is)
    (case c14 => k_is)
    (case k14 => k_is)
    (case a15 => k_is)
    (case l15 => k_is)
    (case c15 => k_is)
    (case k15 => k_is)
    (case a16 => k_is)
    (case l16 => k_is)
    (case c16 => k_is)
    (case k16 => k_is)
    (case a17 => k_is)
    (case l17 => k_is)
    (case c17 => k_is)
    (case k17 => k_is)
    (case a18 => k_is)
    (case l18 => k_is)
    (case c18 => k_is)
    (case k18 => k_is)
    (case a19 => k_is)
    (case l19 => k_is)
    (case c19 => k_is)
    (case k19 => k_is)
    (case a20 => k_is)
    (case l20 => k_is)
    (case c20 => k_is)
    (case k20 => k_is)
    (case a21 => k_is)
    (case l21 => k_is)
    (case c21 => k_is)
    (case k21 => k_is)
    (case a22 => k_is)
    (case l22 => k_is)
    (case c22 => k_is)
    (case k22 => k_is)
    (case a23 => k_is)
    (case l23 => k_is)
    (case c23 => k_is)
    (case k23 => k_is)
    (case a24 => k_is)
    (case l24 => k_is)
    (case c24 => k_is)
    (case k24 => k_is)
    (case a25 => k_is)
    (case l25 => k_is)
    (case c25 => k_is)
    (case k25 => k_is)
    (case a26 => k_is)
    (case l26 => k_is)
    (case c26 => k_is)
    (case k26 => k_is)
    (case a27 => k_is)
    (case l27 => k_is)
    (case c27 => k_is)
    (case k27 => k_is)
    (case a28 => k_is)
    (case l28 => k_is)
    (case c28 => k_is)
    (case k28 => k_is)
    (case a_SHUT' => k_is)
    (case l_SHUT => k_is)
    (case a_OPEN' => k_is)
    (case l_OPEN => k_is)
    (case a_TURN' => k_is)
    (case l_TURN => k_is)
    (case a_STAY' => k_is)
    (case l_STAY => k_is)
    (case z_range => k_is)
    (case z_list => k_is)
    (case z_isinstance => k_is)
    (case z_int => k_is)
    (case z_tuple => k_is)
    (case z_str => k_is)
    (case z_all => k_is)
    (case z_len => k_is)
    (case z_abs => k_is)
    (case z_max => k_is)
    (case z_bool => k_is)
    (case z_min => k_is)
#print axioms PySem.Challenge.cw_doorsturned_k07_walkers_who_never_matter_holds

