import PyProof.Rows.All
import Wide.All
import OpenK.AllK
import Wide.FinOn
import HandS.ForMost
import HandS.IsInst
import HandS.Wide
import HandS.Flow
import HandS.TupAny
import HandS.Small
import HandS.RaiseMore
import HandS.Steps
import HandS.More
import PySem.Challenge.RW_volumehall_k14_steps_written
set_option Elab.async false
set_option linter.all false
set_option maxRecDepth 100000
set_option maxHeartbeats 4000000
/-! Stepping lemmas: what a reading asks, one construct at a time. -/
namespace VH
open PySem L2
section
variable {σ : St} {H : Hp} {Q : VK} {v x y : V} {K : PySem.W.Frag}
theorem w_var {i : Nat} (h : σ[i]? = some (some v)) (q : Q v H) : tVar i σ H Q := ⟨v, h, q⟩
theorem w_c (q : Q v H) : tC v σ H Q := q
theorem w_op {r : R2} {ta tb : TE} (h : ta σ H fun x H1 => tb σ H1 fun y H2 => r x y H2 Q) : tOp r ta tb σ H Q := h
theorem w_un {r : V → Hp → VK → Prop} {ta : TE} (h : ta σ H fun x H1 => r x H1 Q) : tUn r ta σ H Q := h
theorem w_I0 {g : Int → Int → V} {i j : Int} (q : Q (g i j) H) : rI0 g (.int i) (.int j) H Q := ⟨i, j, rfl, rfl, q⟩
theorem w_I {C : Int → Int → Prop} {g : Int → Int → V} {i j : Int} (c : C i j) (q : Q (g i j) H) : rI C g (.int i) (.int j) H Q := ⟨i, j, rfl, rfl, c, q⟩
theorem w_U {g : Int → V} {i : Int} (q : Q (g i) H) : rU g (.int i) H Q := ⟨i, rfl, q⟩
theorem w_eq (h : scal x y = true) (q : Q (.bl (decide (x = y))) H) : rEq x y H Q := ⟨h, q⟩
theorem w_ne (h : scal x y = true) (q : Q (.bl (!decide (x = y))) H) : rNe x y H Q := ⟨h, q⟩
theorem w_isN {t : TE} (h : t σ H fun x H1 => Q (.bl (decide (x = .non))) H1) : tIsN t σ H Q := h
theorem w_tup {t : TA} (h : t σ H fun xs H1 => xs.length ≤ sizeLine ∧ ∀ p, H1 p = none → Q (.ref p) (upd H1 p (.tup xs))) : tTup t σ H Q := h
theorem w_lst {t : TA} (h : t σ H fun xs H1 => xs.length ≤ sizeLine ∧ ∀ p, H1 p = none → Q (.ref p) (upd H1 p (.lst xs))) : tLst t σ H Q := h
theorem w_call {sp : Sp} {dvs : List V} {E : XK} {t : TA} (h : t σ H fun vs H1 => sp (vs ++ dvs) H1 Q E) : tCall sp dvs E t σ H Q := h
theorem w_cb {r : List V → Hp → VK → Prop} {t : TA} (h : t σ H fun vs H1 => r vs H1 Q) : tCB r t σ H Q := h
theorem w_fld {ta : TE} {f : Str} (h : ta σ H fun x H1 => ∃ a C dx fs v, x = .ref a ∧ H1 a = some (.ins C dx fs) ∧ Cls K C ∧ NoAttr K C f ∧ fs.lookup f = some v ∧ Q v H1) : tFld K ta f σ H Q := h
theorem w_if {t : TT} {ta tb : TE} (h : t σ H fun c H1 => if c = true then ta σ H1 Q else tb σ H1 Q) : tIf t ta tb σ H Q := h
theorem w_bm {T : String} {r : V → List V → Hp → VK → Prop} {to : TE} {t : TA} (h : to σ H fun x H1 => tyV K T x H1 ∧ t σ H1 fun xs H2 => r x xs H2 Q) : tBM K T r to t σ H Q := h
theorem w_bm0 {T : String} {r : V → List V → Hp → VK → Prop} {to : TE} (h : to σ H fun x H1 => tyV K T x H1 ∧ r x [] H1 Q) : tBM0 K T r to σ H Q := h
theorem w_m1 {r : V → List V → Hp → VK → Prop} {to te : TE} (h : to σ H fun x H1 => (∃ a, x = .str a) ∧ te σ H1 fun y H2 => r x [y] H2 Q) : tM1 r to te σ H Q := h
theorem w_andV {ta tb : TE} (h : ta σ H fun x H1 => ∃ c, x = .bl c ∧ if c = true then tb σ H1 Q else Q (.bl false) H1) : tAndV ta tb σ H Q := h
theorem w_orV {ta tb : TE} (h : ta σ H fun x H1 => ∃ c, x = .bl c ∧ if c = true then Q (.bl true) H1 else tb σ H1 Q) : tOrV ta tb σ H Q := h
theorem w_notV {ta : TE} (h : ta σ H fun x H1 => ∃ c, x = .bl c ∧ Q (.bl (!c)) H1) : tNotV ta σ H Q := h
theorem w_dget {td ty : TE} (h : td σ H fun x H1 => ty σ H1 fun y H2 => ∃ a v, x = .ref a ∧ DGet H2 a y (some v) ∧ Q v H2) : tDGet td ty σ H Q := h
theorem w_chain {r r' : R2} {ta tb tc : TE} (h : ta σ H fun x H1 => tb σ H1 fun y H2 => r x y H2 fun z H3 => ∃ k, z = .bl k ∧ (if k = true then tc σ H3 fun w' H4 => r' y w' H4 Q else Q (.bl false) H3)) : tChain r r' ta tb tc σ H Q := h
/-- a known truth value -/
theorem w_bl {c : Bool} {P : Bool → Prop} (h : P c) : ∃ c', (V.bl c = V.bl c') ∧ P c' := ⟨c, rfl, h⟩
section
variable {QA : List V → Hp → Prop}
theorem w_nil (q : QA [] H) : tNil σ H QA := q
theorem w_cons {te : TE} {t : TA} (h : te σ H fun x H1 => t σ H1 fun xs H2 => QA (x :: xs) H2) : tCons te t σ H QA := h
end
section
variable {QB : Bool → Hp → Prop}
theorem w_test {t : TE} (h : t σ H fun x H' => ∃ k, x = .bl k ∧ QB k H') : tTest t σ H QB := h
theorem w_B {t : TE} (h : t σ H fun x H' => ∃ k, x = .bl k ∧ QB k H') : tB t σ H QB := h
theorem w_and {t u : TT} (h : t σ H fun c H1 => if c = true then u σ H1 QB else QB false H1) : tAnd t u σ H QB := h
theorem w_or {t u : TT} (h : t σ H fun c H1 => if c = true then QB true H1 else u σ H1 QB) : tOr t u σ H QB := h
theorem w_not {t : TT} (h : t σ H fun c H1 => QB (!c) H1) : tNot t σ H QB := h
theorem w_yes (q : QB true H) : tYes σ H QB := q
end
section
variable {D : Ends}
theorem w_seq {t u : TS} (h : t { D with nx := u D } σ H) : tSeq t u D σ H := h
theorem w_next (q : D.nx σ H) : tNext D σ H := q
theorem w_drop {te : TE} (h : te σ H fun _ H1 => D.nx σ H1) : tDrop te D σ H := h
theorem w_ret {te : TE} (h : te σ H D.rt) : tRet te D σ H := h
theorem w_retN (h : D.rt .non H) : tRetN D σ H := h
theorem w_ifS {c : TT} {t u : TS} (h : c σ H fun b H1 => if b = true then t D σ H1 else u D σ H1) : tIfS c t u D σ H := h
theorem w_asg {te : TE} {g : TG} (h : te σ H fun x H1 => g x σ H1 D.nx) : tAsg te g D σ H := h
theorem w_sfld {ta tv : TE} {f : Str} (h : tv σ H fun y H1 => ta σ H1 fun x H2 => ∃ a C dx fs, x = .ref a ∧ H2 a = some (.ins C dx fs) ∧ Cls K C ∧ NoAttr K C f ∧ fs.length < 1000 ∧ D.nx σ (upd H2 a (.ins C dx (putF f y fs)))) : sFld K ta tv f D σ H := h
theorem w_for {wi : TI} {g : TG} {tb : TS} (h : wi σ H fun J H1 => ∃ W : Nat → Nat → St → Hp → Prop, (∃ m, W 0 m σ H1) ∧ ∀ i m σ H, W i m σ H →
  (J.stop i H ∧ D.nx σ H) ∨ (J.go i H ∧ ∃ N : St → Hp → Prop, (∀ σ' H', N σ' H' → ∃ m', m' < m ∧ W (i + 1) m' σ' H') ∧ ∀ x H', J.yld i H x H' → g x σ H' fun σ2 H2 => tb { D with nx := N, ct := N, bk := D.nx } σ2 H2)) : tFor wi g tb D σ H := h
end
section
variable {QG : St → Hp → Prop}
theorem w_gName {i : Nat} (q : QG (σ.set i (some v)) H) : gName i v σ H QG := q
theorem w_gSub {to ti : TE} {t : TSet} (h : to σ H fun o H1 => ti σ H1 fun i H2 => t o i v H2 fun H3 => QG σ H3) : gSub to ti t v σ H QG := h
end
section
variable {R : It → Hp → Prop}
theorem w_iList {tl : TE} (h : tl σ H fun x H1 => ∃ a, x = .ref a ∧ (∃ xs, SqL K H1 a xs) ∧ R (Itl K a) H1) : iList K tl σ H R := h
theorem w_iTup {tl : TE} (h : tl σ H fun x H1 => ∃ a, x = .ref a ∧ (∃ xs, SqT K H1 a xs) ∧ R (Itt K a) H1) : iTup K tl σ H R := h
theorem w_iStr {te : TE} (h : te σ H fun v H1 => ∃ x, v = .str x ∧ R (Its x) H1) : iStr te σ H R := h
theorem w_iR1 {ta : TA} (h : ta σ H fun vs H1 => ∃ j : Int, vs = [.int j] ∧ -(2 ^ 62) ≤ j ∧ j < 2 ^ 62 ∧ R (Itr 0 j.toNat) H1) : iRng1 ta σ H R := h
theorem w_iEnum {ta : TA} (h : ta σ H fun vs H1 => ∃ a xs, vs = [.ref a] ∧ SqL K H1 a xs ∧ R (Ite K a) H1) : iEnum K ta σ H R := h
end
theorem w_ixL {p : Addr} {xs : List V} {i : Int} (s : SqL K H p xs) (a : atI xs i = some v) (q : Q v H) : rIxL K (.ref p) (.int i) H Q := ⟨p, xs, i, v, rfl, rfl, s, a, q⟩
theorem w_setL {p : Addr} {xs : List V} {i : Int} {j : Nat} {QH : Hp → Prop} (h : H p = some (.lst xs)) (n : ixN xs.length i = some j) (q : QH (upd H p (.lst (xs.set j v)))) : rSetL (.ref p) (.int i) v H QH := ⟨p, xs, i, j, rfl, rfl, h, n, q⟩
theorem w_ixT {p : Addr} {xs : List V} {i : Int} (s : SqT K H p xs) (a : atI xs i = some v) (q : Q v H) : rIxT K (.ref p) (.int i) H Q := ⟨p, xs, i, v, rfl, rfl, s, a, q⟩
theorem cxK {CX : CXT} {P : Program} {w : World} {mg : Str → Option Value} {base : Heap} {N : List Str} {qual : Str} {scope : Scope} {f : Addr} {cd : Value} {A : Around} {outer : List Env} {s : Shared} {H : Hp} {E : XK} :
    (cxOf CX P w K mg base N qual scope f cd A outer s H E).nox.K = K := rfl
theorem cxK' {CX : CXT} {P : Program} {w : World} {mg : Str → Option Value} {base : Heap} {N : List Str} {qual : Str} {scope : Scope} {f : Addr} {cd : Value} {A : Around} {outer : List Env} {s : Shared} {H : Hp} {E : XK} :
    (cxOf CX P w K mg base N qual scope f cd A outer s H E).K = K := rfl
theorem sz {n : Nat} (h : Nat.ble n 1000 = true) : n ≤ sizeLine := Nat.le_of_lt (small1000 (Nat.le_of_ble_eq_true h))
theorem szl {n : Nat} (h : n ≤ 1000) : n ≤ sizeLine := Nat.le_of_lt (small1000 h)
theorem szb {n : Nat} (h : n ≤ 1000000) : n ≤ sizeLine := Nat.le_trans h (by decide)
theorem szbl {n : Nat} (h : n ≤ 1000000) : n < sizeLine := Nat.lt_of_le_of_lt h (by decide)
theorem w_newSz {n : Nat} {R : Prop} (h : n ≤ sizeLine) (q : R) : n ≤ sizeLine ∧ R := ⟨h, q⟩
theorem ixN_0 {n : Nat} : ixN (n + 1) 0 = some 0 := by
  unfold ixN
  rw [if_pos (by decide), if_pos (by omega)]
  rfl
theorem atI_0 {α : Type} {x : α} {xs : List α} : atI (x :: xs) 0 = some x := by
  unfold atI
  rw [List.length_cons, ixN_0]
  rfl
theorem w_tyL {p : Addr} {xs : List V} {P : Prop} (s : SqL K H p xs) (h : P) : tyV K "list" (.ref p) H ∧ P := ⟨Or.inl ⟨rfl, _, s⟩, h⟩
theorem w_tyS {z : Str} {P : Prop} (h : P) : (∃ a, V.str z = .str a) ∧ P := ⟨⟨_, rfl⟩, h⟩
theorem w_popAt0 {p : Addr} {xs : List V} (e : H p = some (.lst (x :: xs))) (q : Q x (upd H p (.lst xs))) : rPopAt (.ref p) [.int 0] H Q :=
  ⟨p, x :: xs, 0, 0, x, rfl, rfl, e, by decide, by decide, by
    unfold seqIndex?
    simp, rfl, q⟩
theorem w_append {p : Addr} {xs : List V} (e : H p = some (.lst xs)) (l : xs.length < sizeLine) (q : Q .non (upd H p (.lst (xs ++ [y])))) : rAppend (.ref p) [y] H Q := ⟨p, xs, y, rfl, rfl, e, l, q⟩
theorem decI {a b : Int} : decide (V.int a = V.int b) = decide (a = b) := by
  by_cases e : a = b
  · rw [e, decide_eq_true rfl, decide_eq_true rfl]
  · rw [decide_eq_false e, decide_eq_false fun z => e (V.int.inj z)]
theorem decS {a b : Str} : decide (V.str a = V.str b) = decide (a = b) := by
  by_cases e : a = b
  · rw [e, decide_eq_true rfl, decide_eq_true rfl]
  · rw [decide_eq_false e, decide_eq_false fun z => e (V.str.inj z)]
theorem w_ifT {c : Bool} {A B : Prop} (h : c = true) (q : A) : if c = true then A else B := by rw [h]; exact iteT q
theorem w_ifF {c : Bool} {A B : Prop} (h : c = false) (q : B) : if c = true then A else B := by rw [h]; exact iteF q
theorem w_isZ (q : Q (.bl (decide (x = .non))) H) : rIsN x .non H Q := ⟨rfl, q⟩
theorem w_notZ (q : Q (.bl (!decide (x = .non))) H) : rNotN x .non H Q := ⟨rfl, q⟩
theorem w_inS {c : Nat} {z : Str} (q : Q (.bl (decide (c ∈ z.cps.toList))) H) : rInS (.str ⟨#[c]⟩) (.str z) H Q := ⟨c, z, rfl, rfl, q⟩
theorem w_notInS {c : Nat} {z : Str} (q : Q (.bl (!decide (c ∈ z.cps.toList))) H) : rNotInS (.str ⟨#[c]⟩) (.str z) H Q := ⟨c, z, rfl, rfl, q⟩
/-! built-in functions, their readings by name -/
def rLenL (K : PySem.W.Frag) : List V → Hp → VK → Prop := fun xs H Q => ∃ p ys, xs = [.ref p] ∧ (SqL K H p ys ∨ SqT K H p ys) ∧ Q (.int ys.length) H
theorem cr_lenL {X : Cx} : CallR X (.builtin "len") (rLenL X.K) := call_len_seq
theorem w_lenL {p : Addr} {ys : List V} (s : SqL K H p ys) (q : Q (.int ys.length) H) : rLenL K [.ref p] H Q := ⟨p, ys, rfl, .inl s, q⟩
theorem w_lenT {p : Addr} {ys : List V} (s : SqT K H p ys) (q : Q (.int ys.length) H) : rLenL K [.ref p] H Q := ⟨p, ys, rfl, .inr s, q⟩
def rLenS : List V → Hp → VK → Prop := fun xs H Q => ∃ z, xs = [.str z] ∧ z.length ≤ sizeLine ∧ Q (.int z.length) H
theorem cr_lenS {X : Cx} : CallR X (.builtin "len") rLenS := call_len_str
theorem w_lenS {z : Str} (l : z.length ≤ sizeLine) (q : Q (.int z.length) H) : rLenS [.str z] H Q := ⟨z, rfl, l, q⟩
def rListOf (K : PySem.W.Frag) : List V → Hp → VK → Prop := fun xs H Q => ∃ p ys, xs = [.ref p] ∧ (SqL K H p ys ∨ SqT K H p ys) ∧ ∀ l, H l = none → Q (.ref l) (upd H l (.lst ys))
theorem cr_listOf {X : Cx} : CallR X (.type "list") (rListOf X.K) := call_list_of
theorem w_listL {p : Addr} {ys : List V} (s : SqL K H p ys) (q : ∀ l, H l = none → Q (.ref l) (upd H l (.lst ys))) : rListOf K [.ref p] H Q := ⟨p, ys, rfl, .inl s, q⟩
theorem w_listT {p : Addr} {ys : List V} (s : SqT K H p ys) (q : ∀ l, H l = none → Q (.ref l) (upd H l (.lst ys))) : rListOf K [.ref p] H Q := ⟨p, ys, rfl, .inr s, q⟩
def rTupOf (K : PySem.W.Frag) : List V → Hp → VK → Prop := fun xs H Q => ∃ p ys, xs = [.ref p] ∧ ((SqL K H p ys ∧ ∀ l, H l = none → Q (.ref l) (upd H l (.tup ys))) ∨ (SqT K H p ys ∧ Q (.ref p) H))
theorem cr_tupOf {X : Cx} : CallR X (.type "tuple") (rTupOf X.K) := call_tuple_of
theorem w_tupL {p : Addr} {ys : List V} (s : SqL K H p ys) (q : ∀ l, H l = none → Q (.ref l) (upd H l (.tup ys))) : rTupOf K [.ref p] H Q := ⟨p, ys, rfl, .inl ⟨s, q⟩⟩
def rInt1 : List V → Hp → VK → Prop := fun xs H Q => (∃ i, xs = [.int i] ∧ Q (.int i) H) ∨ ∃ k, xs = [.bl k] ∧ Q (.int (if k then 1 else 0)) H
theorem cr_int1 {X : Cx} : CallR X (.type "int") rInt1 := call_int1
theorem w_intI {i : Int} (q : Q (.int i) H) : rInt1 [.int i] H Q := .inl ⟨i, rfl, q⟩
theorem w_intB {k : Bool} (q : Q (.int (if k then 1 else 0)) H) : rInt1 [.bl k] H Q := .inr ⟨k, rfl, q⟩
def rStrI : List V → Hp → VK → Prop := fun xs H Q => ∃ i, xs = [.int i] ∧ i.natAbs.log2 < 1920 ∧ Q (.str (toString i)) H
def rStrX : List V → Hp → VK → Prop := fun xs H Q => rStrI xs H Q ∨ ∃ a, xs = [.str a] ∧ Q (.str a) H
theorem cr_strX {X : Cx} : CallR X (.type "str") rStrX := CallR.or call_str_int SkE.call_str_str
theorem w_strI {i : Int} (l : i.natAbs.log2 < 1920) (q : Q (.str (Str.ofString (toString i))) H) : rStrX [.int i] H Q := .inl ⟨i, rfl, l, q⟩
theorem w_strS {z : Str} (q : Q (.str z) H) : rStrX [.str z] H Q := .inr ⟨z, rfl, q⟩
def rIntS : List V → Hp → VK → Prop := fun xs H Q => ∃ a n, xs = [.str a] ∧ PySem.intText? a = some n ∧ a.length ≤ 640 ∧ Q (.int n) H
theorem cr_intS {X : Cx} : CallR X (.type "int") rIntS := call_int_str
theorem w_isi {a b : String} {r : Bool} (t : TyX K H x (.type a)) (h : kitB a b = some r) (q : Q (.bl r) H) : rIsi K [x, .ty b] H Q := ⟨x, .ty b, .type a, .type b, r, rfl, .ty b, t, kit_ty h, q⟩
theorem tx_L {p : Addr} {xs : List V} (s : SqL K H p xs) : TyX K H (.ref p) (.type "list") := by
  rcases s with (s | ⟨o, s⟩) | ⟨o, its, n, s, c, _⟩
  · exact .base (.lst s)
  · exact .base (.frz s)
  · exact .kList s c
theorem tx_T {p : Addr} {xs : List V} (s : SqT K H p xs) : TyX K H (.ref p) (.type "tuple") := by
  rcases s with (s | ⟨o, s⟩) | ⟨o, its, n, s, c, _⟩
  · exact .base (.tup s)
  · exact .fTuple s
  · exact .kTuple s c
theorem tx_N : TyX K H .non (.type "NoneType") := .base .non
theorem tx_B {b : Bool} : TyX K H (.bl b) (.type "bool") := .base (.bl b)
theorem tx_I {i : Int} : TyX K H (.int i) (.type "int") := .base (.int i)
theorem tx_S {z : Str} : TyX K H (.str z) (.type "str") := .base (.str z)
theorem w_ixXL {p : Addr} {xs : List V} {i : Int} (s : SqL K H p xs) (a : atI xs i = some v) (q : Q v H) : rIx K (.ref p) (.int i) H Q := .inl (w_ixL s a q)
theorem w_ixXT {p : Addr} {xs : List V} {i : Int} (s : SqT K H p xs) (a : atI xs i = some v) (q : Q v H) : rIx K (.ref p) (.int i) H Q := .inr (.inl (w_ixT s a q))
theorem dpAll_get : ∀ {xs : List V} {ds : List PyData} {i : Nat} {x : V}, DpAll K H xs ds → xs[i]? = some x → ∃ d, ds[i]? = some d ∧ Dp K H x d
  | _, _, _, _, .nil, e => by simp at e
  | _, _, 0, _, .cons h _, e => by
    simp at e
    subst e
    exact ⟨_, rfl, h⟩
  | _, _, i + 1, _, .cons _ t, e => by
    obtain ⟨d, h1, h2⟩ := dpAll_get (i := i) t (by simpa using e)
    exact ⟨d, by simpa using h1, h2⟩
theorem dpAll_len : ∀ {xs : List V} {ds : List PyData}, DpAll K H xs ds → xs.length = ds.length
  | _, _, .nil => rfl
  | _, _, .cons _ t => by rw [List.length_cons, List.length_cons, dpAll_len t]
/-! ### heaps: H' keeps what H holds, but at F -/
structure Kp (F : List Addr) (H H' : Hp) : Prop where
  k : ∀ a o, H a = some o → a ∉ F → H' a = some o
theorem ni_nil {a : Addr} : a ∉ ([] : List Addr) := by simp
theorem ni_cons {a b : Addr} {F : List Addr} (h : a ≠ b) (t : a ∉ F) : a ∉ b :: F := by
  intro z
  rcases List.mem_cons.mp z with z | z
  · exact h z
  · exact t z
theorem Kp.refl {F : List Addr} {H : Hp} : Kp F H H := ⟨fun _ _ h _ => h⟩
theorem kp_new {F : List Addr} {H H' : Hp} {p : Addr} {o : HO} (k : Kp F H H') (n : H' p = none) : Kp F H (upd H' p o) := ⟨fun a u e ne => by
  have z := k.k a u e ne
  rw [upd_ne (ne_of_none z n)]
  exact z⟩
theorem kp_set {F : List Addr} {H H' : Hp} {p : Addr} {o : HO} (k : Kp F H H') (m : p ∈ F) : Kp F H (upd H' p o) := ⟨fun a u e ne => by
  have z := k.k a u e ne
  rw [upd_ne (fun q : a = p => ne (by rw [q]; exact m))]
  exact z⟩
theorem kp_new' {F : List Addr} {H H' : Hp} {p : Addr} {o : HO} (n : H' p = none) (k : Kp F H H') : Kp F H (upd H' p o) := kp_new k n
theorem kp_set' {F : List Addr} {H H' : Hp} {p : Addr} {o : HO} (m : p ∈ F) (k : Kp F H H') : Kp F H (upd H' p o) := kp_set k m
theorem kp_setn {F : List Addr} {H H' : Hp} {p : Addr} {o : HO} (n : H p = none) (k : Kp F H H') : Kp F H (upd H' p o) := ⟨fun a u e ne => by
  have z := k.k a u e ne
  rw [upd_ne (ne_of_none e n)]
  exact z⟩
theorem kp_app {F : List Addr} {H H1 H2 : Hp} (l : Kp [] H1 H2) (k : Kp F H H1) : Kp F H H2 := ⟨fun a o e ne => l.k a o (k.k a o e ne) ni_nil⟩
theorem kp_app2 {F : List Addr} {H H1 H2 : Hp} (l : Kp F H1 H2) (k : Kp F H H1) : Kp F H H2 := ⟨fun a o e ne => l.k a o (k.k a o e ne) ne⟩
theorem ne_new {H : Hp} {a b : Addr} {o : HO} (n : H b = none) (e : H a = some o) : a ≠ b := ne_of_none e n
theorem w_gen {sp : Sp} {vs : List V} {Q : VK} {E : XK} {H : Hp} (P : Hp → Prop) (hP : P H) (h : ∀ H', P H' → sp vs H' Q E) : sp vs H Q E := h H hP
theorem none_of_kp {F : List Addr} {H H' : Hp} {p : Addr} (k : Kp F H H') (m : p ∉ F) (n : H' p = none) : H p = none := by
  cases e : H p with
  | none => rfl
  | some o =>
    have z := k.k p o e m
    rw [n] at z
    cases z
theorem none_of_kp2 {H H' : Hp} {p : Addr} (n : H' p = none) (k : Kp [] H H') : H p = none := none_of_kp k ni_nil n
theorem none_of_upd {H : Hp} {p q : Addr} {o : HO} (n : upd H q o p = none) : H p = none := by
  by_cases e : p = q
  · rw [e, upd_same] at n
    cases n
  · rw [upd_ne e] at n
    exact n
theorem Kp.trans {F G : List Addr} {H H1 H2 : Hp} (k : Kp F H H1) (l : Kp G H1 H2) (s : ∀ a o, H a = some o → a ∈ G → a ∈ F) : Kp F H H2 := ⟨fun a o e ne => l.k a o (k.k a o e ne) (fun z => ne (s a o e z))⟩
theorem Kp.same {H H' : Hp} (k : Kp [] H H') : Same H H' := fun a o e => k.k a o e ni_nil
theorem Kp.of {H H' : Hp} (k : Same H H') : Kp [] H H' := ⟨fun a o e _ => k a o e⟩
theorem upd_old {H : Hp} {p a : Addr} {o u : HO} (n : H p = none) (e : H a = some u) : upd H p o a = some u := by
  rw [upd_ne (ne_of_none e n)]
  exact e
theorem upd_oth {H : Hp} {p a : Addr} {o u : HO} (n : a ≠ p) (e : H a = some u) : upd H p o a = some u := by
  rw [upd_ne n]
  exact e
theorem kp_get {F : List Addr} {H H' : Hp} {a : Addr} {o : HO} (k : Kp F H H') (e : H a = some o) (n : a ∉ F) : H' a = some o := k.k a o e n
theorem sq_l {a : Addr} {xs : List V} (e : H a = some (.lst xs)) : SqL K H a xs := .inl (.inl e)
theorem sq_t {a : Addr} {xs : List V} (e : H a = some (.tup xs)) : SqT K H a xs := .inl (.inl e)
theorem sqL_new {a p : Addr} {xs : List V} {o : HO} (n : H p = none) (s : SqL K H a xs) : SqL K (upd H p o) a xs := by
  rcases s with (s | ⟨b, s⟩) | s
  · exact .inl (.inl (upd_old n s))
  · exact .inl (.inr ⟨b, upd_old n s⟩)
  · exact .inr s
theorem sqT_new {a p : Addr} {xs : List V} {o : HO} (n : H p = none) (s : SqT K H a xs) : SqT K (upd H p o) a xs := by
  rcases s with (s | ⟨b, s⟩) | s
  · exact .inl (.inl (upd_old n s))
  · exact .inl (.inr ⟨b, upd_old n s⟩)
  · exact .inr s
end
end VH

namespace VH
open PySem PySem.Spec L2
open PyProof.Rows hiding St
/-! ### d.update(e) -/
def rDUpd : V → List V → Hp → VK → Prop := fun x xs H Q => ∃ a b kvs more, x = .ref a ∧ xs = [.ref b] ∧ a ≠ b ∧ H a = some (.dK kvs) ∧ H b = some (.dK more) ∧ kvs.length + more.length ≤ sizeLine ∧ Q .non (upd H a (.dK (mergeK kvs more)))
theorem mt_dupdate {X : Cx} : MtR X "dict.update" rDUpd := by
  intro pins s σ H x xs v us Q I rx rv h
  obtain ⟨a, b, kvs, more, rfl, rfl, ne, ha, hb, hz, q⟩ := h
  cases rx
  obtain ⟨u, rfl, ru⟩ := vals1 rv
  cases ru
  obtain ⟨_, lo, vs, r1, d1⟩ := dk_of I.hok ha
  obtain ⟨_, lo2, ws, r2, d2⟩ := dk_of I.hok hb
  refine call_meetsIn PySem.F.slot_dict_update d1.typeIs PySem.F.entry_dict_update (PySem.F.args_dict_update_2 _ _) (meets_dict_update (mixKind X.prog X.w) a b ne lo2) ⟨vs, ws, d1, d2, (by rw [← r1.length, ← r2.length]; exact hz), fun h' hm _ hs => ?_⟩
  have he : ∃ q, h'.get? a = some q := let ⟨q, _, _, hq, _⟩ := hm; ⟨q, hq⟩
  refine ⟨.non, _, d_write I (by rw [ha]; exact True.intro) hs he (dk_new ?_ lo (r2.merge r1) hm), rfl, q⟩
  exact Nat.le_trans (length_mergeK _ _) hz
section
variable {σ : St} {H : Hp} {Q : VK} {v x y : V} {K : PySem.W.Frag}
theorem w_tyD {p : Addr} {kvs : List (Key × V)} {P : Prop} (e : H p = some (.dK kvs)) (h : P) : tyV K "dict" (.ref p) H ∧ P := ⟨Or.inr (Or.inr (Or.inl ⟨rfl, Or.inl ⟨kvs, e⟩⟩)), h⟩
theorem w_dupd {a b : Addr} {kvs more : List (Key × V)} (ne : a ≠ b) (ha : H a = some (.dK kvs)) (hb : H b = some (.dK more)) (l : kvs.length + more.length ≤ sizeLine) (q : Q .non (upd H a (.dK (mergeK kvs more)))) : rDUpd (.ref a) [.ref b] H Q := ⟨a, b, kvs, more, rfl, rfl, ne, ha, hb, l, q⟩
end
/-! ### get of a dict of the top -/
/-- what a dict of the top holds at a text -/
def KAt (es : Array DictEntry) (z : Str) (o : Option V) : Prop := RelO o (findBy Value.isStrOf es z)
def tKGet2 (d : Addr) (es : Array DictEntry) (td ty tx : TE) : TE := fun σ H Q => td σ H fun x H1 => x = .ref d ∧ ty σ H1 fun y H2 => tx σ H2 fun z H3 => ∃ (k : Str) (o : Option V), y = .str k ∧ KAt es k o ∧ Q (o.getD z) H3
theorem pe_kget2 {X : Cx} {o e f : Expr} {apos cpos : Pos} {td ty tx : TE} {d : Addr} {es : Array DictEntry} {n : Nat} (D : KDict X.K X.w d es n) (ho : PE X o td) (he : PE X e ty) (hf : PE X f tx) (m : M2 X o "get" apos e f cpos) :
    PE X (.Call (.Attribute o "get" apos) [e, f] [] cpos) (tKGet2 d es td ty tx) := by
  refine ⟨fun pins s σ H Q I h => ?_⟩
  refine wpAny_Call_method m.base m.few m.line PySem.F.plainAttrs_dict PySem.F.slot_dict_get PySem.F.type_dict_get (thn (ho.run pins s σ H _ I h) fun u s1 ⟨x, H1, I1, rx, ex, q1⟩ => ?_)
  subst ex
  obtain rfl : u = Value.ref d := rx
  refine ⟨kd_type D I1, fun b e => ?_, ?_⟩
  · cases e
    exact ⟨_, I1.kIn _ _ D.at_, rfl⟩
  rw [m.trees]
  refine Calls.callWith_builtin rfl (Calls.evalArgs_plain (Calls.spliced_cons (thn (he.run pins s1 σ H1 _ I1 q1) fun iv s2 ⟨y, H2, I2, ry, q2⟩ =>
    Calls.spliced_cons (thn (hf.run pins s2 σ H2 _ I2 q2) fun fv s3 ⟨z, H3, I3, rz, k, ov, ey, g, q3⟩ => Calls.spliced_nil ?_))))
  subst ey
  obtain ⟨t, rfl⟩ := (show ∃ t, iv = Value.str k t from ry)
  have hm := PySem.W.mapOf_K (prog := X.prog) (w := X.w) I3.kIn D.at_ D.lit
  refine call_meetsIn PySem.F.slot_dict_get hm.typeIs PySem.F.entry_dict_get (PySem.F.args_dict_get_3 _ _ _) (meets_dict_get_default (strKind X.prog X.w) d (PySem.strKind_is X.prog X.w k t) D.low fv) ⟨_, hm, ⟨ov.getD z, H3, I3.tok _, ?_, q3⟩⟩
  exact RelO.getD g rz
/-! ### split, join by name -/
def rSplit : V → List V → Hp → VK → Prop := fun x xs H Q => ∃ a b, x = .str a ∧ xs = [.str b] ∧ (b.length == 0) = false ∧ a.length + 2 ≤ sizeLine ∧ rNewStrs (Txt.split a b) H Q
theorem pe_splitN {X : Cx} {o e : Expr} {to te : TE} {apos pos : Pos} (ho : PE X o to) (he : PE X e te) (hs : starEach [e] X.env = [(false, eval e X.env)] := by rfl) (hbase : attributeBase o "split" X.env (eval o X.env) = eval o X.env := by rfl) (hline : (apos.endLine == pos.line) = true := by rfl) :
    PE X (.Call (.Attribute o "split" apos) [e] [] pos) (tM1 rSplit to te) := pe_split ho he hs hbase hline
def rJoin (K : PySem.W.Frag) : V → List V → Hp → VK → Prop := fun x xs H Q => ∃ a p, ∃ ys : List Str, x = .str a ∧ xs = [.ref p] ∧ (SqL K H p (ys.map V.str) ∨ SqT K H p (ys.map V.str)) ∧ (ys.map (·.length)).sum + ys.length * a.length ≤ 16777216 ∧ Q (.str (Txt.join a ys)) H
theorem pe_joinN {X : Cx} {o e : Expr} {to te : TE} {apos pos : Pos} (ho : PE X o to) (he : PE X e te) (hs : starEach [e] X.env = [(false, eval e X.env)] := by rfl) (hbase : attributeBase o "join" X.env (eval o X.env) = eval o X.env := by rfl) (hline : (apos.endLine == pos.line) = true := by rfl) :
    PE X (.Call (.Attribute o "join" apos) [e] [] pos) (tM1 (rJoin X.K) to te) := pe_join ho he hs hbase hline
section
variable {σ : St} {H : Hp} {Q : VK} {v x y : V} {K : PySem.W.Frag}
theorem w_split {a b : Str} (hb : (b.length == 0) = false) (l : a.length + 2 ≤ sizeLine) (q : ∀ p, H p = none → Q (.ref p) (upd H p (.lst ((Txt.split a b).map V.str)))) : rSplit (.str a) [.str b] H Q := ⟨a, b, rfl, rfl, hb, l, q⟩
theorem w_join {a : Str} {p : Addr} {ys : List Str} (s : SqL K H p (ys.map V.str)) (l : (ys.map (·.length)).sum + ys.length * a.length ≤ 16777216) (q : Q (.str (Txt.join a ys)) H) : rJoin K (.str a) [.ref p] H Q := ⟨a, p, ys, rfl, rfl, .inl s, l, q⟩
def rCatS : R2 := fun x y H Q => ∃ i j, x = .str i ∧ y = .str j ∧ i.length + j.length ≤ sizeLine ∧ Q (.str (i ++ j)) H
theorem op_catS {X : Cx} : OpR X (binaryOp .Add) rCatS := op_add_str
theorem w_catS {a b : Str} (l : a.length + b.length ≤ sizeLine) (q : Q (.str (a ++ b)) H) : rCatS (.str a) (.str b) H Q := ⟨a, b, rfl, rfl, l, q⟩
theorem w_slT {p : Addr} {xs : List V} {lo hi : Option Int} (s : SqT K H p xs) (n : ¬ (HT.sIx xs.length 0 lo = 0 ∧ HT.sIx xs.length xs.length hi = xs.length)) (q : ∀ l, H l = none → Q (.ref l) (upd H l (.tup (cutV xs lo hi)))) : rSlT K (.ref p) lo hi H Q := ⟨p, xs, rfl, s, n, q⟩
theorem w_addS {a b : Str} (l : a.length + b.length ≤ sizeLine) (q : Q (.str (a ++ b)) H) : (∃ i j, V.str a = .str i ∧ V.str b = .str j ∧ i.length + j.length ≤ sizeLine ∧ Q (.str (i ++ j)) H) := ⟨a, b, rfl, rfl, l, q⟩
theorem w_cat {l b : Addr} {xs zs : List V} (hl : H l = some (.lst xs)) (hb : H b = some (.lst zs)) (z : xs.length + zs.length ≤ sizeLine) (q : ∀ p, H p = none → Q (.ref p) (upd H p (.lst (xs ++ zs)))) : rCat (.ref l) (.ref b) H Q := ⟨l, b, xs, zs, rfl, rfl, hl, hb, z, q⟩
theorem w_slice {r : V → Option Int → Option Int → Hp → VK → Prop} {te : TE} {tl th : St → Hp → (Option Int → Hp → Prop) → Prop} (h : te σ H fun x H1 => tl σ H1 fun lo H2 => th σ H2 fun hi H3 => r x lo hi H3 Q) : tSl r te tl th σ H Q := h
theorem w_part {te : TE} {QO : Option Int → Hp → Prop} (h : te σ H fun x H1 => ∃ i, x = .int i ∧ QO (some i) H1) : tPart te σ H QO := h
theorem w_noPart {QO : Option Int → Hp → Prop} (q : QO none H) : tNoPart σ H QO := q
theorem w_anInt {i : Int} {P : Int → Prop} (h : P i) : ∃ j, V.int i = V.int j ∧ P j := ⟨i, rfl, h⟩
theorem w_slL {p : Addr} {xs : List V} {lo hi : Option Int} (s : SqL K H p xs) (q : ∀ l, H l = none → Q (.ref l) (upd H l (.lst (cutV xs lo hi)))) : rSlL K (.ref p) lo hi H Q := ⟨p, xs, rfl, s, q⟩
theorem w_in {p : Addr} {xs : List V} (s : SqL K H p xs) (fx : flatV x = true) (fs : xs.all flatV = true) (q : Q (.bl (inV x xs)) H) : rIn K false x (.ref p) H Q := ⟨p, xs, rfl, .inl s, fx, fs, q⟩
end
section
variable {σ : St} {H : Hp} {Q : VK} {v x y : V} {K : PySem.W.Frag}
theorem w_disp {trs : List (TE × TE)} (h : ∀ p, H p = none → tPairs trs σ (upd H p (.dK [])) fun ps H2 => H2 p = some (.dK []) ∧ ∃ kvs : List (Key × V), ps = kvs.map (fun kv => (kV kv.1, kv.2)) ∧ kvs.length ≤ 15 ∧ Q (.ref p) (upd H2 p (.dK (mergeK [] kvs)))) : tDisp trs σ H Q := h
theorem w_pnil {QP : List (V × V) → Hp → Prop} (q : QP [] H) : tPairs [] σ H QP := q
theorem w_pcons {tk tv : TE} {r : List (TE × TE)} {QP : List (V × V) → Hp → Prop} (h : tk σ H fun x H1 => tv σ H1 fun y H2 => tPairs r σ H2 fun ps H3 => QP ((x, y) :: ps) H3) : tPairs ((tk, tv) :: r) σ H QP := h
theorem w_dget2 {td ty tx : TE} (h : td σ H fun x H1 => ∃ a, x = .ref a ∧ IsD H1 a ∧ ty σ H1 fun y H2 => tx σ H2 fun z H3 => ∃ o, DGet H3 a y o ∧ Q (o.getD z) H3) : tDGet2 td ty tx σ H Q := h
theorem w_isD {p : Addr} {kvs : List (Key × V)} {R : Addr → Prop} (e : H p = some (.dK kvs)) (h : R p) : ∃ a, V.ref p = .ref a ∧ IsD H a ∧ R a := ⟨p, rfl, .inl ⟨kvs, .inl e⟩, h⟩
theorem w_dgS {p : Addr} {kvs : List (Key × V)} {z : Str} {R : Option V → Prop} (e : H p = some (.dK kvs)) (h : R (valV kvs (Sum.inr z))) : ∃ o, DGet H p (.str z) o ∧ R o := ⟨_, DGet.k (k := Sum.inr z) e, h⟩
theorem w_ixS {z : Str} {i : Int} {c : Nat} (l : z.length ≤ sizeLine) (a : atI z.cps.toList i = some c) (q : Q (.str ⟨#[c]⟩) H) : rIxS (.str z) (.int i) H Q := ⟨z, i, c, rfl, rfl, l, a, q⟩
theorem w_intS {z : Str} {n : Int} (t : PySem.intText? z = some n) (l : z.length ≤ 640) (q : Q (.int n) H) : rIntS [.str z] H Q := ⟨z, n, rfl, t, l, q⟩
theorem w_lc {wi : TI} {g : TG} {tt : TT} {te : TE} {vs : List Nat} (h : wi σ H fun J H1 => ∀ D, H1 D = none → ∃ W : Nat → Nat → Hp → Prop, (∃ m, W 0 m (upd H1 D (.lst []))) ∧ ∀ i m H, W i m H →
  (J.stop i H ∧ Q (.ref D) H) ∨ (J.go i H ∧ ∃ Nx : Hp → Prop, (∀ H', Nx H' → ∃ m', m' < m ∧ W (i + 1) m' H') ∧ ∀ x H', J.yld i H x H' → g x (wipe σ vs) H' fun σ2 H2 => wipe σ2 vs = wipe σ vs ∧ tt σ2 H2 fun b H3 =>
    if b = true then te σ2 H3 fun y H4 => ∃ acc, H4 D = some (.lst acc) ∧ acc.length < sizeLine ∧ Nx (upd H4 D (.lst (acc ++ [y]))) else Nx H3)) : tLc wi g tt te vs σ H Q := h
theorem w_aStr {z : Str} {P : Str → Prop} (h : P z) : ∃ x, V.str z = .str x ∧ P x := ⟨z, rfl, h⟩
theorem w_itL {p : Addr} {xs : List V} {R : Addr → Prop} (s : SqL K H p xs) (h : R p) : ∃ a, V.ref p = .ref a ∧ (∃ xs, SqL K H a xs) ∧ R a := ⟨p, rfl, ⟨xs, s⟩, h⟩
theorem w_itT {p : Addr} {xs : List V} {R : Addr → Prop} (s : SqT K H p xs) (h : R p) : ∃ a, V.ref p = .ref a ∧ (∃ xs, SqT K H a xs) ∧ R a := ⟨p, rfl, ⟨xs, s⟩, h⟩
theorem w_rng {n : Int} {R : Int → Prop} (h0 : -(2 ^ 62) ≤ n) (h1 : n < 2 ^ 62) (h : R n) : ∃ j : Int, [V.int n] = [V.int j] ∧ -(2 ^ 62) ≤ j ∧ j < 2 ^ 62 ∧ R j := ⟨n, rfl, h0, h1, h⟩
theorem w_enum {p : Addr} {xs : List V} {R : Addr → Prop} (s : SqL K H p xs) (h : R p) : ∃ a ys, [V.ref p] = [V.ref a] ∧ SqL K H a ys ∧ R a := ⟨p, xs, rfl, s, h⟩
end
section
variable {a b : Int} {z t : Str} {p : Prop} [Decidable p]
theorem nbT (h : ¬ p) : (!decide p) = true := by rw [decide_eq_false h]; rfl
theorem nbF (h : p) : (!decide p) = false := by rw [decide_eq_true h]; rfl
theorem iT (h : a = b) : decide (V.int a = V.int b) = true := by rw [decI]; exact decide_eq_true h
theorem iF (h : ¬ a = b) : decide (V.int a = V.int b) = false := by rw [decI]; exact decide_eq_false h
theorem niT (h : ¬ a = b) : (!decide (V.int a = V.int b)) = true := by rw [iF h]; rfl
theorem niF (h : a = b) : (!decide (V.int a = V.int b)) = false := by rw [iT h]; rfl
theorem sT (h : z = t) : decide (V.str z = V.str t) = true := by rw [decS]; exact decide_eq_true h
theorem sF (h : ¬ z = t) : decide (V.str z = V.str t) = false := by rw [decS]; exact decide_eq_false h
theorem nsT (h : ¬ z = t) : (!decide (V.str z = V.str t)) = true := by rw [sF h]; rfl
theorem nsF (h : z = t) : (!decide (V.str z = V.str t)) = false := by rw [sT h]; rfl
end
theorem take_snoc {α β : Type} {l : List α} {i : Nat} {a : α} (h : l[i]? = some a) (f : α → β) : (l.take i).map f ++ [f a] = (l.take (i + 1)).map f := by
  rw [List.take_add_one, h]
  simp
theorem cutV_from (xs : List V) (k : Nat) : cutV xs (some (k : Int)) none = xs.drop k := by
  unfold cutV
  rw [HT.sIx_nat, HT.sIx_none]
  by_cases h : k ≤ xs.length
  · rw [Nat.min_eq_left h]
    exact List.take_of_length_le (by rw [List.length_drop]; omega)
  · rw [Nat.min_eq_right (by omega), List.drop_of_length_le (Nat.le_refl _), List.drop_of_length_le (by omega), List.take_nil]
section
variable {σ : St} {H : Hp} {Q : VK} {v x y : V} {K : PySem.W.Frag} {QG : St → Hp → Prop}
theorem w_gTup {n : Nat} {t : TGs} {p : Addr} {xs : List V} (s : SqT K H p xs) (l : xs.length = n) (h : t xs σ H QG) : gTup K n t (.ref p) σ H QG := ⟨p, xs, rfl, s, l, h⟩
theorem w_gCons {t : TG} {u : TGs} {r : List V} (h : t v σ H fun σ' H' => u r σ' H' QG) : gCons t u (v :: r) σ H QG := ⟨v, r, rfl, h⟩
theorem w_gNil (q : QG σ H) : gNil [] σ H QG := ⟨rfl, q⟩
theorem w_kget2 {d : Addr} {es : Array DictEntry} {td ty tx : TE} (h : td σ H fun x H1 => x = .ref d ∧ ty σ H1 fun y H2 => tx σ H2 fun z H3 => ∃ (k : Str) (o : Option V), y = .str k ∧ KAt es k o ∧ Q (o.getD z) H3) : tKGet2 d es td ty tx σ H Q := h
theorem w_same {P : Prop} (h : P) : v = v ∧ P := ⟨rfl, h⟩
theorem w_kat {es : Array DictEntry} {k : Str} {o : Option V} {P : Option V → Prop} (g : KAt es k o) (h : P o) : ∃ (k' : Str) (o : Option V), V.str k = .str k' ∧ KAt es k' o ∧ P o := ⟨k, o, rfl, g, h⟩
end
theorem for_enum {K : PySem.W.Frag} {a : Addr} {xs : List V} {g : TG} {tb : TS} {D : Ends} {σ : St} {H : Hp} (Pv : Nat → St → Hp → Prop) (h0 : Pv 0 σ H) (hl : ∀ i σ H, i ≤ xs.length → Pv i σ H → SqL K H a xs)
    (hs : ∀ i x T σ H, xs[i]? = some x → Pv i σ H → H T = none → g (.ref T) σ (upd H T (.tup [.int (i : Nat), x])) fun σ2 H2 => tb { D with nx := Pv (i + 1), ct := Pv (i + 1), bk := D.nx } σ2 H2) (hd : ∀ σ H, Pv xs.length σ H → D.nx σ H) :
    ∃ W : Nat → Nat → St → Hp → Prop, (∃ m, W 0 m σ H) ∧ ∀ i m σ H, W i m σ H →
      ((Ite K a).stop i H ∧ D.nx σ H) ∨ ((Ite K a).go i H ∧ ∃ N : St → Hp → Prop, (∀ σ' H', N σ' H' → ∃ m', m' < m ∧ W (i + 1) m' σ' H') ∧ ∀ x H', (Ite K a).yld i H x H' → g x σ H' fun σ2 H2 => tb { D with nx := N, ct := N, bk := D.nx } σ2 H2) := by
  refine ⟨fun i m σ H => m = xs.length - i ∧ i ≤ xs.length ∧ Pv i σ H, ⟨xs.length, by simp, Nat.zero_le _, h0⟩, ?_⟩
  rintro i m σ H ⟨rfl, hi, p⟩
  have q := hl i σ H hi p
  by_cases hlt : i < xs.length
  · refine .inr ⟨⟨xs, xs[i], q, by simp [hlt]⟩, Pv (i + 1), fun σ' H' p' => ⟨xs.length - (i + 1), by omega, rfl, hlt, p'⟩, fun v H' y => ?_⟩
    obtain ⟨T, x, rfl, nT, rfl, f⟩ := y
    exact hs i x T σ H (f xs q) p nT
  · have e : i = xs.length := by omega
    subst e
    exact .inl ⟨⟨xs, q, Nat.le_refl _⟩, hd σ H p⟩
theorem blkOk_free {N : List Str} {sc scope : Scope} {own : List (Str × Nat)} (h : blkC N scope scope own = true) (nf : (scope.names.all fun y => match y.2 with | .free => false | _ => true) = true) : BlkOk N sc scope own := by
  obtain ⟨a, b, c, d, e⟩ := blkOk_by h
  refine ⟨a, b, c, fun y hy hf => ?_, e⟩
  have z := List.all_eq_true.mp nf y hy
  rw [hf] at z
  cases z
section
variable {X : Cx} {elt tg iter : Expr} {ifs : List Expr} {scope : Scope} {own : List (Str × Nat)} {pos : Pos} {wi : TI}
  {g' : Shared → Hp → Addr → List (Str × Addr) → List Addr → TG} {tt' : Shared → Hp → Addr → List (Str × Addr) → List Addr → TT} {te' : Shared → Hp → Addr → List (Str × Addr) → List Addr → TE}
/-- a comprehension whose parts' readings may name the block's context -/
theorem pe_lcD (hc : X.calm = true) (hN : X.N.Nodup) (hi : PI X tg iter wi) (ok : BlkOk X.N X.env.scope scope own)
    (hg : ∀ (s : Shared) (H : Hp) (C : Addr) (cl : List (Str × Addr)) (fp : List Addr), PG (X.blk s H scope (compEnvC scope cl C X.env) fp) tg (g' s H C cl fp))
    (ht : ∀ (s : Shared) (H : Hp) (C : Addr) (cl : List (Str × Addr)) (fp : List Addr), PTs (X.blk s H scope (compEnvC scope cl C X.env) fp) ifs (tt' s H C cl fp))
    (he : ∀ (s : Shared) (H : Hp) (C : Addr) (cl : List (Str × Addr)) (fp : List Addr), PE (X.blk s H scope (compEnvC scope cl C X.env) fp) elt (te' s H C cl fp))
    (hs : ∀ x, foldedSetIterable iter X.env x = pure x := by intro _; rfl)
    (eg : ∀ s H C cl fp, g' s H C cl fp = g' X.s_0 X.H_0 0 [] [] := by intros; rfl) (et : ∀ s H C cl fp, tt' s H C cl fp = tt' X.s_0 X.H_0 0 [] [] := by intros; rfl) (ee : ∀ s H C cl fp, te' s H C cl fp = te' X.s_0 X.H_0 0 [] [] := by intros; rfl) :
    PE X (.ListComp elt [⟨tg, iter, ifs, 0⟩] scope pos) (tLc wi (g' X.s_0 X.H_0 0 [] []) (tt' X.s_0 X.H_0 0 [] []) (te' X.s_0 X.H_0 0 [] []) (own.map (·.2))) :=
  pe_lc hc hN hi ok (fun s H C cl fp => by rw [← eg s H C cl fp]; exact hg s H C cl fp) (fun s H C cl fp => by rw [← et s H C cl fp]; exact ht s H C cl fp) (fun s H C cl fp => by rw [← ee s H C cl fp]; exact he s H C cl fp) hs
theorem ps_setLcD {i : Nat} {y : Str} {py spos : Pos} (hc : X.calm = true) (hN : X.N.Nodup) (hy : X.N[i]? = some y) (hyl : X.env.scope.names.lookup y = some .local)
    (hsw : swapsWith (.ListComp elt [⟨tg, iter, ifs, 0⟩] scope pos) (some (.Name y py)) spos.line X.env = pure true) (hi : PI X tg iter wi) (ok : BlkOk X.N X.env.scope scope own)
    (hg : ∀ (s : Shared) (H : Hp) (C : Addr) (cl : List (Str × Addr)) (fp : List Addr), PG (X.blk s H scope (compEnvC scope cl C X.env) fp) tg (g' s H C cl fp))
    (ht : ∀ (s : Shared) (H : Hp) (C : Addr) (cl : List (Str × Addr)) (fp : List Addr), PTs (X.blk s H scope (compEnvC scope cl C X.env) fp) ifs (tt' s H C cl fp))
    (he : ∀ (s : Shared) (H : Hp) (C : Addr) (cl : List (Str × Addr)) (fp : List Addr), PE (X.blk s H scope (compEnvC scope cl C X.env) fp) elt (te' s H C cl fp))
    (hs : ∀ x, foldedSetIterable iter X.env x = pure x := by intro _; rfl)
    (eg : ∀ s H C cl fp, g' s H C cl fp = g' X.s_0 X.H_0 0 [] [] := by intros; rfl) (et : ∀ s H C cl fp, tt' s H C cl fp = tt' X.s_0 X.H_0 0 [] [] := by intros; rfl) (ee : ∀ s H C cl fp, te' s H C cl fp = te' X.s_0 X.H_0 0 [] [] := by intros; rfl) :
    PS X (.Assign [.Name y py] (.ListComp elt [⟨tg, iter, ifs, 0⟩] scope pos) spos) (tAsg (tLc wi (g' X.s_0 X.H_0 0 [] []) (tt' X.s_0 X.H_0 0 [] []) (te' X.s_0 X.H_0 0 [] []) (own.map (·.2))) (gName i)) :=
  ps_setLc hc hN hy hyl hsw hi ok (fun s H C cl fp => by rw [← eg s H C cl fp]; exact hg s H C cl fp) (fun s H C cl fp => by rw [← et s H C cl fp]; exact ht s H C cl fp) (fun s H C cl fp => by rw [← ee s H C cl fp]; exact he s H C cl fp) hs
end
/-! ### comprehensions over a text -/
theorem lc_str {x : Str} {g : TG} {tt : TT} {te : TE} {vs : List Nat} {σ : St} {H1 : Hp} {D : Addr} {Qd : Hp → Prop} (Pv : Nat → Hp → Prop) (h0 : Pv 0 (upd H1 D (.lst [])))
    (hs : ∀ i c H, x.cps[i]? = some c → Pv i H → g (.str ⟨#[c]⟩) (wipe σ vs) H fun σ2 H2 => wipe σ2 vs = wipe σ vs ∧ tt σ2 H2 fun b H3 =>
      if b = true then te σ2 H3 fun y H4 => ∃ acc, H4 D = some (.lst acc) ∧ acc.length < sizeLine ∧ Pv (i + 1) (upd H4 D (.lst (acc ++ [y]))) else Pv (i + 1) H3) (hd : ∀ H, Pv x.cps.size H → Qd H) :
    ∃ W : Nat → Nat → Hp → Prop, (∃ m, W 0 m (upd H1 D (.lst []))) ∧ ∀ i m H, W i m H →
      ((Its x).stop i H ∧ Qd H) ∨ ((Its x).go i H ∧ ∃ Nx : Hp → Prop, (∀ H', Nx H' → ∃ m', m' < m ∧ W (i + 1) m' H') ∧ ∀ z H', (Its x).yld i H z H' → g z (wipe σ vs) H' fun σ2 H2 => wipe σ2 vs = wipe σ vs ∧ tt σ2 H2 fun b H3 =>
        if b = true then te σ2 H3 fun y H4 => ∃ acc, H4 D = some (.lst acc) ∧ acc.length < sizeLine ∧ Nx (upd H4 D (.lst (acc ++ [y]))) else Nx H3) := by
  refine ⟨fun i m H => m = x.cps.size - i ∧ i ≤ x.cps.size ∧ Pv i H, ⟨x.cps.size, by simp, Nat.zero_le _, h0⟩, ?_⟩
  rintro i m H ⟨rfl, hi, p⟩
  by_cases hlt : i < x.cps.size
  · refine .inr ⟨hlt, Pv (i + 1), fun H' p' => ⟨x.cps.size - (i + 1), by omega, rfl, hlt, p'⟩, fun z H' y => ?_⟩
    obtain ⟨e, c, hc, rfl⟩ := y
    subst e
    exact hs i c _ hc p
  · have e : i = x.cps.size := by omega
    subst e
    exact .inl ⟨Nat.le_refl _, hd H p⟩
end VH

/-! Steps as texts: plain law. -/
namespace VH
open PySem L2 TL
/-- a step: its word, its numbers -/
abbrev Stp := Str × List Int
def shapes : List (Str × Nat) := [("make", 3), ("grow", 2), ("drop", 1), ("mirror", 2), ("leave", 1), ("stay", 1), ("read", 2), ("write", 3), ("step", 0), ("lose", 1), ("bring", 2), ("arm", 1), ("again", 0), ("room", 1), ("lacks", 0), ("lost", 0), ("volumes", 0), ("places", 1), ("copying", 0)]
def shapeOf (w : Str) : Option Nat := shapes.lookup w
def numT (n : Int) : Str := Str.ofString (toString n)
def wordsOf (s : Stp) : List Str := s.1 :: s.2.map numT
def rowOf (s : Stp) : Str := Txt.join " " (wordsOf s)
def textOf (ss : List Stp) : Str := Txt.join "\n" (ss.map rowOf)
/-- the number that a word writes -/
def isFig (c : Nat) : Bool := decide (48 ≤ c ∧ c ≤ 57)
def numberOf (w : Str) : Option Int :=
  if (1 ≤ (tl w).length ∧ (tl w).length ≤ 4) ∧ (tl w).all isFig = true then
    (if (tl w).head? ≠ some 48 ∨ tl w = [48] then some ((NumText.digitsVal (tl w) : Nat) : Int) else none)
  else none
def allSome : List (Option Int) → Option (List Int)
  | [] => some []
  | none :: _ => none
  | some x :: r => (allSome r).map (x :: ·)
def stepOf (row : Str) : Option Stp :=
  match Txt.split row " " with
  | [] => none
  | w :: r => if shapeOf w = some r.length then (allSome (r.map numberOf)).map (fun ns => (w, ns)) else none
/-- a step whose word there is, with as many numbers as it has, of one to four figures -/
def StpOk (s : Stp) : Prop := shapeOf s.1 = some s.2.length ∧ ∀ n ∈ s.2, 0 ≤ n ∧ n < 10000
theorem shapes_plain : ∀ p ∈ shapes, tl p.1 ≠ [] ∧ 32 ∉ tl p.1 ∧ 10 ∉ tl p.1 ∧ (tl p.1).length ≤ 7 := by decide +kernel
theorem lookup_mem {α : Type} : ∀ {l : List (Str × α)} {k : Str} {v : α}, l.lookup k = some v → (k, v) ∈ l
  | [], _, _, h => by cases h
  | (a, b) :: r, k, v, h => by
    rw [List.lookup_cons] at h
    by_cases e : (k == a) = true
    · rw [e] at h
      have e2 : k = a := by simpa using e
      injection h with h
      rw [e2, h]
      exact List.mem_cons_self
    · rw [show (k == a) = false by simpa using e] at h
      exact List.mem_cons_of_mem _ (lookup_mem h)
theorem shape_plain {w : Str} {n : Nat} (h : shapeOf w = some n) : tl w ≠ [] ∧ 32 ∉ tl w ∧ 10 ∉ tl w ∧ (tl w).length ≤ 7 := shapes_plain (w, n) (lookup_mem h)
theorem tl_numT {n : Int} (h : 0 ≤ n) : tl (numT n) = numL n.toNat := by
  obtain ⟨k, rfl⟩ := Int.eq_ofNat_of_zero_le h
  exact tl_num k
theorem numT_free {n : Int} (h : 0 ≤ n) {s : Nat} (hs : s < 48 ∨ 57 < s) : s ∉ tl (numT n) := by
  rw [tl_numT h]
  exact numL_free hs
theorem numT_len {n : Int} (h : 0 ≤ n) (h1 : n < 10000) : 1 ≤ (tl (numT n)).length ∧ (tl (numT n)).length ≤ 4 := by
  rw [tl_numT h]
  refine ⟨?_, numL_len (k := 4) (by decide) (by have : n.toNat < 10000 := by omega
                                                exact this)⟩
  cases e : numL n.toNat with
  | nil => exact absurd e (numL_ne _)
  | cons a r => rw [List.length_cons]; omega
theorem numT_fig {n : Int} (h : 0 ≤ n) : (tl (numT n)).all isFig = true := by
  rw [tl_numT h, List.all_eq_true]
  intro c hc
  exact decide_eq_true (numL_digits _ c hc)
theorem numL_head (n : Nat) : (numL n).head? ≠ some 48 ∨ numL n = [48] := by
  induction n using Nat.strongRecOn with
  | _ n ih =>
    by_cases h : n < 10
    · rw [numL_lt h]
      by_cases z : n = 0
      · right; rw [z]
      · left
        intro e
        have e2 : 48 + n = 48 := Option.some.inj e
        omega
    · rw [numL_step (by omega)]
      rcases ih (n / 10) (by omega) with i | i
      · left
        cases e : numL (n / 10) with
        | nil => exact absurd e (numL_ne _)
        | cons a r =>
          rw [e] at i
          exact i
      · exfalso
        have v := numL_val (n / 10)
        rw [i] at v
        have v2 : NumText.digitsVal [48] = 0 := by decide
        omega
theorem numberOf_numT {n : Int} (h : 0 ≤ n) (h1 : n < 10000) : numberOf (numT n) = some n := by
  unfold numberOf
  rw [if_pos ⟨numT_len h h1, numT_fig h⟩, tl_numT h, if_pos (numL_head _), numL_val]
  congr 1
  omega
theorem allSome_numT : ∀ {ns : List Int}, (∀ n ∈ ns, 0 ≤ n ∧ n < 10000) → allSome ((ns.map numT).map numberOf) = some ns
  | [], _ => rfl
  | n :: r, h => by
    have hn := h n List.mem_cons_self
    rw [List.map_cons, List.map_cons, numberOf_numT hn.1 hn.2]
    show (allSome ((r.map numT).map numberOf)).map (n :: ·) = _
    rw [allSome_numT fun m hm => h m (List.mem_cons_of_mem _ hm)]
    rfl
theorem words_free {s : Stp} (h : StpOk s) {c : Nat} (hc : c = 32 ∨ c = 10) : ∀ p ∈ wordsOf s, c ∉ tl p := by
  intro p hp
  rcases List.mem_cons.mp hp with rfl | hp
  · have z := shape_plain h.1
    rcases hc with rfl | rfl
    · exact z.2.1
    · exact z.2.2.1
  · obtain ⟨n, hn, rfl⟩ := List.mem_map.mp hp
    exact numT_free (h.2 n hn).1 (by omega)
theorem split_row {s : Stp} (h : StpOk s) : Txt.split (rowOf s) " " = wordsOf s :=
  split_join (s := 32) (S := []) (by decide +kernel) (by decide +kernel) (List.cons_ne_nil _ _) (words_free h (.inl rfl))
theorem step_row {s : Stp} (h : StpOk s) : stepOf (rowOf s) = some s := by
  unfold stepOf
  rw [split_row h]
  show (if shapeOf s.1 = some (s.2.map numT).length then (allSome ((s.2.map numT).map numberOf)).map (fun ns => (s.1, ns)) else none) = some s
  rw [if_pos (by rw [List.length_map]; exact h.1), allSome_numT h.2]
  rfl
theorem mem_joinL {S : List Nat} {c : Nat} : ∀ {ps : List (List Nat)}, c ∈ joinL S ps → c ∈ S ∨ ∃ p ∈ ps, c ∈ p
  | [], h => by cases h
  | [p], h => .inr ⟨p, List.mem_singleton.mpr rfl, h⟩
  | p :: q :: r, h => by
    have h : c ∈ p ++ (S ++ joinL S (q :: r)) := h
    rcases List.mem_append.mp h with h | h
    · exact .inr ⟨p, List.mem_cons_self, h⟩
    · rcases List.mem_append.mp h with h | h
      · exact .inl h
      · rcases mem_joinL h with h | ⟨x, hx, h⟩
        · exact .inl h
        · exact .inr ⟨x, List.mem_cons_of_mem _ hx, h⟩
theorem row_free {s : Stp} (h : StpOk s) : 10 ∉ tl (rowOf s) := by
  intro m
  unfold rowOf at m
  rw [join_eq, tl_join] at m
  rcases mem_joinL m with m | ⟨p, hp, m⟩
  · revert m
    decide +kernel
  · obtain ⟨x, hx, rfl⟩ := List.mem_map.mp hp
    exact words_free h (.inr rfl) x hx m
theorem split_text {ss : List Stp} (h : ∀ s ∈ ss, StpOk s) (hne : ss ≠ []) : Txt.split (textOf ss) "\n" = ss.map rowOf :=
  split_join (s := 10) (S := []) (by decide +kernel) (by decide +kernel) (fun e => hne (List.map_eq_nil_iff.mp e)) (fun p hp => by
    obtain ⟨x, hx, rfl⟩ := List.mem_map.mp hp
    exact row_free (h x hx))
theorem joinL_ne {S p : List Nat} {ps : List (List Nat)} (h : p ≠ []) : joinL S (p :: ps) ≠ [] := by
  cases ps with
  | nil => exact h
  | cons q r =>
    intro e
    have e : p ++ (S ++ joinL S (q :: r)) = [] := e
    exact h (List.append_eq_nil_iff.mp e).1
theorem row_ne {s : Stp} (h : StpOk s) : tl (rowOf s) ≠ [] := by
  unfold rowOf
  rw [join_eq, tl_join]
  exact joinL_ne (shape_plain h.1).1
theorem text_ne {ss : List Stp} (h : ∀ s ∈ ss, StpOk s) (hne : ss ≠ []) : textOf ss ≠ "" := by
  intro e
  cases ss with
  | nil => exact hne rfl
  | cons s r =>
    have z : tl (textOf (s :: r)) = [] := by rw [e]; decide +kernel
    unfold textOf at z
    rw [join_eq, tl_join] at z
    exact joinL_ne (row_ne (h s List.mem_cons_self)) z
/-- the law's own row: word by word -/
def rowFold (r : Str) (ns : List Int) : Str := ns.foldl (fun r n => r ++ (" " : Str) ++ numT n) r
theorem rowFold_tl : ∀ (ns : List Int) (r : Str), tl (rowFold r ns) = joinL [32] (tl r :: (ns.map numT).map tl)
  | [], r => rfl
  | n :: ns, r => by
    show tl (rowFold (r ++ (" " : Str) ++ numT n) ns) = _
    rw [rowFold_tl ns]
    cases ns with
    | nil =>
      show tl (r ++ (" " : Str) ++ numT n) = tl r ++ ([32] ++ tl (numT n))
      rw [tl_append, tl_append, List.append_assoc]
      rfl
    | cons m k =>
      show tl (r ++ (" " : Str) ++ numT n) ++ ([32] ++ joinL [32] (tl (numT m) :: (k.map numT).map tl)) = tl r ++ ([32] ++ (tl (numT n) ++ ([32] ++ joinL [32] (tl (numT m) :: (k.map numT).map tl))))
      rw [tl_append, tl_append]
      simp only [List.append_assoc]
      rfl
theorem rowFold_row (s : Stp) : rowFold s.1 s.2 = rowOf s := by
  apply ext_tl
  rw [rowFold_tl]
  unfold rowOf
  rw [join_eq, tl_join]
  rfl
/-- sizes -/
theorem joinL_len (S : List Nat) : ∀ ps : List (List Nat), (joinL S ps).length ≤ (ps.map List.length).sum + ps.length * S.length
  | [] => by show 0 ≤ _; omega
  | [p] => by
    show p.length ≤ (p.length + 0) + 1 * S.length
    omega
  | p :: q :: r => by
    have ih := joinL_len S (q :: r)
    show (p ++ (S ++ joinL S (q :: r))).length ≤ (p.length + ((q :: r).map List.length).sum) + ((q :: r).length + 1) * S.length
    rw [List.length_append, List.length_append, Nat.add_mul]
    omega
theorem sum_le {α : Type} {f : α → Nat} {k : Nat} : ∀ {l : List α}, (∀ x ∈ l, f x ≤ k) → (l.map f).sum ≤ l.length * k
  | [], _ => by simp
  | x :: r, h => by
    have a := h x List.mem_cons_self
    have b := sum_le (f := f) (l := r) fun y hy => h y (List.mem_cons_of_mem _ hy)
    rw [List.map_cons, List.sum_cons, List.length_cons, Nat.add_mul]
    omega
theorem words_len {s : Stp} (h : StpOk s) : ∀ p ∈ wordsOf s, p.length ≤ 7 := by
  intro p hp
  rcases List.mem_cons.mp hp with rfl | hp
  · rw [len_tl]
    exact (shape_plain h.1).2.2.2
  · obtain ⟨n, hn, rfl⟩ := List.mem_map.mp hp
    rw [len_tl]
    have := numT_len (h.2 n hn).1 (h.2 n hn).2
    omega
theorem shapes_few : ∀ p ∈ shapes, p.2 ≤ 3 := by decide +kernel
theorem few {s : Stp} (h : StpOk s) : s.2.length ≤ 3 := shapes_few (s.1, s.2.length) (lookup_mem h.1)
theorem row_len {s : Stp} (h : StpOk s) : (rowOf s).length ≤ 32 := by
  unfold rowOf
  rw [len_tl, join_eq, tl_join]
  refine Nat.le_trans (joinL_len _ _) ?_
  have a : (((wordsOf s).map tl).map List.length).sum ≤ ((wordsOf s).map tl).length * 7 := sum_le (fun x hx => by
    obtain ⟨y, hy, rfl⟩ := List.mem_map.mp hx
    rw [← len_tl]
    exact words_len h y hy)
  have b : ((wordsOf s).map tl).length ≤ 4 := by
    rw [List.length_map]
    show (s.2.map numT).length + 1 ≤ 4
    rw [List.length_map]
    have := few h
    omega
  have c : (tl (" " : Str)).length = 1 := by decide +kernel
  rw [c]
  omega
theorem text_len {ss : List Stp} (h : ∀ s ∈ ss, StpOk s) (hl : ss.length ≤ 1000) : (textOf ss).length ≤ 40000 := by
  unfold textOf
  rw [len_tl, join_eq, tl_join]
  refine Nat.le_trans (joinL_len _ _) ?_
  have a : (((ss.map rowOf).map tl).map List.length).sum ≤ ((ss.map rowOf).map tl).length * 32 := sum_le (fun x hx => by
    obtain ⟨y, hy, rfl⟩ := List.mem_map.mp hx
    obtain ⟨z, hz, rfl⟩ := List.mem_map.mp hy
    rw [← len_tl]
    exact row_len (h z hz))
  have b : ((ss.map rowOf).map tl).length = ss.length := by rw [List.length_map, List.length_map]
  have c : (tl ("\n" : Str)).length = 1 := by decide +kernel
  rw [c]
  omega
end VH


namespace VH
open PySem L2
local macro_rules | `(tactic| walk_at "dT") => `(tactic| first
  | ((with_reducible apply iT); (first | assumption | omega))
  | ((with_reducible apply niT); (first | assumption | omega))
  | ((with_reducible apply sT); (first | assumption | rfl))
  | ((with_reducible apply nsT); (first | assumption | decide))
  | ((with_reducible apply nbT); (first | assumption | omega))
  | ((with_reducible apply decide_eq_true); (first | assumption | omega)))
local macro_rules | `(tactic| walk_at "dF") => `(tactic| first
  | ((with_reducible apply iF); (first | assumption | omega))
  | ((with_reducible apply niF); (first | assumption | omega))
  | ((with_reducible apply sF); (first | assumption | decide))
  | ((with_reducible apply nsF); (first | assumption | rfl))
  | ((with_reducible apply nbF); (first | assumption | omega))
  | ((with_reducible apply decide_eq_false); (first | assumption | omega)))
local macro_rules | `(tactic| walk_at "ne") => `(tactic| first | assumption | (apply Ne.symm; assumption) | (apply ne_of_none <;> assumption) | (apply Ne.symm; apply ne_of_none <;> assumption) | (apply ne_new; assumption; walk_at "hg") | (apply Ne.symm; apply ne_new; assumption; walk_at "hg"))
local macro_rules | `(tactic| walk_at "ni") => `(tactic| first | exact ni_nil | (apply ni_cons; walk_at "ne"; walk_at "ni") | assumption)
local macro_rules | `(tactic| walk_at "hg") => `(tactic| first
  | assumption
  | exact upd_same
  | (apply upd_old; assumption; walk_at "hg")
  | (apply upd_oth; walk_at "ne"; walk_at "hg")
  | (apply kp_get; assumption; walk_at "hg"; walk_at "ni"))
local macro_rules | `(tactic| walk_at "mem") => `(tactic| first | exact List.mem_cons_self | (apply List.mem_cons_of_mem; walk_at "mem") | assumption)
local macro_rules | `(tactic| walk_at "no") => `(tactic| first | assumption | (apply none_of_kp2; assumption; walk_at "kp"))
local macro_rules | `(tactic| walk_at "kp") => `(tactic| first
  | assumption
  | exact Kp.refl
  | (apply kp_new'; assumption; walk_at "kp")
  | (apply kp_setn; assumption; walk_at "kp")
  | (apply kp_set'; walk_at "mem"; walk_at "kp")
  | (apply kp_app; assumption; walk_at "kp")
  | (apply kp_app2; assumption; walk_at "kp"))
local macro_rules | `(tactic| walk_at "sz") => `(tactic| first | assumption | exact sz rfl | (apply szb; omega) | (apply szbl; omega) | (apply szb; simp only [List.length_map, List.length_cons, List.length_nil, List.length_append, List.length_set]; omega) | (apply szbl; simp only [List.length_map, List.length_cons, List.length_nil, List.length_append, List.length_set]; omega))
local macro_rules | `(tactic| walk_at "sq") => `(tactic| first
  | assumption
  | (apply sq_l; walk_at "hg")
  | (apply sq_t; walk_at "hg")
  | (apply sqL_new; assumption; walk_at "sq")
  | (apply sqT_new; assumption; walk_at "sq"))
local macro_rules | `(tactic| walk_at "w1") => `(tactic| first
  | with_reducible refine w_seq ?_
  | ((with_reducible apply w_var); exact rfl)
  | with_reducible refine w_c ?_
  | with_reducible refine w_op ?_
  | with_reducible refine w_I0 ?_
  | ((with_reducible apply w_I); (first | assumption | exact Or.inr ⟨by decide, by decide⟩ | exact Or.inl ⟨by decide, by decide⟩ | exact (by show (0 : Int) < _; decide) | exact ⟨by decide, by decide⟩ | exact Or.inl ⟨by omega, by omega⟩ | exact Or.inr ⟨by omega, by omega⟩ | exact ⟨by omega, by omega⟩ | exact (by show (0 : Int) < _; omega)))
  | with_reducible refine w_cons ?_
  | with_reducible refine w_nil ?_
  | with_reducible refine w_asg ?_
  | with_reducible refine w_gName ?_
  | with_reducible refine w_gSub ?_
  | with_reducible refine w_test ?_
  | with_reducible refine w_B ?_
  | with_reducible refine w_ret ?_
  | with_reducible refine w_drop ?_
  | with_reducible refine w_ifS ?_
  | with_reducible refine w_if ?_
  | with_reducible refine w_un ?_
  | with_reducible refine w_U ?_
  | with_reducible refine w_call ?_
  | with_reducible refine w_cb ?_
  | with_reducible refine w_lst ?_
  | with_reducible refine w_tup ?_
  | with_reducible refine w_bm ?_
  | with_reducible refine w_bm0 ?_
  | with_reducible refine w_m1 ?_
  | with_reducible refine w_for ?_
  | with_reducible refine w_iList ?_
  | with_reducible refine w_iTup ?_
  | with_reducible refine w_iStr ?_
  | with_reducible refine w_iR1 ?_
  | with_reducible refine w_iEnum ?_
  | with_reducible refine w_and ?_
  | with_reducible refine w_or ?_
  | with_reducible refine w_not ?_
  | with_reducible refine w_yes ?_
  | with_reducible refine w_isN ?_
  | ((with_reducible apply w_eq); exact rfl)
  | ((with_reducible apply w_ne); exact rfl)
  | with_reducible refine w_chain ?_
  | with_reducible refine w_andV ?_
  | with_reducible refine w_orV ?_
  | with_reducible refine w_notV ?_
  | with_reducible refine w_bl ?_
  | with_reducible refine w_fld ?_
  | with_reducible refine w_sfld ?_
  | with_reducible refine w_next ?_
  | with_reducible refine w_isZ ?_
  | with_reducible refine w_notZ ?_
  | with_reducible refine w_inS ?_
  | with_reducible refine w_notInS ?_
  | ((with_reducible apply w_ifT); exact rfl)
  | ((with_reducible apply w_ifF); exact rfl)
  | ((with_reducible apply w_ifT); walk_at "dT")
  | ((with_reducible apply w_ifF); walk_at "dF")
  | with_reducible refine w_lc ?_
  | with_reducible refine w_aStr ?_
  | ((with_reducible apply w_itL); walk_at "sq")
  | ((with_reducible apply w_itT); walk_at "sq")
  | ((with_reducible apply w_rng); (first | omega | assumption); (first | omega | assumption))
  | ((with_reducible apply w_enum); walk_at "sq")
  | ((with_reducible apply w_lenS); walk_at "sz")
  | ((with_reducible apply w_split); (first | exact rfl | assumption); walk_at "sz")
  | with_reducible refine w_slice ?_
  | with_reducible refine w_part ?_
  | with_reducible refine w_noPart ?_
  | with_reducible refine w_anInt ?_
  | ((with_reducible apply w_slL); walk_at "sq")
  | ((with_reducible apply w_cat); walk_at "hg"; walk_at "hg"; walk_at "sz")
  | ((with_reducible apply w_newSz); walk_at "sz")
  | ((with_reducible apply w_append); walk_at "hg"; walk_at "sz")
  | ((with_reducible apply w_tyD); walk_at "hg")
  | ((with_reducible apply w_gTup); walk_at "sq"; exact rfl)
  | with_reducible refine w_gCons ?_
  | with_reducible refine w_gNil ?_
  | with_reducible refine w_kget2 ?_
  | with_reducible refine w_same ?_
  | ((with_reducible apply w_kat); assumption)
  | ((with_reducible apply w_in); walk_at "sq"; (first | exact rfl | assumption); (first | assumption | exact rfl))
  | ((with_reducible apply w_strI); assumption)
  | with_reducible refine w_disp ?_
  | with_reducible refine w_pcons ?_
  | with_reducible refine w_pnil ?_
  | with_reducible refine w_dget2 ?_
  | ((with_reducible apply w_isD); walk_at "hg")
  | ((with_reducible apply w_dgS); walk_at "hg")
  | ((with_reducible apply w_dupd); walk_at "ne"; walk_at "hg"; walk_at "hg"; (first | decide | walk_at "sz"))
  | ((with_reducible apply w_catS); walk_at "sz")
  | ((with_reducible apply w_slT); walk_at "sq"; assumption)
  | ((with_reducible apply w_ixS); walk_at "sz"; (first | assumption | exact rfl))
  | ((with_reducible apply w_intS); assumption; (first | assumption | omega))
  | ((with_reducible apply w_isi); (first | exact tx_N | exact tx_B | exact tx_I | exact tx_S | (apply tx_L; walk_at "sq") | (apply tx_T; walk_at "sq")); (first | (refine (?_ : _ = some true); decide +kernel) | (refine (?_ : _ = some false); decide +kernel)))
  | ((with_reducible apply w_lenL); walk_at "sq")
  | ((with_reducible apply w_lenT); walk_at "sq")
  | ((with_reducible apply w_listL); walk_at "sq")
  | ((with_reducible apply w_listT); walk_at "sq")
  | ((with_reducible apply w_tupL); walk_at "sq")
  | with_reducible refine w_intI ?_
  | with_reducible refine w_intB ?_
  | with_reducible refine w_strS ?_
  | ((with_reducible apply w_ixXL); walk_at "sq"; (first | exact rfl | exact atI_0 | assumption))
  | ((with_reducible apply w_ixXT); walk_at "sq"; (first | exact rfl | exact atI_0 | assumption))
  | ((with_reducible apply w_tyL); walk_at "sq")
  | with_reducible refine w_tyS ?_
  | ((with_reducible apply w_popAt0); walk_at "hg")
  | ((with_reducible apply w_ixL); walk_at "sq"; (first | exact rfl | exact atI_0 | assumption))
  | ((with_reducible apply w_ixT); walk_at "sq"; (first | exact rfl | exact atI_0 | assumption))
  | ((with_reducible apply w_setL); walk_at "hg"; (first | exact rfl | exact ixN_0)))
local macro_rules | `(tactic| walk_at "w") => `(tactic| repeat walk_at "w1")
def top (i : Nat) : Stmt := PySem.Challenge.pw_volumehall_k14_steps_written.main.body.getD i (.Pass ⟨0, 0, 0, 0⟩)
abbrev sBegun : Stmt := top 12
abbrev sTake : Stmt := top 13
abbrev sAlike : Stmt := top 14
abbrev sAny : Stmt := top 15
abbrev sLaw : Stmt := top 16
abbrev sWritten : Stmt := top 7
abbrev sNumber : Stmt := top 8
abbrev sStep : Stmt := top 9
abbrev sRead : Stmt := top 10
/-- what the written part holds of the built-in names -/
structure Txt (K : PySem.W.Frag) (mg : Str → Option Value) : Prop where
  list : mg "list" = none
  int : mg "int" = none
  len : mg "len" = none
  isinstance : mg "isinstance" = none
  bool : mg "bool" = none
  str : mg "str" = none
  tuple : mg "tuple" = none
  range : mg "range" = none
  enumerate : mg "enumerate" = none
section
variable {P : Program} {w : World} {K : PySem.W.Frag} {mg : Str → Option Value} {base : Heap}
/-! ### the draws: a box [numbers, stirred] -/
structure Box (H : Hp) (b l : Addr) (ns : List Int) (s : Int) : Prop where
  b : H b = some (.lst [.ref l, .int s])
  l : H l = some (.lst (ns.map V.int))
  s0 : 0 ≤ s
  s1 : s < 2147483647
def spBegun (K : PySem.W.Frag) : Sp := fun vs H Q _ => ∃ (a : Addr) (ns : List Int), vs = [.ref a] ∧ SqL K H a (ns.map V.int) ∧ ns.length ≤ 63 ∧
  ∀ H' b l s, Kp [] H H' → H b = none → H l = none → b ≠ l → Box H' b l ns s → Q (.ref b) H'
theorem scBegun : FnScope ["_law_script", "_law_stirred", "_law_cell"] ["_law_script"] (defScope sBegun) := ⟨rfl, rfl, rfl, by decide +kernel, rfl, by decide +kernel, by decide +kernel⟩
theorem ok_begun {f : Addr} {fd : FuncData} (F : Fun K "_law_begun" "_law_begun" sBegun f fd) (T : Txt K mg) : FnOk P w K mg base CX0 1 f fd ["_law_script"] (spBegun K) := by
  refine F.ok scBegun (fun vs H Q E h => ?_) (fun cdv A outer s H vs Q E hr h => ?_)
  · obtain ⟨a, ns, rfl, _⟩ := h
    rfl
  · obtain ⟨a, ns, rfl, hS, hl, q⟩ := h
    have hu := hu_of hr
    refine ⟨_, (pss_cons (ps_set (i := 1) scBegun.nd rfl (by first | exact Or.inl rfl | exact Or.inr rfl) pe_int)
    (pss_cons (ps_for PassesOwn.never rfl (pi_list (pv 0)) (pg_name (i := 2) scBegun.nd rfl (by first | exact Or.inl rfl | exact Or.inr rfl))
      (pss_one (ps_set (i := 1) scBegun.nd rfl (by first | exact Or.inl rfl | exact Or.inr rfl) (pe_op op_mod (pe_op op_add (pe_op op_add (pe_op op_mul (pv 1) pe_int) (pe_op op_mul (pv 2) pe_int)) pe_int) pe_int))))
    (pss_one (ps_ret (pe_lst (pa_cons (pe_callTy cr_listOf (by rfl) T.list (by decide +kernel) (pa_cons (pv 0) pa_nil)) (pa_cons (pe_op op_mul (pv 1) (pe_callTy cr_int1 (by rfl) T.int (by decide +kernel) (pa_cons (pe_cmpR op_gt (pe_callB cr_lenL (by rfl) T.len (by decide +kernel) (pa_cons (pv 0) pa_nil)) pe_int (nomark _)) pa_nil))) pa_nil))))))), ?_⟩
    walk_at "w"
    refine for_list (xs := ns.map V.int) (fun i σ H' => ∃ (s : Int) (y : Option V), σ = [some (.ref a), some (.int s), y] ∧ H' = H ∧ 0 ≤ s ∧ s < 2147483647) ⟨0, none, rfl, rfl, by decide, by decide⟩ (fun i σ H' _ h => ?_) (fun i x σ H' hx h => ?_) (fun σ H' h => ?_)
    · obtain ⟨s, y, rfl, rfl, _⟩ := h
      exact hS
    · obtain ⟨s, y, rfl, rfl, h0, h1⟩ := h
      obtain ⟨n, hn, rfl⟩ : ∃ n, n ∈ ns ∧ V.int n = x := List.mem_map.mp (List.mem_of_getElem? hx)
      walk_at "w"
      exact ⟨_, _, rfl, rfl, Int.emod_nonneg _ (by decide), Int.emod_lt_of_pos _ (by decide)⟩
    · obtain ⟨s, y, rfl, rfl, h0, h1⟩ := h
      walk_at "w"
      refine fun l nl => ?_
      walk_at "w"
      have fin : ∀ k : Int, k = 0 ∨ k = 1 → ∀ b, (upd H' l (.lst (ns.map V.int))) b = none → Q (.ref b) (upd (upd H' l (.lst (ns.map V.int))) b (.lst [.ref l, .int (s * k)])) := by
        intro k hk b nb
        have ne : l ≠ b := ne_of_none upd_same nb
        have nb0 : H' b = none := by
          rw [upd_ne (Ne.symm ne)] at nb
          exact nb
        refine q _ b l (s * k) (kp_new (kp_new Kp.refl nl) nb) nb0 nl (Ne.symm ne) ⟨upd_same, upd_old nb upd_same, ?_, ?_⟩
        · rcases hk with rfl | rfl <;> omega
        · rcases hk with rfl | rfl <;> omega
      refine fin _ ?_
      split
      · exact .inr rfl
      · exact .inl rfl
theorem dp_ints {H : Hp} : ∀ (ns : List Int), DpAll K H (ns.map V.int) (ns.map PyData.int)
  | [] => .nil
  | n :: r => .cons (.int n) (dp_ints r)
theorem shaped_ints (ns : List Int) : SeqAt.shaped (.list (ns.map PyData.int)) = true := by
  have h1 : PyData.canLayAll0 (ns.map PyData.int) = true ∧ PyData.depthAll (ns.map PyData.int) ≤ 1 := by
    induction ns with
    | nil => exact ⟨rfl, by decide⟩
    | cons n r ih =>
      refine ⟨?_, ?_⟩
      · show (PyData.canLay0 (.int n) && PyData.canLayAll0 (r.map PyData.int)) = true
        rw [ih.1]
        rfl
      · show max (PyData.depth (.int n)) (PyData.depthAll (r.map PyData.int)) ≤ 1
        exact Nat.max_le.mpr ⟨by show 0 ≤ 1; decide, ih.2⟩
  show (PyData.canLayAll0 (ns.map PyData.int) && decide (PyData.depthAll (ns.map PyData.int) + 1 ≤ 64)) = true
  rw [h1.1, decide_eq_true (by have := h1.2; omega)]
  rfl
def spTake : Sp := fun vs H Q _ => ∃ (b l : Addr) (ns : List Int) (s m : Int), vs = [.ref b, .int m] ∧ Box H b l ns s ∧ b ≠ l ∧ 0 < m ∧ m < 18446744073709551616 ∧
  ∀ H' ns' s' r, Kp [b, l] H H' → Box H' b l ns' s' → 0 ≤ r → r < m → Q (.int r) H'
theorem scTake : FnScope ["_law_box", "_law_many", "_law_number"] ["_law_box", "_law_many"] (defScope sTake) := ⟨rfl, rfl, rfl, by decide +kernel, rfl, by decide +kernel, by decide +kernel⟩
theorem ok_take {f : Addr} {fd : FuncData} (F : Fun K "_law_take" "_law_take" sTake f fd) : FnOk P w K mg base CX0 1 f fd ["_law_box", "_law_many"] spTake := by
  refine F.ok scTake (fun vs H Q E h => ?_) (fun cdv A outer s H vs Q E hr h => ?_)
  · obtain ⟨b, l, ns, s, m, rfl, _⟩ := h
    rfl
  · obtain ⟨b, l, ns, s, m, rfl, B, nbl, m0, m1, q⟩ := h
    have hu := hu_of hr
    have hW : ∀ i : Int, CDivW i m := fun i => wide_div (b := 64) m0 (by omega) (by decide) (by decide)
    have eb := B.b
    have el := B.l
    refine ⟨_, (pss_cons (ps_if (pt_cmpR (op_eqD hr.units) (pe_ix ix_list (pv 0) pe_int (fun _ _ => rfl)) (pe_lst pa_nil) (nomark _)) (pss_cons (ps_asg (pe_op op_mod (pe_op op_mul (pe_ix ix_list (pv 0) pe_int (fun _ _ => rfl)) pe_int) pe_int) (pg_sub (pv 0) pe_int set_list))
      (pss_one (ps_ret (pe_op op_mod (pe_op op_fdivW (pe_ix ix_list (pv 0) pe_int (fun _ _ => rfl)) pe_int) (pv 1))))) pss_nil)
    (pss_cons (ps_set (i := 2) scTake.nd rfl (by first | exact Or.inl rfl | exact Or.inr rfl) (pe_ix ix_list (pe_ix ix_list (pv 0) pe_int (fun _ _ => rfl)) pe_int (fun _ _ => rfl)))
    (pss_cons (ps_asg (pe_op op_fdivW (pv 2) (pv 1)) (pg_sub (pe_ix ix_list (pv 0) pe_int (fun _ _ => rfl)) pe_int set_list))
    (pss_cons (ps_if (PW.pt (pw_or (pt_cmpR op_eq (pe_ix ix_list (pe_ix ix_list (pv 0) pe_int (fun _ _ => rfl)) pe_int (fun _ _ => rfl)) pe_int (nomark _)) (pw_or1 (pt_cmpR op_eq (pe_ix ix_list (pe_ix ix_list (pv 0) pe_int (fun _ _ => rfl)) pe_int (fun _ _ => rfl)) (pe_un un_neg pe_int) (nomark _))))) (pss_one (ps_expr (pe_bm PySem.F.plainAttrs_list PySem.F.slot_list_pop PySem.F.type_list_pop mt_popAt (pe_ix ix_list (pv 0) pe_int (fun _ _ => rfl)) (pa_cons pe_int pa_nil)))) pss_nil)
    (pss_one (ps_ret (pe_op op_mod (pv 2) (pv 1)))))))), ?_⟩
    simp only [cxK, cxK']
    walk_at "w"
    refine fun p np => ?_
    refine ⟨.list (ns.map PyData.int), .list [], .lst (sqL_new np (sq_l el)) (dp_ints ns), .lst (sq_l upd_same) .nil, shaped_ints ns, rfl, ?_⟩
    cases ns with
    | nil =>
      refine ⟨true, rfl, iteT ?_⟩
      walk_at "w"
      exact q _ [] _ _ (kp_set (kp_new Kp.refl np) List.mem_cons_self) ⟨upd_same, upd_oth (Ne.symm nbl) (upd_old np el), Int.emod_nonneg _ (by decide), Int.emod_lt_of_pos _ (by decide)⟩ (Int.emod_nonneg _ (by omega)) (Int.emod_lt_of_pos _ m0)
    | cons n r =>
      have el : H l = some (.lst (.int n :: r.map V.int)) := el
      have nlb : l ≠ b := Ne.symm nbl
      have hWn := hW n
      refine ⟨false, rfl, iteF ?_⟩
      have fin : ∀ H' ns' s', Kp [b, l] H H' → Box H' b l ns' s' → Q (.int (n % m)) H' := fun H' ns' s' k B' => q H' ns' s' _ k B' (Int.emod_nonneg _ (by omega)) (Int.emod_lt_of_pos _ m0)
      walk_at "w"
      rw [decI]
      refine ite2 (fun e => ?_) (fun e => ?_)
      · refine iteT ?_
        walk_at "w"
        exact fin _ r s (kp_set (kp_set (kp_new Kp.refl np) (List.mem_cons_of_mem _ List.mem_cons_self)) (List.mem_cons_of_mem _ List.mem_cons_self)) ⟨by walk_at "hg", upd_same, B.s0, B.s1⟩
      · walk_at "w"
        rw [decI]
        refine ite2 (fun e => ?_) (fun e => ?_)
        · walk_at "w"
          exact fin _ r s (kp_set (kp_set (kp_new Kp.refl np) (List.mem_cons_of_mem _ List.mem_cons_self)) (List.mem_cons_of_mem _ List.mem_cons_self)) ⟨by walk_at "hg", upd_same, B.s0, B.s1⟩
        · walk_at "w"
          exact fin _ (n / m :: r) s (kp_set (kp_new Kp.refl np) (List.mem_cons_of_mem _ List.mem_cons_self)) ⟨by walk_at "hg", upd_same, B.s0, B.s1⟩
end
end VH

namespace VH
open PySem L2
local macro_rules | `(tactic| walk_at "dT") => `(tactic| first
  | ((with_reducible apply iT); (first | assumption | omega))
  | ((with_reducible apply niT); (first | assumption | omega))
  | ((with_reducible apply sT); (first | assumption | rfl))
  | ((with_reducible apply nsT); (first | assumption | decide))
  | ((with_reducible apply nbT); (first | assumption | omega))
  | ((with_reducible apply decide_eq_true); (first | assumption | omega)))
local macro_rules | `(tactic| walk_at "dF") => `(tactic| first
  | ((with_reducible apply iF); (first | assumption | omega))
  | ((with_reducible apply niF); (first | assumption | omega))
  | ((with_reducible apply sF); (first | assumption | decide))
  | ((with_reducible apply nsF); (first | assumption | rfl))
  | ((with_reducible apply nbF); (first | assumption | omega))
  | ((with_reducible apply decide_eq_false); (first | assumption | omega)))
local macro_rules | `(tactic| walk_at "ne") => `(tactic| first | assumption | (apply Ne.symm; assumption) | (apply ne_of_none <;> assumption) | (apply Ne.symm; apply ne_of_none <;> assumption) | (apply ne_new; assumption; walk_at "hg") | (apply Ne.symm; apply ne_new; assumption; walk_at "hg"))
local macro_rules | `(tactic| walk_at "ni") => `(tactic| first | exact ni_nil | (apply ni_cons; walk_at "ne"; walk_at "ni") | assumption)
local macro_rules | `(tactic| walk_at "hg") => `(tactic| first
  | assumption
  | exact upd_same
  | (apply upd_old; assumption; walk_at "hg")
  | (apply upd_oth; walk_at "ne"; walk_at "hg")
  | (apply kp_get; assumption; walk_at "hg"; walk_at "ni"))
local macro_rules | `(tactic| walk_at "mem") => `(tactic| first | exact List.mem_cons_self | (apply List.mem_cons_of_mem; walk_at "mem") | assumption)
local macro_rules | `(tactic| walk_at "no") => `(tactic| first | assumption | (apply none_of_kp2; assumption; walk_at "kp"))
local macro_rules | `(tactic| walk_at "kp") => `(tactic| first
  | assumption
  | exact Kp.refl
  | (apply kp_new'; assumption; walk_at "kp")
  | (apply kp_setn; assumption; walk_at "kp")
  | (apply kp_set'; walk_at "mem"; walk_at "kp")
  | (apply kp_app; assumption; walk_at "kp")
  | (apply kp_app2; assumption; walk_at "kp"))
local macro_rules | `(tactic| walk_at "sz") => `(tactic| first | assumption | exact sz rfl | (apply szb; omega) | (apply szbl; omega) | (apply szb; simp only [List.length_map, List.length_cons, List.length_nil, List.length_append, List.length_set]; omega) | (apply szbl; simp only [List.length_map, List.length_cons, List.length_nil, List.length_append, List.length_set]; omega))
local macro_rules | `(tactic| walk_at "sq") => `(tactic| first
  | assumption
  | (apply sq_l; walk_at "hg")
  | (apply sq_t; walk_at "hg")
  | (apply sqL_new; assumption; walk_at "sq")
  | (apply sqT_new; assumption; walk_at "sq"))
local macro_rules | `(tactic| walk_at "w1") => `(tactic| first
  | with_reducible refine w_seq ?_
  | ((with_reducible apply w_var); exact rfl)
  | with_reducible refine w_c ?_
  | with_reducible refine w_op ?_
  | with_reducible refine w_I0 ?_
  | ((with_reducible apply w_I); (first | assumption | exact Or.inr ⟨by decide, by decide⟩ | exact Or.inl ⟨by decide, by decide⟩ | exact (by show (0 : Int) < _; decide) | exact ⟨by decide, by decide⟩ | exact Or.inl ⟨by omega, by omega⟩ | exact Or.inr ⟨by omega, by omega⟩ | exact ⟨by omega, by omega⟩ | exact (by show (0 : Int) < _; omega)))
  | with_reducible refine w_cons ?_
  | with_reducible refine w_nil ?_
  | with_reducible refine w_asg ?_
  | with_reducible refine w_gName ?_
  | with_reducible refine w_gSub ?_
  | with_reducible refine w_test ?_
  | with_reducible refine w_B ?_
  | with_reducible refine w_ret ?_
  | with_reducible refine w_drop ?_
  | with_reducible refine w_ifS ?_
  | with_reducible refine w_if ?_
  | with_reducible refine w_un ?_
  | with_reducible refine w_U ?_
  | with_reducible refine w_call ?_
  | with_reducible refine w_cb ?_
  | with_reducible refine w_lst ?_
  | with_reducible refine w_tup ?_
  | with_reducible refine w_bm ?_
  | with_reducible refine w_bm0 ?_
  | with_reducible refine w_m1 ?_
  | with_reducible refine w_for ?_
  | with_reducible refine w_iList ?_
  | with_reducible refine w_iTup ?_
  | with_reducible refine w_iStr ?_
  | with_reducible refine w_iR1 ?_
  | with_reducible refine w_iEnum ?_
  | with_reducible refine w_and ?_
  | with_reducible refine w_or ?_
  | with_reducible refine w_not ?_
  | with_reducible refine w_yes ?_
  | with_reducible refine w_isN ?_
  | ((with_reducible apply w_eq); exact rfl)
  | ((with_reducible apply w_ne); exact rfl)
  | with_reducible refine w_chain ?_
  | with_reducible refine w_andV ?_
  | with_reducible refine w_orV ?_
  | with_reducible refine w_notV ?_
  | with_reducible refine w_bl ?_
  | with_reducible refine w_fld ?_
  | with_reducible refine w_sfld ?_
  | with_reducible refine w_next ?_
  | with_reducible refine w_isZ ?_
  | with_reducible refine w_notZ ?_
  | with_reducible refine w_inS ?_
  | with_reducible refine w_notInS ?_
  | ((with_reducible apply w_ifT); exact rfl)
  | ((with_reducible apply w_ifF); exact rfl)
  | ((with_reducible apply w_ifT); walk_at "dT")
  | ((with_reducible apply w_ifF); walk_at "dF")
  | with_reducible refine w_lc ?_
  | with_reducible refine w_aStr ?_
  | ((with_reducible apply w_itL); walk_at "sq")
  | ((with_reducible apply w_itT); walk_at "sq")
  | ((with_reducible apply w_rng); (first | omega | assumption); (first | omega | assumption))
  | ((with_reducible apply w_enum); walk_at "sq")
  | ((with_reducible apply w_lenS); walk_at "sz")
  | ((with_reducible apply w_split); (first | exact rfl | assumption); walk_at "sz")
  | with_reducible refine w_slice ?_
  | with_reducible refine w_part ?_
  | with_reducible refine w_noPart ?_
  | with_reducible refine w_anInt ?_
  | ((with_reducible apply w_slL); walk_at "sq")
  | ((with_reducible apply w_cat); walk_at "hg"; walk_at "hg"; walk_at "sz")
  | ((with_reducible apply w_newSz); walk_at "sz")
  | ((with_reducible apply w_append); walk_at "hg"; walk_at "sz")
  | ((with_reducible apply w_tyD); walk_at "hg")
  | ((with_reducible apply w_gTup); walk_at "sq"; exact rfl)
  | with_reducible refine w_gCons ?_
  | with_reducible refine w_gNil ?_
  | with_reducible refine w_kget2 ?_
  | with_reducible refine w_same ?_
  | ((with_reducible apply w_kat); assumption)
  | ((with_reducible apply w_in); walk_at "sq"; (first | exact rfl | assumption); (first | assumption | exact rfl))
  | ((with_reducible apply w_strI); assumption)
  | with_reducible refine w_disp ?_
  | with_reducible refine w_pcons ?_
  | with_reducible refine w_pnil ?_
  | with_reducible refine w_dget2 ?_
  | ((with_reducible apply w_isD); walk_at "hg")
  | ((with_reducible apply w_dgS); walk_at "hg")
  | ((with_reducible apply w_dupd); walk_at "ne"; walk_at "hg"; walk_at "hg"; (first | decide | walk_at "sz"))
  | ((with_reducible apply w_catS); walk_at "sz")
  | ((with_reducible apply w_slT); walk_at "sq"; assumption)
  | ((with_reducible apply w_ixS); walk_at "sz"; (first | assumption | exact rfl))
  | ((with_reducible apply w_intS); assumption; (first | assumption | omega))
  | ((with_reducible apply w_isi); (first | exact tx_N | exact tx_B | exact tx_I | exact tx_S | (apply tx_L; walk_at "sq") | (apply tx_T; walk_at "sq")); (first | (refine (?_ : _ = some true); decide +kernel) | (refine (?_ : _ = some false); decide +kernel)))
  | ((with_reducible apply w_lenL); walk_at "sq")
  | ((with_reducible apply w_lenT); walk_at "sq")
  | ((with_reducible apply w_listL); walk_at "sq")
  | ((with_reducible apply w_listT); walk_at "sq")
  | ((with_reducible apply w_tupL); walk_at "sq")
  | with_reducible refine w_intI ?_
  | with_reducible refine w_intB ?_
  | with_reducible refine w_strS ?_
  | ((with_reducible apply w_ixXL); walk_at "sq"; (first | exact rfl | exact atI_0 | assumption))
  | ((with_reducible apply w_ixXT); walk_at "sq"; (first | exact rfl | exact atI_0 | assumption))
  | ((with_reducible apply w_tyL); walk_at "sq")
  | with_reducible refine w_tyS ?_
  | ((with_reducible apply w_popAt0); walk_at "hg")
  | ((with_reducible apply w_ixL); walk_at "sq"; (first | exact rfl | exact atI_0 | assumption))
  | ((with_reducible apply w_ixT); walk_at "sq"; (first | exact rfl | exact atI_0 | assumption))
  | ((with_reducible apply w_setL); walk_at "hg"; (first | exact rfl | exact ixN_0)))
local macro_rules | `(tactic| walk_at "w") => `(tactic| repeat walk_at "w1")

section
variable {P : Program} {w : World} {K : PySem.W.Frag} {mg : Str → Option Value} {base : Heap}
/-! ### data that are alike -/
/-- data of so many levels at most, none of them long -/
def okD : Nat → PyData → Bool
  | _, .none => true
  | _, .bool _ => true
  | _, .int _ => true
  | _, .str _ => true
  | _, .dict _ => false
  | 0, _ => false
  | n + 1, .list ds => decide (ds.length ≤ 100000) && ds.all (okD n)
  | n + 1, .tuple ds => decide (ds.length ≤ 100000) && ds.all (okD n)
def spAlike (K : PySem.W.Frag) : Nat → Sp
  | 0 => fun _ _ _ _ => False
  | n + 1 => fun vs H Q _ => ∃ (x y : V) (d : PyData), vs = [x, y] ∧ Dp K H x d ∧ Dp K H y d ∧ okD n d = true ∧ Q (.bl true) H
theorem scAlike : FnScope ["_law_found", "_law_due", "_law_k"] ["_law_found", "_law_due"] (defScope sAlike) := ⟨rfl, rfl, rfl, by decide +kernel, rfl, by decide +kernel, by decide +kernel⟩
theorem ok_alike {f : Addr} {fd : FuncData} (F : Fun K "_law_alike" "_law_alike" sAlike f fd) (T : Txt K mg) (gf : mg "_law_alike" = some (.ref f)) (bA : Binds K fd ["_law_found", "_law_due"] []) : ∀ n, FnOk P w K mg base CX0 n f fd ["_law_found", "_law_due"] (spAlike K n) := by
  intro n
  induction n with
  | zero => exact ⟨fun _ _ _ _ h => h.elim, fun _ _ _ _ _ _ _ _ _ _ _ _ _ h => h.elim⟩
  | succ n ih =>
    refine F.ok scAlike (fun vs H Q E h => ?_) (fun cdv A outer s H vs Q E hr h => ?_)
    · obtain ⟨x, y, d, rfl, _⟩ := h
      rfl
    · obtain ⟨x, y, d, rfl, hx, hy, ok, q⟩ := h
      have hu := hu_of hr
      refine ⟨_, (pss_cons (ps_if (pt_cmpR op_isN1 (pv 1) pe_non (nomark _)) (pss_one (ps_ret (pe_cmpR op_isN1 (pv 0) pe_non (nomark _)))) pss_nil)
    (pss_cons (ps_if (pt_val (pe_callB call_isi (by rfl) T.isinstance (by decide +kernel) (pa_cons (pv 1) (pa_cons (pe_bltn (v := .ty "bool") (by rfl) T.bool (by decide +kernel) rfl) pa_nil)))) (pss_one (ps_ret (pe_and (pe_callB call_isi (by rfl) T.isinstance (by decide +kernel) (pa_cons (pv 0) (pa_cons (pe_bltn (v := .ty "bool") (by rfl) T.bool (by decide +kernel) rfl) pa_nil))) (pe_one (pe_cmpR op_eq (pv 0) (pv 1) (nomark _)))))) pss_nil)
    (pss_cons (ps_if (pt_val (pe_callB call_isi (by rfl) T.isinstance (by decide +kernel) (pa_cons (pv 1) (pa_cons (pe_bltn (v := .ty "int") (by rfl) T.int (by decide +kernel) rfl) pa_nil)))) (pss_one (ps_ret (pe_and (pe_callB call_isi (by rfl) T.isinstance (by decide +kernel) (pa_cons (pv 0) (pa_cons (pe_bltn (v := .ty "int") (by rfl) T.int (by decide +kernel) rfl) pa_nil))) (pe_and (pe_not (pe_callB call_isi (by rfl) T.isinstance (by decide +kernel) (pa_cons (pv 0) (pa_cons (pe_bltn (v := .ty "bool") (by rfl) T.bool (by decide +kernel) rfl) pa_nil)))) (pe_one (pe_cmpR op_eq (pv 0) (pv 1) (nomark _))))))) pss_nil)
    (pss_cons (ps_if (pt_val (pe_callB call_isi (by rfl) T.isinstance (by decide +kernel) (pa_cons (pv 1) (pa_cons (pe_bltn (v := .ty "str") (by rfl) T.str (by decide +kernel) rfl) pa_nil)))) (pss_one (ps_ret (pe_and (pe_callB call_isi (by rfl) T.isinstance (by decide +kernel) (pa_cons (pv 0) (pa_cons (pe_bltn (v := .ty "str") (by rfl) T.str (by decide +kernel) rfl) pa_nil))) (pe_one (pe_cmpR op_eq (pv 0) (pv 1) (nomark _)))))) pss_nil)
    (pss_cons (ps_if (PW.pt (pw_or (pt_cmpR op_ne (pe_callB call_isi (by rfl) T.isinstance (by decide +kernel) (pa_cons (pv 1) (pa_cons (pe_bltn (v := .ty "tuple") (by rfl) T.tuple (by decide +kernel) rfl) pa_nil))) (pe_callB call_isi (by rfl) T.isinstance (by decide +kernel) (pa_cons (pv 0) (pa_cons (pe_bltn (v := .ty "tuple") (by rfl) T.tuple (by decide +kernel) rfl) pa_nil))) (nomark _)) (pw_or1 (pt_cmpR op_ne (pe_callB call_isi (by rfl) T.isinstance (by decide +kernel) (pa_cons (pv 1) (pa_cons (pe_bltn (v := .ty "list") (by rfl) T.list (by decide +kernel) rfl) pa_nil))) (pe_callB call_isi (by rfl) T.isinstance (by decide +kernel) (pa_cons (pv 0) (pa_cons (pe_bltn (v := .ty "list") (by rfl) T.list (by decide +kernel) rfl) pa_nil))) (nomark _))))) (pss_one (ps_ret pe_bl)) pss_nil)
    (pss_cons (ps_if (pt_cmpR op_ne (pe_callB cr_lenL (by rfl) T.len (by decide +kernel) (pa_cons (pv 0) pa_nil)) (pe_callB cr_lenL (by rfl) T.len (by decide +kernel) (pa_cons (pv 1) pa_nil)) (nomark _)) (pss_one (ps_ret pe_bl)) pss_nil)
    (pss_cons (ps_for PassesOwn.never rfl (pi_range1 (by rfl) T.range (pa_cons (pe_callB cr_lenL (by rfl) T.len (by decide +kernel) (pa_cons (pv 1) pa_nil)) pa_nil)) (pg_name (i := 2) scAlike.nd rfl (by first | exact Or.inl rfl | exact Or.inr rfl))
      (pss_one (ps_if (pt_not (pt_val (pe_call ih hr (by rfl) gf F.kp bA .nil pass0 (pa_cons (pe_ix ix_seq (pv 0) (pv 2) (fun _ _ => rfl)) (pa_cons (pe_ix ix_seq (pv 1) (pv 2) (fun _ _ => rfl)) pa_nil))))) (pss_one (ps_ret pe_bl)) pss_nil)))
    (pss_one (ps_ret pe_bl))))))))), ?_⟩
      simp only [cxK, cxK']
      cases d with
      | none =>
        cases hx
        cases hy
        walk_at "w"
        exact q
      | bool b =>
        cases hx
        cases hy
        walk_at "w"
        rw [decide_eq_true rfl]
        exact q
      | int i =>
        cases hx
        cases hy
        walk_at "w"
        rw [decide_eq_true rfl]
        exact q
      | str z =>
        cases hx
        cases hy
        walk_at "w"
        rw [decide_eq_true rfl]
        exact q
      | dict kvs => cases hx
      | list ds =>
        cases hx
        cases hy
        rename_i a xs hsx hax b ys hsy hay
        have el := dpAll_len hax
        have el2 := dpAll_len hay
        cases n with
        | zero => cases ok
        | succ n =>
        have ok : (decide (ds.length ≤ 100000) && ds.all (okD n)) = true := ok
        rw [Bool.and_eq_true, decide_eq_true_eq, List.all_eq_true] at ok
        walk_at "w"
        refine for_range (fun i σ H' => H' = H ∧ ∃ y, σ = [some (.ref a), some (.ref b), y]) ⟨rfl, none, rfl⟩ (fun i σ H' hi h => ?_) (fun σ H' h => ?_)
        · obtain ⟨rfl, y, rfl⟩ := h
          have hi : i < ys.length := by omega
          have ex : xs[i]? = some xs[i] := List.getElem?_eq_getElem (by omega)
          have ey : ys[i]? = some ys[i] := List.getElem?_eq_getElem hi
          obtain ⟨d, hd, dx⟩ := dpAll_get hax ex
          obtain ⟨d2, hd2, dy⟩ := dpAll_get hay ey
          have e2 : d2 = d := Option.some.inj (hd2.symm.trans hd)
          subst e2
          have ax : atI xs (0 + (i : Int)) = some xs[i] := at_of (by omega) ex
          have ay : atI ys (0 + (i : Int)) = some ys[i] := at_of (by omega) ey
          walk_at "w"
          refine ⟨_, _, d2, rfl, dx, dy, ok.2 _ (List.mem_of_getElem? hd), ?_⟩
          walk_at "w"
          exact ⟨rfl, _, rfl⟩
        · obtain ⟨rfl, y, rfl⟩ := h
          walk_at "w"
          exact q
      | tuple ds =>
        cases hx
        cases hy
        rename_i a xs hsx hax b ys hsy hay
        have el := dpAll_len hax
        have el2 := dpAll_len hay
        cases n with
        | zero => cases ok
        | succ n =>
        have ok : (decide (ds.length ≤ 100000) && ds.all (okD n)) = true := ok
        rw [Bool.and_eq_true, decide_eq_true_eq, List.all_eq_true] at ok
        walk_at "w"
        refine for_range (fun i σ H' => H' = H ∧ ∃ y, σ = [some (.ref a), some (.ref b), y]) ⟨rfl, none, rfl⟩ (fun i σ H' hi h => ?_) (fun σ H' h => ?_)
        · obtain ⟨rfl, y, rfl⟩ := h
          have hi : i < ys.length := by omega
          have ex : xs[i]? = some xs[i] := List.getElem?_eq_getElem (by omega)
          have ey : ys[i]? = some ys[i] := List.getElem?_eq_getElem hi
          obtain ⟨d, hd, dx⟩ := dpAll_get hax ex
          obtain ⟨d2, hd2, dy⟩ := dpAll_get hay ey
          have e2 : d2 = d := Option.some.inj (hd2.symm.trans hd)
          subst e2
          have ax : atI xs (0 + (i : Int)) = some xs[i] := at_of (by omega) ex
          have ay : atI ys (0 + (i : Int)) = some ys[i] := at_of (by omega) ey
          walk_at "w"
          refine ⟨_, _, d2, rfl, dx, dy, ok.2 _ (List.mem_of_getElem? hd), ?_⟩
          walk_at "w"
          exact ⟨rfl, _, rfl⟩
        · obtain ⟨rfl, y, rfl⟩ := h
          walk_at "w"
          exact q
end
end VH

namespace VH
open PySem L2 TL
local macro_rules | `(tactic| walk_at "dT") => `(tactic| first
  | ((with_reducible apply iT); (first | assumption | omega))
  | ((with_reducible apply niT); (first | assumption | omega))
  | ((with_reducible apply sT); (first | assumption | rfl))
  | ((with_reducible apply nsT); (first | assumption | decide))
  | ((with_reducible apply nbT); (first | assumption | omega))
  | ((with_reducible apply decide_eq_true); (first | assumption | omega)))
local macro_rules | `(tactic| walk_at "dF") => `(tactic| first
  | ((with_reducible apply iF); (first | assumption | omega))
  | ((with_reducible apply niF); (first | assumption | omega))
  | ((with_reducible apply sF); (first | assumption | decide))
  | ((with_reducible apply nsF); (first | assumption | rfl))
  | ((with_reducible apply nbF); (first | assumption | omega))
  | ((with_reducible apply decide_eq_false); (first | assumption | omega)))
local macro_rules | `(tactic| walk_at "ne") => `(tactic| first | assumption | (apply Ne.symm; assumption) | (apply ne_of_none <;> assumption) | (apply Ne.symm; apply ne_of_none <;> assumption) | (apply ne_new; assumption; walk_at "hg") | (apply Ne.symm; apply ne_new; assumption; walk_at "hg"))
local macro_rules | `(tactic| walk_at "ni") => `(tactic| first | exact ni_nil | (apply ni_cons; walk_at "ne"; walk_at "ni") | assumption)
local macro_rules | `(tactic| walk_at "hg") => `(tactic| first
  | assumption
  | exact upd_same
  | (apply upd_old; assumption; walk_at "hg")
  | (apply upd_oth; walk_at "ne"; walk_at "hg")
  | (apply kp_get; assumption; walk_at "hg"; walk_at "ni"))
local macro_rules | `(tactic| walk_at "mem") => `(tactic| first | exact List.mem_cons_self | (apply List.mem_cons_of_mem; walk_at "mem") | assumption)
local macro_rules | `(tactic| walk_at "no") => `(tactic| first | assumption | (apply none_of_kp2; assumption; walk_at "kp"))
local macro_rules | `(tactic| walk_at "kp") => `(tactic| first
  | assumption
  | exact Kp.refl
  | (apply kp_new'; assumption; walk_at "kp")
  | (apply kp_setn; assumption; walk_at "kp")
  | (apply kp_set'; walk_at "mem"; walk_at "kp")
  | (apply kp_app; assumption; walk_at "kp")
  | (apply kp_app2; assumption; walk_at "kp"))
local macro_rules | `(tactic| walk_at "sz") => `(tactic| first | assumption | exact sz rfl | (apply szb; omega) | (apply szbl; omega) | (apply szb; simp only [List.length_map, List.length_cons, List.length_nil, List.length_append, List.length_set]; omega) | (apply szbl; simp only [List.length_map, List.length_cons, List.length_nil, List.length_append, List.length_set]; omega))
local macro_rules | `(tactic| walk_at "sq") => `(tactic| first
  | assumption
  | (apply sq_l; walk_at "hg")
  | (apply sq_t; walk_at "hg")
  | (apply sqL_new; assumption; walk_at "sq")
  | (apply sqT_new; assumption; walk_at "sq"))
local macro_rules | `(tactic| walk_at "w1") => `(tactic| first
  | with_reducible refine w_seq ?_
  | ((with_reducible apply w_var); exact rfl)
  | with_reducible refine w_c ?_
  | with_reducible refine w_op ?_
  | with_reducible refine w_I0 ?_
  | ((with_reducible apply w_I); (first | assumption | exact Or.inr ⟨by decide, by decide⟩ | exact Or.inl ⟨by decide, by decide⟩ | exact (by show (0 : Int) < _; decide) | exact ⟨by decide, by decide⟩ | exact Or.inl ⟨by omega, by omega⟩ | exact Or.inr ⟨by omega, by omega⟩ | exact ⟨by omega, by omega⟩ | exact (by show (0 : Int) < _; omega)))
  | with_reducible refine w_cons ?_
  | with_reducible refine w_nil ?_
  | with_reducible refine w_asg ?_
  | with_reducible refine w_gName ?_
  | with_reducible refine w_gSub ?_
  | with_reducible refine w_test ?_
  | with_reducible refine w_B ?_
  | with_reducible refine w_ret ?_
  | with_reducible refine w_drop ?_
  | with_reducible refine w_ifS ?_
  | with_reducible refine w_if ?_
  | with_reducible refine w_un ?_
  | with_reducible refine w_U ?_
  | with_reducible refine w_call ?_
  | with_reducible refine w_cb ?_
  | with_reducible refine w_lst ?_
  | with_reducible refine w_tup ?_
  | with_reducible refine w_bm ?_
  | with_reducible refine w_bm0 ?_
  | with_reducible refine w_m1 ?_
  | with_reducible refine w_for ?_
  | with_reducible refine w_iList ?_
  | with_reducible refine w_iTup ?_
  | with_reducible refine w_iStr ?_
  | with_reducible refine w_iR1 ?_
  | with_reducible refine w_iEnum ?_
  | with_reducible refine w_and ?_
  | with_reducible refine w_or ?_
  | with_reducible refine w_not ?_
  | with_reducible refine w_yes ?_
  | with_reducible refine w_isN ?_
  | ((with_reducible apply w_eq); exact rfl)
  | ((with_reducible apply w_ne); exact rfl)
  | with_reducible refine w_chain ?_
  | with_reducible refine w_andV ?_
  | with_reducible refine w_orV ?_
  | with_reducible refine w_notV ?_
  | with_reducible refine w_bl ?_
  | with_reducible refine w_fld ?_
  | with_reducible refine w_sfld ?_
  | with_reducible refine w_next ?_
  | with_reducible refine w_isZ ?_
  | with_reducible refine w_notZ ?_
  | with_reducible refine w_inS ?_
  | with_reducible refine w_notInS ?_
  | ((with_reducible apply w_ifT); exact rfl)
  | ((with_reducible apply w_ifF); exact rfl)
  | ((with_reducible apply w_ifT); walk_at "dT")
  | ((with_reducible apply w_ifF); walk_at "dF")
  | with_reducible refine w_lc ?_
  | with_reducible refine w_aStr ?_
  | ((with_reducible apply w_itL); walk_at "sq")
  | ((with_reducible apply w_itT); walk_at "sq")
  | ((with_reducible apply w_rng); (first | omega | assumption); (first | omega | assumption))
  | ((with_reducible apply w_enum); walk_at "sq")
  | ((with_reducible apply w_lenS); walk_at "sz")
  | ((with_reducible apply w_split); (first | exact rfl | assumption); walk_at "sz")
  | with_reducible refine w_slice ?_
  | with_reducible refine w_part ?_
  | with_reducible refine w_noPart ?_
  | with_reducible refine w_anInt ?_
  | ((with_reducible apply w_slL); walk_at "sq")
  | ((with_reducible apply w_cat); walk_at "hg"; walk_at "hg"; walk_at "sz")
  | ((with_reducible apply w_newSz); walk_at "sz")
  | ((with_reducible apply w_append); walk_at "hg"; walk_at "sz")
  | ((with_reducible apply w_tyD); walk_at "hg")
  | ((with_reducible apply w_gTup); walk_at "sq"; exact rfl)
  | with_reducible refine w_gCons ?_
  | with_reducible refine w_gNil ?_
  | with_reducible refine w_kget2 ?_
  | with_reducible refine w_same ?_
  | ((with_reducible apply w_kat); assumption)
  | ((with_reducible apply w_in); walk_at "sq"; (first | exact rfl | assumption); (first | assumption | exact rfl))
  | ((with_reducible apply w_strI); assumption)
  | with_reducible refine w_disp ?_
  | with_reducible refine w_pcons ?_
  | with_reducible refine w_pnil ?_
  | with_reducible refine w_dget2 ?_
  | ((with_reducible apply w_isD); walk_at "hg")
  | ((with_reducible apply w_dgS); walk_at "hg")
  | ((with_reducible apply w_dupd); walk_at "ne"; walk_at "hg"; walk_at "hg"; (first | decide | walk_at "sz"))
  | ((with_reducible apply w_catS); walk_at "sz")
  | ((with_reducible apply w_slT); walk_at "sq"; assumption)
  | ((with_reducible apply w_ixS); walk_at "sz"; (first | assumption | exact rfl))
  | ((with_reducible apply w_intS); assumption; (first | assumption | omega))
  | ((with_reducible apply w_isi); (first | exact tx_N | exact tx_B | exact tx_I | exact tx_S | (apply tx_L; walk_at "sq") | (apply tx_T; walk_at "sq")); (first | (refine (?_ : _ = some true); decide +kernel) | (refine (?_ : _ = some false); decide +kernel)))
  | ((with_reducible apply w_lenL); walk_at "sq")
  | ((with_reducible apply w_lenT); walk_at "sq")
  | ((with_reducible apply w_listL); walk_at "sq")
  | ((with_reducible apply w_listT); walk_at "sq")
  | ((with_reducible apply w_tupL); walk_at "sq")
  | with_reducible refine w_intI ?_
  | with_reducible refine w_intB ?_
  | with_reducible refine w_strS ?_
  | ((with_reducible apply w_ixXL); walk_at "sq"; (first | exact rfl | exact atI_0 | assumption))
  | ((with_reducible apply w_ixXT); walk_at "sq"; (first | exact rfl | exact atI_0 | assumption))
  | ((with_reducible apply w_tyL); walk_at "sq")
  | with_reducible refine w_tyS ?_
  | ((with_reducible apply w_popAt0); walk_at "hg")
  | ((with_reducible apply w_ixL); walk_at "sq"; (first | exact rfl | exact atI_0 | assumption))
  | ((with_reducible apply w_ixT); walk_at "sq"; (first | exact rfl | exact atI_0 | assumption))
  | ((with_reducible apply w_setL); walk_at "hg"; (first | exact rfl | exact ixN_0)))
local macro_rules | `(tactic| walk_at "w") => `(tactic| repeat walk_at "w1")

section
variable {P : Program} {w : World} {K : PySem.W.Frag} {mg : Str → Option Value} {base : Heap}
/-! ### numbers of words -/
def numV : Option Int → V
  | none => .non
  | some n => .int n
/-- signs that there are -/
def asc (z : Str) : Prop := ∀ c ∈ tl z, c < 1114112
theorem asc_ok {z : Str} (h : asc z) : PyData.strOk z = true := by
  unfold PyData.strOk
  rw [Array.all_eq_true']
  intro c hc
  exact decide_eq_true (h c (Array.mem_toList_iff.mpr hc))
theorem shaped_all {ds : List PyData} (h : ∀ d ∈ ds, d.canLay0 = true ∧ d.depth ≤ 8) : PyData.canLayAll0 ds = true ∧ PyData.depthAll ds ≤ 8 := by
  induction ds with
  | nil => exact ⟨rfl, by decide⟩
  | cons d r ih =>
    have a := h d List.mem_cons_self
    have b := ih fun e he => h e (List.mem_cons_of_mem _ he)
    refine ⟨?_, ?_⟩
    · show (d.canLay0 && PyData.canLayAll0 r) = true
      rw [a.1, b.1]
      rfl
    · exact Nat.max_le.mpr ⟨a.2, b.2⟩
theorem shaped_list {ds : List PyData} (h : ∀ d ∈ ds, d.canLay0 = true ∧ d.depth ≤ 8) : SeqAt.shaped (.list ds) = true := by
  have a := shaped_all h
  show (PyData.canLayAll0 ds && decide (PyData.depthAll ds + 1 ≤ 64)) = true
  rw [a.1, decide_eq_true (by have := a.2; omega)]
  rfl
theorem dp_signs {H : Hp} : ∀ (cs : List Nat), DpAll K H (cs.map fun c => V.str ⟨#[c]⟩) (cs.map fun c => PyData.str ⟨#[c]⟩)
  | [] => .nil
  | c :: r => .cons (.str _) (dp_signs r)
def spNumber : Sp := fun vs H Q _ => ∃ (z : Str), vs = [.str z] ∧ z.length ≤ 100000 ∧ asc z ∧ ∀ H', Kp [] H H' → Q (numV (numberOf z)) H'
theorem scNumber : FnScope ["word", "sign"] ["word"] (defScope sNumber) := ⟨rfl, rfl, rfl, by decide +kernel, rfl, by decide +kernel, by decide +kernel⟩
theorem fig_in : ∀ c : Nat, decide (c ∈ ("0123456789" : Str).cps.toList) = isFig c := by
  intro c
  have e : ("0123456789" : Str).cps.toList = [48, 49, 50, 51, 52, 53, 54, 55, 56, 57] := by decide +kernel
  rw [e]
  unfold isFig
  apply decide_eq_decide.mpr
  simp
  omega
theorem ok_number {f : Addr} {fd : FuncData} (F : Fun K "number_of" "number_of" sNumber f fd) (T : Txt K mg) {t1 t2 : Tok} (gMF : mg "MOST_FIGURES" = some (.int 4 t1)) (gF : mg "FIGURES" = some (.str "0123456789" t2)) : FnOk P w K mg base CX0 1 f fd ["word"] spNumber := by
  refine F.ok scNumber (fun vs H Q E h => ?_) (fun cdv A outer s H vs Q E hr h => ?_)
  · obtain ⟨z, rfl, _⟩ := h
    rfl
  · obtain ⟨z, rfl, hl, ha, q⟩ := h
    have hu := hu_of hr
    have hz : z.length ≤ sizeLine := Nat.le_trans hl (by decide)
    have el : z.length = (tl z).length := len_tl z
    refine ⟨_, (pss_cons (ps_if (PW.pt (pw_or (pt_not (pt_chain op_le op_le pe_int (pe_callB cr_lenS (by rfl) T.len (by decide +kernel) (pa_cons (pv 0) pa_nil)) (pe_glob (v := .int 4) (by rfl) gMF ⟨_, rfl⟩))) (pw_or1 (pt_cmpR (op_neD hr.units) (pe_lcD (own := [("sign", 1)]) rfl scNumber.nd (pi_str (pv 0)) (blkOk_by (N := ["word", "sign"]) (sc := defScope sNumber) (by decide +kernel)) (fun _ _ _ _ _ => (pg_name (i := 1) scNumber.nd rfl (by first | exact Or.inl rfl | exact Or.inr rfl))) (fun _ _ _ _ _ => (pts_one (pt_cmpR op_notInS (pv 1) (pe_glob (v := .str "0123456789") (by rfl) gF ⟨_, rfl⟩) (by rfl)))) (fun _ _ _ _ _ => (pv 1))) (pe_lst pa_nil) (nomark _))))) (pss_one (ps_ret pe_non)) pss_nil)
    (pss_one (ps_ret (pe_ifExp (PW.pt (pw_or (pt_cmpR op_ne (pe_ix ix_str (pv 0) pe_int (fun _ _ => rfl)) pe_str (nomark _)) (pw_or1 (pt_cmpR op_eq (pv 0) pe_str (nomark _))))) (pe_callTy cr_intS (by rfl) T.int (by decide +kernel) (pa_cons (pv 0) pa_nil)) pe_non)))), ?_⟩
    simp only [cxK, cxK']
    by_cases h1 : 1 ≤ (tl z).length ∧ (tl z).length ≤ 4
    · walk_at "w"
      intro D nD
      refine lc_str (fun i H' => H' = upd H D (.lst ((((tl z).take i).filter fun c => !isFig c).map fun c => V.str ⟨#[c]⟩))) rfl (fun i c H' hc hP => ?_) (fun H' hP => ?_)
      · subst hP
        have hc : (tl z)[i]? = some c := by
          show z.cps.toList[i]? = some c
          rw [Array.getElem?_toList]
          exact hc
        walk_at "w"
        refine ⟨rfl, ?_⟩
        walk_at "w"
        rw [fig_in]
        cases hf : isFig c with
        | true =>
          refine iteF ?_
          rw [List.take_add_one, hc]
          simp [hf]
        | false =>
          refine iteT ?_
          walk_at "w"
          refine ⟨_, upd_same, ?_, ?_⟩
          · rw [List.length_map]
            refine small1000 (Nat.le_trans (List.length_filter_le _ _) (Nat.le_trans (List.length_take_le' _ _) (by omega)))
          · rw [upd_upd, List.take_add_one, hc]
            simp [hf]
      · subst hP
        have hall : (tl z).take z.cps.size = tl z := List.take_of_length_le (by rw [← el]; exact Nat.le_refl _)
        rw [hall]
        walk_at "w"
        refine fun p np => ?_
        have nDp : D ≠ p := ne_of_none upd_same np
        refine ⟨.list ((((tl z).filter fun c => !isFig c)).map fun c => .str ⟨#[c]⟩), .list [], .lst (sqL_new np (sq_l upd_same)) (dp_signs _), .lst (sq_l upd_same) .nil, shaped_list (fun d hd => ?_), rfl, ?_⟩
        · obtain ⟨c, hc, rfl⟩ := List.mem_map.mp hd
          have hc2 := ha c (List.mem_filter.mp hc).1
          refine ⟨?_, Nat.zero_le _⟩
          show PyData.strOk ⟨#[c]⟩ = true
          exact asc_ok (fun e he => by
            have he : e ∈ [c] := he
            rw [List.mem_singleton.mp he]
            exact hc2)
        · have kp : ∀ o, Kp [] H (upd (upd H D (.lst ((((tl z).filter fun c => !isFig c)).map fun c => V.str ⟨#[c]⟩))) p o) := fun o => kp_new (kp_new Kp.refl nD) np
          cases hb : (tl z).filter fun c => !isFig c with
          | nil =>
            refine ⟨false, rfl, iteF ?_⟩
            have hf : (tl z).all isFig = true := by
              rw [List.all_eq_true]
              intro c hc
              have z2 := List.filter_eq_nil_iff.mp hb c hc
              cases e : isFig c with
              | true => rfl
              | false => rw [e] at z2; exact absurd rfl z2
            rw [hb] at kp
            obtain ⟨c0, r, hc0⟩ : ∃ c0 r, tl z = c0 :: r := by
              cases e : tl z with
              | nil => rw [e] at h1; exact absurd h1.1 (by decide)
              | cons c0 r => exact ⟨c0, r, rfl⟩
            have a0 : atI z.cps.toList 0 = some c0 := by
              show atI (tl z) 0 = some c0
              rw [hc0]
              exact atI_0
            have hd : NumText.AllDigits z.cps.toList := fun c hc => of_decide_eq_true (List.all_eq_true.mp hf c hc)
            have hi : PySem.intText? z = some ((NumText.digitsVal (tl z) : Nat) : Int) := PySem.intText_digits hd (by show tl z ≠ []; rw [hc0]; exact List.cons_ne_nil _ _) (by omega)
            have e1 : numberOf z = if (tl z).head? ≠ some 48 ∨ tl z = [48] then some ((NumText.digitsVal (tl z) : Nat) : Int) else none := by
              unfold numberOf
              rw [if_pos ⟨h1, hf⟩]
            walk_at "w"
            by_cases e0 : c0 = 48
            · subst e0
              have z0 : (⟨#[48]⟩ : Str) = "0" := by decide +kernel
              have hn : ¬ (tl z).head? ≠ some 48 := by rw [hc0]; exact fun q => q rfl
              by_cases e2 : z = "0"
              · rw [e1, if_pos (Or.inr (by rw [e2]; decide +kernel))] at q
                walk_at "w"
                exact q _ (kp _)
              · have e3 : ¬ tl z = [48] := fun h => e2 (ext_tl (by rw [h]; decide +kernel))
                rw [e1, if_neg (fun h => h.elim hn e3)] at q
                walk_at "w"
                exact q _ (kp _)
            · have z0 : ¬ (⟨#[c0]⟩ : Str) = "0" := fun h => e0 (by
                have e := congrArg tl h
                have e : [c0] = [48] := e.trans (by decide +kernel)
                injection e)
              have hn : (tl z).head? ≠ some 48 := by
                rw [hc0]
                exact fun h => e0 (Option.some.inj h)
              rw [e1, if_pos (Or.inl hn)] at q
              walk_at "w"
              exact q _ (kp _)
          | cons c r =>
            refine ⟨true, rfl, iteT ?_⟩
            walk_at "w"
            have en : numberOf z = none := by
              unfold numberOf
              rw [if_neg]
              rintro ⟨_, h⟩
              have m : c ∈ (tl z).filter fun c => !isFig c := by rw [hb]; exact List.mem_cons_self
              obtain ⟨m1, m2⟩ := List.mem_filter.mp m
              rw [List.all_eq_true.mp h c m1] at m2
              cases m2
            rw [en] at q
            rw [hb] at kp
            exact q _ (kp _)
    · have en : numberOf z = none := by
        unfold numberOf
        rw [if_neg (fun e => h1 e.1)]
      rw [en] at q
      by_cases h2 : 1 ≤ (tl z).length
      · walk_at "w"
        exact q _ Kp.refl
      · walk_at "w"
        exact q _ Kp.refl
end
end VH

namespace VH
open PySem L2 TL
local macro_rules | `(tactic| walk_at "dT") => `(tactic| first
  | ((with_reducible apply iT); (first | assumption | omega))
  | ((with_reducible apply niT); (first | assumption | omega))
  | ((with_reducible apply sT); (first | assumption | rfl))
  | ((with_reducible apply nsT); (first | assumption | decide))
  | ((with_reducible apply nbT); (first | assumption | omega))
  | ((with_reducible apply decide_eq_true); (first | assumption | omega)))
local macro_rules | `(tactic| walk_at "dF") => `(tactic| first
  | ((with_reducible apply iF); (first | assumption | omega))
  | ((with_reducible apply niF); (first | assumption | omega))
  | ((with_reducible apply sF); (first | assumption | decide))
  | ((with_reducible apply nsF); (first | assumption | rfl))
  | ((with_reducible apply nbF); (first | assumption | omega))
  | ((with_reducible apply decide_eq_false); (first | assumption | omega)))
local macro_rules | `(tactic| walk_at "ne") => `(tactic| first | assumption | (apply Ne.symm; assumption) | (apply ne_of_none <;> assumption) | (apply Ne.symm; apply ne_of_none <;> assumption) | (apply ne_new; assumption; walk_at "hg") | (apply Ne.symm; apply ne_new; assumption; walk_at "hg"))
local macro_rules | `(tactic| walk_at "ni") => `(tactic| first | exact ni_nil | (apply ni_cons; walk_at "ne"; walk_at "ni") | assumption)
local macro_rules | `(tactic| walk_at "hg") => `(tactic| first
  | assumption
  | exact upd_same
  | (apply upd_old; assumption; walk_at "hg")
  | (apply upd_oth; walk_at "ne"; walk_at "hg")
  | (apply kp_get; assumption; walk_at "hg"; walk_at "ni"))
local macro_rules | `(tactic| walk_at "mem") => `(tactic| first | exact List.mem_cons_self | (apply List.mem_cons_of_mem; walk_at "mem") | assumption)
local macro_rules | `(tactic| walk_at "no") => `(tactic| first | assumption | (apply none_of_kp2; assumption; walk_at "kp"))
local macro_rules | `(tactic| walk_at "kp") => `(tactic| first
  | assumption
  | exact Kp.refl
  | (apply kp_new'; assumption; walk_at "kp")
  | (apply kp_setn; assumption; walk_at "kp")
  | (apply kp_set'; walk_at "mem"; walk_at "kp")
  | (apply kp_app; assumption; walk_at "kp")
  | (apply kp_app2; assumption; walk_at "kp"))
local macro_rules | `(tactic| walk_at "sz") => `(tactic| first | assumption | exact sz rfl | (apply szb; omega) | (apply szbl; omega) | (apply szb; simp only [List.length_map, List.length_cons, List.length_nil, List.length_append, List.length_set]; omega) | (apply szbl; simp only [List.length_map, List.length_cons, List.length_nil, List.length_append, List.length_set]; omega))
local macro_rules | `(tactic| walk_at "sq") => `(tactic| first
  | assumption
  | (apply sq_l; walk_at "hg")
  | (apply sq_t; walk_at "hg")
  | (apply sqL_new; assumption; walk_at "sq")
  | (apply sqT_new; assumption; walk_at "sq"))
local macro_rules | `(tactic| walk_at "w1") => `(tactic| first
  | with_reducible refine w_seq ?_
  | ((with_reducible apply w_var); exact rfl)
  | with_reducible refine w_c ?_
  | with_reducible refine w_op ?_
  | with_reducible refine w_I0 ?_
  | ((with_reducible apply w_I); (first | assumption | exact Or.inr ⟨by decide, by decide⟩ | exact Or.inl ⟨by decide, by decide⟩ | exact (by show (0 : Int) < _; decide) | exact ⟨by decide, by decide⟩ | exact Or.inl ⟨by omega, by omega⟩ | exact Or.inr ⟨by omega, by omega⟩ | exact ⟨by omega, by omega⟩ | exact (by show (0 : Int) < _; omega)))
  | with_reducible refine w_cons ?_
  | with_reducible refine w_nil ?_
  | with_reducible refine w_asg ?_
  | with_reducible refine w_gName ?_
  | with_reducible refine w_gSub ?_
  | with_reducible refine w_test ?_
  | with_reducible refine w_B ?_
  | with_reducible refine w_ret ?_
  | with_reducible refine w_drop ?_
  | with_reducible refine w_ifS ?_
  | with_reducible refine w_if ?_
  | with_reducible refine w_un ?_
  | with_reducible refine w_U ?_
  | with_reducible refine w_call ?_
  | with_reducible refine w_cb ?_
  | with_reducible refine w_lst ?_
  | with_reducible refine w_tup ?_
  | with_reducible refine w_bm ?_
  | with_reducible refine w_bm0 ?_
  | with_reducible refine w_m1 ?_
  | with_reducible refine w_for ?_
  | with_reducible refine w_iList ?_
  | with_reducible refine w_iTup ?_
  | with_reducible refine w_iStr ?_
  | with_reducible refine w_iR1 ?_
  | with_reducible refine w_iEnum ?_
  | with_reducible refine w_and ?_
  | with_reducible refine w_or ?_
  | with_reducible refine w_not ?_
  | with_reducible refine w_yes ?_
  | with_reducible refine w_isN ?_
  | ((with_reducible apply w_eq); exact rfl)
  | ((with_reducible apply w_ne); exact rfl)
  | with_reducible refine w_chain ?_
  | with_reducible refine w_andV ?_
  | with_reducible refine w_orV ?_
  | with_reducible refine w_notV ?_
  | with_reducible refine w_bl ?_
  | with_reducible refine w_fld ?_
  | with_reducible refine w_sfld ?_
  | with_reducible refine w_next ?_
  | with_reducible refine w_isZ ?_
  | with_reducible refine w_notZ ?_
  | with_reducible refine w_inS ?_
  | with_reducible refine w_notInS ?_
  | ((with_reducible apply w_ifT); exact rfl)
  | ((with_reducible apply w_ifF); exact rfl)
  | ((with_reducible apply w_ifT); walk_at "dT")
  | ((with_reducible apply w_ifF); walk_at "dF")
  | with_reducible refine w_lc ?_
  | with_reducible refine w_aStr ?_
  | ((with_reducible apply w_itL); walk_at "sq")
  | ((with_reducible apply w_itT); walk_at "sq")
  | ((with_reducible apply w_rng); (first | omega | assumption); (first | omega | assumption))
  | ((with_reducible apply w_enum); walk_at "sq")
  | ((with_reducible apply w_lenS); walk_at "sz")
  | ((with_reducible apply w_split); (first | exact rfl | assumption); walk_at "sz")
  | with_reducible refine w_slice ?_
  | with_reducible refine w_part ?_
  | with_reducible refine w_noPart ?_
  | with_reducible refine w_anInt ?_
  | ((with_reducible apply w_slL); walk_at "sq")
  | ((with_reducible apply w_cat); walk_at "hg"; walk_at "hg"; walk_at "sz")
  | ((with_reducible apply w_newSz); walk_at "sz")
  | ((with_reducible apply w_append); walk_at "hg"; walk_at "sz")
  | ((with_reducible apply w_tyD); walk_at "hg")
  | ((with_reducible apply w_gTup); walk_at "sq"; exact rfl)
  | with_reducible refine w_gCons ?_
  | with_reducible refine w_gNil ?_
  | with_reducible refine w_kget2 ?_
  | with_reducible refine w_same ?_
  | ((with_reducible apply w_kat); assumption)
  | ((with_reducible apply w_in); walk_at "sq"; (first | exact rfl | assumption); (first | assumption | exact rfl))
  | ((with_reducible apply w_strI); assumption)
  | with_reducible refine w_disp ?_
  | with_reducible refine w_pcons ?_
  | with_reducible refine w_pnil ?_
  | with_reducible refine w_dget2 ?_
  | ((with_reducible apply w_isD); walk_at "hg")
  | ((with_reducible apply w_dgS); walk_at "hg")
  | ((with_reducible apply w_dupd); walk_at "ne"; walk_at "hg"; walk_at "hg"; (first | decide | walk_at "sz"))
  | ((with_reducible apply w_catS); walk_at "sz")
  | ((with_reducible apply w_slT); walk_at "sq"; assumption)
  | ((with_reducible apply w_ixS); walk_at "sz"; (first | assumption | exact rfl))
  | ((with_reducible apply w_intS); assumption; (first | assumption | omega))
  | ((with_reducible apply w_isi); (first | exact tx_N | exact tx_B | exact tx_I | exact tx_S | (apply tx_L; walk_at "sq") | (apply tx_T; walk_at "sq")); (first | (refine (?_ : _ = some true); decide +kernel) | (refine (?_ : _ = some false); decide +kernel)))
  | ((with_reducible apply w_lenL); walk_at "sq")
  | ((with_reducible apply w_lenT); walk_at "sq")
  | ((with_reducible apply w_listL); walk_at "sq")
  | ((with_reducible apply w_listT); walk_at "sq")
  | ((with_reducible apply w_tupL); walk_at "sq")
  | with_reducible refine w_intI ?_
  | with_reducible refine w_intB ?_
  | with_reducible refine w_strS ?_
  | ((with_reducible apply w_ixXL); walk_at "sq"; (first | exact rfl | exact atI_0 | assumption))
  | ((with_reducible apply w_ixXT); walk_at "sq"; (first | exact rfl | exact atI_0 | assumption))
  | ((with_reducible apply w_tyL); walk_at "sq")
  | with_reducible refine w_tyS ?_
  | ((with_reducible apply w_popAt0); walk_at "hg")
  | ((with_reducible apply w_ixL); walk_at "sq"; (first | exact rfl | exact atI_0 | assumption))
  | ((with_reducible apply w_ixT); walk_at "sq"; (first | exact rfl | exact atI_0 | assumption))
  | ((with_reducible apply w_setL); walk_at "hg"; (first | exact rfl | exact ixN_0)))
local macro_rules | `(tactic| walk_at "w") => `(tactic| repeat walk_at "w1")

section
variable {P : Program} {w : World} {K : PySem.W.Frag} {mg : Str → Option Value} {base : Heap}
/-! ### the step of a row -/
theorem spl_ne (S : List Nat) : ∀ (k : Nat) (acc l : List Nat), spl S k acc l ≠ []
  | _, acc, [] => by unfold spl; exact List.cons_ne_nil _ _
  | 0, acc, c :: r => by
    unfold spl
    split
    · exact List.cons_ne_nil _ _
    · exact spl_ne S 0 _ r
  | k + 1, acc, c :: r => by
    unfold spl
    exact spl_ne S k acc r
theorem spl_mem (S : List Nat) : ∀ (k : Nat) (acc l : List Nat) (p : List Nat) (c : Nat), p ∈ spl S k acc l → c ∈ p → c ∈ acc ∨ c ∈ l
  | _, acc, [], p, c, h, hc => by
    unfold spl at h
    rw [List.mem_singleton.mp h] at hc
    exact .inl hc
  | 0, acc, d :: r, p, c, h, hc => by
    unfold spl at h
    split at h
    · rcases List.mem_cons.mp h with h | h
      · rw [h] at hc
        exact .inl hc
      · rcases spl_mem S _ _ r p c h hc with z | z
        · cases z
        · exact .inr (List.mem_cons_of_mem _ z)
    · rcases spl_mem S _ _ r p c h hc with z | z
      · rcases List.mem_append.mp z with z | z
        · exact .inl z
        · rw [List.mem_singleton.mp z]
          exact .inr List.mem_cons_self
      · exact .inr (List.mem_cons_of_mem _ z)
  | k + 1, acc, d :: r, p, c, h, hc => by
    unfold spl at h
    rcases spl_mem S _ _ r p c h hc with z | z
    · exact .inl z
    · exact .inr (List.mem_cons_of_mem _ z)
theorem spl_few (S : List Nat) : ∀ (k : Nat) (acc l : List Nat), (spl S k acc l).length ≤ l.length + 1 ∧ ∀ p ∈ spl S k acc l, p.length ≤ acc.length + l.length
  | _, acc, [] => by
    unfold spl
    exact ⟨by simp, fun p hp => by rw [List.mem_singleton.mp hp]; simp⟩
  | 0, acc, c :: r => by
    unfold spl
    split
    · obtain ⟨a, b⟩ := spl_few S (S.length - 1) [] r
      refine ⟨by simp only [List.length_cons]; omega, fun p hp => ?_⟩
      rcases List.mem_cons.mp hp with rfl | hp
      · simp only [List.length_cons]; omega
      · have := b p hp
        simp only [List.length_cons, List.length_nil] at *
        omega
    · obtain ⟨a, b⟩ := spl_few S 0 (acc ++ [c]) r
      refine ⟨by simp only [List.length_cons]; omega, fun p hp => ?_⟩
      have := b p hp
      simp only [List.length_cons, List.length_append, List.length_nil] at *
      omega
  | k + 1, acc, c :: r => by
    unfold spl
    obtain ⟨a, b⟩ := spl_few S k acc r
    refine ⟨by simp only [List.length_cons]; omega, fun p hp => ?_⟩
    have := b p hp
    simp only [List.length_cons] at *
    omega
/-- a text that is cut by one plain sign -/
structure Cuts (z y : Str) : Prop where
  ne : Txt.split z y ≠ []
  asc : asc z → ∀ p ∈ Txt.split z y, asc p
  few : (Txt.split z y).length ≤ z.length + 1
  short : ∀ p ∈ Txt.split z y, p.length ≤ z.length
theorem cuts {z y : Str} (hy : tl y ≠ []) (hk : y.cps.all (· < 256) = true) : Cuts z y := by
  have e := split_spl z y hy (kind_ok hk)
  refine ⟨fun h => ?_, fun ha p hp c hc => ?_, ?_, fun p hp => ?_⟩
  · rw [h] at e
    exact spl_ne _ _ _ _ e.symm
  · have m : tl p ∈ (Txt.split z y).map tl := List.mem_map.mpr ⟨p, hp, rfl⟩
    rw [e] at m
    rcases spl_mem _ _ _ _ _ c m hc with q | q
    · cases q
    · exact ha c q
  · have a := (spl_few (tl y) 0 [] (tl z)).1
    rw [← e, List.length_map, ← len_tl] at a
    exact a
  · have m : tl p ∈ (Txt.split z y).map tl := List.mem_map.mpr ⟨p, hp, rfl⟩
    rw [e] at m
    have a := (spl_few (tl y) 0 [] (tl z)).2 _ m
    rw [len_tl, len_tl z]
    simpa using a
theorem flat_nums : ∀ (os : List (Option Int)), (os.map numV).all flatV = true
  | [] => rfl
  | none :: r => by show (true && _) = true; rw [flat_nums r]; rfl
  | some n :: r => by show (true && _) = true; rw [flat_nums r]; rfl
theorem allSome_cases : ∀ (os : List (Option Int)), (allSome os = none ∧ inV .non (os.map numV) = true) ∨ ∃ ns, allSome os = some ns ∧ inV .non (os.map numV) = false ∧ os.map numV = ns.map V.int
  | [] => .inr ⟨[], rfl, rfl, rfl⟩
  | none :: r => .inl ⟨rfl, by
    show (eqV .non .non || inV .non (r.map numV)) = true
    rfl⟩
  | some n :: r => by
    rcases allSome_cases r with ⟨h1, h2⟩ | ⟨ns, h1, h2, h3⟩
    · refine .inl ⟨by show (allSome r).map (n :: ·) = none; rw [h1]; rfl, ?_⟩
      show (eqV (.int n) .non || inV .non (r.map numV)) = true
      rw [h2]
      rfl
    · refine .inr ⟨n :: ns, by show (allSome r).map (n :: ·) = _; rw [h1]; rfl, ?_, ?_⟩
      · show (eqV (.int n) .non || inV .non (r.map numV)) = false
        rw [h2]
        rfl
      · show V.int n :: r.map numV = V.int n :: ns.map V.int
        rw [h3]
def shapeV (z : Str) : Option V := match shapeOf z with
  | none => none
  | some n => some (.int (n : Int))
def stepVs (s : Stp) : List V := .str s.1 :: s.2.map V.int
def spStepOf : Sp := fun vs H Q _ => ∃ (z : Str), vs = [.str z] ∧ z.length ≤ 60000 ∧ asc z ∧ ∀ H', Kp [] H H' →
  match stepOf z with
  | none => Q .non H'
  | some s => ∀ p, H p = none → H' p = some (.tup (stepVs s)) → Q (.ref p) H'
theorem scStep : FnScope ["row", "words", "numbers", "word"] ["row"] (defScope sStep) := ⟨rfl, rfl, rfl, by decide +kernel, rfl, by decide +kernel, by decide +kernel⟩
theorem ok_step {f fN dS : Addr} {fd fdN : FuncData} (F : Fun K "step_of" "step_of" sStep f fd) (T : Txt K mg) {es : Array DictEntry} {n : Nat} (gS : mg "SHAPES" = some (.ref dS)) (dK : KDict K w dS es n) (hK : ∀ z, KAt es z (shapeV z))
    (FN : Fun K "number_of" "number_of" sNumber fN fdN) (bN : Binds K fdN ["word"] []) (gN : mg "number_of" = some (.ref fN)) (GN : FnOk P w K mg base CX0 1 fN fdN ["word"] spNumber) : FnOk P w K mg base CX0 2 f fd ["row"] spStepOf := by
  refine F.ok scStep (fun vs H Q E h => ?_) (fun cdv A outer s H vs Q E hr h => ?_)
  · obtain ⟨z, rfl, _⟩ := h
    rfl
  · obtain ⟨z, rfl, hl, ha, q⟩ := h
    have hu := hu_of hr
    have C := cuts (z := z) (y := " ") (by decide +kernel) (by decide +kernel)
    have hz : z.length + 2 ≤ sizeLine := Nat.le_trans (show z.length + 2 ≤ 60002 by omega) (by decide)
    have q2 : ∀ H', Kp [] H H' → stepOf z = stepOf z := fun _ _ => rfl
    unfold stepOf at q
    obtain ⟨w0, ws, ew⟩ : ∃ w0 ws, Txt.split z " " = w0 :: ws := by
      cases e : Txt.split z " " with
      | nil => exact absurd e C.ne
      | cons a r => exact ⟨a, r, rfl⟩
    have hk := hK w0
    refine ⟨_, (pss_cons (ps_set (i := 1) scStep.nd rfl (by first | exact Or.inl rfl | exact Or.inr rfl) (pe_splitN (pv 0) pe_str))
    (pss_cons (ps_if (pt_cmpR op_ne (pe_kget2 dK (pe_glob (v := .ref dS) (by rfl) gS rfl) (pe_ix ix_list (pv 1) pe_int (fun _ _ => rfl)) pe_non ⟨rfl, rfl, rfl, rfl⟩) (pe_op op_sub (pe_callB cr_lenL (by rfl) T.len (by decide +kernel) (pa_cons (pv 1) pa_nil)) pe_int) (nomark _)) (pss_one (ps_ret pe_non)) pss_nil)
    (pss_cons (ps_setLcD (i := 2) (own := [("word", 3)]) rfl scStep.nd rfl rfl (sw_true rfl rfl rfl (by decide +kernel)) (pi_list (pe_slice sl_list (pv 1) (po_some pe_int) po_none)) (blkOk_by (N := ["row", "words", "numbers", "word"]) (sc := defScope sStep) (by decide +kernel)) (fun _ _ _ _ _ => (pg_name (i := 3) scStep.nd rfl (by first | exact Or.inl rfl | exact Or.inr rfl))) (fun _ _ _ _ _ => pts_nil) (fun _ _ _ _ _ => (pe_call GN (hr.mono (by decide)) (by rfl) gN FN.kp bN .nil pass0 (pa_cons (pv 3) pa_nil))))
    (pss_one (ps_ret (pe_ifExp (pt_cmpR op_in_seq pe_non (pv 2) (by rfl)) pe_non (pe_callTy cr_tupOf (by rfl) T.tuple (by decide +kernel) (pa_cons (pe_op op_cat (pe_lst (pa_cons (pe_ix ix_list (pv 1) pe_int (fun _ _ => rfl)) pa_nil)) (pv 2)) pa_nil)))))))), ?_⟩
    simp only [cxK, cxK']
    walk_at "w"
    rw [ew]
    intro p np
    rw [ew] at q
    have hn : ∀ p', Kp [] H p' → shapeOf w0 ≠ some ws.length → Q .non p' := fun p' k h => by
      have z := q p' k
      simp only [if_neg h] at z
      exact z
    have lw : ws.length ≤ 70000 := by
      have a := C.few
      rw [ew, List.length_cons] at a
      omega
    have ll : ((List.map V.str (w0 :: ws)).length : Int) = (ws.length : Int) + 1 := by
      rw [List.length_map, List.length_cons]
      omega
    cases hsh : shapeOf w0 with
    | none =>
      have hk : KAt es w0 none := by
        have := hk
        unfold shapeV at this
        rw [hsh] at this
        exact this
      walk_at "w"
      exact hn _ (kp_new Kp.refl np) (by rw [hsh]; exact fun e => nomatch e)
    | some m =>
      have hk : KAt es w0 (some (.int (m : Int))) := by
        have := hk
        unfold shapeV at this
        rw [hsh] at this
        exact this
      walk_at "w"
      refine (show (if (!decide (V.int (m : Int) = V.int ((List.map V.str (w0 :: ws)).length - 1 : Int))) = true then _ else _) from ?_)
      by_cases e : m = ws.length
      · walk_at "w"
        rw [show cutV (List.map V.str (w0 :: ws)) (some 1) none = ws.map V.str from cutV_from _ 1]
        intro p2 np2
        walk_at "w"
        intro D nD
        refine lc_list (xs := ws.map V.str) (fun i H' => Kp [] (upd (upd H p (.lst (List.map V.str (w0 :: ws)))) p2 (.lst (ws.map V.str))) H' ∧ H' D = some (.lst ((ws.take i).map fun x => numV (numberOf x)))) ⟨kp_new Kp.refl nD, upd_same⟩ (fun i H' _ h => sq_l (h.1.k _ _ upd_same ni_nil)) (fun i x H' hx h => ?_) (fun H' h => ?_)
        · obtain ⟨k, hD⟩ := h
          obtain ⟨wd, hwd, rfl⟩ : ∃ wd, ws[i]? = some wd ∧ V.str wd = x := by
            rw [List.getElem?_map] at hx
            cases e : ws[i]? with
            | none => rw [e] at hx; cases hx
            | some wd => rw [e] at hx; exact ⟨wd, rfl, Option.some.inj hx⟩
          have hm : wd ∈ Txt.split z " " := by rw [ew]; exact List.mem_cons_of_mem _ (List.mem_of_getElem? hwd)
          walk_at "w"
          refine ⟨rfl, ?_⟩
          walk_at "w"
          refine ⟨wd, rfl, Nat.le_trans (C.short wd hm) (by omega), C.asc ha wd hm, fun H2 k2 => ?_⟩
          refine ⟨_, by walk_at "hg", ?_, ?_, ?_⟩
          · rw [List.length_map]
            exact Nat.lt_of_le_of_lt (Nat.le_trans (List.length_take_le' _ _) lw) (by decide)
          · walk_at "kp"
          · rw [upd_same, List.take_add_one, hwd]
            simp
        · obtain ⟨k, hD⟩ := h
          have hD : H' D = some (.lst ((ws.map numberOf).map numV)) := by
            rw [hD, List.length_map, List.take_length, List.map_map]
            rfl
          have fl := flat_nums (ws.map numberOf)
          have e2 : ∀ H', Kp [] H H' → _ := q
          simp only [if_pos (show shapeOf w0 = some ws.length by rw [hsh, e])] at e2
          rcases allSome_cases (ws.map numberOf) with ⟨h1, h2⟩ | ⟨ns, h1, h2, h3⟩
          · rw [h1] at e2
            walk_at "w"
            refine w_ifT h2 ?_
            walk_at "w"
            exact e2 _ (by walk_at "kp")
          · rw [h1] at e2
            have ln : ns.length = ws.length := by
              have a := congrArg List.length h3
              simp only [List.length_map] at a
              exact a.symm
            walk_at "w"
            refine w_ifF h2 ?_
            walk_at "w"
            intro p3 np3
            walk_at "w"
            intro p4 np4
            walk_at "w"
            intro p5 np5
            refine e2 _ (by walk_at "kp") p5 (by walk_at "no") ?_
            rw [upd_same, h3]
            rfl
      · walk_at "w"
        exact hn _ (kp_new Kp.refl np) (by rw [hsh]; exact fun e2 => e (Option.some.inj e2))
end
end VH

namespace VH
open PySem L2 TL
local macro_rules | `(tactic| walk_at "dT") => `(tactic| first
  | ((with_reducible apply iT); (first | assumption | omega))
  | ((with_reducible apply niT); (first | assumption | omega))
  | ((with_reducible apply sT); (first | assumption | rfl))
  | ((with_reducible apply nsT); (first | assumption | decide))
  | ((with_reducible apply nbT); (first | assumption | omega))
  | ((with_reducible apply decide_eq_true); (first | assumption | omega)))
local macro_rules | `(tactic| walk_at "dF") => `(tactic| first
  | ((with_reducible apply iF); (first | assumption | omega))
  | ((with_reducible apply niF); (first | assumption | omega))
  | ((with_reducible apply sF); (first | assumption | decide))
  | ((with_reducible apply nsF); (first | assumption | rfl))
  | ((with_reducible apply nbF); (first | assumption | omega))
  | ((with_reducible apply decide_eq_false); (first | assumption | omega)))
local macro_rules | `(tactic| walk_at "ne") => `(tactic| first | assumption | (apply Ne.symm; assumption) | (apply ne_of_none <;> assumption) | (apply Ne.symm; apply ne_of_none <;> assumption) | (apply ne_new; assumption; walk_at "hg") | (apply Ne.symm; apply ne_new; assumption; walk_at "hg"))
local macro_rules | `(tactic| walk_at "ni") => `(tactic| first | exact ni_nil | (apply ni_cons; walk_at "ne"; walk_at "ni") | assumption)
local macro_rules | `(tactic| walk_at "hg") => `(tactic| first
  | assumption
  | exact upd_same
  | (apply upd_old; assumption; walk_at "hg")
  | (apply upd_oth; walk_at "ne"; walk_at "hg")
  | (apply kp_get; assumption; walk_at "hg"; walk_at "ni"))
local macro_rules | `(tactic| walk_at "mem") => `(tactic| first | exact List.mem_cons_self | (apply List.mem_cons_of_mem; walk_at "mem") | assumption)
local macro_rules | `(tactic| walk_at "no") => `(tactic| first | assumption | (apply none_of_kp2; assumption; walk_at "kp"))
local macro_rules | `(tactic| walk_at "kp") => `(tactic| first
  | assumption
  | exact Kp.refl
  | (apply kp_new'; assumption; walk_at "kp")
  | (apply kp_setn; assumption; walk_at "kp")
  | (apply kp_set'; walk_at "mem"; walk_at "kp")
  | (apply kp_app; assumption; walk_at "kp")
  | (apply kp_app2; assumption; walk_at "kp"))
local macro_rules | `(tactic| walk_at "sz") => `(tactic| first | assumption | exact sz rfl | (apply szb; omega) | (apply szbl; omega) | (apply szb; simp only [List.length_map, List.length_cons, List.length_nil, List.length_append, List.length_set]; omega) | (apply szbl; simp only [List.length_map, List.length_cons, List.length_nil, List.length_append, List.length_set]; omega))
local macro_rules | `(tactic| walk_at "sq") => `(tactic| first
  | assumption
  | (apply sq_l; walk_at "hg")
  | (apply sq_t; walk_at "hg")
  | (apply sqL_new; assumption; walk_at "sq")
  | (apply sqT_new; assumption; walk_at "sq"))
local macro_rules | `(tactic| walk_at "w1") => `(tactic| first
  | with_reducible refine w_seq ?_
  | ((with_reducible apply w_var); exact rfl)
  | with_reducible refine w_c ?_
  | with_reducible refine w_op ?_
  | with_reducible refine w_I0 ?_
  | ((with_reducible apply w_I); (first | assumption | exact Or.inr ⟨by decide, by decide⟩ | exact Or.inl ⟨by decide, by decide⟩ | exact (by show (0 : Int) < _; decide) | exact ⟨by decide, by decide⟩ | exact Or.inl ⟨by omega, by omega⟩ | exact Or.inr ⟨by omega, by omega⟩ | exact ⟨by omega, by omega⟩ | exact (by show (0 : Int) < _; omega)))
  | with_reducible refine w_cons ?_
  | with_reducible refine w_nil ?_
  | with_reducible refine w_asg ?_
  | with_reducible refine w_gName ?_
  | with_reducible refine w_gSub ?_
  | with_reducible refine w_test ?_
  | with_reducible refine w_B ?_
  | with_reducible refine w_ret ?_
  | with_reducible refine w_drop ?_
  | with_reducible refine w_ifS ?_
  | with_reducible refine w_if ?_
  | with_reducible refine w_un ?_
  | with_reducible refine w_U ?_
  | with_reducible refine w_call ?_
  | with_reducible refine w_cb ?_
  | with_reducible refine w_lst ?_
  | with_reducible refine w_tup ?_
  | with_reducible refine w_bm ?_
  | with_reducible refine w_bm0 ?_
  | with_reducible refine w_m1 ?_
  | with_reducible refine w_for ?_
  | with_reducible refine w_iList ?_
  | with_reducible refine w_iTup ?_
  | with_reducible refine w_iStr ?_
  | with_reducible refine w_iR1 ?_
  | with_reducible refine w_iEnum ?_
  | with_reducible refine w_and ?_
  | with_reducible refine w_or ?_
  | with_reducible refine w_not ?_
  | with_reducible refine w_yes ?_
  | with_reducible refine w_isN ?_
  | ((with_reducible apply w_eq); exact rfl)
  | ((with_reducible apply w_ne); exact rfl)
  | with_reducible refine w_chain ?_
  | with_reducible refine w_andV ?_
  | with_reducible refine w_orV ?_
  | with_reducible refine w_notV ?_
  | with_reducible refine w_bl ?_
  | with_reducible refine w_fld ?_
  | with_reducible refine w_sfld ?_
  | with_reducible refine w_next ?_
  | with_reducible refine w_isZ ?_
  | with_reducible refine w_notZ ?_
  | with_reducible refine w_inS ?_
  | with_reducible refine w_notInS ?_
  | ((with_reducible apply w_ifT); exact rfl)
  | ((with_reducible apply w_ifF); exact rfl)
  | ((with_reducible apply w_ifT); walk_at "dT")
  | ((with_reducible apply w_ifF); walk_at "dF")
  | with_reducible refine w_lc ?_
  | with_reducible refine w_aStr ?_
  | ((with_reducible apply w_itL); walk_at "sq")
  | ((with_reducible apply w_itT); walk_at "sq")
  | ((with_reducible apply w_rng); (first | omega | assumption); (first | omega | assumption))
  | ((with_reducible apply w_enum); walk_at "sq")
  | ((with_reducible apply w_lenS); walk_at "sz")
  | ((with_reducible apply w_split); (first | exact rfl | assumption); walk_at "sz")
  | with_reducible refine w_slice ?_
  | with_reducible refine w_part ?_
  | with_reducible refine w_noPart ?_
  | with_reducible refine w_anInt ?_
  | ((with_reducible apply w_slL); walk_at "sq")
  | ((with_reducible apply w_cat); walk_at "hg"; walk_at "hg"; walk_at "sz")
  | ((with_reducible apply w_newSz); walk_at "sz")
  | ((with_reducible apply w_append); walk_at "hg"; walk_at "sz")
  | ((with_reducible apply w_tyD); walk_at "hg")
  | ((with_reducible apply w_gTup); walk_at "sq"; exact rfl)
  | with_reducible refine w_gCons ?_
  | with_reducible refine w_gNil ?_
  | with_reducible refine w_kget2 ?_
  | with_reducible refine w_same ?_
  | ((with_reducible apply w_kat); assumption)
  | ((with_reducible apply w_in); walk_at "sq"; (first | exact rfl | assumption); (first | assumption | exact rfl))
  | ((with_reducible apply w_strI); assumption)
  | with_reducible refine w_disp ?_
  | with_reducible refine w_pcons ?_
  | with_reducible refine w_pnil ?_
  | with_reducible refine w_dget2 ?_
  | ((with_reducible apply w_isD); walk_at "hg")
  | ((with_reducible apply w_dgS); walk_at "hg")
  | ((with_reducible apply w_dupd); walk_at "ne"; walk_at "hg"; walk_at "hg"; (first | decide | walk_at "sz"))
  | ((with_reducible apply w_catS); walk_at "sz")
  | ((with_reducible apply w_slT); walk_at "sq"; assumption)
  | ((with_reducible apply w_ixS); walk_at "sz"; (first | assumption | exact rfl))
  | ((with_reducible apply w_intS); assumption; (first | assumption | omega))
  | ((with_reducible apply w_isi); (first | exact tx_N | exact tx_B | exact tx_I | exact tx_S | (apply tx_L; walk_at "sq") | (apply tx_T; walk_at "sq")); (first | (refine (?_ : _ = some true); decide +kernel) | (refine (?_ : _ = some false); decide +kernel)))
  | ((with_reducible apply w_lenL); walk_at "sq")
  | ((with_reducible apply w_lenT); walk_at "sq")
  | ((with_reducible apply w_listL); walk_at "sq")
  | ((with_reducible apply w_listT); walk_at "sq")
  | ((with_reducible apply w_tupL); walk_at "sq")
  | with_reducible refine w_intI ?_
  | with_reducible refine w_intB ?_
  | with_reducible refine w_strS ?_
  | ((with_reducible apply w_ixXL); walk_at "sq"; (first | exact rfl | exact atI_0 | assumption))
  | ((with_reducible apply w_ixXT); walk_at "sq"; (first | exact rfl | exact atI_0 | assumption))
  | ((with_reducible apply w_tyL); walk_at "sq")
  | with_reducible refine w_tyS ?_
  | ((with_reducible apply w_popAt0); walk_at "hg")
  | ((with_reducible apply w_ixL); walk_at "sq"; (first | exact rfl | exact atI_0 | assumption))
  | ((with_reducible apply w_ixT); walk_at "sq"; (first | exact rfl | exact atI_0 | assumption))
  | ((with_reducible apply w_setL); walk_at "hg"; (first | exact rfl | exact ixN_0)))
local macro_rules | `(tactic| walk_at "w") => `(tactic| repeat walk_at "w1")

section
variable {P : Program} {w : World} {K : PySem.W.Frag} {mg : Str → Option Value} {base : Heap}
/-- a list's items are these steps -/
def StepsIn (H : Hp) (vs : List V) (ss : List Stp) : Prop := vs.length = ss.length ∧ ∀ (i : Nat) (x : V) (s : Stp), vs[i]? = some x → ss[i]? = some s → ∃ p, x = V.ref p ∧ H p = some (.tup (stepVs s))
theorem StepsIn.keep {H H' : Hp} {vs : List V} {ss : List Stp} (S : StepsIn H vs ss) (k : Kp [] H H') : StepsIn H' vs ss :=
  ⟨S.1, fun i x s a b => let ⟨p, e, h⟩ := S.2 i x s a b; ⟨p, e, k.k _ _ h ni_nil⟩⟩
theorem StepsIn.set {H : Hp} {vs ys : List V} {ss : List Stp} {o : Addr} {u : HO} (S : StepsIn H vs ss) (ho : H o = some (.lst ys)) : StepsIn (upd H o u) vs ss :=
  ⟨S.1, fun i x s a b => let ⟨p, e, h⟩ := S.2 i x s a b; ⟨p, e, by rw [upd_ne (ne_of h ho (by intro z; cases z))]; exact h⟩⟩
theorem StepsIn.snoc {H : Hp} {vs : List V} {ss : List Stp} {p : Addr} {s : Stp} (S : StepsIn H vs ss) (h : H p = some (.tup (stepVs s))) : StepsIn H (vs ++ [.ref p]) (ss ++ [s]) := by
  refine ⟨by rw [List.length_append, List.length_append, S.1]; rfl, fun i x t a b => ?_⟩
  by_cases hi : i < vs.length
  · rw [List.getElem?_append_left hi] at a
    rw [List.getElem?_append_left (by rw [← S.1]; exact hi)] at b
    exact S.2 i x t a b
  · rw [List.getElem?_append_right (by omega)] at a
    rw [List.getElem?_append_right (by rw [← S.1]; omega), ← S.1] at b
    cases e : i - vs.length with
    | zero =>
      rw [e] at a b
      have a : V.ref p = x := Option.some.inj a
      have b : s = t := Option.some.inj b
      exact ⟨p, a.symm, by rw [← b]; exact h⟩
    | succ k =>
      rw [e] at a
      simp at a
theorem log2_small {n : Int} (h0 : 0 ≤ n) (h : n < 10000) : n.natAbs.log2 < 1920 := PySem.Flt.log2_lt_of (by decide) (Nat.lt_of_lt_of_le (show n.natAbs < 2 ^ 14 by omega) (Nat.pow_le_pow_right (by decide) (by decide)))
def spWritten (K : PySem.W.Frag) : Sp := fun vs H Q _ => ∃ (a : Addr) (xs : List V) (ss : List Stp), vs = [.ref a] ∧ SqL K H a xs ∧ StepsIn H xs ss ∧ (∀ s ∈ ss, StpOk s) ∧ ss.length ≤ 1000 ∧ ∀ H', Kp [] H H' → Q (.str (textOf ss)) H'
theorem scWritten : FnScope ["steps", "part", "step"] ["steps"] (defScope sWritten) := ⟨rfl, rfl, rfl, by decide +kernel, rfl, by decide +kernel, by decide +kernel⟩
theorem words_sum {s : Stp} (h : StpOk s) : ((wordsOf s).map (·.length)).sum + (wordsOf s).length * (" " : Str).length ≤ 16777216 := by
  have a : ((wordsOf s).map (·.length)).sum ≤ (wordsOf s).length * 7 := sum_le fun x hx => words_len h x hx
  have b : (wordsOf s).length ≤ 4 := by
    show (s.2.map numT).length + 1 ≤ 4
    rw [List.length_map]
    have := few h
    omega
  have c : (" " : Str).length = 1 := by decide +kernel
  rw [c]
  omega
theorem rows_sum {ss : List Stp} (h : ∀ s ∈ ss, StpOk s) (hl : ss.length ≤ 1000) : ((ss.map rowOf).map (·.length)).sum + (ss.map rowOf).length * ("\n" : Str).length ≤ 16777216 := by
  have a : ((ss.map rowOf).map (·.length)).sum ≤ (ss.map rowOf).length * 32 := sum_le fun x hx => by
    obtain ⟨s, hs, rfl⟩ := List.mem_map.mp hx
    exact row_len (h s hs)
  have b : (ss.map rowOf).length = ss.length := List.length_map _
  have c : ("\n" : Str).length = 1 := by decide +kernel
  rw [c]
  omega
theorem ok_written {f : Addr} {fd : FuncData} (F : Fun K "written" "written" sWritten f fd) (T : Txt K mg) : FnOk P w K mg base CX0 1 f fd ["steps"] (spWritten K) := by
  refine F.ok scWritten (fun vs H Q E h => ?_) (fun cdv A outer s H vs Q E hr h => ?_)
  · obtain ⟨a, xs, ss, rfl, _⟩ := h
    rfl
  · obtain ⟨a, xs, ss, rfl, hS, hI, ok, hl, q⟩ := h
    have hu := hu_of hr
    refine ⟨_, (pss_one (ps_ret (pe_joinN pe_str (pe_lcD (own := [("step", 2)]) rfl scWritten.nd (pi_list (pv 0)) (blkOk_by (N := ["steps", "part", "step"]) (sc := defScope sWritten) (by decide +kernel)) (fun _ _ _ _ _ => (pg_name (i := 2) scWritten.nd rfl (by first | exact Or.inl rfl | exact Or.inr rfl))) (fun _ _ _ _ _ => pts_nil) (fun _ _ _ _ _ => (pe_joinN pe_str (pe_lcD (own := [("part", 1)]) rfl scWritten.nd (pi_tup (pv 2)) (blkOk_free (N := ["steps", "part", "step"]) (by decide +kernel) (by decide +kernel)) (fun _ _ _ _ _ => (pg_name (i := 1) scWritten.nd rfl (by first | exact Or.inl rfl | exact Or.inr rfl))) (fun _ _ _ _ _ => pts_nil) (fun _ _ _ _ _ => (pe_callTy cr_strX (by rfl) T.str (by decide +kernel) (pa_cons (pv 1) pa_nil)))))))))), ?_⟩
    simp only [cxK, cxK']
    walk_at "w"
    intro D nD
    refine lc_list (xs := xs) (fun i H' => Kp [] H H' ∧ H' D = some (.lst (((ss.take i).map rowOf).map V.str))) ⟨kp_new Kp.refl nD, upd_same⟩ (fun i H' _ h => h.1.same.seq hS) (fun i x H' hx h => ?_) (fun H' h => ?_)
    · obtain ⟨k, hD⟩ := h
      have hi : i < ss.length := by
        rw [← hI.1]
        exact (List.getElem?_eq_some_iff.mp hx).1
      have hs : ss[i]? = some ss[i] := List.getElem?_eq_getElem hi
      obtain ⟨p, rfl, hp⟩ := hI.2 i x _ hx hs
      have hp := k.k _ _ hp ni_nil
      have os : StpOk ss[i] := ok _ (List.getElem_mem hi)
      walk_at "w"
      refine ⟨rfl, ?_⟩
      walk_at "w"
      intro D2 nD2
      refine lc_tup (xs := stepVs ss[i]) (fun j H2 => Kp [] H' H2 ∧ H2 D2 = some (.lst (((wordsOf ss[i]).take j).map V.str))) ⟨kp_new Kp.refl nD2, upd_same⟩ (fun j H2 _ h => sq_t (h.1.k _ _ hp ni_nil)) (fun j y H2 hy h => ?_) (fun H2 h => ?_)
      · obtain ⟨k2, hD2⟩ := h
        have fin : ∀ z : Str, (wordsOf ss[i])[j]? = some z → ∃ acc, H2 D2 = some (.lst acc) ∧ acc.length < sizeLine ∧ Kp [] H' (upd H2 D2 (.lst (acc ++ [V.str z]))) ∧ upd H2 D2 (.lst (acc ++ [V.str z])) D2 = some (.lst (((wordsOf ss[i]).take (j + 1)).map V.str)) := by
          intro z hz
          refine ⟨_, hD2, ?_, kp_setn nD2 k2, ?_⟩
          · have a : (wordsOf ss[i]).length ≤ 4 := by
              show (ss[i].2.map numT).length + 1 ≤ 4
              rw [List.length_map]
              have := few os
              omega
            rw [List.length_map]
            have b := List.length_take_le' j (wordsOf ss[i])
            walk_at "sz"
          · rw [upd_same, List.take_add_one, hz]
            simp
        cases j with
        | zero =>
          have ey : V.str ss[i].1 = y := Option.some.inj hy
          subst ey
          walk_at "w"
          refine ⟨rfl, ?_⟩
          walk_at "w"
          exact fin _ rfl
        | succ j =>
          have hy2 : (ss[i].2.map V.int)[j]? = some y := hy
          rw [List.getElem?_map] at hy2
          cases e : ss[i].2[j]? with
          | none => rw [e] at hy2; cases hy2
          | some n =>
            rw [e] at hy2
            have ey : V.int n = y := Option.some.inj hy2
            subst ey
            have bn := os.2 n (List.mem_of_getElem? e)
            have lg := log2_small bn.1 bn.2
            walk_at "w"
            refine ⟨rfl, ?_⟩
            walk_at "w"
            refine fin _ ?_
            show (ss[i].2.map numT)[j]? = _
            rw [List.getElem?_map, e]
            rfl
      · obtain ⟨k2, hD2⟩ := h
        have hD2 : H2 D2 = some (.lst ((wordsOf ss[i]).map V.str)) := by
          have el : (stepVs ss[i]).length = (wordsOf ss[i]).length := by
            show (ss[i].2.map V.int).length + 1 = (ss[i].2.map numT).length + 1
            rw [List.length_map, List.length_map]
          rw [hD2, el, List.take_length]
        refine w_join (sq_l hD2) (words_sum os) ?_
        refine ⟨_, by walk_at "hg", ?_, by walk_at "kp", ?_⟩
        · rw [List.length_map, List.length_map]
          have b := List.length_take_le' i ss
          walk_at "sz"
        · rw [upd_same]
          show some (HO.lst (((ss.take i).map rowOf).map V.str ++ [V.str (rowOf ss[i])])) = _
          rw [List.map_map, List.map_map, ← take_snoc hs]
          rfl
    · obtain ⟨k, hD⟩ := h
      rw [hI.1, List.take_length] at hD
      refine w_join (sq_l hD) (rows_sum ok hl) ?_
      exact q _ k
theorem row_asc {s : Stp} (h : StpOk s) : asc (rowOf s) := by
  intro c hc
  unfold rowOf at hc
  rw [join_eq, tl_join] at hc
  have hw : ∀ p ∈ shapes, ∀ c ∈ tl p.1, c < 1114112 := by decide +kernel
  have hb : ∀ c ∈ tl (" " : Str), c < 1114112 := by decide +kernel
  rcases mem_joinL hc with m | ⟨p, hp, m⟩
  · exact hb c m
  · obtain ⟨x, hx, rfl⟩ := List.mem_map.mp hp
    rcases List.mem_cons.mp hx with rfl | hx
    · exact hw (s.1, s.2.length) (lookup_mem h.1) c m
    · obtain ⟨n, hn, rfl⟩ := List.mem_map.mp hx
      rw [tl_numT (h.2 n hn).1] at m
      have r := numL_digits _ c m
      omega
def spRead (K : PySem.W.Frag) : Sp := fun vs H Q _ => ∃ (ss : List Stp), vs = [.str (textOf ss)] ∧ (∀ s ∈ ss, StpOk s) ∧ ss.length ≤ 1000 ∧ ∀ H' p xs, Kp [] H H' → H p = none → H' p = some (.lst xs) → StepsIn H' xs ss → Q (.ref p) H'
theorem scRead : FnScope ["text", "found", "number", "row", "step"] ["text"] (defScope sRead) := ⟨rfl, rfl, rfl, by decide +kernel, rfl, by decide +kernel, by decide +kernel⟩
theorem ok_read {f fS : Addr} {fd fdS : FuncData} (F : Fun K "read" "read" sRead f fd) (T : Txt K mg)
    (FS : Fun K "step_of" "step_of" sStep fS fdS) (bS : Binds K fdS ["row"] []) (gSt : mg "step_of" = some (.ref fS)) (GS : FnOk P w K mg base CX0 2 fS fdS ["row"] spStepOf) : FnOk P w K mg base CX0 3 f fd ["text"] (spRead K) := by
  refine F.ok scRead (fun vs H Q E h => ?_) (fun cdv A outer s H vs Q E hr h => ?_)
  · obtain ⟨ss, rfl, _⟩ := h
    rfl
  · obtain ⟨ss, rfl, ok, hl, q⟩ := h
    have hu := hu_of hr
    have lt := text_len ok hl
    refine ⟨_, (pss_cons (ps_set (i := 1) scRead.nd rfl (by first | exact Or.inl rfl | exact Or.inr rfl) (pe_lst pa_nil))
    (pss_cons (ps_for PassesOwn.never rfl (pi_enum (by rfl) T.enumerate (pa_cons (pe_ifExp (pt_cmpR op_ne (pv 0) pe_str (nomark _)) (pe_splitN (pv 0) pe_str) (pe_lst pa_nil)) pa_nil)) (pg_tup rfl (pgs_cons (pg_name (i := 2) scRead.nd rfl (by first | exact Or.inl rfl | exact Or.inr rfl)) (pgs_cons (pg_name (i := 3) scRead.nd rfl (by first | exact Or.inl rfl | exact Or.inr rfl)) pgs_nil)))
      (pss_cons (ps_set (i := 4) scRead.nd rfl (by first | exact Or.inl rfl | exact Or.inr rfl) (pe_call GS (hr.mono (by decide)) (by rfl) gSt FS.kp bS .nil pass0 (pa_cons (pv 3) pa_nil)))
      (pss_cons (ps_if (pt_cmpR op_isN1 (pv 4) pe_non (nomark _)) pss_never pss_nil)
      (pss_one (ps_expr (pe_bm PySem.F.plainAttrs_list PySem.F.slot_list_append PySem.F.type_list_append mt_append (pv 1) (pa_cons (pv 4) pa_nil)))))))
    (pss_one (ps_ret (pv 1))))), ?_⟩
    simp only [cxK, cxK']
    walk_at "w"
    intro o no
    by_cases h0 : ss = []
    · subst h0
      have hz : textOf [] = "" := rfl
      walk_at "w"
      intro p np
      walk_at "w"
      refine for_enum (xs := []) (fun i σ H' => i = 0 ∧ Kp [] H H' ∧ H' p = some (.lst []) ∧ H' o = some (.lst []) ∧ ∃ y2 y3 y4, σ = [some (.str (textOf [])), some (.ref o), y2, y3, y4]) ⟨rfl, by walk_at "kp", upd_same, by walk_at "hg", none, none, none, rfl⟩ (fun i σ H' _ h => sq_l h.2.2.1) (fun i x T σ H' hx _ _ => by simp at hx) (fun σ H' h => ?_)
      obtain ⟨_, k, _, ho, y2, y3, y4, rfl⟩ := h
      walk_at "w"
      exact q _ o [] k (by walk_at "no") ho ⟨rfl, fun i x s hx _ => by simp at hx⟩
    · have hne := text_ne ok h0
      walk_at "w"
      rw [split_text ok h0]
      intro p np
      have npo : p ≠ o := Ne.symm (ne_of_none upd_same np)
      walk_at "w"
      refine for_enum (xs := (ss.map rowOf).map V.str) (fun i σ H' => ∃ xs y2 y3 y4, σ = [some (.str (textOf ss)), some (.ref o), y2, y3, y4] ∧ Kp [] H H' ∧ H' p = some (.lst ((ss.map rowOf).map V.str)) ∧ H' o = some (.lst xs) ∧ StepsIn H' xs (ss.take i)) ⟨[], none, none, none, rfl, by walk_at "kp", upd_same, by walk_at "hg", rfl, fun i x s hx _ => by simp at hx⟩ (fun i σ H' _ h => ?_) (fun i x T σ H' hx h nT => ?_) (fun σ H' h => ?_)
      · obtain ⟨xs, y2, y3, y4, rfl, k, hp, ho, S⟩ := h
        exact sq_l hp
      · obtain ⟨xs, y2, y3, y4, rfl, k, hp, ho, S⟩ := h
        obtain ⟨s, hs, rfl⟩ : ∃ s, ss[i]? = some s ∧ V.str (rowOf s) = x := by
          rw [List.getElem?_map, List.getElem?_map] at hx
          cases e : ss[i]? with
          | none => rw [e] at hx; cases hx
          | some s => rw [e] at hx; exact ⟨s, rfl, Option.some.inj hx⟩
        have os : StpOk s := ok s (List.mem_of_getElem? hs)
        have li : i < ss.length := (List.getElem?_eq_some_iff.mp hs).1
        walk_at "w"
        refine ⟨rowOf s, rfl, by have := row_len os; omega, row_asc os, fun H2 k2 => ?_⟩
        rw [step_row os]
        intro u nu hu2
        walk_at "w"
        have ho2 : H2 o = some (.lst xs) := by walk_at "hg"
        have lx : xs.length = (ss.take i).length := S.1
        rw [List.length_take] at lx
        walk_at "w"
        refine ⟨_, _, _, _, rfl, ?_, ?_, upd_same, ?_⟩
        · walk_at "kp"
        · walk_at "hg"
        · rw [List.take_add_one, hs]
          exact (((S.keep (Kp.of (fun a o e => by walk_at "hg"))).snoc hu2).set ho2)
      · obtain ⟨xs, y2, y3, y4, rfl, k, hp, ho, S⟩ := h
        walk_at "w"
        rw [List.length_map, List.length_map, List.take_length] at S
        exact q _ o xs k (by walk_at "no") ho S
end
end VH

namespace VH
open PySem L2 TL
local macro_rules | `(tactic| walk_at "dT") => `(tactic| first
  | ((with_reducible apply iT); (first | assumption | omega))
  | ((with_reducible apply niT); (first | assumption | omega))
  | ((with_reducible apply sT); (first | assumption | rfl))
  | ((with_reducible apply nsT); (first | assumption | decide))
  | ((with_reducible apply nbT); (first | assumption | omega))
  | ((with_reducible apply decide_eq_true); (first | assumption | omega)))
local macro_rules | `(tactic| walk_at "dF") => `(tactic| first
  | ((with_reducible apply iF); (first | assumption | omega))
  | ((with_reducible apply niF); (first | assumption | omega))
  | ((with_reducible apply sF); (first | assumption | decide))
  | ((with_reducible apply nsF); (first | assumption | rfl))
  | ((with_reducible apply nbF); (first | assumption | omega))
  | ((with_reducible apply decide_eq_false); (first | assumption | omega)))
local macro_rules | `(tactic| walk_at "ne") => `(tactic| first | assumption | (apply Ne.symm; assumption) | (apply ne_of_none <;> assumption) | (apply Ne.symm; apply ne_of_none <;> assumption) | (apply ne_new; assumption; walk_at "hg") | (apply Ne.symm; apply ne_new; assumption; walk_at "hg"))
local macro_rules | `(tactic| walk_at "ni") => `(tactic| first | exact ni_nil | (apply ni_cons; walk_at "ne"; walk_at "ni") | assumption)
local macro_rules | `(tactic| walk_at "hg") => `(tactic| first
  | assumption
  | exact upd_same
  | (apply upd_old; assumption; walk_at "hg")
  | (apply upd_oth; walk_at "ne"; walk_at "hg")
  | (apply kp_get; assumption; walk_at "hg"; walk_at "ni"))
local macro_rules | `(tactic| walk_at "mem") => `(tactic| first | exact List.mem_cons_self | (apply List.mem_cons_of_mem; walk_at "mem") | assumption)
local macro_rules | `(tactic| walk_at "no") => `(tactic| first | assumption | (apply none_of_kp2; assumption; walk_at "kp"))
local macro_rules | `(tactic| walk_at "kp") => `(tactic| first
  | assumption
  | exact Kp.refl
  | (apply kp_new'; assumption; walk_at "kp")
  | (apply kp_setn; assumption; walk_at "kp")
  | (apply kp_set'; walk_at "mem"; walk_at "kp")
  | (apply kp_app; assumption; walk_at "kp")
  | (apply kp_app2; assumption; walk_at "kp"))
local macro_rules | `(tactic| walk_at "sz") => `(tactic| first | assumption | exact sz rfl | (apply szb; omega) | (apply szbl; omega) | (apply szb; simp only [List.length_map, List.length_cons, List.length_nil, List.length_append, List.length_set]; omega) | (apply szbl; simp only [List.length_map, List.length_cons, List.length_nil, List.length_append, List.length_set]; omega))
local macro_rules | `(tactic| walk_at "sq") => `(tactic| first
  | assumption
  | (apply sq_l; walk_at "hg")
  | (apply sq_t; walk_at "hg")
  | (apply sqL_new; assumption; walk_at "sq")
  | (apply sqT_new; assumption; walk_at "sq"))
local macro_rules | `(tactic| walk_at "w1") => `(tactic| first
  | with_reducible refine w_seq ?_
  | ((with_reducible apply w_var); exact rfl)
  | with_reducible refine w_c ?_
  | with_reducible refine w_op ?_
  | with_reducible refine w_I0 ?_
  | ((with_reducible apply w_I); (first | assumption | exact Or.inr ⟨by decide, by decide⟩ | exact Or.inl ⟨by decide, by decide⟩ | exact (by show (0 : Int) < _; decide) | exact ⟨by decide, by decide⟩ | exact Or.inl ⟨by omega, by omega⟩ | exact Or.inr ⟨by omega, by omega⟩ | exact ⟨by omega, by omega⟩ | exact (by show (0 : Int) < _; omega)))
  | with_reducible refine w_cons ?_
  | with_reducible refine w_nil ?_
  | with_reducible refine w_asg ?_
  | with_reducible refine w_gName ?_
  | with_reducible refine w_gSub ?_
  | with_reducible refine w_test ?_
  | with_reducible refine w_B ?_
  | with_reducible refine w_ret ?_
  | with_reducible refine w_drop ?_
  | with_reducible refine w_ifS ?_
  | with_reducible refine w_if ?_
  | with_reducible refine w_un ?_
  | with_reducible refine w_U ?_
  | with_reducible refine w_call ?_
  | with_reducible refine w_cb ?_
  | with_reducible refine w_lst ?_
  | with_reducible refine w_tup ?_
  | with_reducible refine w_bm ?_
  | with_reducible refine w_bm0 ?_
  | with_reducible refine w_m1 ?_
  | with_reducible refine w_for ?_
  | with_reducible refine w_iList ?_
  | with_reducible refine w_iTup ?_
  | with_reducible refine w_iStr ?_
  | with_reducible refine w_iR1 ?_
  | with_reducible refine w_iEnum ?_
  | with_reducible refine w_and ?_
  | with_reducible refine w_or ?_
  | with_reducible refine w_not ?_
  | with_reducible refine w_yes ?_
  | with_reducible refine w_isN ?_
  | ((with_reducible apply w_eq); exact rfl)
  | ((with_reducible apply w_ne); exact rfl)
  | with_reducible refine w_chain ?_
  | with_reducible refine w_andV ?_
  | with_reducible refine w_orV ?_
  | with_reducible refine w_notV ?_
  | with_reducible refine w_bl ?_
  | with_reducible refine w_fld ?_
  | with_reducible refine w_sfld ?_
  | with_reducible refine w_next ?_
  | with_reducible refine w_isZ ?_
  | with_reducible refine w_notZ ?_
  | with_reducible refine w_inS ?_
  | with_reducible refine w_notInS ?_
  | ((with_reducible apply w_ifT); exact rfl)
  | ((with_reducible apply w_ifF); exact rfl)
  | ((with_reducible apply w_ifT); walk_at "dT")
  | ((with_reducible apply w_ifF); walk_at "dF")
  | with_reducible refine w_lc ?_
  | with_reducible refine w_aStr ?_
  | ((with_reducible apply w_itL); walk_at "sq")
  | ((with_reducible apply w_itT); walk_at "sq")
  | ((with_reducible apply w_rng); (first | omega | assumption); (first | omega | assumption))
  | ((with_reducible apply w_enum); walk_at "sq")
  | ((with_reducible apply w_lenS); walk_at "sz")
  | ((with_reducible apply w_split); (first | exact rfl | assumption); walk_at "sz")
  | with_reducible refine w_slice ?_
  | with_reducible refine w_part ?_
  | with_reducible refine w_noPart ?_
  | with_reducible refine w_anInt ?_
  | ((with_reducible apply w_slL); walk_at "sq")
  | ((with_reducible apply w_cat); walk_at "hg"; walk_at "hg"; walk_at "sz")
  | ((with_reducible apply w_newSz); walk_at "sz")
  | ((with_reducible apply w_append); walk_at "hg"; walk_at "sz")
  | ((with_reducible apply w_tyD); walk_at "hg")
  | ((with_reducible apply w_gTup); walk_at "sq"; exact rfl)
  | with_reducible refine w_gCons ?_
  | with_reducible refine w_gNil ?_
  | with_reducible refine w_kget2 ?_
  | with_reducible refine w_same ?_
  | ((with_reducible apply w_kat); assumption)
  | ((with_reducible apply w_in); walk_at "sq"; (first | exact rfl | assumption); (first | assumption | exact rfl))
  | ((with_reducible apply w_strI); assumption)
  | with_reducible refine w_disp ?_
  | with_reducible refine w_pcons ?_
  | with_reducible refine w_pnil ?_
  | with_reducible refine w_dget2 ?_
  | ((with_reducible apply w_isD); walk_at "hg")
  | ((with_reducible apply w_dgS); walk_at "hg")
  | ((with_reducible apply w_dupd); walk_at "ne"; walk_at "hg"; walk_at "hg"; (first | decide | walk_at "sz"))
  | ((with_reducible apply w_catS); walk_at "sz")
  | ((with_reducible apply w_slT); walk_at "sq"; assumption)
  | ((with_reducible apply w_ixS); walk_at "sz"; (first | assumption | exact rfl))
  | ((with_reducible apply w_intS); assumption; (first | assumption | omega))
  | ((with_reducible apply w_isi); (first | exact tx_N | exact tx_B | exact tx_I | exact tx_S | (apply tx_L; walk_at "sq") | (apply tx_T; walk_at "sq")); (first | (refine (?_ : _ = some true); decide +kernel) | (refine (?_ : _ = some false); decide +kernel)))
  | ((with_reducible apply w_lenL); walk_at "sq")
  | ((with_reducible apply w_lenT); walk_at "sq")
  | ((with_reducible apply w_listL); walk_at "sq")
  | ((with_reducible apply w_listT); walk_at "sq")
  | ((with_reducible apply w_tupL); walk_at "sq")
  | with_reducible refine w_intI ?_
  | with_reducible refine w_intB ?_
  | with_reducible refine w_strS ?_
  | ((with_reducible apply w_ixXL); walk_at "sq"; (first | exact rfl | exact atI_0 | assumption))
  | ((with_reducible apply w_ixXT); walk_at "sq"; (first | exact rfl | exact atI_0 | assumption))
  | ((with_reducible apply w_tyL); walk_at "sq")
  | with_reducible refine w_tyS ?_
  | ((with_reducible apply w_popAt0); walk_at "hg")
  | ((with_reducible apply w_ixL); walk_at "sq"; (first | exact rfl | exact atI_0 | assumption))
  | ((with_reducible apply w_ixT); walk_at "sq"; (first | exact rfl | exact atI_0 | assumption))
  | ((with_reducible apply w_setL); walk_at "hg"; (first | exact rfl | exact ixN_0)))
local macro_rules | `(tactic| walk_at "w") => `(tactic| repeat walk_at "w1")

section
variable {P : Program} {w : World} {K : PySem.W.Frag} {mg : Str → Option Value} {base : Heap}
def wordsL : List Str := ((["make", "grow", "mirror", "read", "write", "write", "step", "step", "drop", "leave", "stay"] : List Str) ++ (["room", "lacks", "lost", "volumes", "places", "copying", "lose", "bring", "arm"] : List Str)) ++ (["again", "make", "step", "bring"] : List Str)
def countsL : List (Key × V) := mergeK (mergeK [] [(Sum.inr "make", .int 3), (Sum.inr "grow", .int 2), (Sum.inr "mirror", .int 2), (Sum.inr "read", .int 2), (Sum.inr "write", .int 3), (Sum.inr "bring", .int 2), (Sum.inr "step", .int 0), (Sum.inr "lacks", .int 0), (Sum.inr "lost", .int 0)]) (mergeK [] [(Sum.inr "volumes", .int 0), (Sum.inr "copying", .int 0), (Sum.inr "again", .int 0)])
theorem words_shape : (wordsL.all fun w => match shapeOf w with | some n => decide ((valV countsL (Sum.inr w)).getD (.int 1) = .int (n : Int)) && decide (n ≤ 3) | none => false) = true := by decide +kernel
theorem word_shape {w : Str} (h : w ∈ wordsL) : ∃ n, shapeOf w = some n ∧ (valV countsL (Sum.inr w)).getD (.int 1) = .int (n : Int) ∧ n ≤ 3 := by
  have a := List.all_eq_true.mp words_shape w h
  cases e : shapeOf w with
  | none => rw [e] at a; cases a
  | some n =>
    rw [e] at a
    rw [Bool.and_eq_true, decide_eq_true_eq, decide_eq_true_eq] at a
    exact ⟨n, rfl, a.1, a.2⟩
def spAny : Sp := fun vs H Q _ => ∃ (b l : Addr) (ns : List Int) (s : Int), vs = [.ref b] ∧ Box H b l ns s ∧ b ≠ l ∧
  ∀ H' ns' s' p st, Kp [b, l] H H' → Box H' b l ns' s' → H p = none → H' p = some (.tup (stepVs st)) → StpOk st → Q (.ref p) H'
theorem scAny : FnScope ["_law_box", "_law_words", "_law_counts", "_law_word", "_law_numbers", "_law_k"] ["_law_box"] (defScope sAny) := ⟨rfl, rfl, rfl, by decide +kernel, rfl, by decide +kernel, by decide +kernel⟩
theorem ok_any {f fT : Addr} {fd fdT : FuncData} (F : Fun K "_law_anystep" "_law_anystep" sAny f fd) (T : Txt K mg)
    (FT : Fun K "_law_take" "_law_take" sTake fT fdT) (bT : Binds K fdT ["_law_box", "_law_many"] []) (gT : mg "_law_take" = some (.ref fT)) (GT : FnOk P w K mg base CX0 1 fT fdT ["_law_box", "_law_many"] spTake) : FnOk P w K mg base CX0 2 f fd ["_law_box"] spAny := by
  refine F.ok scAny (fun vs H Q E h => ?_) (fun cdv A outer s H vs Q E hr h => ?_)
  · obtain ⟨b, l, ns, s, rfl, _⟩ := h
    rfl
  · obtain ⟨b, l, ns, s, rfl, B, nbl, q⟩ := h
    have hu := hu_of hr
    have eb := B.b
    have el := B.l
    refine ⟨_, (pss_cons (ps_set (i := 1) scAny.nd rfl (by first | exact Or.inl rfl | exact Or.inr rfl) (pe_lst (pa_cons pe_str (pa_cons pe_str (pa_cons pe_str (pa_cons pe_str (pa_cons pe_str (pa_cons pe_str (pa_cons pe_str (pa_cons pe_str (pa_cons pe_str (pa_cons pe_str (pa_cons pe_str pa_nil)))))))))))))
    (pss_cons (ps_set (i := 1) scAny.nd rfl (by first | exact Or.inl rfl | exact Or.inr rfl) (pe_op op_cat (pv 1) (pe_lst (pa_cons pe_str (pa_cons pe_str (pa_cons pe_str (pa_cons pe_str (pa_cons pe_str (pa_cons pe_str (pa_cons pe_str (pa_cons pe_str (pa_cons pe_str pa_nil))))))))))))
    (pss_cons (ps_set (i := 1) scAny.nd rfl (by first | exact Or.inl rfl | exact Or.inr rfl) (pe_op op_cat (pv 1) (pe_lst (pa_cons pe_str (pa_cons pe_str (pa_cons pe_str (pa_cons pe_str pa_nil)))))))
    (pss_cons (ps_set (i := 2) scAny.nd rfl (by first | exact Or.inl rfl | exact Or.inr rfl) (pe_disp (pps_cons pe_str pe_int (pps_cons pe_str pe_int (pps_cons pe_str pe_int (pps_cons pe_str pe_int (pps_cons pe_str pe_int (pps_cons pe_str pe_int (pps_cons pe_str pe_int (pps_cons pe_str pe_int (pps_cons pe_str pe_int pps_nil))))))))) (by rfl) (by rfl) (fun z => by cases z) (by decide)))
    (pss_cons (ps_expr (pe_bm PySem.F.plainAttrs_dict PySem.F.slot_dict_update PySem.F.type_dict_update mt_dupdate (pv 2) (pa_cons (pe_disp (pps_cons pe_str pe_int (pps_cons pe_str pe_int (pps_cons pe_str pe_int pps_nil))) (by rfl) (by rfl) (fun z => by cases z) (by decide)) pa_nil)))
    (pss_cons (ps_set (i := 3) scAny.nd rfl (by first | exact Or.inl rfl | exact Or.inr rfl) (pe_ix ix_list (pv 1) (pe_call GT (hr.mono (by decide)) (by rfl) gT FT.kp bT .nil pass0 (pa_cons (pv 0) (pa_cons pe_int pa_nil))) (fun _ _ => rfl)))
    (pss_cons (ps_set (i := 4) scAny.nd rfl (by first | exact Or.inl rfl | exact Or.inr rfl) (pe_lst pa_nil))
    (pss_cons (ps_for PassesOwn.never rfl (pi_range1 (by rfl) T.range (pa_cons (pe_dget2 hu (pv 2) (pv 3) pe_int ⟨rfl, rfl, rfl, rfl⟩) pa_nil)) (pg_name (i := 5) scAny.nd rfl (by first | exact Or.inl rfl | exact Or.inr rfl))
      (pss_one (ps_expr (pe_bm PySem.F.plainAttrs_list PySem.F.slot_list_append PySem.F.type_list_append mt_append (pv 4) (pa_cons (pe_call GT (hr.mono (by decide)) (by rfl) gT FT.kp bT .nil pass0 (pa_cons (pv 0) (pa_cons (pe_ix ix_list (pe_lst (pa_cons pe_int (pa_cons pe_int (pa_cons pe_int (pa_cons pe_int (pa_cons pe_int pa_nil)))))) (pe_call GT (hr.mono (by decide)) (by rfl) gT FT.kp bT .nil pass0 (pa_cons (pv 0) (pa_cons pe_int pa_nil))) (fun _ _ => rfl)) pa_nil))) pa_nil)))))
    (pss_one (ps_ret (pe_callTy cr_tupOf (by rfl) T.tuple (by decide +kernel) (pa_cons (pe_op op_cat (pe_lst (pa_cons (pv 3) pa_nil)) (pv 4)) pa_nil)))))))))))), ?_⟩
    simp only [cxK, cxK']
    walk_at "w"
    intro p1 n1
    walk_at "w"
    intro p2 n2
    walk_at "w"
    intro p3 n3
    walk_at "w"
    intro p4 n4
    walk_at "w"
    intro p5 n5
    walk_at "w"
    intro p6 n6
    walk_at "w"
    refine ⟨upd_same, [(Sum.inr "make", .int 3), (Sum.inr "grow", .int 2), (Sum.inr "mirror", .int 2), (Sum.inr "read", .int 2), (Sum.inr "write", .int 3), (Sum.inr "bring", .int 2), (Sum.inr "step", .int 0), (Sum.inr "lacks", .int 0), (Sum.inr "lost", .int 0)], rfl, by decide, ?_⟩
    walk_at "w"
    intro p7 n7
    walk_at "w"
    refine ⟨upd_same, [(Sum.inr "volumes", .int 0), (Sum.inr "copying", .int 0), (Sum.inr "again", .int 0)], rfl, by decide, ?_⟩
    walk_at "w"
    have ne56 : p5 ≠ p6 := by walk_at "ne"
    have ne57 : p5 ≠ p7 := by walk_at "ne"
    have n5' : H p5 = none := by walk_at "no"
    have n6' : H p6 = none := by walk_at "no"
    have f5 : p5 ≠ b ∧ p5 ≠ l := ⟨Ne.symm (ne_of_none eb n5'), Ne.symm (ne_of_none el n5')⟩
    have f6 : p6 ≠ b ∧ p6 ≠ l := ⟨Ne.symm (ne_of_none eb n6'), Ne.symm (ne_of_none el n6')⟩
    obtain ⟨f5b, f5l⟩ := f5
    obtain ⟨f6b, f6l⟩ := f6
    have n7' : H p7 = none := by walk_at "no"
    refine w_gen (fun Hx => Kp [] H Hx ∧ Hx p5 = some (.lst (wordsL.map V.str)) ∧ Hx p6 = some (.dK countsL)) ⟨by walk_at "kp", by walk_at "hg", upd_same⟩ ?_
    rintro H7 ⟨k70, e5, e6⟩
    have eb7 := k70.k _ _ eb ni_nil
    have el7 := k70.k _ _ el ni_nil
    have k7 : Kp [b, l] H H7 := kp_app k70 Kp.refl
    clear n1 n2 n3 n4 n5 n6 n7
    refine ⟨b, l, ns, s, 24, rfl, ⟨eb7, el7, B.s0, B.s1⟩, nbl, by decide, by decide, fun H8 ns8 s8 r8 k8 B8 r0 r1 => ?_⟩
    obtain ⟨w8, hw8⟩ : ∃ w8, wordsL[r8.toNat]? = some w8 := ⟨_, List.getElem?_eq_getElem (by
      have e : wordsL.length = 24 := by decide +kernel
      omega)⟩
    have a8 : atI (wordsL.map V.str) r8 = some (.str w8) := by
      refine at_of (j := r8.toNat) (by omega) ?_
      rw [List.getElem?_map, hw8]
      rfl
    obtain ⟨cnt, hc, hv, h3⟩ := word_shape (List.mem_of_getElem? hw8)
    have e5 := k8.k _ _ e5 (by walk_at "ni")
    have e6 := k8.k _ _ e6 (by walk_at "ni")
    have eb8 := B8.b
    have el8 := B8.l
    have k8 := kp_app2 k8 k7
    walk_at "w"
    intro p9 n9
    walk_at "w"
    rw [hv]
    walk_at "w"
    have n9' : H p9 = none := by
      cases e : H p9 with
      | none => rfl
      | some o =>
        have z := k8.k p9 o e (ni_cons (Ne.symm (ne_of_none eb8 n9)) (ni_cons (Ne.symm (ne_of_none el8 n9)) ni_nil))
        rw [n9] at z
        cases z
    have f9b : p9 ≠ b := Ne.symm (ne_of_none eb8 n9)
    have f9l : p9 ≠ l := Ne.symm (ne_of_none el8 n9)
    refine for_range (fun i σ H' => ∃ (nums ns' : List Int) (s' : Int) (y : Option V), σ = [some (.ref b), some (.ref p5), some (.ref p6), some (.str w8), some (.ref p9), y] ∧ Kp [b, l] H H' ∧ Box H' b l ns' s' ∧ H' p9 = some (.lst (nums.map V.int)) ∧ nums.length = i ∧ ∀ n ∈ nums, 0 ≤ n ∧ n < 10000)
      ⟨[], ns8, s8, none, rfl, by walk_at "kp", ⟨by walk_at "hg", by walk_at "hg", B8.s0, B8.s1⟩, upd_same, rfl, fun _ h => by cases h⟩ (fun i σ H' hi h => ?_) (fun σ H' h => ?_)
    · obtain ⟨nums, ns9, s9, y, rfl, k9, B9, e9, hl9, hn9⟩ := h
      have eb9 := B9.b
      have el9 := B9.l
      walk_at "w"
      intro u nu
      have fub : u ≠ b := Ne.symm (ne_of_none eb9 nu)
      have ful : u ≠ l := Ne.symm (ne_of_none el9 nu)
      walk_at "w"
      refine ⟨b, l, ns9, s9, 5, rfl, ⟨by walk_at "hg", by walk_at "hg", B9.s0, B9.s1⟩, nbl, by decide, by decide, fun H10 ns10 s10 r10 k10 B10 q0 q1 => ?_⟩
      obtain ⟨m, hm, m0, m1⟩ : ∃ m : Int, atI [V.int 4, V.int 4, V.int 13, V.int 1001, V.int 9999] r10 = some (.int m) ∧ 0 < m ∧ m ≤ 9999 := by
        rcases (show r10 = 0 ∨ r10 = 1 ∨ r10 = 2 ∨ r10 = 3 ∨ r10 = 4 by omega) with rfl | rfl | rfl | rfl | rfl
        · exact ⟨4, rfl, by decide, by decide⟩
        · exact ⟨4, rfl, by decide, by decide⟩
        · exact ⟨13, rfl, by decide, by decide⟩
        · exact ⟨1001, rfl, by decide, by decide⟩
        · exact ⟨9999, rfl, by decide, by decide⟩
      have eu : H10 u = some (.lst [V.int 4, V.int 4, V.int 13, V.int 1001, V.int 9999]) := k10.k _ _ upd_same (by walk_at "ni")
      have e10 : H10 p9 = some (.lst (nums.map V.int)) := k10.k _ _ (by walk_at "hg") (by walk_at "ni")
      have eb10 := B10.b
      have el10 := B10.l
      walk_at "w"
      refine ⟨b, l, ns10, s10, m, rfl, B10, nbl, m0, by omega, fun H11 ns11 s11 r11 k11 B11 t0 t1 => ?_⟩
      have e11 : H11 p9 = some (.lst (nums.map V.int)) := k11.k _ _ e10 (by walk_at "ni")
      have eb11 := B11.b
      have el11 := B11.l
      walk_at "w"
      refine ⟨nums ++ [r11], ns11, s11, _, rfl, ?_, ⟨by walk_at "hg", by walk_at "hg", B11.s0, B11.s1⟩, ?_, ?_, ?_⟩
      · walk_at "kp"
      · rw [upd_same, List.map_append]
        rfl
      · rw [List.length_append, hl9]
        rfl
      · intro n hn
        rcases List.mem_append.mp hn with hn | hn
        · exact hn9 n hn
        · rw [List.mem_singleton.mp hn]
          omega
    · obtain ⟨nums, ns9, s9, y, rfl, k9, B9, e9, hl9, hn9⟩ := h
      have eb9 := B9.b
      have el9 := B9.l
      walk_at "w"
      intro u1 nu1
      walk_at "w"
      intro u2 nu2
      walk_at "w"
      intro u3 nu3
      have k12 : Kp [b, l] H (upd (upd (upd H' u1 (.lst [V.str w8])) u2 (.lst ([V.str w8] ++ nums.map V.int))) u3 (.tup ([V.str w8] ++ nums.map V.int))) := by walk_at "kp"
      refine q _ ns9 s9 u3 (w8, nums) k12 ⟨by walk_at "hg", by walk_at "hg", B9.s0, B9.s1⟩ ?_ upd_same ⟨?_, hn9⟩
      · have f1 : b ≠ u3 := by walk_at "ne"
        have f2 : l ≠ u3 := by walk_at "ne"
        cases e : H u3 with
        | none => rfl
        | some o =>
          have z := k9.k u3 o e (ni_cons (Ne.symm f1) (ni_cons (Ne.symm f2) ni_nil))
          have z2 := none_of_upd (none_of_upd nu3)
          rw [z2] at z
          cases z
      · show shapeOf w8 = some nums.length
        rw [hc, hl9]
        congr 1
end
end VH

namespace VH
open PySem L2 TL
local macro_rules | `(tactic| walk_at "dT") => `(tactic| first
  | ((with_reducible apply iT); (first | assumption | omega))
  | ((with_reducible apply niT); (first | assumption | omega))
  | ((with_reducible apply sT); (first | assumption | rfl))
  | ((with_reducible apply nsT); (first | assumption | decide))
  | ((with_reducible apply nbT); (first | assumption | omega))
  | ((with_reducible apply decide_eq_true); (first | assumption | omega)))
local macro_rules | `(tactic| walk_at "dF") => `(tactic| first
  | ((with_reducible apply iF); (first | assumption | omega))
  | ((with_reducible apply niF); (first | assumption | omega))
  | ((with_reducible apply sF); (first | assumption | decide))
  | ((with_reducible apply nsF); (first | assumption | rfl))
  | ((with_reducible apply nbF); (first | assumption | omega))
  | ((with_reducible apply decide_eq_false); (first | assumption | omega)))
local macro_rules | `(tactic| walk_at "ne") => `(tactic| first | assumption | (apply Ne.symm; assumption) | (apply ne_of_none <;> assumption) | (apply Ne.symm; apply ne_of_none <;> assumption) | (apply ne_new; assumption; walk_at "hg") | (apply Ne.symm; apply ne_new; assumption; walk_at "hg"))
local macro_rules | `(tactic| walk_at "ni") => `(tactic| first | exact ni_nil | (apply ni_cons; walk_at "ne"; walk_at "ni") | assumption)
local macro_rules | `(tactic| walk_at "hg") => `(tactic| first
  | assumption
  | exact upd_same
  | (apply upd_old; assumption; walk_at "hg")
  | (apply upd_oth; walk_at "ne"; walk_at "hg")
  | (apply kp_get; assumption; walk_at "hg"; walk_at "ni"))
local macro_rules | `(tactic| walk_at "mem") => `(tactic| first | exact List.mem_cons_self | (apply List.mem_cons_of_mem; walk_at "mem") | assumption)
local macro_rules | `(tactic| walk_at "no") => `(tactic| first | assumption | (apply none_of_kp2; assumption; walk_at "kp"))
local macro_rules | `(tactic| walk_at "kp") => `(tactic| first
  | assumption
  | exact Kp.refl
  | (apply kp_new'; assumption; walk_at "kp")
  | (apply kp_setn; assumption; walk_at "kp")
  | (apply kp_set'; walk_at "mem"; walk_at "kp")
  | (apply kp_app; assumption; walk_at "kp")
  | (apply kp_app2; assumption; walk_at "kp"))
local macro_rules | `(tactic| walk_at "sz") => `(tactic| first | assumption | exact sz rfl | (apply szb; omega) | (apply szbl; omega) | (apply szb; simp only [List.length_map, List.length_cons, List.length_nil, List.length_append, List.length_set]; omega) | (apply szbl; simp only [List.length_map, List.length_cons, List.length_nil, List.length_append, List.length_set]; omega))
local macro_rules | `(tactic| walk_at "sq") => `(tactic| first
  | assumption
  | (apply sq_l; walk_at "hg")
  | (apply sq_t; walk_at "hg")
  | (apply sqL_new; assumption; walk_at "sq")
  | (apply sqT_new; assumption; walk_at "sq"))
local macro_rules | `(tactic| walk_at "w1") => `(tactic| first
  | with_reducible refine w_seq ?_
  | ((with_reducible apply w_var); exact rfl)
  | with_reducible refine w_c ?_
  | with_reducible refine w_op ?_
  | with_reducible refine w_I0 ?_
  | ((with_reducible apply w_I); (first | assumption | exact Or.inr ⟨by decide, by decide⟩ | exact Or.inl ⟨by decide, by decide⟩ | exact (by show (0 : Int) < _; decide) | exact ⟨by decide, by decide⟩ | exact Or.inl ⟨by omega, by omega⟩ | exact Or.inr ⟨by omega, by omega⟩ | exact ⟨by omega, by omega⟩ | exact (by show (0 : Int) < _; omega)))
  | with_reducible refine w_cons ?_
  | with_reducible refine w_nil ?_
  | with_reducible refine w_asg ?_
  | with_reducible refine w_gName ?_
  | with_reducible refine w_gSub ?_
  | with_reducible refine w_test ?_
  | with_reducible refine w_B ?_
  | with_reducible refine w_ret ?_
  | with_reducible refine w_drop ?_
  | with_reducible refine w_ifS ?_
  | with_reducible refine w_if ?_
  | with_reducible refine w_un ?_
  | with_reducible refine w_U ?_
  | with_reducible refine w_call ?_
  | with_reducible refine w_cb ?_
  | with_reducible refine w_lst ?_
  | with_reducible refine w_tup ?_
  | with_reducible refine w_bm ?_
  | with_reducible refine w_bm0 ?_
  | with_reducible refine w_m1 ?_
  | with_reducible refine w_for ?_
  | with_reducible refine w_iList ?_
  | with_reducible refine w_iTup ?_
  | with_reducible refine w_iStr ?_
  | with_reducible refine w_iR1 ?_
  | with_reducible refine w_iEnum ?_
  | with_reducible refine w_and ?_
  | with_reducible refine w_or ?_
  | with_reducible refine w_not ?_
  | with_reducible refine w_yes ?_
  | with_reducible refine w_isN ?_
  | ((with_reducible apply w_eq); exact rfl)
  | ((with_reducible apply w_ne); exact rfl)
  | with_reducible refine w_chain ?_
  | with_reducible refine w_andV ?_
  | with_reducible refine w_orV ?_
  | with_reducible refine w_notV ?_
  | with_reducible refine w_bl ?_
  | with_reducible refine w_fld ?_
  | with_reducible refine w_sfld ?_
  | with_reducible refine w_next ?_
  | with_reducible refine w_isZ ?_
  | with_reducible refine w_notZ ?_
  | with_reducible refine w_inS ?_
  | with_reducible refine w_notInS ?_
  | ((with_reducible apply w_ifT); exact rfl)
  | ((with_reducible apply w_ifF); exact rfl)
  | ((with_reducible apply w_ifT); walk_at "dT")
  | ((with_reducible apply w_ifF); walk_at "dF")
  | with_reducible refine w_lc ?_
  | with_reducible refine w_aStr ?_
  | ((with_reducible apply w_itL); walk_at "sq")
  | ((with_reducible apply w_itT); walk_at "sq")
  | ((with_reducible apply w_rng); (first | omega | assumption); (first | omega | assumption))
  | ((with_reducible apply w_enum); walk_at "sq")
  | ((with_reducible apply w_lenS); walk_at "sz")
  | ((with_reducible apply w_split); (first | exact rfl | assumption); walk_at "sz")
  | with_reducible refine w_slice ?_
  | with_reducible refine w_part ?_
  | with_reducible refine w_noPart ?_
  | with_reducible refine w_anInt ?_
  | ((with_reducible apply w_slL); walk_at "sq")
  | ((with_reducible apply w_cat); walk_at "hg"; walk_at "hg"; walk_at "sz")
  | ((with_reducible apply w_newSz); walk_at "sz")
  | ((with_reducible apply w_append); walk_at "hg"; walk_at "sz")
  | ((with_reducible apply w_tyD); walk_at "hg")
  | ((with_reducible apply w_gTup); walk_at "sq"; exact rfl)
  | with_reducible refine w_gCons ?_
  | with_reducible refine w_gNil ?_
  | with_reducible refine w_kget2 ?_
  | with_reducible refine w_same ?_
  | ((with_reducible apply w_kat); assumption)
  | ((with_reducible apply w_in); walk_at "sq"; (first | exact rfl | assumption); (first | assumption | exact rfl))
  | ((with_reducible apply w_strI); assumption)
  | with_reducible refine w_disp ?_
  | with_reducible refine w_pcons ?_
  | with_reducible refine w_pnil ?_
  | with_reducible refine w_dget2 ?_
  | ((with_reducible apply w_isD); walk_at "hg")
  | ((with_reducible apply w_dgS); walk_at "hg")
  | ((with_reducible apply w_dupd); walk_at "ne"; walk_at "hg"; walk_at "hg"; (first | decide | walk_at "sz"))
  | ((with_reducible apply w_catS); walk_at "sz")
  | ((with_reducible apply w_slT); walk_at "sq"; assumption)
  | ((with_reducible apply w_ixS); walk_at "sz"; (first | assumption | exact rfl))
  | ((with_reducible apply w_intS); assumption; (first | assumption | omega))
  | ((with_reducible apply w_isi); (first | exact tx_N | exact tx_B | exact tx_I | exact tx_S | (apply tx_L; walk_at "sq") | (apply tx_T; walk_at "sq")); (first | (refine (?_ : _ = some true); decide +kernel) | (refine (?_ : _ = some false); decide +kernel)))
  | ((with_reducible apply w_lenL); walk_at "sq")
  | ((with_reducible apply w_lenT); walk_at "sq")
  | ((with_reducible apply w_listL); walk_at "sq")
  | ((with_reducible apply w_listT); walk_at "sq")
  | ((with_reducible apply w_tupL); walk_at "sq")
  | with_reducible refine w_intI ?_
  | with_reducible refine w_intB ?_
  | with_reducible refine w_strS ?_
  | ((with_reducible apply w_ixXL); walk_at "sq"; (first | exact rfl | exact atI_0 | assumption))
  | ((with_reducible apply w_ixXT); walk_at "sq"; (first | exact rfl | exact atI_0 | assumption))
  | ((with_reducible apply w_tyL); walk_at "sq")
  | with_reducible refine w_tyS ?_
  | ((with_reducible apply w_popAt0); walk_at "hg")
  | ((with_reducible apply w_ixL); walk_at "sq"; (first | exact rfl | exact atI_0 | assumption))
  | ((with_reducible apply w_ixT); walk_at "sq"; (first | exact rfl | exact atI_0 | assumption))
  | ((with_reducible apply w_setL); walk_at "hg"; (first | exact rfl | exact ixN_0)))
local macro_rules | `(tactic| walk_at "w") => `(tactic| repeat walk_at "w1")

section
variable {P : Program} {w : World} {K : PySem.W.Frag} {mg : Str → Option Value} {base : Heap}
def stepD (s : Stp) : PyData := .tuple (.str s.1 :: s.2.map PyData.int)
theorem dpAll_ints {H : Hp} : ∀ (ns : List Int), DpAll K H (ns.map V.int) (ns.map PyData.int)
  | [] => .nil
  | n :: r => .cons (.int n) (dpAll_ints r)
theorem dp_step {H : Hp} {p : Addr} {s : Stp} (h : H p = some (.tup (stepVs s))) : Dp K H (.ref p) (stepD s) := .tup (sq_t h) (.cons (.str _) (dpAll_ints _))
theorem dpAll_steps {H : Hp} : ∀ {xs : List V} {ss : List Stp}, StepsIn H xs ss → DpAll K H xs (ss.map stepD)
  | [], [], _ => .nil
  | [], _ :: _, S => by have := S.1; simp at this
  | _ :: _, [], S => by have := S.1; simp at this
  | x :: xs, s :: ss, S => by
    obtain ⟨p, rfl, h⟩ := S.2 0 x s rfl rfl
    exact .cons (dp_step h) (dpAll_steps ⟨by have := S.1; simpa using this, fun i y t a b => S.2 (i + 1) y t a b⟩)
theorem dp_steps {H : Hp} {a : Addr} {xs : List V} {ss : List Stp} (s : SqL K H a xs) (S : StepsIn H xs ss) : Dp K H (.ref a) (.list (ss.map stepD)) := .lst s (dpAll_steps S)
theorem okD_ints (n : Nat) : ∀ (ns : List Int), (ns.map PyData.int).all (okD n) = true
  | [] => rfl
  | i :: r => by
    show (okD n (.int i) && (r.map PyData.int).all (okD n)) = true
    rw [okD_ints n r]
    cases n <;> rfl
theorem okD_str (n : Nat) (z : Str) : okD n (.str z) = true := by cases n <;> rfl
theorem okD_step {s : Stp} (h : StpOk s) : okD 1 (stepD s) = true := by
  show (decide ((PyData.str s.1 :: s.2.map PyData.int).length ≤ 100000) && (PyData.str s.1 :: s.2.map PyData.int).all (okD 0)) = true
  have f := few h
  rw [decide_eq_true (by rw [List.length_cons, List.length_map]; omega)]
  show (okD 0 (.str s.1) && (s.2.map PyData.int).all (okD 0)) = true
  rw [okD_ints, okD_str]
  rfl
theorem okD_steps {ss : List Stp} (h : ∀ s ∈ ss, StpOk s) (hl : ss.length ≤ 1000) : okD 2 (.list (ss.map stepD)) = true := by
  show (decide ((ss.map stepD).length ≤ 100000) && (ss.map stepD).all (okD 1)) = true
  rw [decide_eq_true (by rw [List.length_map]; omega), Bool.true_and, List.all_eq_true]
  intro d hd
  obtain ⟨s, hs, rfl⟩ := List.mem_map.mp hd
  exact okD_step (h s hs)
theorem lay_ints : ∀ (ns : List Int), PyData.canLayAll0 (ns.map PyData.int) = true ∧ PyData.depthAll (ns.map PyData.int) = 0
  | [] => ⟨rfl, rfl⟩
  | n :: r => ⟨by show (true && PyData.canLayAll0 (r.map PyData.int)) = true; rw [(lay_ints r).1]; rfl, by show max 0 (PyData.depthAll (r.map PyData.int)) = 0; rw [(lay_ints r).2]; rfl⟩
theorem lay_step {s : Stp} (h : StpOk s) : (stepD s).canLay0 = true ∧ (stepD s).depth ≤ 8 := by
  have hw : ∀ p ∈ shapes, PyData.strOk p.1 = true := by decide +kernel
  refine ⟨?_, ?_⟩
  · show (PyData.strOk s.1 && PyData.canLayAll0 (s.2.map PyData.int)) = true
    rw [hw (s.1, s.2.length) (lookup_mem h.1), (lay_ints s.2).1]
    rfl
  · show max 0 (PyData.depthAll (s.2.map PyData.int)) + 1 ≤ 8
    rw [(lay_ints s.2).2]
    decide
theorem shaped_steps {ss : List Stp} (h : ∀ s ∈ ss, StpOk s) : SeqAt.shaped (.list (ss.map stepD)) = true := shaped_list fun d hd => by
  obtain ⟨s, hs, rfl⟩ := List.mem_map.mp hd
  exact lay_step (h s hs)
theorem eqv_steps {ss : List Stp} (h : ∀ s ∈ ss, StpOk s) : PyData.eqv (.list (ss.map stepD)) (.list (ss.map stepD)) = true := SeqAt.eqv_refl _ (SeqAt.canLay_of_shaped (shaped_steps h))
theorem StepsIn.box {H H' : Hp} {xs : List V} {ss : List Stp} {b l : Addr} {ns : List Int} {s : Int} (S : StepsIn H xs ss) (B : Box H b l ns s) (k : Kp [b, l] H H') : StepsIn H' xs ss :=
  ⟨S.1, fun i x t a c => let ⟨p, e, h⟩ := S.2 i x t a c; ⟨p, e, k.k _ _ h (ni_cons (ne_of h B.b (by intro z; cases z)) (ni_cons (ne_of h B.l (by intro z; cases z)) ni_nil))⟩⟩
theorem Box.keep {H H' : Hp} {b l : Addr} {ns : List Int} {s : Int} (B : Box H b l ns s) (k : Kp [] H H') : Box H' b l ns s := ⟨k.k _ _ B.b ni_nil, k.k _ _ B.l ni_nil, B.s0, B.s1⟩
theorem rowFold_len : ∀ (ns : List Int) (r : Str), (∀ n ∈ ns, 0 ≤ n ∧ n < 10000) → (rowFold r ns).length ≤ r.length + 5 * ns.length
  | [], r, _ => by show r.length ≤ _; omega
  | n :: ns, r, h => by
    have ih := rowFold_len ns (r ++ (" " : Str) ++ numT n) fun m hm => h m (List.mem_cons_of_mem _ hm)
    show (rowFold (r ++ (" " : Str) ++ numT n) ns).length ≤ _
    have a := numT_len (h n List.mem_cons_self).1 (h n List.mem_cons_self).2
    have e : (r ++ (" " : Str) ++ numT n).length = r.length + 1 + (tl (numT n)).length := by
      rw [len_tl, tl_append, tl_append, List.length_append, List.length_append, ← len_tl]
      rfl
    rw [List.length_cons]
    omega
theorem rowFold_snoc (r : Str) (ns : List Int) (n : Int) : rowFold r (ns ++ [n]) = rowFold r ns ++ (" " : Str) ++ numT n := by
  unfold rowFold
  rw [List.foldl_append]
  rfl
def spLaw (K : PySem.W.Frag) : Sp := fun vs H Q _ => ∃ (a : Addr) (ns : List Int), vs = [.ref a] ∧ SqL K H a (ns.map V.int) ∧ ns.length ≤ 63 ∧ ∀ H', Q (.bl true) H'
theorem scLaw : FnScope ["_law_script", "_law_box", "_law_turn", "_law_steps", "_law_k", "_law_rows", "_law_step", "_law_row", "_law_part", "_law_text", "_law_handed", "_law_found"] ["_law_script"] (defScope sLaw) := ⟨rfl, rfl, rfl, by decide +kernel, rfl, by decide +kernel, by decide +kernel⟩
theorem ok_law {f fB fT fA fY fW fR : Addr} {fd fdB fdT fdA fdY fdW fdR : FuncData} (F : Fun K "law" "law" sLaw f fd) (T : Txt K mg)
    (FB : Fun K "_law_begun" "_law_begun" sBegun fB fdB) (bB : Binds K fdB ["_law_script"] []) (gB : mg "_law_begun" = some (.ref fB)) (GB : FnOk P w K mg base CX0 1 fB fdB ["_law_script"] (spBegun K))
    (FT : Fun K "_law_take" "_law_take" sTake fT fdT) (bT : Binds K fdT ["_law_box", "_law_many"] []) (gT : mg "_law_take" = some (.ref fT)) (GT : FnOk P w K mg base CX0 1 fT fdT ["_law_box", "_law_many"] spTake)
    (FA : Fun K "_law_alike" "_law_alike" sAlike fA fdA) (bA : Binds K fdA ["_law_found", "_law_due"] []) (gA : mg "_law_alike" = some (.ref fA)) (GA : FnOk P w K mg base CX0 3 fA fdA ["_law_found", "_law_due"] (spAlike K 3))
    (FY : Fun K "_law_anystep" "_law_anystep" sAny fY fdY) (bY : Binds K fdY ["_law_box"] []) (gY : mg "_law_anystep" = some (.ref fY)) (GY : FnOk P w K mg base CX0 2 fY fdY ["_law_box"] spAny)
    (FW : Fun K "written" "written" sWritten fW fdW) (bW : Binds K fdW ["steps"] []) (gW : mg "written" = some (.ref fW)) (GW : FnOk P w K mg base CX0 1 fW fdW ["steps"] (spWritten K))
    (FR : Fun K "read" "read" sRead fR fdR) (bR : Binds K fdR ["text"] []) (gR : mg "read" = some (.ref fR)) (GR : FnOk P w K mg base CX0 3 fR fdR ["text"] (spRead K)) : FnOk P w K mg base CX0 4 f fd ["_law_script"] (spLaw K) := by
  refine F.ok scLaw (fun vs H Q E h => ?_) (fun cdv A outer s H vs Q E hr h => ?_)
  · obtain ⟨a, ns, rfl, _⟩ := h
    rfl
  · obtain ⟨a, ns, rfl, hS, hl, q⟩ := h
    have hu := hu_of hr
    refine ⟨_, (pss_cons (ps_set (i := 1) scLaw.nd rfl (by first | exact Or.inl rfl | exact Or.inr rfl) (pe_call GB (hr.mono (by decide)) (by rfl) gB FB.kp bB .nil pass0 (pa_cons (pv 0) pa_nil)))
    (pss_cons (ps_for PassesOwn.never rfl (pi_range1 (by rfl) T.range (pa_cons pe_int pa_nil)) (pg_name (i := 2) scLaw.nd rfl (by first | exact Or.inl rfl | exact Or.inr rfl))
      (pss_cons (ps_setLcD (i := 3) (own := [("_law_k", 4)]) rfl scLaw.nd rfl rfl (sw_true rfl rfl rfl (by decide +kernel)) (pi_range1 (by rfl) T.range (pa_cons (pe_call GT (hr.mono (by decide)) (by rfl) gT FT.kp bT .nil pass0 (pa_cons (pv 1) (pa_cons pe_int pa_nil))) pa_nil)) (blkOk_by (N := ["_law_script", "_law_box", "_law_turn", "_law_steps", "_law_k", "_law_rows", "_law_step", "_law_row", "_law_part", "_law_text", "_law_handed", "_law_found"]) (sc := defScope sLaw) (by decide +kernel)) (fun _ _ _ _ _ => (pg_name (i := 4) scLaw.nd rfl (by first | exact Or.inl rfl | exact Or.inr rfl))) (fun _ _ _ _ _ => pts_nil) (fun _ _ _ _ _ => (pe_call GY (hr.mono (by decide)) (by rfl) gY FY.kp bY .nil pass0 (pa_cons (pv 1) pa_nil))))
      (pss_cons (ps_set (i := 5) scLaw.nd rfl (by first | exact Or.inl rfl | exact Or.inr rfl) (pe_lst pa_nil))
      (pss_cons (ps_for PassesOwn.never rfl (pi_list (pv 3)) (pg_name (i := 6) scLaw.nd rfl (by first | exact Or.inl rfl | exact Or.inr rfl))
        (pss_cons (ps_set (i := 7) scLaw.nd rfl (by first | exact Or.inl rfl | exact Or.inr rfl) (pe_ix ix_tup (pv 6) pe_int (fun _ _ => rfl)))
        (pss_cons (ps_for PassesOwn.never rfl (pi_tup (pe_slice sl_tup (pv 6) (po_some pe_int) po_none)) (pg_name (i := 8) scLaw.nd rfl (by first | exact Or.inl rfl | exact Or.inr rfl))
          (pss_one (ps_set (i := 7) scLaw.nd rfl (by first | exact Or.inl rfl | exact Or.inr rfl) (pe_op op_catS (pe_op op_catS (pv 7) pe_str) (pe_callTy cr_strX (by rfl) T.str (by decide +kernel) (pa_cons (pv 8) pa_nil))))))
        (pss_one (ps_expr (pe_bm PySem.F.plainAttrs_list PySem.F.slot_list_append PySem.F.type_list_append mt_append (pv 5) (pa_cons (pv 7) pa_nil)))))))
      (pss_cons (ps_set (i := 9) scLaw.nd rfl (by first | exact Or.inl rfl | exact Or.inr rfl) (pe_joinN pe_str (pv 5)))
      (pss_cons (ps_set (i := 10) scLaw.nd rfl (by first | exact Or.inl rfl | exact Or.inr rfl) (pe_callTy cr_listOf (by rfl) T.list (by decide +kernel) (pa_cons (pv 3) pa_nil)))
      (pss_cons (ps_if (PW.pt (pw_or (pt_not (pt_val (pe_call GA (hr.mono (by decide)) (by rfl) gA FA.kp bA .nil pass0 (pa_cons (pe_call GW (hr.mono (by decide)) (by rfl) gW FW.kp bW .nil pass0 (pa_cons (pv 10) pa_nil)) (pa_cons (pv 9) pa_nil))))) (pw_or1 (pt_cmpR (op_neD hr.units) (pv 10) (pv 3) (nomark _))))) (pss_one (ps_ret pe_bl)) pss_nil)
      (pss_cons (ps_set (i := 11) scLaw.nd rfl (by first | exact Or.inl rfl | exact Or.inr rfl) (pe_call GR (hr.mono (by decide)) (by rfl) gR FR.kp bR .nil pass0 (pa_cons (pv 9) pa_nil)))
      (pss_cons (ps_if (PW.pt (pw_or (pt_not (pt_val (pe_call GA (hr.mono (by decide)) (by rfl) gA FA.kp bA .nil pass0 (pa_cons (pv 11) (pa_cons (pv 3) pa_nil))))) (pw_or1 (pt_cmpR op_ne (pe_call GW (hr.mono (by decide)) (by rfl) gW FW.kp bW .nil pass0 (pa_cons (pv 11) pa_nil)) (pv 9) (nomark _))))) (pss_one (ps_ret pe_bl)) pss_nil)
      (pss_cons (ps_expr (pe_bm PySem.F.plainAttrs_list PySem.F.slot_list_append PySem.F.type_list_append mt_append (pv 11) (pa_cons (pe_tup pa_nil) pa_nil)))
      (pss_one (ps_if (pt_not (pt_val (pe_call GA (hr.mono (by decide)) (by rfl) gA FA.kp bA .nil pass0 (pa_cons (pe_call GR (hr.mono (by decide)) (by rfl) gR FR.kp bR .nil pass0 (pa_cons (pv 9) pa_nil)) (pa_cons (pv 3) pa_nil))))) (pss_one (ps_ret pe_bl)) pss_nil))))))))))))
    (pss_one (ps_ret pe_bl)))), ?_⟩
    simp only [cxK, cxK']
    walk_at "w"
    refine ⟨a, ns, rfl, hS, hl, fun H1 b l s1 k1 nb nl nbl B1 => ?_⟩
    walk_at "w"
    refine for_range (fun i σ H' => ∃ (ns : List Int) (s : Int) (y2 y3 y4 y5 y6 y7 y8 y9 y10 y11 : Option V), σ = [some (.ref a), some (.ref b), y2, y3, y4, y5, y6, y7, y8, y9, y10, y11] ∧ Box H' b l ns s) ⟨ns, s1, none, none, none, none, none, none, none, none, none, none, rfl, B1⟩ (fun i σ H2 hi h => ?_) (fun σ H2 h => ?_)
    · obtain ⟨ns2, s2, y2, y3, y4, y5, y6, y7, y8, y9, y10, y11, rfl, B2⟩ := h
      have eb2 := B2.b
      have el2 := B2.l
      walk_at "w"
      refine ⟨b, l, ns2, s2, 10, rfl, B2, nbl, by decide, by decide, fun H3 ns3 s3 m k3 B3 m0 m1 => ?_⟩
      have eb3 := B3.b
      have el3 := B3.l
      walk_at "w"
      intro D nD
      have fDb : D ≠ b := Ne.symm (ne_of_none eb3 nD)
      have fDl : D ≠ l := Ne.symm (ne_of_none el3 nD)
      refine lc_range (n := m.toNat) (fun j H' => ∃ (ns : List Int) (s : Int) (xs : List V) (ss : List Stp), Box H' b l ns s ∧ H' D = some (.lst xs) ∧ StepsIn H' xs ss ∧ ss.length = j ∧ ∀ s ∈ ss, StpOk s) ⟨ns3, s3, [], [], ⟨by walk_at "hg", by walk_at "hg", B3.s0, B3.s1⟩, upd_same, ⟨rfl, fun i x s hx _ => by simp at hx⟩, rfl, fun _ h => by cases h⟩ (fun j H4 hj h => ?_) (fun H4 h => ?_)
      · obtain ⟨ns4, s4, xs, ss, B4, eD, S, hl4, ok⟩ := h
        walk_at "w"
        refine ⟨rfl, ?_⟩
        walk_at "w"
        refine ⟨b, l, ns4, s4, rfl, B4, nbl, fun H5 ns5 s5 p st k5 B5 np hp so => ?_⟩
        have eD5 := k5.k _ _ eD (by walk_at "ni")
        have eb5 := B5.b
        have el5 := B5.l
        have lx := S.1
        refine ⟨_, eD5, by walk_at "sz", ns5, s5, _, ss ++ [st], ⟨by walk_at "hg", by walk_at "hg", B5.s0, B5.s1⟩, upd_same, ((S.box B4 k5).snoc hp).set eD5, by rw [List.length_append, hl4]; rfl, fun x hx => ?_⟩
        rcases List.mem_append.mp hx with hx | hx
        · exact ok x hx
        · rw [List.mem_singleton.mp hx]
          exact so
      · obtain ⟨ns4, s4, xs, ss, B4, eD, S, hl4, ok⟩ := h
        have ll : ss.length ≤ 1000 := by omega
        have lx := S.1
        walk_at "w"
        intro o no
        have fD : D ≠ o := ne_of_none eD no
        walk_at "w"
        -- the law's own rows
        refine for_list (xs := xs) (fun j σ H' => ∃ (y4 y6 y7 y8 y9 y10 y11 : Option V), σ = [some (.ref a), some (.ref b), some (.int (0 + (i : Int))), some (.ref D), y4, some (.ref o), y6, y7, y8, y9, y10, y11] ∧ Kp [] H4 H' ∧ H' o = some (.lst (((ss.take j).map rowOf).map V.str))) ⟨_, _, _, _, _, _, _, rfl, by walk_at "kp", upd_same⟩ (fun j σ H' _ h => ?_) (fun j x σ H' hx h => ?_) (fun σ H' h => ?_)
        · obtain ⟨y4, y6, y7, y8, y9, y10, y11, rfl, k, eo⟩ := h
          exact sq_l (k.k _ _ eD ni_nil)
        · obtain ⟨y4, y6, y7, y8, y9, y10, y11, rfl, k, eo⟩ := h
          have hj : j < ss.length := by
            rw [← lx]
            exact (List.getElem?_eq_some_iff.mp hx).1
          have hs : ss[j]? = some ss[j] := List.getElem?_eq_getElem hj
          obtain ⟨p, rfl, hp⟩ := S.2 j x _ hx hs
          have hp := k.k _ _ hp ni_nil
          have os : StpOk ss[j] := ok _ (List.getElem_mem hj)
          have nw : ¬ (HT.sIx (stepVs ss[j]).length 0 (some 1) = 0 ∧ HT.sIx (stepVs ss[j]).length (stepVs ss[j]).length none = (stepVs ss[j]).length) := by
            intro e
            have e1 := e.1
            rw [show (some (1 : Int)) = some ((1 : Nat) : Int) from rfl, HT.sIx_nat] at e1
            have : (stepVs ss[j]).length = (ss[j].2.map V.int).length + 1 := rfl
            omega
          walk_at "w"
          rw [show cutV (stepVs ss[j]) (some 1) none = ss[j].2.map V.int from cutV_from _ 1]
          intro c nc
          have fc : o ≠ c := ne_of_none eo nc
          have f3 := few os
          have w7 := words_len os ss[j].1 List.mem_cons_self
          walk_at "w"
          refine for_tup (xs := ss[j].2.map V.int) (fun t σ H2 => ∃ (y8 : Option V), σ = [some (.ref a), some (.ref b), some (.int (0 + (i : Int))), some (.ref D), y4, some (.ref o), some (.ref p), some (.str (rowFold ss[j].1 (ss[j].2.take t))), y8, y9, y10, y11] ∧ H2 = upd H' c (.tup (ss[j].2.map V.int))) ⟨_, rfl, rfl⟩ (fun t σ H2 _ h => ?_) (fun t x σ H2 hx h => ?_) (fun σ H2 h => ?_)
          · obtain ⟨y8, rfl, rfl⟩ := h
            exact sq_t upd_same
          · obtain ⟨y8, rfl, rfl⟩ := h
            obtain ⟨n, hn, rfl⟩ : ∃ n, ss[j].2[t]? = some n ∧ V.int n = x := by
              rw [List.getElem?_map] at hx
              cases e : ss[j].2[t]? with
              | none => rw [e] at hx; cases hx
              | some n => rw [e] at hx; exact ⟨n, rfl, Option.some.inj hx⟩
            have bn := os.2 n (List.mem_of_getElem? hn)
            have lg := log2_small bn.1 bn.2
            have rl := rowFold_len (ss[j].2.take t) ss[j].1 (fun m hm => os.2 m (List.mem_of_mem_take hm))
            have tl3 : (ss[j].2.take t).length ≤ 3 := Nat.le_trans (List.length_take_le' _ _) f3
            have l1 : (" " : Str).length = 1 := by decide +kernel
            have l2 : (rowFold ss[j].1 (ss[j].2.take t) ++ (" " : Str)).length = (rowFold ss[j].1 (ss[j].2.take t)).length + 1 := by
              rw [len_tl, tl_append, List.length_append, ← len_tl]
              rfl
            have l3 : (Str.ofString (toString n)).length ≤ 4 := by
              rw [len_tl]
              exact (numT_len bn.1 bn.2).2
            walk_at "w"
            refine ⟨some (V.int n), ?_, rfl⟩
            rw [List.take_add_one, hn, show (some n).toList = [n] from rfl, rowFold_snoc]
            rfl
          · obtain ⟨y8, rfl, rfl⟩ := h
            rw [List.length_map, List.take_length, rowFold_row]
            have lr : (((ss.take j).map rowOf).map V.str).length ≤ 1000 := by
              rw [List.length_map, List.length_map]
              exact Nat.le_trans (List.length_take_le' _ _) ll
            walk_at "w"
            refine ⟨_, _, _, _, _, _, _, rfl, by walk_at "kp", ?_⟩
            rw [upd_same, List.map_map, List.map_map, ← take_snoc hs]
            rfl
        · obtain ⟨y4, y6, y7, y8, y9, y10, y11, rfl, k, eo⟩ := h
          rw [lx, List.take_length] at eo
          have eD5 := k.k _ _ eD ni_nil
          have S5 := S.keep k
          have B5 := B4.keep k
          walk_at "w"
          refine w_join (sq_l eo) (rows_sum ok ll) ?_
          rw [show Txt.join "\n" (ss.map rowOf) = textOf ss from rfl]
          walk_at "w"
          intro hd nh
          walk_at "w"
          refine ⟨hd, xs, ss, rfl, sq_l upd_same, S5.keep (kp_new Kp.refl nh), ok, ll, fun H6 k6 => ?_⟩
          have k56 : Kp [] H' H6 := kp_app k6 (kp_new Kp.refl nh)
          have eD6 := k56.k _ _ eD5 ni_nil
          have eh6 : H6 hd = some (.lst xs) := k6.k _ _ upd_same ni_nil
          have S6 := S5.keep k56
          have okd := okD_steps ok ll
          walk_at "w"
          refine ⟨_, _, .str (textOf ss), rfl, .str _, .str _, okD_str _ _, ?_⟩
          walk_at "w"
          refine ⟨_, _, dp_steps (sq_l eh6) S6, dp_steps (sq_l eD6) S6, shaped_steps ok, shaped_steps ok, ?_⟩
          rw [eqv_steps ok]
          walk_at "w"
          refine ⟨ss, rfl, ok, ll, fun H7 p7 xs7 k7 n7 e7 S7 => ?_⟩
          have eD7 := k7.k _ _ eD6 ni_nil
          have S67 := S6.keep k7
          walk_at "w"
          refine ⟨_, _, .list (ss.map stepD), rfl, dp_steps (sq_l e7) S7, dp_steps (sq_l eD7) S67, okd, ?_⟩
          walk_at "w"
          refine ⟨p7, xs7, ss, rfl, sq_l e7, S7, ok, ll, fun H8 k8 => ?_⟩
          have e8 := k8.k _ _ e7 ni_nil
          have eD8 := k8.k _ _ eD7 ni_nil
          have S68 := S67.keep k8
          have l7 := S7.1
          walk_at "w"
          intro u nu
          walk_at "w"
          have fD7 : D ≠ p7 := ne_of_none eD6 n7
          have e9 : (upd H8 u (.tup [])) p7 = some (.lst xs7) := upd_old nu e8
          have S9 : StepsIn (upd (upd H8 u (.tup [])) p7 (.lst (xs7 ++ [.ref u]))) xs ss := (S68.keep (kp_new Kp.refl nu)).set e9
          have eD9 : (upd (upd H8 u (.tup [])) p7 (.lst (xs7 ++ [.ref u]))) D = some (.lst xs) := by walk_at "hg"
          have n7' : H' p7 = none := none_of_kp2 n7 k56
          have k9 : Kp [] H' (upd (upd H8 u (.tup [])) p7 (.lst (xs7 ++ [.ref u]))) := by walk_at "kp"
          refine ⟨ss, rfl, ok, ll, fun H10 p10 xs10 k10 n10 e10 S10 => ?_⟩
          have eD10 := k10.k _ _ eD9 ni_nil
          have S910 := S9.keep k10
          walk_at "w"
          refine ⟨_, _, .list (ss.map stepD), rfl, dp_steps (sq_l e10) S10, dp_steps (sq_l eD10) S910, okd, ?_⟩
          walk_at "w"
          exact ⟨ns4, s4, _, _, _, _, _, _, _, _, _, _, rfl, B5.keep (kp_app k10 k9)⟩
    · walk_at "w"
      exact q _
end
end VH

namespace VH
open PySem L2 TL
/-! ### what the top has written -/
theorem kat_of : ∀ {l : List (Str × Nat)} {es : List DictEntry}, Paired (fun (p : Str × Nat) (e : DictEntry) => (∃ t, e.key = .str p.1 t) ∧ ∃ t, e.val = .int (p.2 : Int) t) l es → ∀ z, RelO (match l.lookup z with | none => none | some n => some (V.int (n : Int))) ((es.find? fun e => Value.isStrOf z e.key).map (·.val))
  | _, _, .nil, z => True.intro
  | p :: l, e :: es, .cons ⟨⟨t, h1⟩, ⟨u, h2⟩⟩ r, z => by
    have ih := kat_of r z
    rw [List.lookup_cons, List.find?_cons]
    by_cases hz : z = p.1
    · have e1 : (z == p.1) = true := by simpa using hz
      have e2 : Value.isStrOf z e.key = true := by rw [h1, hz]; simp [Value.isStrOf]
      rw [e1, e2]
      exact ⟨u, h2⟩
    · have e1 : (z == p.1) = false := by simpa using hz
      have e2 : Value.isStrOf z e.key = false := by
        rw [h1]
        cases q : Value.isStrOf z (.str p.1 t) with
        | false => rfl
        | true =>
          obtain ⟨t2, q2⟩ := Value.isStrOf_shape (x := z) (v := .str p.1 t) q
          injection q2 with q3 _
          exact absurd q3.symm hz
      rw [e1, e2]
      exact ih
theorem kat_shape {es : Array DictEntry} (h : Paired (fun (p : Str × Nat) (e : DictEntry) => (∃ t, e.key = .str p.1 t) ∧ ∃ t, e.val = .int (p.2 : Int) t) shapes es.toList) (z : Str) : KAt es z (shapeV z) := by
  have a := kat_of h z
  unfold KAt findBy shapeV shapeOf
  obtain ⟨l⟩ := es
  rw [List.find?_toArray]
  exact a
theorem all_mk {l : PySem.W.OpenLaw} {w : World} {K : PySem.W.Frag} {h : Heap} {mg : Str → Option Value} {fa : Addr} (X : K.In h) (G : h.Ns mainGlobals mg) (hfa : mg "law" = some (.ref fa))
    {fB : Addr} {odB anB : Option Addr} {slB : Array (Option Value)} {ocB kVB dcB pmB cdB ctB : Value}
    {fT : Addr} {odT anT : Option Addr} {slT : Array (Option Value)} {ocT kVT dcT pmT cdT ctT : Value}
    {fA : Addr} {odA anA : Option Addr} {slA : Array (Option Value)} {ocA kVA dcA pmA cdA ctA : Value}
    {fY : Addr} {odY anY : Option Addr} {slY : Array (Option Value)} {ocY kVY dcY pmY cdY ctY : Value}
    {fL : Addr} {odL anL : Option Addr} {slL : Array (Option Value)} {ocL kVL dcL pmL cdL ctL : Value}
    {fW : Addr} {odW anW : Option Addr} {slW : Array (Option Value)} {ocW kVW dcW pmW cdW ctW : Value}
    {fN : Addr} {odN anN : Option Addr} {slN : Array (Option Value)} {ocN kVN dcN pmN cdN ctN : Value}
    {fS : Addr} {odS anS : Option Addr} {slS : Array (Option Value)} {ocS kVS dcS pmS cdS ctS : Value}
    {fR : Addr} {odR anR : Option Addr} {slR : Array (Option Value)} {ocR kVR dcR pmR cdR ctR : Value}
    {dS : Addr} {es : Array DictEntry} {n : Nat} {t1 t2 : Tok}
    (aB : PySem.W.nsIn K mainGlobals "_law_begun" = some (some (.ref fB))) (lB : K.lookup fB = some ⟨ocB, odB, .func (PySem.W.fnOf "_law_begun" "_law_begun" (defArgs sBegun) (defBody sBegun) (defScope sBegun) .none kVB dcB pmB anB cdB ctB), slB⟩) (cB : PySem.W.codeIn K cdB "_law_begun" = true) (kB : PySem.W.keepIn K (.ref fB) = true)
    (aT : PySem.W.nsIn K mainGlobals "_law_take" = some (some (.ref fT))) (lT : K.lookup fT = some ⟨ocT, odT, .func (PySem.W.fnOf "_law_take" "_law_take" (defArgs sTake) (defBody sTake) (defScope sTake) .none kVT dcT pmT anT cdT ctT), slT⟩) (cT : PySem.W.codeIn K cdT "_law_take" = true) (kT : PySem.W.keepIn K (.ref fT) = true)
    (aA : PySem.W.nsIn K mainGlobals "_law_alike" = some (some (.ref fA))) (lA : K.lookup fA = some ⟨ocA, odA, .func (PySem.W.fnOf "_law_alike" "_law_alike" (defArgs sAlike) (defBody sAlike) (defScope sAlike) .none kVA dcA pmA anA cdA ctA), slA⟩) (cA : PySem.W.codeIn K cdA "_law_alike" = true) (kA : PySem.W.keepIn K (.ref fA) = true)
    (aY : PySem.W.nsIn K mainGlobals "_law_anystep" = some (some (.ref fY))) (lY : K.lookup fY = some ⟨ocY, odY, .func (PySem.W.fnOf "_law_anystep" "_law_anystep" (defArgs sAny) (defBody sAny) (defScope sAny) .none kVY dcY pmY anY cdY ctY), slY⟩) (cY : PySem.W.codeIn K cdY "_law_anystep" = true) (kY : PySem.W.keepIn K (.ref fY) = true)
    (aL : PySem.W.nsIn K mainGlobals "law" = some (some (.ref fL))) (lL : K.lookup fL = some ⟨ocL, odL, .func (PySem.W.fnOf "law" "law" (defArgs sLaw) (defBody sLaw) (defScope sLaw) .none kVL dcL pmL anL cdL ctL), slL⟩) (cL : PySem.W.codeIn K cdL "law" = true) (kL : PySem.W.keepIn K (.ref fL) = true)
    (aW : PySem.W.nsIn K mainGlobals "written" = some (some (.ref fW))) (lW : K.lookup fW = some ⟨ocW, odW, .func (PySem.W.fnOf "written" "written" (defArgs sWritten) (defBody sWritten) (defScope sWritten) .none kVW dcW pmW anW cdW ctW), slW⟩) (cW : PySem.W.codeIn K cdW "written" = true) (kW : PySem.W.keepIn K (.ref fW) = true)
    (aN : PySem.W.nsIn K mainGlobals "number_of" = some (some (.ref fN))) (lN : K.lookup fN = some ⟨ocN, odN, .func (PySem.W.fnOf "number_of" "number_of" (defArgs sNumber) (defBody sNumber) (defScope sNumber) .none kVN dcN pmN anN cdN ctN), slN⟩) (cN : PySem.W.codeIn K cdN "number_of" = true) (kN : PySem.W.keepIn K (.ref fN) = true)
    (aS : PySem.W.nsIn K mainGlobals "step_of" = some (some (.ref fS))) (lS : K.lookup fS = some ⟨ocS, odS, .func (PySem.W.fnOf "step_of" "step_of" (defArgs sStep) (defBody sStep) (defScope sStep) .none kVS dcS pmS anS cdS ctS), slS⟩) (cS : PySem.W.codeIn K cdS "step_of" = true) (kS : PySem.W.keepIn K (.ref fS) = true)
    (aR : PySem.W.nsIn K mainGlobals "read" = some (some (.ref fR))) (lR : K.lookup fR = some ⟨ocR, odR, .func (PySem.W.fnOf "read" "read" (defArgs sRead) (defBody sRead) (defScope sRead) .none kVR dcR pmR anR cdR ctR), slR⟩) (cR : PySem.W.codeIn K cdR "read" = true) (kR : PySem.W.keepIn K (.ref fR) = true)
    (zlist : PySem.W.nsIn K mainGlobals "list" = some none) (zint : PySem.W.nsIn K mainGlobals "int" = some none) (zlen : PySem.W.nsIn K mainGlobals "len" = some none) (zisinstance : PySem.W.nsIn K mainGlobals "isinstance" = some none) (zbool : PySem.W.nsIn K mainGlobals "bool" = some none) (zstr : PySem.W.nsIn K mainGlobals "str" = some none) (ztuple : PySem.W.nsIn K mainGlobals "tuple" = some none) (zrange : PySem.W.nsIn K mainGlobals "range" = some none) (zenumerate : PySem.W.nsIn K mainGlobals "enumerate" = some none)
    (m1 : PySem.W.nsIn K mainGlobals "MOST_FIGURES" = some (some (.int 4 t1))) (m2 : PySem.W.nsIn K mainGlobals "FIGURES" = some (some (.str "0123456789" t2))) (m3 : PySem.W.nsIn K mainGlobals "SHAPES" = some (some (.ref dS)))
    (d1 : K.lookup dS = some ⟨.type "dict", none, .dict es n, #[]⟩) (d2 : PySem.W.KeysLit w.params es.toList) (d3 : (dS == sysModules) = false)
    (d4 : Paired (fun (p : Str × Nat) (e : DictEntry) => (∃ t, e.key = .str p.1 t) ∧ ∃ t, e.val = .int (p.2 : Int) t) shapes es.toList) :
    ∃ fd : FuncData, (∀ (s : Shared) (v : Value), BindsTo s fd ⟨[v], []⟩ [("_law_script", v)]) ∧ ∀ base : Heap, K.In base → base.Ns mainGlobals mg → FnOk l.prog w K mg base CX0 4 fa fd ["_law_script"] (spLaw K) := by
  have e := hfa.symm.trans (PySem.W.mg_of X G aL)
  cases e
  have T : Txt K mg := ⟨PySem.W.mg_none_of X G zlist, PySem.W.mg_none_of X G zint, PySem.W.mg_none_of X G zlen, PySem.W.mg_none_of X G zisinstance, PySem.W.mg_none_of X G zbool, PySem.W.mg_none_of X G zstr, PySem.W.mg_none_of X G ztuple, PySem.W.mg_none_of X G zrange, PySem.W.mg_none_of X G zenumerate⟩
  have FB := fun_mk (st := sBegun) lB cB kB
  have FT := fun_mk (st := sTake) lT cT kT
  have FA := fun_mk (st := sAlike) lA cA kA
  have FY := fun_mk (st := sAny) lY cY kY
  have FL := fun_mk (st := sLaw) lL cL kL
  have FW := fun_mk (st := sWritten) lW cW kW
  have FN := fun_mk (st := sNumber) lN cN kN
  have FS := fun_mk (st := sStep) lS cS kS
  have FR := fun_mk (st := sRead) lR cR kR
  have bB := FB.binds (ps := ["_law_script"]) fun _ _ _ _ _ _ us hl => match us, hl with | [_], _ => rfl
  have bT := FT.binds (ps := ["_law_box", "_law_many"]) fun _ _ _ _ _ _ us hl => match us, hl with | [_, _], _ => rfl
  have bA := FA.binds (ps := ["_law_found", "_law_due"]) fun _ _ _ _ _ _ us hl => match us, hl with | [_, _], _ => rfl
  have bY := FY.binds (ps := ["_law_box"]) fun _ _ _ _ _ _ us hl => match us, hl with | [_], _ => rfl
  have bW := FW.binds (ps := ["steps"]) fun _ _ _ _ _ _ us hl => match us, hl with | [_], _ => rfl
  have bN := FN.binds (ps := ["word"]) fun _ _ _ _ _ _ us hl => match us, hl with | [_], _ => rfl
  have bS := FS.binds (ps := ["row"]) fun _ _ _ _ _ _ us hl => match us, hl with | [_], _ => rfl
  have bR := FR.binds (ps := ["text"]) fun _ _ _ _ _ _ us hl => match us, hl with | [_], _ => rfl
  have gB := PySem.W.mg_of X G aB
  have gT := PySem.W.mg_of X G aT
  have gA := PySem.W.mg_of X G aA
  have gY := PySem.W.mg_of X G aY
  have gW := PySem.W.mg_of X G aW
  have gN := PySem.W.mg_of X G aN
  have gS := PySem.W.mg_of X G aS
  have gR := PySem.W.mg_of X G aR
  have gMF := PySem.W.mg_of X G m1
  have gF := PySem.W.mg_of X G m2
  have gSh := PySem.W.mg_of X G m3
  refine ⟨PySem.W.fnOf "law" "law" (defArgs sLaw) (defBody sLaw) (defScope sLaw) .none kVL dcL pmL anL cdL ctL, fun s v => .of_eq rfl, fun base _ _ => ?_⟩
  have GT := ok_take (P := l.prog) (w := w) (mg := mg) (base := base) FT
  have GN := ok_number (P := l.prog) (w := w) (base := base) FN T gMF gF
  have GS := ok_step (P := l.prog) (w := w) (base := base) FS T gSh ⟨d1, d2, d3⟩ (kat_shape d4) FN bN gN GN
  exact ok_law FL T FB bB gB (ok_begun FB T) FT bT gT GT FA bA gA (ok_alike FA T gA bA 3) FY bY gY (ok_any FY T FT bT gT GT) FW bW gW (ok_written FW T) FR bR gR (ok_read FR T FS bS gS GS)

theorem walk {l : PySem.W.OpenLaw} {q : Program} {loose : List Str} {XP : (Str → Option Value) → Heap → Prop} {YP : World → Heap → Prop} {d : DefRec} {K : Params → PySem.W.Frag} (hn : l.most = some 63) (hdf : d.params.defaults = [])
    (hY : ∀ (w : World) (h : Heap), YP w h → (K w.params).In h)
    (F : ∀ (w : World) (mg : Str → Option Value) (fa : Addr) (h : Heap), (K w.params).In h → h.Ns mainGlobals mg → mg d.name = some (.ref fa) →
      ∃ fd : FuncData, (∀ (s : Shared) (u : Value), BindsTo s fd ⟨[u], []⟩ [("_law_script", u)]) ∧ ∀ base : Heap, (K w.params).In base → base.Ns mainGlobals mg → FnOk l.prog w (K w.params) mg base CX0 4 fa fd ["_law_script"] (spLaw (K w.params))) :
    PySem.W.WalkO q loose XP YP l.row.toRowW d [] (fun f vs => PySem.call f vs) :=
  L2.walk_of (n := 63) (k := 4) (x := "_law_script") (CX := fun _ => CX0) (sp := fun w => spLaw (K w.params)) hn (by decide) hdf ⟨rfl, by decide, by decide⟩ hY F (fun _ _ a ns hl _ hS => ⟨a, ns, rfl, hS, hl, fun _ => rfl⟩) fun _ _ _ _ _ z => z
end VH
open PySem PySem.W PyProof.Rows
set_option maxRecDepth 100000 in
set_option maxHeartbeats 0 in
theorem PySem.Challenge.cw_volumehall_k14_steps_written_holds : PySem.Challenge.rw_volumehall_k14_steps_written.Holds := by
  w_on; o_law; k_head; (case hw => w_witness2)
  k_fill
  refine VH.walk (l := PySem.Challenge.rw_volumehall_k14_steps_written) rfl rfl (fun w h Y => PySem.W.kIn_of Y) ?F
  case F =>
    intro w mg fa h KX G hmg
    refine' VH.all_mk KX G hmg ?aB ?lB ?cB ?kB ?aT ?lT ?cT ?kT ?aA ?lA ?cA ?kA ?aY ?lY ?cY ?kY ?aL ?lL ?cL ?kL ?aW ?lW ?cW ?kW ?aN ?lN ?cN ?kN ?aS ?lS ?cS ?kS ?aR ?lR ?cR ?kR ?zlist ?zint ?zlen ?zisinstance ?zbool ?zstr ?ztuple ?zrange ?zenumerate ?m1 ?m2 ?m3 ?d1 ?d2 ?d3 ?d4
    (case aB => k_is)
    (case lB => k_is)
    (case cB => k_is)
    (case kB => k_is)
    (case aT => k_is)
    (case lT => k_is)
    (case cT => k_is)
    (case kT => k_is)
    (case aA => k_is)
    (case lA => k_is)
    (case cA => k_is)
    (case kA => k_is)
    (case aY => k_is)
    (case lY => k_is)
    (case cY => k_is)
    (case kY => k_is)
    (case aL => k_is)
    (case lL => k_is)
    (case cL => k_is)
    (case kL => k_is)
    (case aW => k_is)
    (case lW => k_is)
    (case cW => k_is)
    (case kW => k_is)
    (case aN => k_is)
    (case lN => k_is)
    (case cN => k_is)
    (case kN => k_is)
    (case aS => k_is)
    (case lS => k_is)
    (case cS => k_is)
    (case kS => k_is)
    (case aR => k_is)
    (case lR => k_is)
    (case cR => k_is)
    (case kR => k_is)
    (case zlist => k_is)
    (case zint => k_is)
    (case zlen => k_is)
    (case zisinstance => k_is)
    (case zbool => k_is)
    (case zstr => k_is)
    (case ztuple => k_is)
    (case zrange => k_is)
    (case zenumerate => k_is)
    (case m1 => k_is)
    (case m2 => k_is)
    (case m3 => k_is)
    (case d1 => k_is)
    (case d2 => (repeat first | exact True.intro | refine ⟨⟨_, _, rfl, rfl⟩, ?_⟩))
    (case d3 => rfl)
    (case d4 => (repeat first | exact .nil | refine .cons ⟨⟨_, rfl⟩, ⟨_, rfl⟩⟩ ?_))

