import PyProof.Rows.All
import Wide.All
import OpenK.AllK
import Wide.FinOn
import HandS.ForMost
import HandS.IsInst
import HandS.Wide
import HandS.Flow
import HandS.TupAny
import HandS.Small
import HandS.RaiseMore
import HandS.Steps
import HandS.More
import HandS.Lambda
import HandS.ExcField
import HandS.ExcIs
import HandS.ExcInit
import HandS.ClsMeth
import HandS.WordsExc
import HandS.Deep
import HandS.EndTab
import HandS.Style
import KE.KRevSl
import KE.KExcIs
import PySem.Challenge.RW_volumehall_k15_texts_of_no_steps
import HandS.EndOwn
import KE.KNestM
set_option Elab.async false
set_option linter.all false
set_option maxRecDepth 100000
set_option maxHeartbeats 4000000
/-! Stepping lemmas: what a reading asks, one construct at a time. -/
namespace VH
open PySem L2
section
variable {σ : St} {H : Hp} {Q : VK} {v x y : V} {K : PySem.W.Frag}
theorem w_var {i : Nat} (h : σ[i]? = some (some v)) (q : Q v H) : tVar i σ H Q := ⟨v, h, q⟩
theorem w_c (q : Q v H) : tC v σ H Q := q
theorem w_op {r : R2} {ta tb : TE} (h : ta σ H fun x H1 => tb σ H1 fun y H2 => r x y H2 Q) : tOp r ta tb σ H Q := h
theorem w_un {r : V → Hp → VK → Prop} {ta : TE} (h : ta σ H fun x H1 => r x H1 Q) : tUn r ta σ H Q := h
theorem w_I0 {g : Int → Int → V} {i j : Int} (q : Q (g i j) H) : rI0 g (.int i) (.int j) H Q := ⟨i, j, rfl, rfl, q⟩
theorem w_I {C : Int → Int → Prop} {g : Int → Int → V} {i j : Int} (c : C i j) (q : Q (g i j) H) : rI C g (.int i) (.int j) H Q := ⟨i, j, rfl, rfl, c, q⟩
theorem w_U {g : Int → V} {i : Int} (q : Q (g i) H) : rU g (.int i) H Q := ⟨i, rfl, q⟩
theorem w_eq (h : scal x y = true) (q : Q (.bl (decide (x = y))) H) : rEq x y H Q := ⟨h, q⟩
theorem w_ne (h : scal x y = true) (q : Q (.bl (!decide (x = y))) H) : rNe x y H Q := ⟨h, q⟩
theorem w_isN {t : TE} (h : t σ H fun x H1 => Q (.bl (decide (x = .non))) H1) : tIsN t σ H Q := h
theorem w_tup {t : TA} (h : t σ H fun xs H1 => xs.length ≤ sizeLine ∧ ∀ p, H1 p = none → Q (.ref p) (upd H1 p (.tup xs))) : tTup t σ H Q := h
theorem w_lst {t : TA} (h : t σ H fun xs H1 => xs.length ≤ sizeLine ∧ ∀ p, H1 p = none → Q (.ref p) (upd H1 p (.lst xs))) : tLst t σ H Q := h
theorem w_call {sp : Sp} {dvs : List V} {E : XK} {t : TA} (h : t σ H fun vs H1 => sp (vs ++ dvs) H1 Q E) : tCall sp dvs E t σ H Q := h
theorem w_cb {r : List V → Hp → VK → Prop} {t : TA} (h : t σ H fun vs H1 => r vs H1 Q) : tCB r t σ H Q := h
theorem w_fld {ta : TE} {f : Str} (h : ta σ H fun x H1 => ∃ a C dx fs v, x = .ref a ∧ H1 a = some (.ins C dx fs) ∧ Cls K C ∧ NoAttr K C f ∧ fs.lookup f = some v ∧ Q v H1) : tFld K ta f σ H Q := h
theorem w_if {t : TT} {ta tb : TE} (h : t σ H fun c H1 => if c = true then ta σ H1 Q else tb σ H1 Q) : tIf t ta tb σ H Q := h
theorem w_bm {T : String} {r : V → List V → Hp → VK → Prop} {to : TE} {t : TA} (h : to σ H fun x H1 => tyV K T x H1 ∧ t σ H1 fun xs H2 => r x xs H2 Q) : tBM K T r to t σ H Q := h
theorem w_bm0 {T : String} {r : V → List V → Hp → VK → Prop} {to : TE} (h : to σ H fun x H1 => tyV K T x H1 ∧ r x [] H1 Q) : tBM0 K T r to σ H Q := h
theorem w_m1 {r : V → List V → Hp → VK → Prop} {to te : TE} (h : to σ H fun x H1 => (∃ a, x = .str a) ∧ te σ H1 fun y H2 => r x [y] H2 Q) : tM1 r to te σ H Q := h
theorem w_andV {ta tb : TE} (h : ta σ H fun x H1 => ∃ c, x = .bl c ∧ if c = true then tb σ H1 Q else Q (.bl false) H1) : tAndV ta tb σ H Q := h
theorem w_orV {ta tb : TE} (h : ta σ H fun x H1 => ∃ c, x = .bl c ∧ if c = true then Q (.bl true) H1 else tb σ H1 Q) : tOrV ta tb σ H Q := h
theorem w_notV {ta : TE} (h : ta σ H fun x H1 => ∃ c, x = .bl c ∧ Q (.bl (!c)) H1) : tNotV ta σ H Q := h
theorem w_dget {td ty : TE} (h : td σ H fun x H1 => ty σ H1 fun y H2 => ∃ a v, x = .ref a ∧ DGet H2 a y (some v) ∧ Q v H2) : tDGet td ty σ H Q := h
theorem w_chain {r r' : R2} {ta tb tc : TE} (h : ta σ H fun x H1 => tb σ H1 fun y H2 => r x y H2 fun z H3 => ∃ k, z = .bl k ∧ (if k = true then tc σ H3 fun w' H4 => r' y w' H4 Q else Q (.bl false) H3)) : tChain r r' ta tb tc σ H Q := h
/-- a known truth value -/
theorem w_bl {c : Bool} {P : Bool → Prop} (h : P c) : ∃ c', (V.bl c = V.bl c') ∧ P c' := ⟨c, rfl, h⟩
section
variable {QA : List V → Hp → Prop}
theorem w_nil (q : QA [] H) : tNil σ H QA := q
theorem w_cons {te : TE} {t : TA} (h : te σ H fun x H1 => t σ H1 fun xs H2 => QA (x :: xs) H2) : tCons te t σ H QA := h
end
section
variable {QB : Bool → Hp → Prop}
theorem w_test {t : TE} (h : t σ H fun x H' => ∃ k, x = .bl k ∧ QB k H') : tTest t σ H QB := h
theorem w_B {t : TE} (h : t σ H fun x H' => ∃ k, x = .bl k ∧ QB k H') : tB t σ H QB := h
theorem w_and {t u : TT} (h : t σ H fun c H1 => if c = true then u σ H1 QB else QB false H1) : tAnd t u σ H QB := h
theorem w_or {t u : TT} (h : t σ H fun c H1 => if c = true then QB true H1 else u σ H1 QB) : tOr t u σ H QB := h
theorem w_not {t : TT} (h : t σ H fun c H1 => QB (!c) H1) : tNot t σ H QB := h
theorem w_yes (q : QB true H) : tYes σ H QB := q
end
section
variable {D : Ends}
theorem w_seq {t u : TS} (h : t { D with nx := u D } σ H) : tSeq t u D σ H := h
theorem w_next (q : D.nx σ H) : tNext D σ H := q
theorem w_drop {te : TE} (h : te σ H fun _ H1 => D.nx σ H1) : tDrop te D σ H := h
theorem w_ret {te : TE} (h : te σ H D.rt) : tRet te D σ H := h
theorem w_retN (h : D.rt .non H) : tRetN D σ H := h
theorem w_ifS {c : TT} {t u : TS} (h : c σ H fun b H1 => if b = true then t D σ H1 else u D σ H1) : tIfS c t u D σ H := h
theorem w_asg {te : TE} {g : TG} (h : te σ H fun x H1 => g x σ H1 D.nx) : tAsg te g D σ H := h
theorem w_sfld {ta tv : TE} {f : Str} (h : tv σ H fun y H1 => ta σ H1 fun x H2 => ∃ a C dx fs, x = .ref a ∧ H2 a = some (.ins C dx fs) ∧ Cls K C ∧ NoAttr K C f ∧ fs.length < 1000 ∧ D.nx σ (upd H2 a (.ins C dx (putF f y fs)))) : sFld K ta tv f D σ H := h
theorem w_for {wi : TI} {g : TG} {tb : TS} (h : wi σ H fun J H1 => ∃ W : Nat → Nat → St → Hp → Prop, (∃ m, W 0 m σ H1) ∧ ∀ i m σ H, W i m σ H →
  (J.stop i H ∧ D.nx σ H) ∨ (J.go i H ∧ ∃ N : St → Hp → Prop, (∀ σ' H', N σ' H' → ∃ m', m' < m ∧ W (i + 1) m' σ' H') ∧ ∀ x H', J.yld i H x H' → g x σ H' fun σ2 H2 => tb { D with nx := N, ct := N, bk := D.nx } σ2 H2)) : tFor wi g tb D σ H := h
end
section
variable {QG : St → Hp → Prop}
theorem w_gName {i : Nat} (q : QG (σ.set i (some v)) H) : gName i v σ H QG := q
theorem w_gSub {to ti : TE} {t : TSet} (h : to σ H fun o H1 => ti σ H1 fun i H2 => t o i v H2 fun H3 => QG σ H3) : gSub to ti t v σ H QG := h
end
section
variable {R : It → Hp → Prop}
theorem w_iList {tl : TE} (h : tl σ H fun x H1 => ∃ a, x = .ref a ∧ (∃ xs, SqL K H1 a xs) ∧ R (Itl K a) H1) : iList K tl σ H R := h
theorem w_iTup {tl : TE} (h : tl σ H fun x H1 => ∃ a, x = .ref a ∧ (∃ xs, SqT K H1 a xs) ∧ R (Itt K a) H1) : iTup K tl σ H R := h
theorem w_iStr {te : TE} (h : te σ H fun v H1 => ∃ x, v = .str x ∧ R (Its x) H1) : iStr te σ H R := h
theorem w_iR1 {ta : TA} (h : ta σ H fun vs H1 => ∃ j : Int, vs = [.int j] ∧ -(2 ^ 62) ≤ j ∧ j < 2 ^ 62 ∧ R (Itr 0 j.toNat) H1) : iRng1 ta σ H R := h
theorem w_iEnum {ta : TA} (h : ta σ H fun vs H1 => ∃ a xs, vs = [.ref a] ∧ SqL K H1 a xs ∧ R (Ite K a) H1) : iEnum K ta σ H R := h
end
theorem w_ixL {p : Addr} {xs : List V} {i : Int} (s : SqL K H p xs) (a : atI xs i = some v) (q : Q v H) : rIxL K (.ref p) (.int i) H Q := ⟨p, xs, i, v, rfl, rfl, s, a, q⟩
theorem w_setL {p : Addr} {xs : List V} {i : Int} {j : Nat} {QH : Hp → Prop} (h : H p = some (.lst xs)) (n : ixN xs.length i = some j) (q : QH (upd H p (.lst (xs.set j v)))) : rSetL (.ref p) (.int i) v H QH := ⟨p, xs, i, j, rfl, rfl, h, n, q⟩
theorem w_ixT {p : Addr} {xs : List V} {i : Int} (s : SqT K H p xs) (a : atI xs i = some v) (q : Q v H) : rIxT K (.ref p) (.int i) H Q := ⟨p, xs, i, v, rfl, rfl, s, a, q⟩
theorem cxK {CX : CXT} {P : Program} {w : World} {mg : Str → Option Value} {base : Heap} {N : List Str} {qual : Str} {scope : Scope} {f : Addr} {cd : Value} {A : Around} {outer : List Env} {s : Shared} {H : Hp} {E : XK} :
    (cxOf CX P w K mg base N qual scope f cd A outer s H E).nox.K = K := rfl
theorem cxK' {CX : CXT} {P : Program} {w : World} {mg : Str → Option Value} {base : Heap} {N : List Str} {qual : Str} {scope : Scope} {f : Addr} {cd : Value} {A : Around} {outer : List Env} {s : Shared} {H : Hp} {E : XK} :
    (cxOf CX P w K mg base N qual scope f cd A outer s H E).K = K := rfl
theorem sz {n : Nat} (h : Nat.ble n 1000 = true) : n ≤ sizeLine := Nat.le_of_lt (small1000 (Nat.le_of_ble_eq_true h))
theorem szl {n : Nat} (h : n ≤ 1000) : n ≤ sizeLine := Nat.le_of_lt (small1000 h)
theorem szb {n : Nat} (h : n ≤ 1000000) : n ≤ sizeLine := Nat.le_trans h (by decide)
theorem szbl {n : Nat} (h : n ≤ 1000000) : n < sizeLine := Nat.lt_of_le_of_lt h (by decide)
theorem w_newSz {n : Nat} {R : Prop} (h : n ≤ sizeLine) (q : R) : n ≤ sizeLine ∧ R := ⟨h, q⟩
theorem ixN_0 {n : Nat} : ixN (n + 1) 0 = some 0 := by
  unfold ixN
  rw [if_pos (by decide), if_pos (by omega)]
  rfl
theorem atI_0 {α : Type} {x : α} {xs : List α} : atI (x :: xs) 0 = some x := by
  unfold atI
  rw [List.length_cons, ixN_0]
  rfl
theorem w_tyL {p : Addr} {xs : List V} {P : Prop} (s : SqL K H p xs) (h : P) : tyV K "list" (.ref p) H ∧ P := ⟨Or.inl ⟨rfl, _, s⟩, h⟩
theorem w_tyS {z : Str} {P : Prop} (h : P) : (∃ a, V.str z = .str a) ∧ P := ⟨⟨_, rfl⟩, h⟩
theorem w_popAt0 {p : Addr} {xs : List V} (e : H p = some (.lst (x :: xs))) (q : Q x (upd H p (.lst xs))) : rPopAt (.ref p) [.int 0] H Q :=
  ⟨p, x :: xs, 0, 0, x, rfl, rfl, e, by decide, by decide, by
    unfold seqIndex?
    simp, rfl, q⟩
theorem w_append {p : Addr} {xs : List V} (e : H p = some (.lst xs)) (l : xs.length < sizeLine) (q : Q .non (upd H p (.lst (xs ++ [y])))) : rAppend (.ref p) [y] H Q := ⟨p, xs, y, rfl, rfl, e, l, q⟩
theorem decI {a b : Int} : decide (V.int a = V.int b) = decide (a = b) := by
  by_cases e : a = b
  · rw [e, decide_eq_true rfl, decide_eq_true rfl]
  · rw [decide_eq_false e, decide_eq_false fun z => e (V.int.inj z)]
theorem decS {a b : Str} : decide (V.str a = V.str b) = decide (a = b) := by
  by_cases e : a = b
  · rw [e, decide_eq_true rfl, decide_eq_true rfl]
  · rw [decide_eq_false e, decide_eq_false fun z => e (V.str.inj z)]
theorem w_ifT {c : Bool} {A B : Prop} (h : c = true) (q : A) : if c = true then A else B := by rw [h]; exact iteT q
theorem w_ifF {c : Bool} {A B : Prop} (h : c = false) (q : B) : if c = true then A else B := by rw [h]; exact iteF q
theorem w_isZ (q : Q (.bl (decide (x = .non))) H) : rIsN x .non H Q := ⟨rfl, q⟩
theorem w_notZ (q : Q (.bl (!decide (x = .non))) H) : rNotN x .non H Q := ⟨rfl, q⟩
theorem w_inS {c : Nat} {z : Str} (q : Q (.bl (decide (c ∈ z.cps.toList))) H) : rInS (.str ⟨#[c]⟩) (.str z) H Q := ⟨c, z, rfl, rfl, q⟩
theorem w_notInS {c : Nat} {z : Str} (q : Q (.bl (!decide (c ∈ z.cps.toList))) H) : rNotInS (.str ⟨#[c]⟩) (.str z) H Q := ⟨c, z, rfl, rfl, q⟩
/-! built-in functions, their readings by name -/
def rLenL (K : PySem.W.Frag) : List V → Hp → VK → Prop := fun xs H Q => ∃ p ys, xs = [.ref p] ∧ (SqL K H p ys ∨ SqT K H p ys) ∧ Q (.int ys.length) H
theorem cr_lenL {X : Cx} : CallR X (.builtin "len") (rLenL X.K) := call_len_seq
theorem w_lenL {p : Addr} {ys : List V} (s : SqL K H p ys) (q : Q (.int ys.length) H) : rLenL K [.ref p] H Q := ⟨p, ys, rfl, .inl s, q⟩
theorem w_lenT {p : Addr} {ys : List V} (s : SqT K H p ys) (q : Q (.int ys.length) H) : rLenL K [.ref p] H Q := ⟨p, ys, rfl, .inr s, q⟩
def rLenS : List V → Hp → VK → Prop := fun xs H Q => ∃ z, xs = [.str z] ∧ z.length ≤ sizeLine ∧ Q (.int z.length) H
theorem cr_lenS {X : Cx} : CallR X (.builtin "len") rLenS := call_len_str
theorem w_lenS {z : Str} (l : z.length ≤ sizeLine) (q : Q (.int z.length) H) : rLenS [.str z] H Q := ⟨z, rfl, l, q⟩
def rListOf (K : PySem.W.Frag) : List V → Hp → VK → Prop := fun xs H Q => ∃ p ys, xs = [.ref p] ∧ (SqL K H p ys ∨ SqT K H p ys) ∧ ∀ l, H l = none → Q (.ref l) (upd H l (.lst ys))
theorem cr_listOf {X : Cx} : CallR X (.type "list") (rListOf X.K) := call_list_of
theorem w_listL {p : Addr} {ys : List V} (s : SqL K H p ys) (q : ∀ l, H l = none → Q (.ref l) (upd H l (.lst ys))) : rListOf K [.ref p] H Q := ⟨p, ys, rfl, .inl s, q⟩
theorem w_listT {p : Addr} {ys : List V} (s : SqT K H p ys) (q : ∀ l, H l = none → Q (.ref l) (upd H l (.lst ys))) : rListOf K [.ref p] H Q := ⟨p, ys, rfl, .inr s, q⟩
def rTupOf (K : PySem.W.Frag) : List V → Hp → VK → Prop := fun xs H Q => ∃ p ys, xs = [.ref p] ∧ ((SqL K H p ys ∧ ∀ l, H l = none → Q (.ref l) (upd H l (.tup ys))) ∨ (SqT K H p ys ∧ Q (.ref p) H))
theorem cr_tupOf {X : Cx} : CallR X (.type "tuple") (rTupOf X.K) := call_tuple_of
theorem w_tupL {p : Addr} {ys : List V} (s : SqL K H p ys) (q : ∀ l, H l = none → Q (.ref l) (upd H l (.tup ys))) : rTupOf K [.ref p] H Q := ⟨p, ys, rfl, .inl ⟨s, q⟩⟩
def rInt1 : List V → Hp → VK → Prop := fun xs H Q => (∃ i, xs = [.int i] ∧ Q (.int i) H) ∨ ∃ k, xs = [.bl k] ∧ Q (.int (if k then 1 else 0)) H
theorem cr_int1 {X : Cx} : CallR X (.type "int") rInt1 := call_int1
theorem w_intI {i : Int} (q : Q (.int i) H) : rInt1 [.int i] H Q := .inl ⟨i, rfl, q⟩
theorem w_intB {k : Bool} (q : Q (.int (if k then 1 else 0)) H) : rInt1 [.bl k] H Q := .inr ⟨k, rfl, q⟩
def rStrI : List V → Hp → VK → Prop := fun xs H Q => ∃ i, xs = [.int i] ∧ i.natAbs.log2 < 1920 ∧ Q (.str (toString i)) H
def rStrX : List V → Hp → VK → Prop := fun xs H Q => rStrI xs H Q ∨ ∃ a, xs = [.str a] ∧ Q (.str a) H
theorem cr_strX {X : Cx} : CallR X (.type "str") rStrX := CallR.or call_str_int SkE.call_str_str
theorem w_strI {i : Int} (l : i.natAbs.log2 < 1920) (q : Q (.str (Str.ofString (toString i))) H) : rStrX [.int i] H Q := .inl ⟨i, rfl, l, q⟩
theorem w_strS {z : Str} (q : Q (.str z) H) : rStrX [.str z] H Q := .inr ⟨z, rfl, q⟩
def rIntS : List V → Hp → VK → Prop := fun xs H Q => ∃ a n, xs = [.str a] ∧ PySem.intText? a = some n ∧ a.length ≤ 640 ∧ Q (.int n) H
theorem cr_intS {X : Cx} : CallR X (.type "int") rIntS := call_int_str
theorem w_isi {a b : String} {r : Bool} (t : TyX K H x (.type a)) (h : kitB a b = some r) (q : Q (.bl r) H) : rIsi K [x, .ty b] H Q := ⟨x, .ty b, .type a, .type b, r, rfl, .ty b, t, kit_ty h, q⟩
theorem tx_L {p : Addr} {xs : List V} (s : SqL K H p xs) : TyX K H (.ref p) (.type "list") := by
  rcases s with (s | ⟨o, s⟩) | ⟨o, its, n, s, c, _⟩
  · exact .base (.lst s)
  · exact .base (.frz s)
  · exact .kList s c
theorem tx_T {p : Addr} {xs : List V} (s : SqT K H p xs) : TyX K H (.ref p) (.type "tuple") := by
  rcases s with (s | ⟨o, s⟩) | ⟨o, its, n, s, c, _⟩
  · exact .base (.tup s)
  · exact .fTuple s
  · exact .kTuple s c
theorem tx_N : TyX K H .non (.type "NoneType") := .base .non
theorem tx_B {b : Bool} : TyX K H (.bl b) (.type "bool") := .base (.bl b)
theorem tx_I {i : Int} : TyX K H (.int i) (.type "int") := .base (.int i)
theorem tx_S {z : Str} : TyX K H (.str z) (.type "str") := .base (.str z)
theorem w_ixXL {p : Addr} {xs : List V} {i : Int} (s : SqL K H p xs) (a : atI xs i = some v) (q : Q v H) : rIx K (.ref p) (.int i) H Q := .inl (w_ixL s a q)
theorem w_ixXT {p : Addr} {xs : List V} {i : Int} (s : SqT K H p xs) (a : atI xs i = some v) (q : Q v H) : rIx K (.ref p) (.int i) H Q := .inr (.inl (w_ixT s a q))
theorem dpAll_get : ∀ {xs : List V} {ds : List PyData} {i : Nat} {x : V}, DpAll K H xs ds → xs[i]? = some x → ∃ d, ds[i]? = some d ∧ Dp K H x d
  | _, _, _, _, .nil, e => by simp at e
  | _, _, 0, _, .cons h _, e => by
    simp at e
    subst e
    exact ⟨_, rfl, h⟩
  | _, _, i + 1, _, .cons _ t, e => by
    obtain ⟨d, h1, h2⟩ := dpAll_get (i := i) t (by simpa using e)
    exact ⟨d, by simpa using h1, h2⟩
theorem dpAll_len : ∀ {xs : List V} {ds : List PyData}, DpAll K H xs ds → xs.length = ds.length
  | _, _, .nil => rfl
  | _, _, .cons _ t => by rw [List.length_cons, List.length_cons, dpAll_len t]
/-! ### heaps: H' keeps what H holds, but at F -/
structure Kp (F : List Addr) (H H' : Hp) : Prop where
  k : ∀ a o, H a = some o → a ∉ F → H' a = some o
theorem ni_nil {a : Addr} : a ∉ ([] : List Addr) := by simp
theorem ni_cons {a b : Addr} {F : List Addr} (h : a ≠ b) (t : a ∉ F) : a ∉ b :: F := by
  intro z
  rcases List.mem_cons.mp z with z | z
  · exact h z
  · exact t z
theorem Kp.refl {F : List Addr} {H : Hp} : Kp F H H := ⟨fun _ _ h _ => h⟩
theorem kp_new {F : List Addr} {H H' : Hp} {p : Addr} {o : HO} (k : Kp F H H') (n : H' p = none) : Kp F H (upd H' p o) := ⟨fun a u e ne => by
  have z := k.k a u e ne
  rw [upd_ne (ne_of_none z n)]
  exact z⟩
theorem kp_set {F : List Addr} {H H' : Hp} {p : Addr} {o : HO} (k : Kp F H H') (m : p ∈ F) : Kp F H (upd H' p o) := ⟨fun a u e ne => by
  have z := k.k a u e ne
  rw [upd_ne (fun q : a = p => ne (by rw [q]; exact m))]
  exact z⟩
theorem kp_new' {F : List Addr} {H H' : Hp} {p : Addr} {o : HO} (n : H' p = none) (k : Kp F H H') : Kp F H (upd H' p o) := kp_new k n
theorem kp_set' {F : List Addr} {H H' : Hp} {p : Addr} {o : HO} (m : p ∈ F) (k : Kp F H H') : Kp F H (upd H' p o) := kp_set k m
theorem kp_setn {F : List Addr} {H H' : Hp} {p : Addr} {o : HO} (n : H p = none) (k : Kp F H H') : Kp F H (upd H' p o) := ⟨fun a u e ne => by
  have z := k.k a u e ne
  rw [upd_ne (ne_of_none e n)]
  exact z⟩
theorem kp_app {F : List Addr} {H H1 H2 : Hp} (l : Kp [] H1 H2) (k : Kp F H H1) : Kp F H H2 := ⟨fun a o e ne => l.k a o (k.k a o e ne) ni_nil⟩
theorem kp_app2 {F : List Addr} {H H1 H2 : Hp} (l : Kp F H1 H2) (k : Kp F H H1) : Kp F H H2 := ⟨fun a o e ne => l.k a o (k.k a o e ne) ne⟩
theorem ne_new {H : Hp} {a b : Addr} {o : HO} (n : H b = none) (e : H a = some o) : a ≠ b := ne_of_none e n
theorem w_gen {sp : Sp} {vs : List V} {Q : VK} {E : XK} {H : Hp} (P : Hp → Prop) (hP : P H) (h : ∀ H', P H' → sp vs H' Q E) : sp vs H Q E := h H hP
theorem none_of_kp {F : List Addr} {H H' : Hp} {p : Addr} (k : Kp F H H') (m : p ∉ F) (n : H' p = none) : H p = none := by
  cases e : H p with
  | none => rfl
  | some o =>
    have z := k.k p o e m
    rw [n] at z
    cases z
theorem none_of_kp2 {H H' : Hp} {p : Addr} (n : H' p = none) (k : Kp [] H H') : H p = none := none_of_kp k ni_nil n
theorem none_of_upd {H : Hp} {p q : Addr} {o : HO} (n : upd H q o p = none) : H p = none := by
  by_cases e : p = q
  · rw [e, upd_same] at n
    cases n
  · rw [upd_ne e] at n
    exact n
theorem Kp.trans {F G : List Addr} {H H1 H2 : Hp} (k : Kp F H H1) (l : Kp G H1 H2) (s : ∀ a o, H a = some o → a ∈ G → a ∈ F) : Kp F H H2 := ⟨fun a o e ne => l.k a o (k.k a o e ne) (fun z => ne (s a o e z))⟩
theorem Kp.same {H H' : Hp} (k : Kp [] H H') : Same H H' := fun a o e => k.k a o e ni_nil
theorem Kp.of {H H' : Hp} (k : Same H H') : Kp [] H H' := ⟨fun a o e _ => k a o e⟩
theorem upd_old {H : Hp} {p a : Addr} {o u : HO} (n : H p = none) (e : H a = some u) : upd H p o a = some u := by
  rw [upd_ne (ne_of_none e n)]
  exact e
theorem upd_oth {H : Hp} {p a : Addr} {o u : HO} (n : a ≠ p) (e : H a = some u) : upd H p o a = some u := by
  rw [upd_ne n]
  exact e
theorem kp_get {F : List Addr} {H H' : Hp} {a : Addr} {o : HO} (k : Kp F H H') (e : H a = some o) (n : a ∉ F) : H' a = some o := k.k a o e n
theorem sq_l {a : Addr} {xs : List V} (e : H a = some (.lst xs)) : SqL K H a xs := .inl (.inl e)
theorem sq_t {a : Addr} {xs : List V} (e : H a = some (.tup xs)) : SqT K H a xs := .inl (.inl e)
theorem sqL_new {a p : Addr} {xs : List V} {o : HO} (n : H p = none) (s : SqL K H a xs) : SqL K (upd H p o) a xs := by
  rcases s with (s | ⟨b, s⟩) | s
  · exact .inl (.inl (upd_old n s))
  · exact .inl (.inr ⟨b, upd_old n s⟩)
  · exact .inr s
theorem sqT_new {a p : Addr} {xs : List V} {o : HO} (n : H p = none) (s : SqT K H a xs) : SqT K (upd H p o) a xs := by
  rcases s with (s | ⟨b, s⟩) | s
  · exact .inl (.inl (upd_old n s))
  · exact .inl (.inr ⟨b, upd_old n s⟩)
  · exact .inr s
end
end VH

namespace VH
open PySem PySem.Spec L2
open PyProof.Rows hiding St
/-! ### d.update(e) -/
def rDUpd : V → List V → Hp → VK → Prop := fun x xs H Q => ∃ a b kvs more, x = .ref a ∧ xs = [.ref b] ∧ a ≠ b ∧ H a = some (.dK kvs) ∧ H b = some (.dK more) ∧ kvs.length + more.length ≤ sizeLine ∧ Q .non (upd H a (.dK (mergeK kvs more)))
theorem mt_dupdate {X : Cx} : MtR X "dict.update" rDUpd := by
  intro pins s σ H x xs v us Q I rx rv h
  obtain ⟨a, b, kvs, more, rfl, rfl, ne, ha, hb, hz, q⟩ := h
  cases rx
  obtain ⟨u, rfl, ru⟩ := vals1 rv
  cases ru
  obtain ⟨_, lo, vs, r1, d1⟩ := dk_of I.hok ha
  obtain ⟨_, lo2, ws, r2, d2⟩ := dk_of I.hok hb
  refine call_meetsIn PySem.F.slot_dict_update d1.typeIs PySem.F.entry_dict_update (PySem.F.args_dict_update_2 _ _) (meets_dict_update (mixKind X.prog X.w) a b ne lo2) ⟨vs, ws, d1, d2, (by rw [← r1.length, ← r2.length]; exact hz), fun h' hm _ hs => ?_⟩
  have he : ∃ q, h'.get? a = some q := let ⟨q, _, _, hq, _⟩ := hm; ⟨q, hq⟩
  refine ⟨.non, _, d_write I (by rw [ha]; exact True.intro) hs he (dk_new ?_ lo (r2.merge r1) hm), rfl, q⟩
  exact Nat.le_trans (length_mergeK _ _) hz
section
variable {σ : St} {H : Hp} {Q : VK} {v x y : V} {K : PySem.W.Frag}
theorem w_tyD {p : Addr} {kvs : List (Key × V)} {P : Prop} (e : H p = some (.dK kvs)) (h : P) : tyV K "dict" (.ref p) H ∧ P := ⟨Or.inr (Or.inr (Or.inl ⟨rfl, Or.inl ⟨kvs, e⟩⟩)), h⟩
theorem w_dupd {a b : Addr} {kvs more : List (Key × V)} (ne : a ≠ b) (ha : H a = some (.dK kvs)) (hb : H b = some (.dK more)) (l : kvs.length + more.length ≤ sizeLine) (q : Q .non (upd H a (.dK (mergeK kvs more)))) : rDUpd (.ref a) [.ref b] H Q := ⟨a, b, kvs, more, rfl, rfl, ne, ha, hb, l, q⟩
end
/-! ### get of a dict of the top -/
/-- what a dict of the top holds at a text -/
def KAt (es : Array DictEntry) (z : Str) (o : Option V) : Prop := RelO o (findBy Value.isStrOf es z)
def tKGet2 (d : Addr) (es : Array DictEntry) (td ty tx : TE) : TE := fun σ H Q => td σ H fun x H1 => x = .ref d ∧ ty σ H1 fun y H2 => tx σ H2 fun z H3 => ∃ (k : Str) (o : Option V), y = .str k ∧ KAt es k o ∧ Q (o.getD z) H3
theorem pe_kget2 {X : Cx} {o e f : Expr} {apos cpos : Pos} {td ty tx : TE} {d : Addr} {es : Array DictEntry} {n : Nat} (D : KDict X.K X.w d es n) (ho : PE X o td) (he : PE X e ty) (hf : PE X f tx) (m : M2 X o "get" apos e f cpos) :
    PE X (.Call (.Attribute o "get" apos) [e, f] [] cpos) (tKGet2 d es td ty tx) := by
  refine ⟨fun pins s σ H Q I h => ?_⟩
  refine wpAny_Call_method m.base m.few m.line PySem.F.plainAttrs_dict PySem.F.slot_dict_get PySem.F.type_dict_get (thn (ho.run pins s σ H _ I h) fun u s1 ⟨x, H1, I1, rx, ex, q1⟩ => ?_)
  subst ex
  obtain rfl : u = Value.ref d := rx
  refine ⟨kd_type D I1, fun b e => ?_, ?_⟩
  · cases e
    exact ⟨_, I1.kIn _ _ D.at_, rfl⟩
  rw [m.trees]
  refine Calls.callWith_builtin rfl (Calls.evalArgs_plain (Calls.spliced_cons (thn (he.run pins s1 σ H1 _ I1 q1) fun iv s2 ⟨y, H2, I2, ry, q2⟩ =>
    Calls.spliced_cons (thn (hf.run pins s2 σ H2 _ I2 q2) fun fv s3 ⟨z, H3, I3, rz, k, ov, ey, g, q3⟩ => Calls.spliced_nil ?_))))
  subst ey
  obtain ⟨t, rfl⟩ := (show ∃ t, iv = Value.str k t from ry)
  have hm := PySem.W.mapOf_K (prog := X.prog) (w := X.w) I3.kIn D.at_ D.lit
  refine call_meetsIn PySem.F.slot_dict_get hm.typeIs PySem.F.entry_dict_get (PySem.F.args_dict_get_3 _ _ _) (meets_dict_get_default (strKind X.prog X.w) d (PySem.strKind_is X.prog X.w k t) D.low fv) ⟨_, hm, ⟨ov.getD z, H3, I3.tok _, ?_, q3⟩⟩
  exact RelO.getD g rz
/-! ### split, join by name -/
def rSplit : V → List V → Hp → VK → Prop := fun x xs H Q => ∃ a b, x = .str a ∧ xs = [.str b] ∧ (b.length == 0) = false ∧ a.length + 2 ≤ sizeLine ∧ rNewStrs (Txt.split a b) H Q
theorem pe_splitN {X : Cx} {o e : Expr} {to te : TE} {apos pos : Pos} (ho : PE X o to) (he : PE X e te) (hs : starEach [e] X.env = [(false, eval e X.env)] := by rfl) (hbase : attributeBase o "split" X.env (eval o X.env) = eval o X.env := by rfl) (hline : (apos.endLine == pos.line) = true := by rfl) :
    PE X (.Call (.Attribute o "split" apos) [e] [] pos) (tM1 rSplit to te) := pe_split ho he hs hbase hline
def rJoin (K : PySem.W.Frag) : V → List V → Hp → VK → Prop := fun x xs H Q => ∃ a p, ∃ ys : List Str, x = .str a ∧ xs = [.ref p] ∧ (SqL K H p (ys.map V.str) ∨ SqT K H p (ys.map V.str)) ∧ (ys.map (·.length)).sum + ys.length * a.length ≤ 16777216 ∧ Q (.str (Txt.join a ys)) H
theorem pe_joinN {X : Cx} {o e : Expr} {to te : TE} {apos pos : Pos} (ho : PE X o to) (he : PE X e te) (hs : starEach [e] X.env = [(false, eval e X.env)] := by rfl) (hbase : attributeBase o "join" X.env (eval o X.env) = eval o X.env := by rfl) (hline : (apos.endLine == pos.line) = true := by rfl) :
    PE X (.Call (.Attribute o "join" apos) [e] [] pos) (tM1 (rJoin X.K) to te) := pe_join ho he hs hbase hline
section
variable {σ : St} {H : Hp} {Q : VK} {v x y : V} {K : PySem.W.Frag}
theorem w_split {a b : Str} (hb : (b.length == 0) = false) (l : a.length + 2 ≤ sizeLine) (q : ∀ p, H p = none → Q (.ref p) (upd H p (.lst ((Txt.split a b).map V.str)))) : rSplit (.str a) [.str b] H Q := ⟨a, b, rfl, rfl, hb, l, q⟩
theorem w_join {a : Str} {p : Addr} {ys : List Str} (s : SqL K H p (ys.map V.str)) (l : (ys.map (·.length)).sum + ys.length * a.length ≤ 16777216) (q : Q (.str (Txt.join a ys)) H) : rJoin K (.str a) [.ref p] H Q := ⟨a, p, ys, rfl, rfl, .inl s, l, q⟩
def rCatS : R2 := fun x y H Q => ∃ i j, x = .str i ∧ y = .str j ∧ i.length + j.length ≤ sizeLine ∧ Q (.str (i ++ j)) H
theorem op_catS {X : Cx} : OpR X (binaryOp .Add) rCatS := op_add_str
theorem w_catS {a b : Str} (l : a.length + b.length ≤ sizeLine) (q : Q (.str (a ++ b)) H) : rCatS (.str a) (.str b) H Q := ⟨a, b, rfl, rfl, l, q⟩
theorem w_slT {p : Addr} {xs : List V} {lo hi : Option Int} (s : SqT K H p xs) (n : ¬ (HT.sIx xs.length 0 lo = 0 ∧ HT.sIx xs.length xs.length hi = xs.length)) (q : ∀ l, H l = none → Q (.ref l) (upd H l (.tup (cutV xs lo hi)))) : rSlT K (.ref p) lo hi H Q := ⟨p, xs, rfl, s, n, q⟩
theorem w_addS {a b : Str} (l : a.length + b.length ≤ sizeLine) (q : Q (.str (a ++ b)) H) : (∃ i j, V.str a = .str i ∧ V.str b = .str j ∧ i.length + j.length ≤ sizeLine ∧ Q (.str (i ++ j)) H) := ⟨a, b, rfl, rfl, l, q⟩
theorem w_cat {l b : Addr} {xs zs : List V} (hl : H l = some (.lst xs)) (hb : H b = some (.lst zs)) (z : xs.length + zs.length ≤ sizeLine) (q : ∀ p, H p = none → Q (.ref p) (upd H p (.lst (xs ++ zs)))) : rCat (.ref l) (.ref b) H Q := ⟨l, b, xs, zs, rfl, rfl, hl, hb, z, q⟩
theorem w_slice {r : V → Option Int → Option Int → Hp → VK → Prop} {te : TE} {tl th : St → Hp → (Option Int → Hp → Prop) → Prop} (h : te σ H fun x H1 => tl σ H1 fun lo H2 => th σ H2 fun hi H3 => r x lo hi H3 Q) : tSl r te tl th σ H Q := h
theorem w_part {te : TE} {QO : Option Int → Hp → Prop} (h : te σ H fun x H1 => ∃ i, x = .int i ∧ QO (some i) H1) : tPart te σ H QO := h
theorem w_noPart {QO : Option Int → Hp → Prop} (q : QO none H) : tNoPart σ H QO := q
theorem w_anInt {i : Int} {P : Int → Prop} (h : P i) : ∃ j, V.int i = V.int j ∧ P j := ⟨i, rfl, h⟩
theorem w_slL {p : Addr} {xs : List V} {lo hi : Option Int} (s : SqL K H p xs) (q : ∀ l, H l = none → Q (.ref l) (upd H l (.lst (cutV xs lo hi)))) : rSlL K (.ref p) lo hi H Q := ⟨p, xs, rfl, s, q⟩
theorem w_in {p : Addr} {xs : List V} (s : SqL K H p xs) (fx : flatV x = true) (fs : xs.all flatV = true) (q : Q (.bl (inV x xs)) H) : rIn K false x (.ref p) H Q := ⟨p, xs, rfl, .inl s, fx, fs, q⟩
end
section
variable {σ : St} {H : Hp} {Q : VK} {v x y : V} {K : PySem.W.Frag}
theorem w_disp {trs : List (TE × TE)} (h : ∀ p, H p = none → tPairs trs σ (upd H p (.dK [])) fun ps H2 => H2 p = some (.dK []) ∧ ∃ kvs : List (Key × V), ps = kvs.map (fun kv => (kV kv.1, kv.2)) ∧ kvs.length ≤ 15 ∧ Q (.ref p) (upd H2 p (.dK (mergeK [] kvs)))) : tDisp trs σ H Q := h
theorem w_pnil {QP : List (V × V) → Hp → Prop} (q : QP [] H) : tPairs [] σ H QP := q
theorem w_pcons {tk tv : TE} {r : List (TE × TE)} {QP : List (V × V) → Hp → Prop} (h : tk σ H fun x H1 => tv σ H1 fun y H2 => tPairs r σ H2 fun ps H3 => QP ((x, y) :: ps) H3) : tPairs ((tk, tv) :: r) σ H QP := h
theorem w_dget2 {td ty tx : TE} (h : td σ H fun x H1 => ∃ a, x = .ref a ∧ IsD H1 a ∧ ty σ H1 fun y H2 => tx σ H2 fun z H3 => ∃ o, DGet H3 a y o ∧ Q (o.getD z) H3) : tDGet2 td ty tx σ H Q := h
theorem w_isD {p : Addr} {kvs : List (Key × V)} {R : Addr → Prop} (e : H p = some (.dK kvs)) (h : R p) : ∃ a, V.ref p = .ref a ∧ IsD H a ∧ R a := ⟨p, rfl, .inl ⟨kvs, .inl e⟩, h⟩
theorem w_dgS {p : Addr} {kvs : List (Key × V)} {z : Str} {R : Option V → Prop} (e : H p = some (.dK kvs)) (h : R (valV kvs (Sum.inr z))) : ∃ o, DGet H p (.str z) o ∧ R o := ⟨_, DGet.k (k := Sum.inr z) e, h⟩
theorem w_ixS {z : Str} {i : Int} {c : Nat} (l : z.length ≤ sizeLine) (a : atI z.cps.toList i = some c) (q : Q (.str ⟨#[c]⟩) H) : rIxS (.str z) (.int i) H Q := ⟨z, i, c, rfl, rfl, l, a, q⟩
theorem w_intS {z : Str} {n : Int} (t : PySem.intText? z = some n) (l : z.length ≤ 640) (q : Q (.int n) H) : rIntS [.str z] H Q := ⟨z, n, rfl, t, l, q⟩
theorem w_lc {wi : TI} {g : TG} {tt : TT} {te : TE} {vs : List Nat} (h : wi σ H fun J H1 => ∀ D, H1 D = none → ∃ W : Nat → Nat → Hp → Prop, (∃ m, W 0 m (upd H1 D (.lst []))) ∧ ∀ i m H, W i m H →
  (J.stop i H ∧ Q (.ref D) H) ∨ (J.go i H ∧ ∃ Nx : Hp → Prop, (∀ H', Nx H' → ∃ m', m' < m ∧ W (i + 1) m' H') ∧ ∀ x H', J.yld i H x H' → g x (wipe σ vs) H' fun σ2 H2 => wipe σ2 vs = wipe σ vs ∧ tt σ2 H2 fun b H3 =>
    if b = true then te σ2 H3 fun y H4 => ∃ acc, H4 D = some (.lst acc) ∧ acc.length < sizeLine ∧ Nx (upd H4 D (.lst (acc ++ [y]))) else Nx H3)) : tLc wi g tt te vs σ H Q := h
theorem w_aStr {z : Str} {P : Str → Prop} (h : P z) : ∃ x, V.str z = .str x ∧ P x := ⟨z, rfl, h⟩
theorem w_itL {p : Addr} {xs : List V} {R : Addr → Prop} (s : SqL K H p xs) (h : R p) : ∃ a, V.ref p = .ref a ∧ (∃ xs, SqL K H a xs) ∧ R a := ⟨p, rfl, ⟨xs, s⟩, h⟩
theorem w_itT {p : Addr} {xs : List V} {R : Addr → Prop} (s : SqT K H p xs) (h : R p) : ∃ a, V.ref p = .ref a ∧ (∃ xs, SqT K H a xs) ∧ R a := ⟨p, rfl, ⟨xs, s⟩, h⟩
theorem w_rng {n : Int} {R : Int → Prop} (h0 : -(2 ^ 62) ≤ n) (h1 : n < 2 ^ 62) (h : R n) : ∃ j : Int, [V.int n] = [V.int j] ∧ -(2 ^ 62) ≤ j ∧ j < 2 ^ 62 ∧ R j := ⟨n, rfl, h0, h1, h⟩
theorem w_enum {p : Addr} {xs : List V} {R : Addr → Prop} (s : SqL K H p xs) (h : R p) : ∃ a ys, [V.ref p] = [V.ref a] ∧ SqL K H a ys ∧ R a := ⟨p, xs, rfl, s, h⟩
end
section
variable {a b : Int} {z t : Str} {p : Prop} [Decidable p]
theorem nbT (h : ¬ p) : (!decide p) = true := by rw [decide_eq_false h]; rfl
theorem nbF (h : p) : (!decide p) = false := by rw [decide_eq_true h]; rfl
theorem iT (h : a = b) : decide (V.int a = V.int b) = true := by rw [decI]; exact decide_eq_true h
theorem iF (h : ¬ a = b) : decide (V.int a = V.int b) = false := by rw [decI]; exact decide_eq_false h
theorem niT (h : ¬ a = b) : (!decide (V.int a = V.int b)) = true := by rw [iF h]; rfl
theorem niF (h : a = b) : (!decide (V.int a = V.int b)) = false := by rw [iT h]; rfl
theorem sT (h : z = t) : decide (V.str z = V.str t) = true := by rw [decS]; exact decide_eq_true h
theorem sF (h : ¬ z = t) : decide (V.str z = V.str t) = false := by rw [decS]; exact decide_eq_false h
theorem nsT (h : ¬ z = t) : (!decide (V.str z = V.str t)) = true := by rw [sF h]; rfl
theorem nsF (h : z = t) : (!decide (V.str z = V.str t)) = false := by rw [sT h]; rfl
end
theorem take_snoc {α β : Type} {l : List α} {i : Nat} {a : α} (h : l[i]? = some a) (f : α → β) : (l.take i).map f ++ [f a] = (l.take (i + 1)).map f := by
  rw [List.take_add_one, h]
  simp
theorem cutV_from (xs : List V) (k : Nat) : cutV xs (some (k : Int)) none = xs.drop k := by
  unfold cutV
  rw [HT.sIx_nat, HT.sIx_none]
  by_cases h : k ≤ xs.length
  · rw [Nat.min_eq_left h]
    exact List.take_of_length_le (by rw [List.length_drop]; omega)
  · rw [Nat.min_eq_right (by omega), List.drop_of_length_le (Nat.le_refl _), List.drop_of_length_le (by omega), List.take_nil]
section
variable {σ : St} {H : Hp} {Q : VK} {v x y : V} {K : PySem.W.Frag} {QG : St → Hp → Prop}
theorem w_gTup {n : Nat} {t : TGs} {p : Addr} {xs : List V} (s : SqT K H p xs) (l : xs.length = n) (h : t xs σ H QG) : gTup K n t (.ref p) σ H QG := ⟨p, xs, rfl, s, l, h⟩
theorem w_gCons {t : TG} {u : TGs} {r : List V} (h : t v σ H fun σ' H' => u r σ' H' QG) : gCons t u (v :: r) σ H QG := ⟨v, r, rfl, h⟩
theorem w_gNil (q : QG σ H) : gNil [] σ H QG := ⟨rfl, q⟩
theorem w_kget2 {d : Addr} {es : Array DictEntry} {td ty tx : TE} (h : td σ H fun x H1 => x = .ref d ∧ ty σ H1 fun y H2 => tx σ H2 fun z H3 => ∃ (k : Str) (o : Option V), y = .str k ∧ KAt es k o ∧ Q (o.getD z) H3) : tKGet2 d es td ty tx σ H Q := h
theorem w_same {P : Prop} (h : P) : v = v ∧ P := ⟨rfl, h⟩
theorem w_kat {es : Array DictEntry} {k : Str} {o : Option V} {P : Option V → Prop} (g : KAt es k o) (h : P o) : ∃ (k' : Str) (o : Option V), V.str k = .str k' ∧ KAt es k' o ∧ P o := ⟨k, o, rfl, g, h⟩
end
theorem for_enum {K : PySem.W.Frag} {a : Addr} {xs : List V} {g : TG} {tb : TS} {D : Ends} {σ : St} {H : Hp} (Pv : Nat → St → Hp → Prop) (h0 : Pv 0 σ H) (hl : ∀ i σ H, i ≤ xs.length → Pv i σ H → SqL K H a xs)
    (hs : ∀ i x T σ H, xs[i]? = some x → Pv i σ H → H T = none → g (.ref T) σ (upd H T (.tup [.int (i : Nat), x])) fun σ2 H2 => tb { D with nx := Pv (i + 1), ct := Pv (i + 1), bk := D.nx } σ2 H2) (hd : ∀ σ H, Pv xs.length σ H → D.nx σ H) :
    ∃ W : Nat → Nat → St → Hp → Prop, (∃ m, W 0 m σ H) ∧ ∀ i m σ H, W i m σ H →
      ((Ite K a).stop i H ∧ D.nx σ H) ∨ ((Ite K a).go i H ∧ ∃ N : St → Hp → Prop, (∀ σ' H', N σ' H' → ∃ m', m' < m ∧ W (i + 1) m' σ' H') ∧ ∀ x H', (Ite K a).yld i H x H' → g x σ H' fun σ2 H2 => tb { D with nx := N, ct := N, bk := D.nx } σ2 H2) := by
  refine ⟨fun i m σ H => m = xs.length - i ∧ i ≤ xs.length ∧ Pv i σ H, ⟨xs.length, by simp, Nat.zero_le _, h0⟩, ?_⟩
  rintro i m σ H ⟨rfl, hi, p⟩
  have q := hl i σ H hi p
  by_cases hlt : i < xs.length
  · refine .inr ⟨⟨xs, xs[i], q, by simp [hlt]⟩, Pv (i + 1), fun σ' H' p' => ⟨xs.length - (i + 1), by omega, rfl, hlt, p'⟩, fun v H' y => ?_⟩
    obtain ⟨T, x, rfl, nT, rfl, f⟩ := y
    exact hs i x T σ H (f xs q) p nT
  · have e : i = xs.length := by omega
    subst e
    exact .inl ⟨⟨xs, q, Nat.le_refl _⟩, hd σ H p⟩
theorem blkOk_free {N : List Str} {sc scope : Scope} {own : List (Str × Nat)} (h : blkC N scope scope own = true) (nf : (scope.names.all fun y => match y.2 with | .free => false | _ => true) = true) : BlkOk N sc scope own := by
  obtain ⟨a, b, c, d, e⟩ := blkOk_by h
  refine ⟨a, b, c, fun y hy hf => ?_, e⟩
  have z := List.all_eq_true.mp nf y hy
  rw [hf] at z
  cases z
section
variable {X : Cx} {elt tg iter : Expr} {ifs : List Expr} {scope : Scope} {own : List (Str × Nat)} {pos : Pos} {wi : TI}
  {g' : Shared → Hp → Addr → List (Str × Addr) → List Addr → TG} {tt' : Shared → Hp → Addr → List (Str × Addr) → List Addr → TT} {te' : Shared → Hp → Addr → List (Str × Addr) → List Addr → TE}
/-- a comprehension whose parts' readings may name the block's context -/
theorem pe_lcD (hc : X.calm = true) (hN : X.N.Nodup) (hi : PI X tg iter wi) (ok : BlkOk X.N X.env.scope scope own)
    (hg : ∀ (s : Shared) (H : Hp) (C : Addr) (cl : List (Str × Addr)) (fp : List Addr), PG (X.blk s H scope (compEnvC scope cl C X.env) fp) tg (g' s H C cl fp))
    (ht : ∀ (s : Shared) (H : Hp) (C : Addr) (cl : List (Str × Addr)) (fp : List Addr), PTs (X.blk s H scope (compEnvC scope cl C X.env) fp) ifs (tt' s H C cl fp))
    (he : ∀ (s : Shared) (H : Hp) (C : Addr) (cl : List (Str × Addr)) (fp : List Addr), PE (X.blk s H scope (compEnvC scope cl C X.env) fp) elt (te' s H C cl fp))
    (hs : ∀ x, foldedSetIterable iter X.env x = pure x := by intro _; rfl)
    (eg : ∀ s H C cl fp, g' s H C cl fp = g' X.s_0 X.H_0 0 [] [] := by intros; rfl) (et : ∀ s H C cl fp, tt' s H C cl fp = tt' X.s_0 X.H_0 0 [] [] := by intros; rfl) (ee : ∀ s H C cl fp, te' s H C cl fp = te' X.s_0 X.H_0 0 [] [] := by intros; rfl) :
    PE X (.ListComp elt [⟨tg, iter, ifs, 0⟩] scope pos) (tLc wi (g' X.s_0 X.H_0 0 [] []) (tt' X.s_0 X.H_0 0 [] []) (te' X.s_0 X.H_0 0 [] []) (own.map (·.2))) :=
  pe_lc hc hN hi ok (fun s H C cl fp => by rw [← eg s H C cl fp]; exact hg s H C cl fp) (fun s H C cl fp => by rw [← et s H C cl fp]; exact ht s H C cl fp) (fun s H C cl fp => by rw [← ee s H C cl fp]; exact he s H C cl fp) hs
theorem ps_setLcD {i : Nat} {y : Str} {py spos : Pos} (hc : X.calm = true) (hN : X.N.Nodup) (hy : X.N[i]? = some y) (hyl : X.env.scope.names.lookup y = some .local)
    (hsw : swapsWith (.ListComp elt [⟨tg, iter, ifs, 0⟩] scope pos) (some (.Name y py)) spos.line X.env = pure true) (hi : PI X tg iter wi) (ok : BlkOk X.N X.env.scope scope own)
    (hg : ∀ (s : Shared) (H : Hp) (C : Addr) (cl : List (Str × Addr)) (fp : List Addr), PG (X.blk s H scope (compEnvC scope cl C X.env) fp) tg (g' s H C cl fp))
    (ht : ∀ (s : Shared) (H : Hp) (C : Addr) (cl : List (Str × Addr)) (fp : List Addr), PTs (X.blk s H scope (compEnvC scope cl C X.env) fp) ifs (tt' s H C cl fp))
    (he : ∀ (s : Shared) (H : Hp) (C : Addr) (cl : List (Str × Addr)) (fp : List Addr), PE (X.blk s H scope (compEnvC scope cl C X.env) fp) elt (te' s H C cl fp))
    (hs : ∀ x, foldedSetIterable iter X.env x = pure x := by intro _; rfl)
    (eg : ∀ s H C cl fp, g' s H C cl fp = g' X.s_0 X.H_0 0 [] [] := by intros; rfl) (et : ∀ s H C cl fp, tt' s H C cl fp = tt' X.s_0 X.H_0 0 [] [] := by intros; rfl) (ee : ∀ s H C cl fp, te' s H C cl fp = te' X.s_0 X.H_0 0 [] [] := by intros; rfl) :
    PS X (.Assign [.Name y py] (.ListComp elt [⟨tg, iter, ifs, 0⟩] scope pos) spos) (tAsg (tLc wi (g' X.s_0 X.H_0 0 [] []) (tt' X.s_0 X.H_0 0 [] []) (te' X.s_0 X.H_0 0 [] []) (own.map (·.2))) (gName i)) :=
  ps_setLc hc hN hy hyl hsw hi ok (fun s H C cl fp => by rw [← eg s H C cl fp]; exact hg s H C cl fp) (fun s H C cl fp => by rw [← et s H C cl fp]; exact ht s H C cl fp) (fun s H C cl fp => by rw [← ee s H C cl fp]; exact he s H C cl fp) hs
end
/-! ### comprehensions over a text -/
theorem lc_str {x : Str} {g : TG} {tt : TT} {te : TE} {vs : List Nat} {σ : St} {H1 : Hp} {D : Addr} {Qd : Hp → Prop} (Pv : Nat → Hp → Prop) (h0 : Pv 0 (upd H1 D (.lst [])))
    (hs : ∀ i c H, x.cps[i]? = some c → Pv i H → g (.str ⟨#[c]⟩) (wipe σ vs) H fun σ2 H2 => wipe σ2 vs = wipe σ vs ∧ tt σ2 H2 fun b H3 =>
      if b = true then te σ2 H3 fun y H4 => ∃ acc, H4 D = some (.lst acc) ∧ acc.length < sizeLine ∧ Pv (i + 1) (upd H4 D (.lst (acc ++ [y]))) else Pv (i + 1) H3) (hd : ∀ H, Pv x.cps.size H → Qd H) :
    ∃ W : Nat → Nat → Hp → Prop, (∃ m, W 0 m (upd H1 D (.lst []))) ∧ ∀ i m H, W i m H →
      ((Its x).stop i H ∧ Qd H) ∨ ((Its x).go i H ∧ ∃ Nx : Hp → Prop, (∀ H', Nx H' → ∃ m', m' < m ∧ W (i + 1) m' H') ∧ ∀ z H', (Its x).yld i H z H' → g z (wipe σ vs) H' fun σ2 H2 => wipe σ2 vs = wipe σ vs ∧ tt σ2 H2 fun b H3 =>
        if b = true then te σ2 H3 fun y H4 => ∃ acc, H4 D = some (.lst acc) ∧ acc.length < sizeLine ∧ Nx (upd H4 D (.lst (acc ++ [y]))) else Nx H3) := by
  refine ⟨fun i m H => m = x.cps.size - i ∧ i ≤ x.cps.size ∧ Pv i H, ⟨x.cps.size, by simp, Nat.zero_le _, h0⟩, ?_⟩
  rintro i m H ⟨rfl, hi, p⟩
  by_cases hlt : i < x.cps.size
  · refine .inr ⟨hlt, Pv (i + 1), fun H' p' => ⟨x.cps.size - (i + 1), by omega, rfl, hlt, p'⟩, fun z H' y => ?_⟩
    obtain ⟨e, c, hc, rfl⟩ := y
    subst e
    exact hs i c _ hc p
  · have e : i = x.cps.size := by omega
    subst e
    exact .inl ⟨Nat.le_refl _, hd H p⟩
end VH

namespace VH
open PySem PySem.Spec L2 LamX
open PyProof.Rows hiding St
/-! ### isinstance(e, c), e the exception that a suite holds, with or without a dict -/
def rIsC (K : PySem.W.Frag) (a : Addr) (cls : Value) (d : Option Addr) : List V → Hp → VK → Prop := fun xs H Q => ∃ (D : Addr) (c : V) (cv : Value) (b : Bool), cls = .ref D ∧ ExcC K D ∧ (d = none ∨ ∃ dd fs, d = some dd ∧ H dd = some (.xd fs)) ∧
  xs = [.ref a, c] ∧ (∀ u, RelV c u → u = cv) ∧ PySem.W.kitOne K (.ref D) cv = some b ∧ Q (.bl b) H
theorem call_isC {X : Cx} {a : Addr} {oe : Obj} {cls : Value} {d : Option Addr} {pn : List (Addr × Obj)} (hz : Zc cls d oe) (hf : ∃ vs, oe.data = .fields vs) : CallR (X.suite a ((a, oe) :: pn)) (.builtin "isinstance") (rIsC X.K a cls d) := by
  intro pins s σ H xs us Q I r h
  obtain ⟨D, c, cv, b, rfl, C, hd, rfl, hcv, e, q⟩ := h
  cases r with
  | cons rx rr =>
    cases rr with
    | cons rt rr =>
      cases rr
      cases rx
      have ec := hcv _ rt
      subst ec
      obtain ⟨hget, _⟩ := I.pin (a, oe) (List.mem_append.mpr (.inl List.mem_cons_self))
      obtain ⟨vs, hv⟩ := hf
      obtain ⟨od, J⟩ : ∃ od, PySem.W.InstAt s.heap a oe D od := by
        rcases hd with rfl | ⟨dd, fs, rfl, ea⟩
        · refine ⟨none, hget, hz.1, by unfold PySem.W.notCls; rw [hv] <;> rfl, ?_⟩
          rw [hz.2]
          trivial
        · have hx : ObjOk X.prog X.w H s.heap dd (.xd fs) := I.hok dd _ ea
          obtain ⟨mA, hns, hr⟩ := hx
          obtain ⟨od, ho, hl⟩ := lookIn_ns hns
          exact ⟨some od, hget, hz.1, by unfold PySem.W.notCls; rw [hv] <;> rfl, by rw [hz.2]; exact ho⟩
      have hcl : (PySem.W.clsIn X.K D).isSome = true := by
        obtain ⟨cd, hc, _⟩ := PySem.W.any_some C.hd
        rw [hc]
        rfl
      exact PySem.W.kia_one (PySem.W.kitx_exc (gt := none) hcl C.hg C.hk C.hs C.ha C.hn C.ht C.hm) I.kIn J e (fun z => nomatch z) fun tk => ⟨.bl b, H, I.kept (t' := tk) fun _ _ z => z, rfl, q⟩
/-! ### list.count, flat items -/
def rCntF (K : PySem.W.Frag) : V → List V → Hp → VK → Prop := fun x xs H Q => ∃ (p : Addr) (ys : List V) (y : V), x = .ref p ∧ xs = [y] ∧ SqL K H p ys ∧ flatV y = true ∧ ys.all flatV = true ∧ Q (.int ((ys.countP fun z => eqV z y : Nat) : Int)) H
theorem cnt_eqU {y : V} : ∀ {ys : List V} {us : List Value}, Vals ys us → ys.all flatV = true → us.countP (eqU y) = ys.countP fun z => eqV z y
  | _, _, .nil, _ => rfl
  | _, _, .cons (a := x) (b := u) r t, h => by
    have h : (flatV x && _) = true := h
    rw [Bool.and_eq_true] at h
    rw [List.countP_cons, List.countP_cons, cnt_eqU t h.2, eqU_of r h.1]
theorem mt_countF {X : Cx} : MtR X "list.count" (rCntF X.K) := by
  intro pins s σ H x xs v us Q I rx rxs h
  obtain ⟨a, ys, y, rfl, rfl, hs, fy, fys, q⟩ := h
  cases rx
  cases rxs with
  | cons ry rt =>
    rename_i uy ut
    cases rt
    obtain ⟨its, rv, ⟨⟨cls, dd, data, sl⟩, n, ho, hc, hdn, hd⟩, hlen⟩ := I.list hs
    simp only at hc hd
    subst hc hd
    refine call_meets PySem.F.slot_list_count ⟨_, ho, rfl⟩ PySem.F.entry_list_count (PySem.F.args_list_count_2 _ _)
      (SeqAt.list_countAt a its.toArray n dd sl uy (eqU y)) ⟨ho, fun u' hu' => mem_eqAt ry fy rv fys u' (by simpa using hu'), ?_⟩
    refine ⟨.int ((ys.countP fun z => eqV z y : Nat) : Int), H, I.tok _, ⟨s.toks, ?_⟩, q⟩
    show Value.int ((its.toArray.toList.countP (eqU y) : Nat) : Int) s.toks = _
    rw [show its.toArray.toList = its from rfl, cnt_eqU rv fys]
/-! ### C.__init__(self, ..), C an own class that has ValueError's -/
theorem pe_vinit {X : Cx} {x : Str} {CV : Addr} {e : Expr} {es : List Expr} {ta : TA} {p1 p2 pos : Pos} {pl : Sem Bool} (hg : Gl X x) (hm : X.mg x = some (.ref CV)) (r : ClX.CRead X.K CV (.type "type"))
    (vV : PySem.W.findCls X.K (.ref CV) (.type "type") "__init__" = some (.val (.builtin "ValueError.__init__"))) (ha : PA X (e :: es) ta) (hdb : (x == ("__debug__" : Str)) = false := by decide)
    (hc : eval (.Call (.Attribute (.Name x p1) "__init__" p2) (e :: es) [] pos) X.env = (do
      let ov ← eval (.Name x p1) X.env
      standAt p2.atName
      let (f, first) ← holding [ov] (getMethod ov "__init__" pl)
      callWith pos f first (backTo pos (starEach (e :: es) X.env)) (backToKw pos (keywordEach [] X.env))) := by rfl)
    (he : starEach (e :: es) X.env = (false, eval e X.env) :: starEach es X.env := by rfl) (hpl : (backTo pos (starEach es X.env)).any (·.1) = false := by rfl) :
    PE X (.Call (.Attribute (.Name x p1) "__init__" p2) (e :: es) [] pos) (tVeI X.K ta) := by
  refine ⟨fun pins s σ H Q I h => ?_⟩
  refine PySem.W.methodCall_KW (ld_glob I hg hm ?_ hdb) hc
  refine PySem.W.method_cls I.kIn r.ga (PySem.W.cls_value I.kIn r.rd vV (by decide +kernel) ?_)
  show wpAny _ _ (callWith pos (Value.builtin "ValueError.__init__") [] (backTo pos (starEach (e :: es) X.env)) []) _ _ _
  refine PyProof.Rows.callWith_method1 (thn (ha.run pos pins _ σ H _ (I.tok _) h) fun us s1 ⟨vs, H1, I1, r1, a, C, ws, ev, hl, T, ea, q⟩ => ?_) he hpl
  subst ev
  cases r1 with
  | @cons _ u0 _ ur ra rw' =>
    obtain rfl : u0 = Value.ref a := ra
    have hlen : ur.length ≤ sizeLine := by
      rw [← Paired.length rw', sizeLine_eq]
      omega
    exact oinit_ok T I1 ea hlen fun s' J => ⟨.non, H1, J, rfl, q⟩
/-! ### the same rules in a suite: their readings may not name the caught exception -/
section
variable {X : Cx} {a : Addr} {pn : List (Addr × Obj)} {o e : Expr} {es : List Expr} {to : TE} {t : TA} {name : Str} {apos cpos : Pos} {T id : String} {r : V → List V → Hp → VK → Prop}
theorem pe_bmS (pa : PlainAttrs T) (slot : Slot T name id) (hty : typeOf (.builtin id) = pure (.type "method_descriptor")) (hm : MtR (X.suite a pn) id r) (ho : PE (X.suite a pn) o to) (ha : PA (X.suite a pn) (e :: es) t)
    (hbase : attributeBase o name X.env (eval o X.env) = eval o X.env := by rfl)
    (hfew : ((backTo cpos (starEach (e :: es) X.env)).all (fun x => !x.1) && (backToKw cpos (keywordEach [] X.env)).all (fun x => x.1.isSome)
      && decide ((e :: es).length + ([] : List Keyword).length + (if ([] : List Keyword).isEmpty then 0 else 1) < 30)) = true := by rfl)
    (hline : (apos.endLine == cpos.line) = true := by rfl) (hs : starEach (e :: es) X.env = (false, eval e X.env) :: starEach es X.env := by rfl) (hplain : (backTo cpos (starEach es X.env)).any (·.1) = false := by rfl) :
    PE (X.suite a pn) (.Call (.Attribute o name apos) (e :: es) [] cpos) (tBM X.K T r to t) := pe_bm (X := X.suite a pn) pa slot hty hm ho ha hbase hfew hline hs hplain
theorem mt_countS : MtR (X.suite a pn) "list.count" (rCntF X.K) := mt_countF (X := X.suite a pn)
theorem mt_indexS : MtR (X.suite a pn) "list.index" (rIndex X.K) := mt_index (X := X.suite a pn)
theorem ix_listS : IxR (X.suite a pn) (rIxL X.K) := ix_list (X := X.suite a pn)
end
section
variable {K : PySem.W.Frag} {σ : L2.St} {H : Hp} {Q : VK} {D : Ends}
theorem w_cntF {p : Addr} {ys : List V} {y : V} {n : Int} (s : SqL K H p ys) (fy : flatV y = true) (fys : ys.all flatV = true) (e : ((ys.countP fun z => eqV z y : Nat) : Int) = n) (q : Q (.int n) H) : rCntF K (.ref p) [y] H Q := ⟨p, ys, y, rfl, rfl, s, fy, fys, by rw [e]; exact q⟩
theorem w_indF {p : Addr} {ys : List V} {y : V} {j : Nat} {z : V} (s : SqL K H p ys) (fy : flatV y = true) (fys : ys.all flatV = true) (hz : ys[j]? = some z) (e : eqV z y = true) (no : ∀ (m : Nat) (z' : V), m < j → ys[m]? = some z' → eqV z' y = false) (q : Q (.int (j : Nat)) H) : rIndex K (.ref p) [y] H Q :=
  ⟨p, ys, y, j, z, rfl, rfl, s, fy, fys, hz, e, no, q⟩
theorem w_vei {ta : TA} (h : ta σ H fun vs H1 => ∃ (a C : Addr) (ws : List V), vs = .ref a :: ws ∧ ws.length ≤ 1000 ∧ OexC K C ∧ H1 a = some (exo a C none) ∧ Q .non H1) : tVeI K ta σ H Q := h
theorem w_ost {f : Str} {to te : TE} (h : te σ H fun y H1 => to σ H1 fun x H2 => ∃ a C : Addr, x = .ref a ∧ OexC K C ∧ PySem.W.findIn K (.ref C) f = some none ∧
  ((H2 a = some (exo a C none) ∧ ∀ dx, H2 dx = none → dx ≠ a → D.nx σ (upd (upd H2 dx (exd dx [(f, y)])) a (exo a C (some dx)))) ∨
    ∃ (dx : Addr) (fs : List (Str × V)), H2 a = some (exo a C (some dx)) ∧ H2 dx = some (exd dx fs) ∧ fs.length ≤ 900 ∧ D.nx σ (upd H2 dx (exd dx ((f, y) :: fs))))) : tOst K f to te D σ H := h
theorem w_mkO {C : Addr} {sp : Sp} {dvs : List V} {ta : TA} {QX : XK} (h : ta σ H fun vs H1 => vs.length ≤ 1000 ∧ ∀ a, H1 a = none → sp (.ref a :: (vs ++ dvs)) (upd H1 a (exo a C none))
  (fun v H2 => v = .non ∧ ∃ (d : Addr) (fs : List (Str × V)), H2 a = some (exo a C (some d)) ∧ H2 d = some (exd d fs) ∧ H1 d = none ∧ QX (.ref C) (some d) (upd (del H2 a) d (.xd fs))) (fun _ _ _ => False)) : tMkO C sp dvs ta σ H QX := h
/-- the heap behind such a raise -/
theorem kp_mkO {a d : Addr} {fs : List (Str × V)} {o1 o2 o3 : HO} (na : H a = none) (nd : H d = none) : Kp [] H (upd (del (upd (upd (upd H a o1) d o2) a o3) a) d (.xd fs)) := ⟨fun b o e _ => by
  have h1 : b ≠ a := ne_of_none e na
  have h2 : b ≠ d := ne_of_none e nd
  rw [upd_ne h2, del_ne h1, upd_ne h1, upd_ne h2, upd_ne h1]
  exact e⟩
end
/-! ### text[::-1] -/
def revS (z : Str) : Str := ⟨(((List.range z.length).map fun k => z.length - 1 - k).filterMap (z.cps[·]?)).toArray⟩
def tRevS (te : TE) : TE := fun σ H Q => te σ H fun x H1 => ∃ z, x = .str z ∧ z.length ≤ sizeLine ∧ Q (.str (revS z)) H1
theorem revS_len (z : Str) : (revS z).length ≤ z.length := by
  show (((List.range z.length).map fun k => z.length - 1 - k).filterMap (z.cps[·]?)).toArray.size ≤ _
  rw [List.size_toArray]
  refine Nat.le_trans (List.length_filterMap_le _ _) ?_
  rw [List.length_map, List.length_range]
  exact Nat.le_refl _
theorem revS_mem {z : Str} {c : Nat} (h : c ∈ TL.tl (revS z)) : c ∈ TL.tl z := by
  have h : c ∈ (((List.range z.length).map fun k => z.length - 1 - k).filterMap (z.cps[·]?)).toArray.toList := h
  have h : c ∈ (((List.range z.length).map fun k => z.length - 1 - k).filterMap (z.cps[·]?)) := h
  obtain ⟨i, _, hi⟩ := List.mem_filterMap.mp h
  show c ∈ z.cps.toList
  exact Array.mem_toList_iff.mpr (Array.mem_of_getElem? hi)
theorem pe_revS {X : Cx} {e : Expr} {te : TE} {k : Nat} {p1 p2 p3 pos : Pos} (he : PE X e te) : PE X (.Subscript e (.Slice none none (some (.UnaryOp .USub (.Constant (.int 1) k p1) p2)) p3) pos) (tRevS te) := by
  refine ⟨fun pins s σ H Q I h => ?_⟩
  refine Subscript_ (thn (he.run pins s σ H _ I h) fun v s1 ⟨x, H1, I1, r1, q1⟩ => ?_)
  obtain ⟨z, ex, hz, q⟩ := q1
  subst ex
  obtain ⟨t, rfl⟩ := r1
  have hst : PO X (some (.UnaryOp .USub (.Constant (.int 1) k p1) p2)) (tPart (tUn (rU fun i => .int (-i)) (tC (.int 1)))) := po_some (pe_un un_neg pe_int)
  refine wpAny_Slice (thn (po_none.run pins s1 σ H1 (fun o H2 => o = none ∧ H2 = H1) I1 ⟨rfl, rfl⟩) fun vl s2 ⟨l, H2, I2, pl, el, e2⟩ => ?_)
  subst el e2
  refine thn (po_none.run pins s2 σ H2 (fun o H3 => o = none ∧ H3 = H2) I2 ⟨rfl, rfl⟩) fun vu s3 ⟨u, H3, I3, pu, eu, e3⟩ => ?_
  subst eu e3
  refine thn (hst.run pins s3 σ H3 (fun o H4 => o = some (-1) ∧ H4 = H3) I3 ⟨1, rfl, -1, rfl, rfl, rfl⟩) fun vs s4 ⟨o, H4, I4, ps, eo, e4⟩ => ?_
  subst eo e4
  have I5 : Inv X pins σ H4 { s4 with heap := s4.heap.push { cls := .type "slice", data := .fields #[vl, vu, vs] } } := I4.kept (t' := s4.toks) fun b ob q => Heap.get?_push_of_some _ q
  show wpAny (model X.prog X.w) X.A (subscriptTail e (.Slice none none (some (.UnaryOp .USub (.Constant (.int 1) k p1) p2)) p3) (.str z t) (.ref s4.heap.objs.size)) (EP X pins σ Q) X.xe { s4 with heap := s4.heap.push { cls := .type "slice", data := .fields #[vl, vu, vs] } }
  obtain ⟨l, rfl, hl1⟩ := IsPart.raw pl
  obtain ⟨u, rfl, hu1⟩ := IsPart.raw pu
  obtain ⟨st, rfl, hs1⟩ := IsPart.raw ps
  refine tail_any (ops := [.str z t, .ref s4.heap.objs.size]) (typeIs_str _ _ _) F.slot_str_getitem.lookup ?_ (by with_unfolding_all rfl)
  refine wpAny_getItem_str_slice (l := l) (u := u) (st := st) ⟨_, Heap.get?_push_size _ rfl, rfl, rfl⟩ (by rw [hs1]; rfl) ?_
  have e : slicePicked z l u st = (List.range z.length).map fun k => z.length - 1 - k := by
    unfold slicePicked
    rw [hl1, hu1, hs1]
    exact PySem.W.krv_sliceRange z.length
  unfold sliceMade
  rw [hs1, e, if_neg (by simp)]
  refine ⟨Nat.le_trans (revS_len z) hz, .str _, H4, I5.tok _, ⟨_, rfl⟩, q⟩
/-- both branches of an if meet again: P holds there -/
theorem w_joinI {c : TT} {t u : TS} {D : Ends} {σ : L2.St} {H : Hp} (P : L2.St → Hp → Prop) (k : ∀ σ' H', P σ' H' → D.nx σ' H') (h : ∀ G : L2.St → Hp → Prop, (∀ σ' H', P σ' H' → G σ' H') → tIfS c t u { D with nx := G } σ H) : tIfS c t u D σ H := h D.nx k
theorem w_joinS {t : TS} {D : Ends} {σ : L2.St} {H : Hp} (P : L2.St → Hp → Prop) (k : ∀ σ' H', P σ' H' → D.nx σ' H') (h : ∀ G : L2.St → Hp → Prop, (∀ σ' H', P σ' H' → G σ' H') → t { D with nx := G } σ H) : t D σ H := h D.nx k
/-- a new object is named: the heap ahead of it is kept by what is known of it alone -/
theorem w_newN {Hx : Hp} {i : Nat} {σ : L2.St} {o : HO} {QG : L2.St → Hp → Prop} (P : Hp → Prop) (hP : P Hx) (h : ∀ HB, P HB → ∀ p, HB p = none → gName i (V.ref p) σ (upd HB p o) QG) : ∀ p, Hx p = none → gName i (V.ref p) σ (upd Hx p o) QG := h Hx hP
/-! ### tables -/
theorem Tabs.kp {T : List (Addr × Str)} {H H' : Hp} {F : List Addr} (t : Tabs T H) (k : Kp F H H') (l : ∀ a ∈ F, ∃ xs, H a = some (.lst xs)) : Tabs T H' := fun p hp => by
  obtain ⟨ps, h1, h2, h3⟩ := t p hp
  have no : ∀ a o, H a = some o → (∀ xs, o ≠ .lst xs) → a ∉ F := fun a o e n hm => by
    obtain ⟨xs, z⟩ := l a hm
    rw [e] at z
    exact n xs (Option.some.inj z)
  refine ⟨ps, k.k _ _ h1 (no _ _ h1 fun xs z => by cases z), h2, fun pos cv hc => ?_⟩
  obtain ⟨c, e1, e2⟩ := h3 pos cv hc
  exact ⟨c, e1, k.k _ _ e2 (no _ _ e2 fun xs z => by unfold CodeO at z; cases z)⟩
theorem Tabs.kp0 {T : List (Addr × Str)} {H H' : Hp} (t : Tabs T H) (k : Kp [] H H') : Tabs T H' := Tabs.kp t k fun a h => by cases h
theorem ext_l {H H' : Hp} {a : Addr} {xs : List V} (e : ExtN H H') (h : H a = some (.lst xs)) : H' a = some (.lst xs) := e a _ h fun ps z => by cases z
theorem ext_t {H H' : Hp} {a : Addr} {xs : List V} (e : ExtN H H') (h : H a = some (.tup xs)) : H' a = some (.tup xs) := e a _ h fun ps z => by cases z
theorem ext_d {H H' : Hp} {a : Addr} {xs : List (Key × V)} (e : ExtN H H') (h : H a = some (.dK xs)) : H' a = some (.dK xs) := e a _ h fun ps z => by cases z
/-! ### defs whose code object is known (they make lambdas) -/
structure FunC (K : PySem.W.Frag) (x qual : Str) (st : Stmt) (f : Addr) (cd : Value) (fd : FuncData) : Prop where
  ex : ∃ (oc : Value) (od : Option Addr) (kV doc pm : Value) (an : Option Addr) (ct : Value) (osl : Array (Option Value)),
    fd = PySem.W.fnOf x qual (defArgs st) (defBody st) (defScope st) .none kV doc pm an cd ct ∧ K.lookup f = some ⟨oc, od, .func fd, osl⟩ ∧ PySem.W.codeIn K cd qual = true
  kp : PySem.W.keepIn K (.ref f) = true
section
variable {P : Program} {w : World} {K : PySem.W.Frag} {mg : Str → Option Value} {base : Heap}
theorem FunC.ok {x qual : Str} {st : Stmt} {f : Addr} {cd : Value} {fd : FuncData} {N ps : List Str} {k : Nat} {sp : Sp} (F : FunC K x qual st f cd fd) (S : FnScope N ps (defScope st)) (len : ∀ vs H Q E, sp vs H Q E → vs.length = ps.length)
    (hbody : ∀ (A : Around) (outer : List Env) (s : Shared) (H : Hp) (vs : List V) (Q : VK) (E : XK), Room k (A.deeper (envOfC qual (defScope st) s.heap.objs.size f cd)) → sp vs H Q E →
      ∃ t, PSs (cxOf CX0 P w K mg base N qual (defScope st) f cd A outer s H E).nox (defBody st) t ∧ t { nx := fun _ H' => Q .non H', rt := Q } (L2.start N vs) H) : FnOk P w K mg base CX0 (k + 1) f fd ps sp := by
  obtain ⟨oc, od, kV, doc, pm, an, ct, osl, rfl, lk, hcd⟩ := F.ex
  refine fn_of lk hcd S len fun A outer s H vs Q E hr hsp => ?_
  obtain ⟨t, h, q⟩ := hbody A outer s H vs Q E hr hsp
  exact ⟨t, h.nox, q⟩
theorem funC_mk {x qual : Str} {st : Stmt} {f : Addr} {oc : Value} {od an : Option Addr} {osl : Array (Option Value)} {kV doc pm cdv ct : Value} (l : K.lookup f = some ⟨oc, od, .func (PySem.W.fnOf x qual (defArgs st) (defBody st) (defScope st) .none kV doc pm an cdv ct), osl⟩)
    (c : PySem.W.codeIn K cdv qual = true) (k : PySem.W.keepIn K (.ref f) = true) : FunC K x qual st f cdv (PySem.W.fnOf x qual (defArgs st) (defBody st) (defScope st) .none kV doc pm an cdv ct) := ⟨⟨oc, od, kV, doc, pm, an, ct, osl, rfl, l, c⟩, k⟩
end
/-- what a lambda's body may let out -/
theorem pass_lam {X : Cx} {A : Around} {outer : List Env} {s : Shared} {H : Hp} {E : XK} {scope : Scope} {f c' : Addr} : Passes (L2.CX X.prog X.w) (lamCx X A outer s H E scope f c') E :=
  passes_call (takes_of rfl rfl rfl rfl) fun _ _ _ _ h => h
end VH

/-! Steps as texts: plain law. -/
namespace VH
open PySem L2 TL
/-- a step: its word, its numbers -/
abbrev Stp := Str × List Int
def shapes : List (Str × Nat) := [("make", 3), ("grow", 2), ("drop", 1), ("mirror", 2), ("leave", 1), ("stay", 1), ("read", 2), ("write", 3), ("step", 0), ("lose", 1), ("bring", 2), ("arm", 1), ("again", 0), ("room", 1), ("lacks", 0), ("lost", 0), ("volumes", 0), ("places", 1), ("copying", 0)]
def shapeOf (w : Str) : Option Nat := shapes.lookup w
def numT (n : Int) : Str := Str.ofString (toString n)
def wordsOf (s : Stp) : List Str := s.1 :: s.2.map numT
def rowOf (s : Stp) : Str := Txt.join " " (wordsOf s)
def textOf (ss : List Stp) : Str := Txt.join "\n" (ss.map rowOf)
/-- the number that a word writes -/
def isFig (c : Nat) : Bool := decide (48 ≤ c ∧ c ≤ 57)
def numberOf (w : Str) : Option Int :=
  if (1 ≤ (tl w).length ∧ (tl w).length ≤ 4) ∧ (tl w).all isFig = true then
    (if (tl w).head? ≠ some 48 ∨ tl w = [48] then some ((NumText.digitsVal (tl w) : Nat) : Int) else none)
  else none
def allSome : List (Option Int) → Option (List Int)
  | [] => some []
  | none :: _ => none
  | some x :: r => (allSome r).map (x :: ·)
def stepOf (row : Str) : Option Stp :=
  match Txt.split row " " with
  | [] => none
  | w :: r => if shapeOf w = some r.length then (allSome (r.map numberOf)).map (fun ns => (w, ns)) else none
/-- a step whose word there is, with as many numbers as it has, of one to four figures -/
def StpOk (s : Stp) : Prop := shapeOf s.1 = some s.2.length ∧ ∀ n ∈ s.2, 0 ≤ n ∧ n < 10000
theorem shapes_plain : ∀ p ∈ shapes, tl p.1 ≠ [] ∧ 32 ∉ tl p.1 ∧ 10 ∉ tl p.1 ∧ (tl p.1).length ≤ 7 := by decide +kernel
theorem lookup_mem {α : Type} : ∀ {l : List (Str × α)} {k : Str} {v : α}, l.lookup k = some v → (k, v) ∈ l
  | [], _, _, h => by cases h
  | (a, b) :: r, k, v, h => by
    rw [List.lookup_cons] at h
    by_cases e : (k == a) = true
    · rw [e] at h
      have e2 : k = a := by simpa using e
      injection h with h
      rw [e2, h]
      exact List.mem_cons_self
    · rw [show (k == a) = false by simpa using e] at h
      exact List.mem_cons_of_mem _ (lookup_mem h)
theorem shape_plain {w : Str} {n : Nat} (h : shapeOf w = some n) : tl w ≠ [] ∧ 32 ∉ tl w ∧ 10 ∉ tl w ∧ (tl w).length ≤ 7 := shapes_plain (w, n) (lookup_mem h)
theorem tl_numT {n : Int} (h : 0 ≤ n) : tl (numT n) = numL n.toNat := by
  obtain ⟨k, rfl⟩ := Int.eq_ofNat_of_zero_le h
  exact tl_num k
theorem numT_free {n : Int} (h : 0 ≤ n) {s : Nat} (hs : s < 48 ∨ 57 < s) : s ∉ tl (numT n) := by
  rw [tl_numT h]
  exact numL_free hs
theorem numT_len {n : Int} (h : 0 ≤ n) (h1 : n < 10000) : 1 ≤ (tl (numT n)).length ∧ (tl (numT n)).length ≤ 4 := by
  rw [tl_numT h]
  refine ⟨?_, numL_len (k := 4) (by decide) (by have : n.toNat < 10000 := by omega
                                                exact this)⟩
  cases e : numL n.toNat with
  | nil => exact absurd e (numL_ne _)
  | cons a r => rw [List.length_cons]; omega
theorem numT_fig {n : Int} (h : 0 ≤ n) : (tl (numT n)).all isFig = true := by
  rw [tl_numT h, List.all_eq_true]
  intro c hc
  exact decide_eq_true (numL_digits _ c hc)
theorem numL_head (n : Nat) : (numL n).head? ≠ some 48 ∨ numL n = [48] := by
  induction n using Nat.strongRecOn with
  | _ n ih =>
    by_cases h : n < 10
    · rw [numL_lt h]
      by_cases z : n = 0
      · right; rw [z]
      · left
        intro e
        have e2 : 48 + n = 48 := Option.some.inj e
        omega
    · rw [numL_step (by omega)]
      rcases ih (n / 10) (by omega) with i | i
      · left
        cases e : numL (n / 10) with
        | nil => exact absurd e (numL_ne _)
        | cons a r =>
          rw [e] at i
          exact i
      · exfalso
        have v := numL_val (n / 10)
        rw [i] at v
        have v2 : NumText.digitsVal [48] = 0 := by decide
        omega
theorem numberOf_numT {n : Int} (h : 0 ≤ n) (h1 : n < 10000) : numberOf (numT n) = some n := by
  unfold numberOf
  rw [if_pos ⟨numT_len h h1, numT_fig h⟩, tl_numT h, if_pos (numL_head _), numL_val]
  congr 1
  omega
theorem allSome_numT : ∀ {ns : List Int}, (∀ n ∈ ns, 0 ≤ n ∧ n < 10000) → allSome ((ns.map numT).map numberOf) = some ns
  | [], _ => rfl
  | n :: r, h => by
    have hn := h n List.mem_cons_self
    rw [List.map_cons, List.map_cons, numberOf_numT hn.1 hn.2]
    show (allSome ((r.map numT).map numberOf)).map (n :: ·) = _
    rw [allSome_numT fun m hm => h m (List.mem_cons_of_mem _ hm)]
    rfl
theorem words_free {s : Stp} (h : StpOk s) {c : Nat} (hc : c = 32 ∨ c = 10) : ∀ p ∈ wordsOf s, c ∉ tl p := by
  intro p hp
  rcases List.mem_cons.mp hp with rfl | hp
  · have z := shape_plain h.1
    rcases hc with rfl | rfl
    · exact z.2.1
    · exact z.2.2.1
  · obtain ⟨n, hn, rfl⟩ := List.mem_map.mp hp
    exact numT_free (h.2 n hn).1 (by omega)
theorem split_row {s : Stp} (h : StpOk s) : Txt.split (rowOf s) " " = wordsOf s :=
  split_join (s := 32) (S := []) (by decide +kernel) (by decide +kernel) (List.cons_ne_nil _ _) (words_free h (.inl rfl))
theorem step_row {s : Stp} (h : StpOk s) : stepOf (rowOf s) = some s := by
  unfold stepOf
  rw [split_row h]
  show (if shapeOf s.1 = some (s.2.map numT).length then (allSome ((s.2.map numT).map numberOf)).map (fun ns => (s.1, ns)) else none) = some s
  rw [if_pos (by rw [List.length_map]; exact h.1), allSome_numT h.2]
  rfl
theorem mem_joinL {S : List Nat} {c : Nat} : ∀ {ps : List (List Nat)}, c ∈ joinL S ps → c ∈ S ∨ ∃ p ∈ ps, c ∈ p
  | [], h => by cases h
  | [p], h => .inr ⟨p, List.mem_singleton.mpr rfl, h⟩
  | p :: q :: r, h => by
    have h : c ∈ p ++ (S ++ joinL S (q :: r)) := h
    rcases List.mem_append.mp h with h | h
    · exact .inr ⟨p, List.mem_cons_self, h⟩
    · rcases List.mem_append.mp h with h | h
      · exact .inl h
      · rcases mem_joinL h with h | ⟨x, hx, h⟩
        · exact .inl h
        · exact .inr ⟨x, List.mem_cons_of_mem _ hx, h⟩
theorem row_free {s : Stp} (h : StpOk s) : 10 ∉ tl (rowOf s) := by
  intro m
  unfold rowOf at m
  rw [join_eq, tl_join] at m
  rcases mem_joinL m with m | ⟨p, hp, m⟩
  · revert m
    decide +kernel
  · obtain ⟨x, hx, rfl⟩ := List.mem_map.mp hp
    exact words_free h (.inr rfl) x hx m
theorem split_text {ss : List Stp} (h : ∀ s ∈ ss, StpOk s) (hne : ss ≠ []) : Txt.split (textOf ss) "\n" = ss.map rowOf :=
  split_join (s := 10) (S := []) (by decide +kernel) (by decide +kernel) (fun e => hne (List.map_eq_nil_iff.mp e)) (fun p hp => by
    obtain ⟨x, hx, rfl⟩ := List.mem_map.mp hp
    exact row_free (h x hx))
theorem joinL_ne {S p : List Nat} {ps : List (List Nat)} (h : p ≠ []) : joinL S (p :: ps) ≠ [] := by
  cases ps with
  | nil => exact h
  | cons q r =>
    intro e
    have e : p ++ (S ++ joinL S (q :: r)) = [] := e
    exact h (List.append_eq_nil_iff.mp e).1
theorem row_ne {s : Stp} (h : StpOk s) : tl (rowOf s) ≠ [] := by
  unfold rowOf
  rw [join_eq, tl_join]
  exact joinL_ne (shape_plain h.1).1
theorem text_ne {ss : List Stp} (h : ∀ s ∈ ss, StpOk s) (hne : ss ≠ []) : textOf ss ≠ "" := by
  intro e
  cases ss with
  | nil => exact hne rfl
  | cons s r =>
    have z : tl (textOf (s :: r)) = [] := by rw [e]; decide +kernel
    unfold textOf at z
    rw [join_eq, tl_join] at z
    exact joinL_ne (row_ne (h s List.mem_cons_self)) z
/-- the law's own row: word by word -/
def rowFold (r : Str) (ns : List Int) : Str := ns.foldl (fun r n => r ++ (" " : Str) ++ numT n) r
theorem rowFold_tl : ∀ (ns : List Int) (r : Str), tl (rowFold r ns) = joinL [32] (tl r :: (ns.map numT).map tl)
  | [], r => rfl
  | n :: ns, r => by
    show tl (rowFold (r ++ (" " : Str) ++ numT n) ns) = _
    rw [rowFold_tl ns]
    cases ns with
    | nil =>
      show tl (r ++ (" " : Str) ++ numT n) = tl r ++ ([32] ++ tl (numT n))
      rw [tl_append, tl_append, List.append_assoc]
      rfl
    | cons m k =>
      show tl (r ++ (" " : Str) ++ numT n) ++ ([32] ++ joinL [32] (tl (numT m) :: (k.map numT).map tl)) = tl r ++ ([32] ++ (tl (numT n) ++ ([32] ++ joinL [32] (tl (numT m) :: (k.map numT).map tl))))
      rw [tl_append, tl_append]
      simp only [List.append_assoc]
      rfl
theorem rowFold_row (s : Stp) : rowFold s.1 s.2 = rowOf s := by
  apply ext_tl
  rw [rowFold_tl]
  unfold rowOf
  rw [join_eq, tl_join]
  rfl
/-- sizes -/
theorem joinL_len (S : List Nat) : ∀ ps : List (List Nat), (joinL S ps).length ≤ (ps.map List.length).sum + ps.length * S.length
  | [] => by show 0 ≤ _; omega
  | [p] => by
    show p.length ≤ (p.length + 0) + 1 * S.length
    omega
  | p :: q :: r => by
    have ih := joinL_len S (q :: r)
    show (p ++ (S ++ joinL S (q :: r))).length ≤ (p.length + ((q :: r).map List.length).sum) + ((q :: r).length + 1) * S.length
    rw [List.length_append, List.length_append, Nat.add_mul]
    omega
theorem sum_le {α : Type} {f : α → Nat} {k : Nat} : ∀ {l : List α}, (∀ x ∈ l, f x ≤ k) → (l.map f).sum ≤ l.length * k
  | [], _ => by simp
  | x :: r, h => by
    have a := h x List.mem_cons_self
    have b := sum_le (f := f) (l := r) fun y hy => h y (List.mem_cons_of_mem _ hy)
    rw [List.map_cons, List.sum_cons, List.length_cons, Nat.add_mul]
    omega
theorem words_len {s : Stp} (h : StpOk s) : ∀ p ∈ wordsOf s, p.length ≤ 7 := by
  intro p hp
  rcases List.mem_cons.mp hp with rfl | hp
  · rw [len_tl]
    exact (shape_plain h.1).2.2.2
  · obtain ⟨n, hn, rfl⟩ := List.mem_map.mp hp
    rw [len_tl]
    have := numT_len (h.2 n hn).1 (h.2 n hn).2
    omega
theorem shapes_few : ∀ p ∈ shapes, p.2 ≤ 3 := by decide +kernel
theorem few {s : Stp} (h : StpOk s) : s.2.length ≤ 3 := shapes_few (s.1, s.2.length) (lookup_mem h.1)
theorem row_len {s : Stp} (h : StpOk s) : (rowOf s).length ≤ 32 := by
  unfold rowOf
  rw [len_tl, join_eq, tl_join]
  refine Nat.le_trans (joinL_len _ _) ?_
  have a : (((wordsOf s).map tl).map List.length).sum ≤ ((wordsOf s).map tl).length * 7 := sum_le (fun x hx => by
    obtain ⟨y, hy, rfl⟩ := List.mem_map.mp hx
    rw [← len_tl]
    exact words_len h y hy)
  have b : ((wordsOf s).map tl).length ≤ 4 := by
    rw [List.length_map]
    show (s.2.map numT).length + 1 ≤ 4
    rw [List.length_map]
    have := few h
    omega
  have c : (tl (" " : Str)).length = 1 := by decide +kernel
  rw [c]
  omega
theorem text_len {ss : List Stp} (h : ∀ s ∈ ss, StpOk s) (hl : ss.length ≤ 1000) : (textOf ss).length ≤ 40000 := by
  unfold textOf
  rw [len_tl, join_eq, tl_join]
  refine Nat.le_trans (joinL_len _ _) ?_
  have a : (((ss.map rowOf).map tl).map List.length).sum ≤ ((ss.map rowOf).map tl).length * 32 := sum_le (fun x hx => by
    obtain ⟨y, hy, rfl⟩ := List.mem_map.mp hx
    obtain ⟨z, hz, rfl⟩ := List.mem_map.mp hy
    rw [← len_tl]
    exact row_len (h z hz))
  have b : ((ss.map rowOf).map tl).length = ss.length := by rw [List.length_map, List.length_map]
  have c : (tl ("\n" : Str)).length = 1 := by decide +kernel
  rw [c]
  omega
end VH


namespace VH
open PySem L2
local macro_rules | `(tactic| walk_at "dT") => `(tactic| first
  | ((with_reducible apply iT); (first | assumption | omega))
  | ((with_reducible apply niT); (first | assumption | omega))
  | ((with_reducible apply sT); (first | assumption | rfl))
  | ((with_reducible apply nsT); (first | assumption | decide))
  | ((with_reducible apply nbT); (first | assumption | omega))
  | ((with_reducible apply decide_eq_true); (first | assumption | omega)))
local macro_rules | `(tactic| walk_at "dF") => `(tactic| first
  | ((with_reducible apply iF); (first | assumption | omega))
  | ((with_reducible apply niF); (first | assumption | omega))
  | ((with_reducible apply sF); (first | assumption | decide))
  | ((with_reducible apply nsF); (first | assumption | rfl))
  | ((with_reducible apply nbF); (first | assumption | omega))
  | ((with_reducible apply decide_eq_false); (first | assumption | omega)))
local macro_rules | `(tactic| walk_at "ne") => `(tactic| first | assumption | (apply Ne.symm; assumption) | (apply ne_of_none <;> assumption) | (apply Ne.symm; apply ne_of_none <;> assumption) | (apply ne_new; assumption; walk_at "hg") | (apply Ne.symm; apply ne_new; assumption; walk_at "hg"))
local macro_rules | `(tactic| walk_at "ni") => `(tactic| first | exact ni_nil | (apply ni_cons; walk_at "ne"; walk_at "ni") | assumption)
local macro_rules | `(tactic| walk_at "hg") => `(tactic| first
  | assumption
  | exact upd_same
  | (apply upd_old; assumption; walk_at "hg")
  | (apply upd_oth; walk_at "ne"; walk_at "hg")
  | (apply kp_get; assumption; walk_at "hg"; walk_at "ni"))
local macro_rules | `(tactic| walk_at "mem") => `(tactic| first | exact List.mem_cons_self | (apply List.mem_cons_of_mem; walk_at "mem") | assumption)
local macro_rules | `(tactic| walk_at "no") => `(tactic| first | assumption | (apply none_of_kp2; assumption; walk_at "kp"))
local macro_rules | `(tactic| walk_at "kp") => `(tactic| first
  | assumption
  | exact Kp.refl
  | (apply kp_new'; assumption; walk_at "kp")
  | (apply kp_setn; assumption; walk_at "kp")
  | (apply kp_set'; walk_at "mem"; walk_at "kp")
  | (apply kp_app; assumption; walk_at "kp")
  | (apply kp_app2; assumption; walk_at "kp"))
local macro_rules | `(tactic| walk_at "sz") => `(tactic| first | assumption | exact sz rfl | (apply szb; omega) | (apply szbl; omega) | (apply szb; simp only [List.length_map, List.length_cons, List.length_nil, List.length_append, List.length_set]; omega) | (apply szbl; simp only [List.length_map, List.length_cons, List.length_nil, List.length_append, List.length_set]; omega))
local macro_rules | `(tactic| walk_at "sq") => `(tactic| first
  | assumption
  | (apply sq_l; walk_at "hg")
  | (apply sq_t; walk_at "hg")
  | (apply sqL_new; assumption; walk_at "sq")
  | (apply sqT_new; assumption; walk_at "sq"))
local macro_rules | `(tactic| walk_at "w1") => `(tactic| first
  | with_reducible refine w_seq ?_
  | ((with_reducible apply w_var); exact rfl)
  | with_reducible refine w_c ?_
  | with_reducible refine w_op ?_
  | with_reducible refine w_I0 ?_
  | ((with_reducible apply w_I); (first | assumption | exact Or.inr ⟨by decide, by decide⟩ | exact Or.inl ⟨by decide, by decide⟩ | exact (by show (0 : Int) < _; decide) | exact ⟨by decide, by decide⟩ | exact Or.inl ⟨by omega, by omega⟩ | exact Or.inr ⟨by omega, by omega⟩ | exact ⟨by omega, by omega⟩ | exact (by show (0 : Int) < _; omega)))
  | with_reducible refine w_cons ?_
  | with_reducible refine w_nil ?_
  | with_reducible refine w_asg ?_
  | with_reducible refine w_gName ?_
  | with_reducible refine w_gSub ?_
  | with_reducible refine w_test ?_
  | with_reducible refine w_B ?_
  | with_reducible refine w_ret ?_
  | with_reducible refine w_drop ?_
  | with_reducible refine w_ifS ?_
  | with_reducible refine w_if ?_
  | with_reducible refine w_un ?_
  | with_reducible refine w_U ?_
  | with_reducible refine w_call ?_
  | with_reducible refine w_cb ?_
  | with_reducible refine w_lst ?_
  | with_reducible refine w_tup ?_
  | with_reducible refine w_bm ?_
  | with_reducible refine w_bm0 ?_
  | with_reducible refine w_m1 ?_
  | with_reducible refine w_for ?_
  | with_reducible refine w_iList ?_
  | with_reducible refine w_iTup ?_
  | with_reducible refine w_iStr ?_
  | with_reducible refine w_iR1 ?_
  | with_reducible refine w_iEnum ?_
  | with_reducible refine w_and ?_
  | with_reducible refine w_or ?_
  | with_reducible refine w_not ?_
  | with_reducible refine w_yes ?_
  | with_reducible refine w_isN ?_
  | ((with_reducible apply w_eq); exact rfl)
  | ((with_reducible apply w_ne); exact rfl)
  | with_reducible refine w_chain ?_
  | with_reducible refine w_andV ?_
  | with_reducible refine w_orV ?_
  | with_reducible refine w_notV ?_
  | with_reducible refine w_bl ?_
  | with_reducible refine w_fld ?_
  | with_reducible refine w_sfld ?_
  | with_reducible refine w_next ?_
  | with_reducible refine w_isZ ?_
  | with_reducible refine w_notZ ?_
  | with_reducible refine w_inS ?_
  | with_reducible refine w_notInS ?_
  | ((with_reducible apply w_ifT); exact rfl)
  | ((with_reducible apply w_ifF); exact rfl)
  | ((with_reducible apply w_ifT); walk_at "dT")
  | ((with_reducible apply w_ifF); walk_at "dF")
  | with_reducible refine w_lc ?_
  | with_reducible refine w_aStr ?_
  | ((with_reducible apply w_itL); walk_at "sq")
  | ((with_reducible apply w_itT); walk_at "sq")
  | ((with_reducible apply w_rng); (first | omega | assumption); (first | omega | assumption))
  | ((with_reducible apply w_enum); walk_at "sq")
  | ((with_reducible apply w_lenS); walk_at "sz")
  | ((with_reducible apply w_split); (first | exact rfl | assumption); walk_at "sz")
  | with_reducible refine w_slice ?_
  | with_reducible refine w_part ?_
  | with_reducible refine w_noPart ?_
  | with_reducible refine w_anInt ?_
  | ((with_reducible apply w_slL); walk_at "sq")
  | ((with_reducible apply w_cat); walk_at "hg"; walk_at "hg"; walk_at "sz")
  | ((with_reducible apply w_newSz); walk_at "sz")
  | ((with_reducible apply w_append); walk_at "hg"; walk_at "sz")
  | ((with_reducible apply w_tyD); walk_at "hg")
  | ((with_reducible apply w_gTup); walk_at "sq"; exact rfl)
  | with_reducible refine w_gCons ?_
  | with_reducible refine w_gNil ?_
  | with_reducible refine w_kget2 ?_
  | with_reducible refine w_same ?_
  | ((with_reducible apply w_kat); assumption)
  | ((with_reducible apply w_in); walk_at "sq"; (first | exact rfl | assumption); (first | assumption | exact rfl))
  | ((with_reducible apply w_strI); assumption)
  | with_reducible refine w_disp ?_
  | with_reducible refine w_pcons ?_
  | with_reducible refine w_pnil ?_
  | with_reducible refine w_dget2 ?_
  | ((with_reducible apply w_isD); walk_at "hg")
  | ((with_reducible apply w_dgS); walk_at "hg")
  | ((with_reducible apply w_dupd); walk_at "ne"; walk_at "hg"; walk_at "hg"; (first | decide | walk_at "sz"))
  | ((with_reducible apply w_catS); walk_at "sz")
  | ((with_reducible apply w_slT); walk_at "sq"; assumption)
  | ((with_reducible apply w_ixS); walk_at "sz"; (first | assumption | exact rfl))
  | ((with_reducible apply w_intS); assumption; (first | assumption | omega))
  | ((with_reducible apply w_isi); (first | exact tx_N | exact tx_B | exact tx_I | exact tx_S | (apply tx_L; walk_at "sq") | (apply tx_T; walk_at "sq")); (first | (refine (?_ : _ = some true); decide +kernel) | (refine (?_ : _ = some false); decide +kernel)))
  | ((with_reducible apply w_lenL); walk_at "sq")
  | ((with_reducible apply w_lenT); walk_at "sq")
  | ((with_reducible apply w_listL); walk_at "sq")
  | ((with_reducible apply w_listT); walk_at "sq")
  | ((with_reducible apply w_tupL); walk_at "sq")
  | with_reducible refine w_intI ?_
  | with_reducible refine w_intB ?_
  | with_reducible refine w_strS ?_
  | ((with_reducible apply w_ixXL); walk_at "sq"; (first | exact rfl | exact atI_0 | assumption))
  | ((with_reducible apply w_ixXT); walk_at "sq"; (first | exact rfl | exact atI_0 | assumption))
  | ((with_reducible apply w_tyL); walk_at "sq")
  | with_reducible refine w_tyS ?_
  | ((with_reducible apply w_popAt0); walk_at "hg")
  | ((with_reducible apply w_ixL); walk_at "sq"; (first | exact rfl | exact atI_0 | assumption))
  | ((with_reducible apply w_ixT); walk_at "sq"; (first | exact rfl | exact atI_0 | assumption))
  | ((with_reducible apply w_setL); walk_at "hg"; (first | exact rfl | exact ixN_0)))
local macro_rules | `(tactic| walk_at "w") => `(tactic| repeat walk_at "w1")
def top (i : Nat) : Stmt := PySem.Challenge.pw_volumehall_k15_texts_of_no_steps.main.body.getD i (.Pass ⟨0, 0, 0, 0⟩)
abbrev sBegun : Stmt := top 20
abbrev sTake : Stmt := top 21
abbrev sAlike : Stmt := top 22
abbrev sAny : Stmt := top 25
abbrev sLaw : Stmt := top 28
abbrev sNumber : Stmt := top 16
abbrev sStep : Stmt := top 17
abbrev sRead : Stmt := top 18
abbrev sTold : Stmt := top 23
abbrev sLStep : Stmt := top 26
abbrev sSpoilt : Stmt := top 27
abbrev sBTI : Stmt := inClass (top 11) 0
/-- what the written part holds of the built-in names -/
structure Txt (K : PySem.W.Frag) (mg : Str → Option Value) : Prop where
  list : mg "list" = none
  int : mg "int" = none
  len : mg "len" = none
  isinstance : mg "isinstance" = none
  bool : mg "bool" = none
  str : mg "str" = none
  tuple : mg "tuple" = none
  range : mg "range" = none
  enumerate : mg "enumerate" = none
section
variable {P : Program} {w : World} {K : PySem.W.Frag} {mg : Str → Option Value} {base : Heap}
/-! ### the draws: a box [numbers, stirred] -/
structure Box (H : Hp) (b l : Addr) (ns : List Int) (s : Int) : Prop where
  b : H b = some (.lst [.ref l, .int s])
  l : H l = some (.lst (ns.map V.int))
  s0 : 0 ≤ s
  s1 : s < 2147483647
def spBegun (K : PySem.W.Frag) : Sp := fun vs H Q _ => ∃ (a : Addr) (ns : List Int), vs = [.ref a] ∧ SqL K H a (ns.map V.int) ∧ ns.length ≤ 63 ∧
  ∀ H' b l s, Kp [] H H' → H b = none → H l = none → b ≠ l → Box H' b l ns s → Q (.ref b) H'
theorem scBegun : FnScope ["_law_script", "_law_stirred", "_law_cell"] ["_law_script"] (defScope sBegun) := ⟨rfl, rfl, rfl, by decide +kernel, rfl, by decide +kernel, by decide +kernel⟩
theorem ok_begun {f : Addr} {fd : FuncData} (F : Fun K "_law_begun" "_law_begun" sBegun f fd) (T : Txt K mg) : FnOk P w K mg base CX0 1 f fd ["_law_script"] (spBegun K) := by
  refine F.ok scBegun (fun vs H Q E h => ?_) (fun cdv A outer s H vs Q E hr h => ?_)
  · obtain ⟨a, ns, rfl, _⟩ := h
    rfl
  · obtain ⟨a, ns, rfl, hS, hl, q⟩ := h
    have hu := hu_of hr
    refine ⟨_, (pss_cons (ps_set (i := 1) scBegun.nd rfl (by first | exact Or.inl rfl | exact Or.inr rfl) pe_int)
    (pss_cons (ps_for PassesOwn.never rfl (pi_list (pv 0)) (pg_name (i := 2) scBegun.nd rfl (by first | exact Or.inl rfl | exact Or.inr rfl))
      (pss_one (ps_set (i := 1) scBegun.nd rfl (by first | exact Or.inl rfl | exact Or.inr rfl) (pe_op op_mod (pe_op op_add (pe_op op_add (pe_op op_mul (pv 1) pe_int) (pe_op op_mul (pv 2) pe_int)) pe_int) pe_int))))
    (pss_one (ps_ret (pe_lst (pa_cons (pe_callTy cr_listOf (by rfl) T.list (by decide +kernel) (pa_cons (pv 0) pa_nil)) (pa_cons (pe_op op_mul (pv 1) (pe_callTy cr_int1 (by rfl) T.int (by decide +kernel) (pa_cons (pe_cmpR op_gt (pe_callB cr_lenL (by rfl) T.len (by decide +kernel) (pa_cons (pv 0) pa_nil)) pe_int (nomark _)) pa_nil))) pa_nil))))))), ?_⟩
    walk_at "w"
    refine for_list (xs := ns.map V.int) (fun i σ H' => ∃ (s : Int) (y : Option V), σ = [some (.ref a), some (.int s), y] ∧ H' = H ∧ 0 ≤ s ∧ s < 2147483647) ⟨0, none, rfl, rfl, by decide, by decide⟩ (fun i σ H' _ h => ?_) (fun i x σ H' hx h => ?_) (fun σ H' h => ?_)
    · obtain ⟨s, y, rfl, rfl, _⟩ := h
      exact hS
    · obtain ⟨s, y, rfl, rfl, h0, h1⟩ := h
      obtain ⟨n, hn, rfl⟩ : ∃ n, n ∈ ns ∧ V.int n = x := List.mem_map.mp (List.mem_of_getElem? hx)
      walk_at "w"
      exact ⟨_, _, rfl, rfl, Int.emod_nonneg _ (by decide), Int.emod_lt_of_pos _ (by decide)⟩
    · obtain ⟨s, y, rfl, rfl, h0, h1⟩ := h
      walk_at "w"
      refine fun l nl => ?_
      walk_at "w"
      have fin : ∀ k : Int, k = 0 ∨ k = 1 → ∀ b, (upd H' l (.lst (ns.map V.int))) b = none → Q (.ref b) (upd (upd H' l (.lst (ns.map V.int))) b (.lst [.ref l, .int (s * k)])) := by
        intro k hk b nb
        have ne : l ≠ b := ne_of_none upd_same nb
        have nb0 : H' b = none := by
          rw [upd_ne (Ne.symm ne)] at nb
          exact nb
        refine q _ b l (s * k) (kp_new (kp_new Kp.refl nl) nb) nb0 nl (Ne.symm ne) ⟨upd_same, upd_old nb upd_same, ?_, ?_⟩
        · rcases hk with rfl | rfl <;> omega
        · rcases hk with rfl | rfl <;> omega
      refine fin _ ?_
      split
      · exact .inr rfl
      · exact .inl rfl
theorem dp_ints {H : Hp} : ∀ (ns : List Int), DpAll K H (ns.map V.int) (ns.map PyData.int)
  | [] => .nil
  | n :: r => .cons (.int n) (dp_ints r)
theorem shaped_ints (ns : List Int) : SeqAt.shaped (.list (ns.map PyData.int)) = true := by
  have h1 : PyData.canLayAll0 (ns.map PyData.int) = true ∧ PyData.depthAll (ns.map PyData.int) ≤ 1 := by
    induction ns with
    | nil => exact ⟨rfl, by decide⟩
    | cons n r ih =>
      refine ⟨?_, ?_⟩
      · show (PyData.canLay0 (.int n) && PyData.canLayAll0 (r.map PyData.int)) = true
        rw [ih.1]
        rfl
      · show max (PyData.depth (.int n)) (PyData.depthAll (r.map PyData.int)) ≤ 1
        exact Nat.max_le.mpr ⟨by show 0 ≤ 1; decide, ih.2⟩
  show (PyData.canLayAll0 (ns.map PyData.int) && decide (PyData.depthAll (ns.map PyData.int) + 1 ≤ 64)) = true
  rw [h1.1, decide_eq_true (by have := h1.2; omega)]
  rfl
def spTake : Sp := fun vs H Q _ => ∃ (b l : Addr) (ns : List Int) (s m : Int), vs = [.ref b, .int m] ∧ Box H b l ns s ∧ b ≠ l ∧ 0 < m ∧ m < 18446744073709551616 ∧
  ∀ H' ns' s' r, Kp [b, l] H H' → Box H' b l ns' s' → 0 ≤ r → r < m → Q (.int r) H'
theorem scTake : FnScope ["_law_box", "_law_many", "_law_number"] ["_law_box", "_law_many"] (defScope sTake) := ⟨rfl, rfl, rfl, by decide +kernel, rfl, by decide +kernel, by decide +kernel⟩
theorem ok_take {f : Addr} {fd : FuncData} (F : Fun K "_law_take" "_law_take" sTake f fd) : FnOk P w K mg base CX0 1 f fd ["_law_box", "_law_many"] spTake := by
  refine F.ok scTake (fun vs H Q E h => ?_) (fun cdv A outer s H vs Q E hr h => ?_)
  · obtain ⟨b, l, ns, s, m, rfl, _⟩ := h
    rfl
  · obtain ⟨b, l, ns, s, m, rfl, B, nbl, m0, m1, q⟩ := h
    have hu := hu_of hr
    have hW : ∀ i : Int, CDivW i m := fun i => wide_div (b := 64) m0 (by omega) (by decide) (by decide)
    have eb := B.b
    have el := B.l
    refine ⟨_, (pss_cons (ps_if (pt_cmpR (op_eqD hr.units) (pe_ix ix_list (pv 0) pe_int (fun _ _ => rfl)) (pe_lst pa_nil) (nomark _)) (pss_cons (ps_asg (pe_op op_mod (pe_op op_mul (pe_ix ix_list (pv 0) pe_int (fun _ _ => rfl)) pe_int) pe_int) (pg_sub (pv 0) pe_int set_list))
      (pss_one (ps_ret (pe_op op_mod (pe_op op_fdivW (pe_ix ix_list (pv 0) pe_int (fun _ _ => rfl)) pe_int) (pv 1))))) pss_nil)
    (pss_cons (ps_set (i := 2) scTake.nd rfl (by first | exact Or.inl rfl | exact Or.inr rfl) (pe_ix ix_list (pe_ix ix_list (pv 0) pe_int (fun _ _ => rfl)) pe_int (fun _ _ => rfl)))
    (pss_cons (ps_asg (pe_op op_fdivW (pv 2) (pv 1)) (pg_sub (pe_ix ix_list (pv 0) pe_int (fun _ _ => rfl)) pe_int set_list))
    (pss_cons (ps_if (PW.pt (pw_or (pt_cmpR op_eq (pe_ix ix_list (pe_ix ix_list (pv 0) pe_int (fun _ _ => rfl)) pe_int (fun _ _ => rfl)) pe_int (nomark _)) (pw_or1 (pt_cmpR op_eq (pe_ix ix_list (pe_ix ix_list (pv 0) pe_int (fun _ _ => rfl)) pe_int (fun _ _ => rfl)) (pe_un un_neg pe_int) (nomark _))))) (pss_one (ps_expr (pe_bm PySem.F.plainAttrs_list PySem.F.slot_list_pop PySem.F.type_list_pop mt_popAt (pe_ix ix_list (pv 0) pe_int (fun _ _ => rfl)) (pa_cons pe_int pa_nil)))) pss_nil)
    (pss_one (ps_ret (pe_op op_mod (pv 2) (pv 1)))))))), ?_⟩
    simp only [cxK, cxK']
    walk_at "w"
    refine fun p np => ?_
    refine ⟨.list (ns.map PyData.int), .list [], .lst (sqL_new np (sq_l el)) (dp_ints ns), .lst (sq_l upd_same) .nil, shaped_ints ns, rfl, ?_⟩
    cases ns with
    | nil =>
      refine ⟨true, rfl, iteT ?_⟩
      walk_at "w"
      exact q _ [] _ _ (kp_set (kp_new Kp.refl np) List.mem_cons_self) ⟨upd_same, upd_oth (Ne.symm nbl) (upd_old np el), Int.emod_nonneg _ (by decide), Int.emod_lt_of_pos _ (by decide)⟩ (Int.emod_nonneg _ (by omega)) (Int.emod_lt_of_pos _ m0)
    | cons n r =>
      have el : H l = some (.lst (.int n :: r.map V.int)) := el
      have nlb : l ≠ b := Ne.symm nbl
      have hWn := hW n
      refine ⟨false, rfl, iteF ?_⟩
      have fin : ∀ H' ns' s', Kp [b, l] H H' → Box H' b l ns' s' → Q (.int (n % m)) H' := fun H' ns' s' k B' => q H' ns' s' _ k B' (Int.emod_nonneg _ (by omega)) (Int.emod_lt_of_pos _ m0)
      walk_at "w"
      rw [decI]
      refine ite2 (fun e => ?_) (fun e => ?_)
      · refine iteT ?_
        walk_at "w"
        exact fin _ r s (kp_set (kp_set (kp_new Kp.refl np) (List.mem_cons_of_mem _ List.mem_cons_self)) (List.mem_cons_of_mem _ List.mem_cons_self)) ⟨by walk_at "hg", upd_same, B.s0, B.s1⟩
      · walk_at "w"
        rw [decI]
        refine ite2 (fun e => ?_) (fun e => ?_)
        · walk_at "w"
          exact fin _ r s (kp_set (kp_set (kp_new Kp.refl np) (List.mem_cons_of_mem _ List.mem_cons_self)) (List.mem_cons_of_mem _ List.mem_cons_self)) ⟨by walk_at "hg", upd_same, B.s0, B.s1⟩
        · walk_at "w"
          exact fin _ (n / m :: r) s (kp_set (kp_new Kp.refl np) (List.mem_cons_of_mem _ List.mem_cons_self)) ⟨by walk_at "hg", upd_same, B.s0, B.s1⟩
end
end VH

namespace VH
open PySem L2
local macro_rules | `(tactic| walk_at "dT") => `(tactic| first
  | ((with_reducible apply iT); (first | assumption | omega))
  | ((with_reducible apply niT); (first | assumption | omega))
  | ((with_reducible apply sT); (first | assumption | rfl))
  | ((with_reducible apply nsT); (first | assumption | decide))
  | ((with_reducible apply nbT); (first | assumption | omega))
  | ((with_reducible apply decide_eq_true); (first | assumption | omega)))
local macro_rules | `(tactic| walk_at "dF") => `(tactic| first
  | ((with_reducible apply iF); (first | assumption | omega))
  | ((with_reducible apply niF); (first | assumption | omega))
  | ((with_reducible apply sF); (first | assumption | decide))
  | ((with_reducible apply nsF); (first | assumption | rfl))
  | ((with_reducible apply nbF); (first | assumption | omega))
  | ((with_reducible apply decide_eq_false); (first | assumption | omega)))
local macro_rules | `(tactic| walk_at "ne") => `(tactic| first | assumption | (apply Ne.symm; assumption) | (apply ne_of_none <;> assumption) | (apply Ne.symm; apply ne_of_none <;> assumption) | (apply ne_new; assumption; walk_at "hg") | (apply Ne.symm; apply ne_new; assumption; walk_at "hg"))
local macro_rules | `(tactic| walk_at "ni") => `(tactic| first | exact ni_nil | (apply ni_cons; walk_at "ne"; walk_at "ni") | assumption)
local macro_rules | `(tactic| walk_at "hg") => `(tactic| first
  | assumption
  | exact upd_same
  | (apply upd_old; assumption; walk_at "hg")
  | (apply upd_oth; walk_at "ne"; walk_at "hg")
  | (apply kp_get; assumption; walk_at "hg"; walk_at "ni"))
local macro_rules | `(tactic| walk_at "mem") => `(tactic| first | exact List.mem_cons_self | (apply List.mem_cons_of_mem; walk_at "mem") | assumption)
local macro_rules | `(tactic| walk_at "no") => `(tactic| first | assumption | (apply none_of_kp2; assumption; walk_at "kp"))
local macro_rules | `(tactic| walk_at "kp") => `(tactic| first
  | assumption
  | exact Kp.refl
  | (apply kp_new'; assumption; walk_at "kp")
  | (apply kp_setn; assumption; walk_at "kp")
  | (apply kp_set'; walk_at "mem"; walk_at "kp")
  | (apply kp_app; assumption; walk_at "kp")
  | (apply kp_app2; assumption; walk_at "kp"))
local macro_rules | `(tactic| walk_at "sz") => `(tactic| first | assumption | exact sz rfl | (apply szb; omega) | (apply szbl; omega) | (apply szb; simp only [List.length_map, List.length_cons, List.length_nil, List.length_append, List.length_set]; omega) | (apply szbl; simp only [List.length_map, List.length_cons, List.length_nil, List.length_append, List.length_set]; omega))
local macro_rules | `(tactic| walk_at "sq") => `(tactic| first
  | assumption
  | (apply sq_l; walk_at "hg")
  | (apply sq_t; walk_at "hg")
  | (apply sqL_new; assumption; walk_at "sq")
  | (apply sqT_new; assumption; walk_at "sq"))
local macro_rules | `(tactic| walk_at "w1") => `(tactic| first
  | with_reducible refine w_seq ?_
  | ((with_reducible apply w_var); exact rfl)
  | with_reducible refine w_c ?_
  | with_reducible refine w_op ?_
  | with_reducible refine w_I0 ?_
  | ((with_reducible apply w_I); (first | assumption | exact Or.inr ⟨by decide, by decide⟩ | exact Or.inl ⟨by decide, by decide⟩ | exact (by show (0 : Int) < _; decide) | exact ⟨by decide, by decide⟩ | exact Or.inl ⟨by omega, by omega⟩ | exact Or.inr ⟨by omega, by omega⟩ | exact ⟨by omega, by omega⟩ | exact (by show (0 : Int) < _; omega)))
  | with_reducible refine w_cons ?_
  | with_reducible refine w_nil ?_
  | with_reducible refine w_asg ?_
  | with_reducible refine w_gName ?_
  | with_reducible refine w_gSub ?_
  | with_reducible refine w_test ?_
  | with_reducible refine w_B ?_
  | with_reducible refine w_ret ?_
  | with_reducible refine w_drop ?_
  | with_reducible refine w_ifS ?_
  | with_reducible refine w_if ?_
  | with_reducible refine w_un ?_
  | with_reducible refine w_U ?_
  | with_reducible refine w_call ?_
  | with_reducible refine w_cb ?_
  | with_reducible refine w_lst ?_
  | with_reducible refine w_tup ?_
  | with_reducible refine w_bm ?_
  | with_reducible refine w_bm0 ?_
  | with_reducible refine w_m1 ?_
  | with_reducible refine w_for ?_
  | with_reducible refine w_iList ?_
  | with_reducible refine w_iTup ?_
  | with_reducible refine w_iStr ?_
  | with_reducible refine w_iR1 ?_
  | with_reducible refine w_iEnum ?_
  | with_reducible refine w_and ?_
  | with_reducible refine w_or ?_
  | with_reducible refine w_not ?_
  | with_reducible refine w_yes ?_
  | with_reducible refine w_isN ?_
  | ((with_reducible apply w_eq); exact rfl)
  | ((with_reducible apply w_ne); exact rfl)
  | with_reducible refine w_chain ?_
  | with_reducible refine w_andV ?_
  | with_reducible refine w_orV ?_
  | with_reducible refine w_notV ?_
  | with_reducible refine w_bl ?_
  | with_reducible refine w_fld ?_
  | with_reducible refine w_sfld ?_
  | with_reducible refine w_next ?_
  | with_reducible refine w_isZ ?_
  | with_reducible refine w_notZ ?_
  | with_reducible refine w_inS ?_
  | with_reducible refine w_notInS ?_
  | ((with_reducible apply w_ifT); exact rfl)
  | ((with_reducible apply w_ifF); exact rfl)
  | ((with_reducible apply w_ifT); walk_at "dT")
  | ((with_reducible apply w_ifF); walk_at "dF")
  | with_reducible refine w_lc ?_
  | with_reducible refine w_aStr ?_
  | ((with_reducible apply w_itL); walk_at "sq")
  | ((with_reducible apply w_itT); walk_at "sq")
  | ((with_reducible apply w_rng); (first | omega | assumption); (first | omega | assumption))
  | ((with_reducible apply w_enum); walk_at "sq")
  | ((with_reducible apply w_lenS); walk_at "sz")
  | ((with_reducible apply w_split); (first | exact rfl | assumption); walk_at "sz")
  | with_reducible refine w_slice ?_
  | with_reducible refine w_part ?_
  | with_reducible refine w_noPart ?_
  | with_reducible refine w_anInt ?_
  | ((with_reducible apply w_slL); walk_at "sq")
  | ((with_reducible apply w_cat); walk_at "hg"; walk_at "hg"; walk_at "sz")
  | ((with_reducible apply w_newSz); walk_at "sz")
  | ((with_reducible apply w_append); walk_at "hg"; walk_at "sz")
  | ((with_reducible apply w_tyD); walk_at "hg")
  | ((with_reducible apply w_gTup); walk_at "sq"; exact rfl)
  | with_reducible refine w_gCons ?_
  | with_reducible refine w_gNil ?_
  | with_reducible refine w_kget2 ?_
  | with_reducible refine w_same ?_
  | ((with_reducible apply w_kat); assumption)
  | ((with_reducible apply w_in); walk_at "sq"; (first | exact rfl | assumption); (first | assumption | exact rfl))
  | ((with_reducible apply w_strI); assumption)
  | with_reducible refine w_disp ?_
  | with_reducible refine w_pcons ?_
  | with_reducible refine w_pnil ?_
  | with_reducible refine w_dget2 ?_
  | ((with_reducible apply w_isD); walk_at "hg")
  | ((with_reducible apply w_dgS); walk_at "hg")
  | ((with_reducible apply w_dupd); walk_at "ne"; walk_at "hg"; walk_at "hg"; (first | decide | walk_at "sz"))
  | ((with_reducible apply w_catS); walk_at "sz")
  | ((with_reducible apply w_slT); walk_at "sq"; assumption)
  | ((with_reducible apply w_ixS); walk_at "sz"; (first | assumption | exact rfl))
  | ((with_reducible apply w_intS); assumption; (first | assumption | omega))
  | ((with_reducible apply w_isi); (first | exact tx_N | exact tx_B | exact tx_I | exact tx_S | (apply tx_L; walk_at "sq") | (apply tx_T; walk_at "sq")); (first | (refine (?_ : _ = some true); decide +kernel) | (refine (?_ : _ = some false); decide +kernel)))
  | ((with_reducible apply w_lenL); walk_at "sq")
  | ((with_reducible apply w_lenT); walk_at "sq")
  | ((with_reducible apply w_listL); walk_at "sq")
  | ((with_reducible apply w_listT); walk_at "sq")
  | ((with_reducible apply w_tupL); walk_at "sq")
  | with_reducible refine w_intI ?_
  | with_reducible refine w_intB ?_
  | with_reducible refine w_strS ?_
  | ((with_reducible apply w_ixXL); walk_at "sq"; (first | exact rfl | exact atI_0 | assumption))
  | ((with_reducible apply w_ixXT); walk_at "sq"; (first | exact rfl | exact atI_0 | assumption))
  | ((with_reducible apply w_tyL); walk_at "sq")
  | with_reducible refine w_tyS ?_
  | ((with_reducible apply w_popAt0); walk_at "hg")
  | ((with_reducible apply w_ixL); walk_at "sq"; (first | exact rfl | exact atI_0 | assumption))
  | ((with_reducible apply w_ixT); walk_at "sq"; (first | exact rfl | exact atI_0 | assumption))
  | ((with_reducible apply w_setL); walk_at "hg"; (first | exact rfl | exact ixN_0)))
local macro_rules | `(tactic| walk_at "w") => `(tactic| repeat walk_at "w1")

section
variable {P : Program} {w : World} {K : PySem.W.Frag} {mg : Str → Option Value} {base : Heap}
/-! ### data that are alike -/
/-- data of so many levels at most, none of them long -/
def okD : Nat → PyData → Bool
  | _, .none => true
  | _, .bool _ => true
  | _, .int _ => true
  | _, .str _ => true
  | _, .dict _ => false
  | 0, _ => false
  | n + 1, .list ds => decide (ds.length ≤ 100000) && ds.all (okD n)
  | n + 1, .tuple ds => decide (ds.length ≤ 100000) && ds.all (okD n)
def spAlike (K : PySem.W.Frag) : Nat → Sp
  | 0 => fun _ _ _ _ => False
  | n + 1 => fun vs H Q _ => ∃ (x y : V) (d : PyData), vs = [x, y] ∧ Dp K H x d ∧ Dp K H y d ∧ okD n d = true ∧ Q (.bl true) H
theorem scAlike : FnScope ["_law_found", "_law_due", "_law_k"] ["_law_found", "_law_due"] (defScope sAlike) := ⟨rfl, rfl, rfl, by decide +kernel, rfl, by decide +kernel, by decide +kernel⟩
theorem ok_alike {f : Addr} {fd : FuncData} (F : Fun K "_law_alike" "_law_alike" sAlike f fd) (T : Txt K mg) (gf : mg "_law_alike" = some (.ref f)) (bA : Binds K fd ["_law_found", "_law_due"] []) : ∀ n, FnOk P w K mg base CX0 n f fd ["_law_found", "_law_due"] (spAlike K n) := by
  intro n
  induction n with
  | zero => exact ⟨fun _ _ _ _ h => h.elim, fun _ _ _ _ _ _ _ _ _ _ _ _ _ h => h.elim⟩
  | succ n ih =>
    refine F.ok scAlike (fun vs H Q E h => ?_) (fun cdv A outer s H vs Q E hr h => ?_)
    · obtain ⟨x, y, d, rfl, _⟩ := h
      rfl
    · obtain ⟨x, y, d, rfl, hx, hy, ok, q⟩ := h
      have hu := hu_of hr
      refine ⟨_, (pss_cons (ps_if (pt_cmpR op_isN1 (pv 1) pe_non (nomark _)) (pss_one (ps_ret (pe_cmpR op_isN1 (pv 0) pe_non (nomark _)))) pss_nil)
    (pss_cons (ps_if (pt_val (pe_callB call_isi (by rfl) T.isinstance (by decide +kernel) (pa_cons (pv 1) (pa_cons (pe_bltn (v := .ty "bool") (by rfl) T.bool (by decide +kernel) rfl) pa_nil)))) (pss_one (ps_ret (pe_and (pe_callB call_isi (by rfl) T.isinstance (by decide +kernel) (pa_cons (pv 0) (pa_cons (pe_bltn (v := .ty "bool") (by rfl) T.bool (by decide +kernel) rfl) pa_nil))) (pe_one (pe_cmpR op_eq (pv 0) (pv 1) (nomark _)))))) pss_nil)
    (pss_cons (ps_if (pt_val (pe_callB call_isi (by rfl) T.isinstance (by decide +kernel) (pa_cons (pv 1) (pa_cons (pe_bltn (v := .ty "int") (by rfl) T.int (by decide +kernel) rfl) pa_nil)))) (pss_one (ps_ret (pe_and (pe_callB call_isi (by rfl) T.isinstance (by decide +kernel) (pa_cons (pv 0) (pa_cons (pe_bltn (v := .ty "int") (by rfl) T.int (by decide +kernel) rfl) pa_nil))) (pe_and (pe_not (pe_callB call_isi (by rfl) T.isinstance (by decide +kernel) (pa_cons (pv 0) (pa_cons (pe_bltn (v := .ty "bool") (by rfl) T.bool (by decide +kernel) rfl) pa_nil)))) (pe_one (pe_cmpR op_eq (pv 0) (pv 1) (nomark _))))))) pss_nil)
    (pss_cons (ps_if (pt_val (pe_callB call_isi (by rfl) T.isinstance (by decide +kernel) (pa_cons (pv 1) (pa_cons (pe_bltn (v := .ty "str") (by rfl) T.str (by decide +kernel) rfl) pa_nil)))) (pss_one (ps_ret (pe_and (pe_callB call_isi (by rfl) T.isinstance (by decide +kernel) (pa_cons (pv 0) (pa_cons (pe_bltn (v := .ty "str") (by rfl) T.str (by decide +kernel) rfl) pa_nil))) (pe_one (pe_cmpR op_eq (pv 0) (pv 1) (nomark _)))))) pss_nil)
    (pss_cons (ps_if (PW.pt (pw_or (pt_cmpR op_ne (pe_callB call_isi (by rfl) T.isinstance (by decide +kernel) (pa_cons (pv 1) (pa_cons (pe_bltn (v := .ty "tuple") (by rfl) T.tuple (by decide +kernel) rfl) pa_nil))) (pe_callB call_isi (by rfl) T.isinstance (by decide +kernel) (pa_cons (pv 0) (pa_cons (pe_bltn (v := .ty "tuple") (by rfl) T.tuple (by decide +kernel) rfl) pa_nil))) (nomark _)) (pw_or1 (pt_cmpR op_ne (pe_callB call_isi (by rfl) T.isinstance (by decide +kernel) (pa_cons (pv 1) (pa_cons (pe_bltn (v := .ty "list") (by rfl) T.list (by decide +kernel) rfl) pa_nil))) (pe_callB call_isi (by rfl) T.isinstance (by decide +kernel) (pa_cons (pv 0) (pa_cons (pe_bltn (v := .ty "list") (by rfl) T.list (by decide +kernel) rfl) pa_nil))) (nomark _))))) (pss_one (ps_ret pe_bl)) pss_nil)
    (pss_cons (ps_if (pt_cmpR op_ne (pe_callB cr_lenL (by rfl) T.len (by decide +kernel) (pa_cons (pv 0) pa_nil)) (pe_callB cr_lenL (by rfl) T.len (by decide +kernel) (pa_cons (pv 1) pa_nil)) (nomark _)) (pss_one (ps_ret pe_bl)) pss_nil)
    (pss_cons (ps_for PassesOwn.never rfl (pi_range1 (by rfl) T.range (pa_cons (pe_callB cr_lenL (by rfl) T.len (by decide +kernel) (pa_cons (pv 1) pa_nil)) pa_nil)) (pg_name (i := 2) scAlike.nd rfl (by first | exact Or.inl rfl | exact Or.inr rfl))
      (pss_one (ps_if (pt_not (pt_val (pe_call ih hr (by rfl) gf F.kp bA .nil pass0 (pa_cons (pe_ix ix_seq (pv 0) (pv 2) (fun _ _ => rfl)) (pa_cons (pe_ix ix_seq (pv 1) (pv 2) (fun _ _ => rfl)) pa_nil))))) (pss_one (ps_ret pe_bl)) pss_nil)))
    (pss_one (ps_ret pe_bl))))))))), ?_⟩
      simp only [cxK, cxK']
      cases d with
      | none =>
        cases hx
        cases hy
        walk_at "w"
        exact q
      | bool b =>
        cases hx
        cases hy
        walk_at "w"
        rw [decide_eq_true rfl]
        exact q
      | int i =>
        cases hx
        cases hy
        walk_at "w"
        rw [decide_eq_true rfl]
        exact q
      | str z =>
        cases hx
        cases hy
        walk_at "w"
        rw [decide_eq_true rfl]
        exact q
      | dict kvs => cases hx
      | list ds =>
        cases hx
        cases hy
        rename_i a xs hsx hax b ys hsy hay
        have el := dpAll_len hax
        have el2 := dpAll_len hay
        cases n with
        | zero => cases ok
        | succ n =>
        have ok : (decide (ds.length ≤ 100000) && ds.all (okD n)) = true := ok
        rw [Bool.and_eq_true, decide_eq_true_eq, List.all_eq_true] at ok
        walk_at "w"
        refine for_range (fun i σ H' => H' = H ∧ ∃ y, σ = [some (.ref a), some (.ref b), y]) ⟨rfl, none, rfl⟩ (fun i σ H' hi h => ?_) (fun σ H' h => ?_)
        · obtain ⟨rfl, y, rfl⟩ := h
          have hi : i < ys.length := by omega
          have ex : xs[i]? = some xs[i] := List.getElem?_eq_getElem (by omega)
          have ey : ys[i]? = some ys[i] := List.getElem?_eq_getElem hi
          obtain ⟨d, hd, dx⟩ := dpAll_get hax ex
          obtain ⟨d2, hd2, dy⟩ := dpAll_get hay ey
          have e2 : d2 = d := Option.some.inj (hd2.symm.trans hd)
          subst e2
          have ax : atI xs (0 + (i : Int)) = some xs[i] := at_of (by omega) ex
          have ay : atI ys (0 + (i : Int)) = some ys[i] := at_of (by omega) ey
          walk_at "w"
          refine ⟨_, _, d2, rfl, dx, dy, ok.2 _ (List.mem_of_getElem? hd), ?_⟩
          walk_at "w"
          exact ⟨rfl, _, rfl⟩
        · obtain ⟨rfl, y, rfl⟩ := h
          walk_at "w"
          exact q
      | tuple ds =>
        cases hx
        cases hy
        rename_i a xs hsx hax b ys hsy hay
        have el := dpAll_len hax
        have el2 := dpAll_len hay
        cases n with
        | zero => cases ok
        | succ n =>
        have ok : (decide (ds.length ≤ 100000) && ds.all (okD n)) = true := ok
        rw [Bool.and_eq_true, decide_eq_true_eq, List.all_eq_true] at ok
        walk_at "w"
        refine for_range (fun i σ H' => H' = H ∧ ∃ y, σ = [some (.ref a), some (.ref b), y]) ⟨rfl, none, rfl⟩ (fun i σ H' hi h => ?_) (fun σ H' h => ?_)
        · obtain ⟨rfl, y, rfl⟩ := h
          have hi : i < ys.length := by omega
          have ex : xs[i]? = some xs[i] := List.getElem?_eq_getElem (by omega)
          have ey : ys[i]? = some ys[i] := List.getElem?_eq_getElem hi
          obtain ⟨d, hd, dx⟩ := dpAll_get hax ex
          obtain ⟨d2, hd2, dy⟩ := dpAll_get hay ey
          have e2 : d2 = d := Option.some.inj (hd2.symm.trans hd)
          subst e2
          have ax : atI xs (0 + (i : Int)) = some xs[i] := at_of (by omega) ex
          have ay : atI ys (0 + (i : Int)) = some ys[i] := at_of (by omega) ey
          walk_at "w"
          refine ⟨_, _, d2, rfl, dx, dy, ok.2 _ (List.mem_of_getElem? hd), ?_⟩
          walk_at "w"
          exact ⟨rfl, _, rfl⟩
        · obtain ⟨rfl, y, rfl⟩ := h
          walk_at "w"
          exact q
end
end VH

namespace VH
open PySem L2 TL
local macro_rules | `(tactic| walk_at "dT") => `(tactic| first
  | ((with_reducible apply iT); (first | assumption | omega))
  | ((with_reducible apply niT); (first | assumption | omega))
  | ((with_reducible apply sT); (first | assumption | rfl))
  | ((with_reducible apply nsT); (first | assumption | decide))
  | ((with_reducible apply nbT); (first | assumption | omega))
  | ((with_reducible apply decide_eq_true); (first | assumption | omega)))
local macro_rules | `(tactic| walk_at "dF") => `(tactic| first
  | ((with_reducible apply iF); (first | assumption | omega))
  | ((with_reducible apply niF); (first | assumption | omega))
  | ((with_reducible apply sF); (first | assumption | decide))
  | ((with_reducible apply nsF); (first | assumption | rfl))
  | ((with_reducible apply nbF); (first | assumption | omega))
  | ((with_reducible apply decide_eq_false); (first | assumption | omega)))
local macro_rules | `(tactic| walk_at "ne") => `(tactic| first | assumption | (apply Ne.symm; assumption) | (apply ne_of_none <;> assumption) | (apply Ne.symm; apply ne_of_none <;> assumption) | (apply ne_new; assumption; walk_at "hg") | (apply Ne.symm; apply ne_new; assumption; walk_at "hg"))
local macro_rules | `(tactic| walk_at "ni") => `(tactic| first | exact ni_nil | (apply ni_cons; walk_at "ne"; walk_at "ni") | assumption)
local macro_rules | `(tactic| walk_at "hg") => `(tactic| first
  | assumption
  | exact upd_same
  | (apply upd_old; assumption; walk_at "hg")
  | (apply upd_oth; walk_at "ne"; walk_at "hg")
  | (apply kp_get; assumption; walk_at "hg"; walk_at "ni"))
local macro_rules | `(tactic| walk_at "mem") => `(tactic| first | exact List.mem_cons_self | (apply List.mem_cons_of_mem; walk_at "mem") | assumption)
local macro_rules | `(tactic| walk_at "no") => `(tactic| first | assumption | (apply none_of_kp2; assumption; walk_at "kp"))
local macro_rules | `(tactic| walk_at "kp") => `(tactic| first
  | assumption
  | exact Kp.refl
  | (apply kp_new'; assumption; walk_at "kp")
  | (apply kp_setn; assumption; walk_at "kp")
  | (apply kp_set'; walk_at "mem"; walk_at "kp")
  | (apply kp_app; assumption; walk_at "kp")
  | (apply kp_app2; assumption; walk_at "kp"))
local macro_rules | `(tactic| walk_at "sz") => `(tactic| first | assumption | exact sz rfl | (apply szb; omega) | (apply szbl; omega) | (apply szb; simp only [List.length_map, List.length_cons, List.length_nil, List.length_append, List.length_set]; omega) | (apply szbl; simp only [List.length_map, List.length_cons, List.length_nil, List.length_append, List.length_set]; omega))
local macro_rules | `(tactic| walk_at "sq") => `(tactic| first
  | assumption
  | (apply sq_l; walk_at "hg")
  | (apply sq_t; walk_at "hg")
  | (apply sqL_new; assumption; walk_at "sq")
  | (apply sqT_new; assumption; walk_at "sq"))
local macro_rules | `(tactic| walk_at "w1") => `(tactic| first
  | with_reducible refine w_seq ?_
  | ((with_reducible apply w_var); exact rfl)
  | with_reducible refine w_c ?_
  | with_reducible refine w_op ?_
  | with_reducible refine w_I0 ?_
  | ((with_reducible apply w_I); (first | assumption | exact Or.inr ⟨by decide, by decide⟩ | exact Or.inl ⟨by decide, by decide⟩ | exact (by show (0 : Int) < _; decide) | exact ⟨by decide, by decide⟩ | exact Or.inl ⟨by omega, by omega⟩ | exact Or.inr ⟨by omega, by omega⟩ | exact ⟨by omega, by omega⟩ | exact (by show (0 : Int) < _; omega)))
  | with_reducible refine w_cons ?_
  | with_reducible refine w_nil ?_
  | with_reducible refine w_asg ?_
  | with_reducible refine w_gName ?_
  | with_reducible refine w_gSub ?_
  | with_reducible refine w_test ?_
  | with_reducible refine w_B ?_
  | with_reducible refine w_ret ?_
  | with_reducible refine w_drop ?_
  | with_reducible refine w_ifS ?_
  | with_reducible refine w_if ?_
  | with_reducible refine w_un ?_
  | with_reducible refine w_U ?_
  | with_reducible refine w_call ?_
  | with_reducible refine w_cb ?_
  | with_reducible refine w_lst ?_
  | with_reducible refine w_tup ?_
  | with_reducible refine w_bm ?_
  | with_reducible refine w_bm0 ?_
  | with_reducible refine w_m1 ?_
  | with_reducible refine w_for ?_
  | with_reducible refine w_iList ?_
  | with_reducible refine w_iTup ?_
  | with_reducible refine w_iStr ?_
  | with_reducible refine w_iR1 ?_
  | with_reducible refine w_iEnum ?_
  | with_reducible refine w_and ?_
  | with_reducible refine w_or ?_
  | with_reducible refine w_not ?_
  | with_reducible refine w_yes ?_
  | with_reducible refine w_isN ?_
  | ((with_reducible apply w_eq); exact rfl)
  | ((with_reducible apply w_ne); exact rfl)
  | with_reducible refine w_chain ?_
  | with_reducible refine w_andV ?_
  | with_reducible refine w_orV ?_
  | with_reducible refine w_notV ?_
  | with_reducible refine w_bl ?_
  | with_reducible refine w_fld ?_
  | with_reducible refine w_sfld ?_
  | with_reducible refine w_next ?_
  | with_reducible refine w_isZ ?_
  | with_reducible refine w_notZ ?_
  | with_reducible refine w_inS ?_
  | with_reducible refine w_notInS ?_
  | ((with_reducible apply w_ifT); exact rfl)
  | ((with_reducible apply w_ifF); exact rfl)
  | ((with_reducible apply w_ifT); walk_at "dT")
  | ((with_reducible apply w_ifF); walk_at "dF")
  | with_reducible refine w_lc ?_
  | with_reducible refine w_aStr ?_
  | ((with_reducible apply w_itL); walk_at "sq")
  | ((with_reducible apply w_itT); walk_at "sq")
  | ((with_reducible apply w_rng); (first | omega | assumption); (first | omega | assumption))
  | ((with_reducible apply w_enum); walk_at "sq")
  | ((with_reducible apply w_lenS); walk_at "sz")
  | ((with_reducible apply w_split); (first | exact rfl | assumption); walk_at "sz")
  | with_reducible refine w_slice ?_
  | with_reducible refine w_part ?_
  | with_reducible refine w_noPart ?_
  | with_reducible refine w_anInt ?_
  | ((with_reducible apply w_slL); walk_at "sq")
  | ((with_reducible apply w_cat); walk_at "hg"; walk_at "hg"; walk_at "sz")
  | ((with_reducible apply w_newSz); walk_at "sz")
  | ((with_reducible apply w_append); walk_at "hg"; walk_at "sz")
  | ((with_reducible apply w_tyD); walk_at "hg")
  | ((with_reducible apply w_gTup); walk_at "sq"; exact rfl)
  | with_reducible refine w_gCons ?_
  | with_reducible refine w_gNil ?_
  | with_reducible refine w_kget2 ?_
  | with_reducible refine w_same ?_
  | ((with_reducible apply w_kat); assumption)
  | ((with_reducible apply w_in); walk_at "sq"; (first | exact rfl | assumption); (first | assumption | exact rfl))
  | ((with_reducible apply w_strI); assumption)
  | with_reducible refine w_disp ?_
  | with_reducible refine w_pcons ?_
  | with_reducible refine w_pnil ?_
  | with_reducible refine w_dget2 ?_
  | ((with_reducible apply w_isD); walk_at "hg")
  | ((with_reducible apply w_dgS); walk_at "hg")
  | ((with_reducible apply w_dupd); walk_at "ne"; walk_at "hg"; walk_at "hg"; (first | decide | walk_at "sz"))
  | ((with_reducible apply w_catS); walk_at "sz")
  | ((with_reducible apply w_slT); walk_at "sq"; assumption)
  | ((with_reducible apply w_ixS); walk_at "sz"; (first | assumption | exact rfl))
  | ((with_reducible apply w_intS); assumption; (first | assumption | omega))
  | ((with_reducible apply w_isi); (first | exact tx_N | exact tx_B | exact tx_I | exact tx_S | (apply tx_L; walk_at "sq") | (apply tx_T; walk_at "sq")); (first | (refine (?_ : _ = some true); decide +kernel) | (refine (?_ : _ = some false); decide +kernel)))
  | ((with_reducible apply w_lenL); walk_at "sq")
  | ((with_reducible apply w_lenT); walk_at "sq")
  | ((with_reducible apply w_listL); walk_at "sq")
  | ((with_reducible apply w_listT); walk_at "sq")
  | ((with_reducible apply w_tupL); walk_at "sq")
  | with_reducible refine w_intI ?_
  | with_reducible refine w_intB ?_
  | with_reducible refine w_strS ?_
  | ((with_reducible apply w_ixXL); walk_at "sq"; (first | exact rfl | exact atI_0 | assumption))
  | ((with_reducible apply w_ixXT); walk_at "sq"; (first | exact rfl | exact atI_0 | assumption))
  | ((with_reducible apply w_tyL); walk_at "sq")
  | with_reducible refine w_tyS ?_
  | ((with_reducible apply w_popAt0); walk_at "hg")
  | ((with_reducible apply w_ixL); walk_at "sq"; (first | exact rfl | exact atI_0 | assumption))
  | ((with_reducible apply w_ixT); walk_at "sq"; (first | exact rfl | exact atI_0 | assumption))
  | ((with_reducible apply w_setL); walk_at "hg"; (first | exact rfl | exact ixN_0)))
local macro_rules | `(tactic| walk_at "w") => `(tactic| repeat walk_at "w1")

section
variable {P : Program} {w : World} {K : PySem.W.Frag} {mg : Str → Option Value} {base : Heap}
/-! ### numbers of words -/
def numV : Option Int → V
  | none => .non
  | some n => .int n
/-- signs that there are -/
def asc (z : Str) : Prop := ∀ c ∈ tl z, c < 1114112
theorem asc_ok {z : Str} (h : asc z) : PyData.strOk z = true := by
  unfold PyData.strOk
  rw [Array.all_eq_true']
  intro c hc
  exact decide_eq_true (h c (Array.mem_toList_iff.mpr hc))
theorem shaped_all {ds : List PyData} (h : ∀ d ∈ ds, d.canLay0 = true ∧ d.depth ≤ 8) : PyData.canLayAll0 ds = true ∧ PyData.depthAll ds ≤ 8 := by
  induction ds with
  | nil => exact ⟨rfl, by decide⟩
  | cons d r ih =>
    have a := h d List.mem_cons_self
    have b := ih fun e he => h e (List.mem_cons_of_mem _ he)
    refine ⟨?_, ?_⟩
    · show (d.canLay0 && PyData.canLayAll0 r) = true
      rw [a.1, b.1]
      rfl
    · exact Nat.max_le.mpr ⟨a.2, b.2⟩
theorem shaped_list {ds : List PyData} (h : ∀ d ∈ ds, d.canLay0 = true ∧ d.depth ≤ 8) : SeqAt.shaped (.list ds) = true := by
  have a := shaped_all h
  show (PyData.canLayAll0 ds && decide (PyData.depthAll ds + 1 ≤ 64)) = true
  rw [a.1, decide_eq_true (by have := a.2; omega)]
  rfl
theorem dp_signs {H : Hp} : ∀ (cs : List Nat), DpAll K H (cs.map fun c => V.str ⟨#[c]⟩) (cs.map fun c => PyData.str ⟨#[c]⟩)
  | [] => .nil
  | c :: r => .cons (.str _) (dp_signs r)
def spNumber : Sp := fun vs H Q _ => ∃ (z : Str), vs = [.str z] ∧ z.length ≤ 100000 ∧ asc z ∧ ∀ H', Kp [] H H' → Q (numV (numberOf z)) H'
theorem scNumber : FnScope ["word", "sign"] ["word"] (defScope sNumber) := ⟨rfl, rfl, rfl, by decide +kernel, rfl, by decide +kernel, by decide +kernel⟩
theorem fig_in : ∀ c : Nat, decide (c ∈ ("0123456789" : Str).cps.toList) = isFig c := by
  intro c
  have e : ("0123456789" : Str).cps.toList = [48, 49, 50, 51, 52, 53, 54, 55, 56, 57] := by decide +kernel
  rw [e]
  unfold isFig
  apply decide_eq_decide.mpr
  simp
  omega
theorem ok_number {f : Addr} {fd : FuncData} (F : Fun K "number_of" "number_of" sNumber f fd) (T : Txt K mg) {t1 t2 : Tok} (gMF : mg "MOST_FIGURES" = some (.int 4 t1)) (gF : mg "FIGURES" = some (.str "0123456789" t2)) : FnOk P w K mg base CX0 1 f fd ["word"] spNumber := by
  refine F.ok scNumber (fun vs H Q E h => ?_) (fun cdv A outer s H vs Q E hr h => ?_)
  · obtain ⟨z, rfl, _⟩ := h
    rfl
  · obtain ⟨z, rfl, hl, ha, q⟩ := h
    have hu := hu_of hr
    have hz : z.length ≤ sizeLine := Nat.le_trans hl (by decide)
    have el : z.length = (tl z).length := len_tl z
    refine ⟨_, (pss_cons (ps_if (PW.pt (pw_or (pt_not (pt_chain op_le op_le pe_int (pe_callB cr_lenS (by rfl) T.len (by decide +kernel) (pa_cons (pv 0) pa_nil)) (pe_glob (v := .int 4) (by rfl) gMF ⟨_, rfl⟩))) (pw_or1 (pt_cmpR (op_neD hr.units) (pe_lcD (own := [("sign", 1)]) rfl scNumber.nd (pi_str (pv 0)) (blkOk_by (N := ["word", "sign"]) (sc := defScope sNumber) (by decide +kernel)) (fun _ _ _ _ _ => (pg_name (i := 1) scNumber.nd rfl (by first | exact Or.inl rfl | exact Or.inr rfl))) (fun _ _ _ _ _ => (pts_one (pt_cmpR op_notInS (pv 1) (pe_glob (v := .str "0123456789") (by rfl) gF ⟨_, rfl⟩) (by rfl)))) (fun _ _ _ _ _ => (pv 1))) (pe_lst pa_nil) (nomark _))))) (pss_one (ps_ret pe_non)) pss_nil)
    (pss_one (ps_ret (pe_ifExp (PW.pt (pw_or (pt_cmpR op_ne (pe_ix ix_str (pv 0) pe_int (fun _ _ => rfl)) pe_str (nomark _)) (pw_or1 (pt_cmpR op_eq (pv 0) pe_str (nomark _))))) (pe_callTy cr_intS (by rfl) T.int (by decide +kernel) (pa_cons (pv 0) pa_nil)) pe_non)))), ?_⟩
    simp only [cxK, cxK']
    by_cases h1 : 1 ≤ (tl z).length ∧ (tl z).length ≤ 4
    · walk_at "w"
      intro D nD
      refine lc_str (fun i H' => H' = upd H D (.lst ((((tl z).take i).filter fun c => !isFig c).map fun c => V.str ⟨#[c]⟩))) rfl (fun i c H' hc hP => ?_) (fun H' hP => ?_)
      · subst hP
        have hc : (tl z)[i]? = some c := by
          show z.cps.toList[i]? = some c
          rw [Array.getElem?_toList]
          exact hc
        walk_at "w"
        refine ⟨rfl, ?_⟩
        walk_at "w"
        rw [fig_in]
        cases hf : isFig c with
        | true =>
          refine iteF ?_
          rw [List.take_add_one, hc]
          simp [hf]
        | false =>
          refine iteT ?_
          walk_at "w"
          refine ⟨_, upd_same, ?_, ?_⟩
          · rw [List.length_map]
            refine small1000 (Nat.le_trans (List.length_filter_le _ _) (Nat.le_trans (List.length_take_le' _ _) (by omega)))
          · rw [upd_upd, List.take_add_one, hc]
            simp [hf]
      · subst hP
        have hall : (tl z).take z.cps.size = tl z := List.take_of_length_le (by rw [← el]; exact Nat.le_refl _)
        rw [hall]
        walk_at "w"
        refine fun p np => ?_
        have nDp : D ≠ p := ne_of_none upd_same np
        refine ⟨.list ((((tl z).filter fun c => !isFig c)).map fun c => .str ⟨#[c]⟩), .list [], .lst (sqL_new np (sq_l upd_same)) (dp_signs _), .lst (sq_l upd_same) .nil, shaped_list (fun d hd => ?_), rfl, ?_⟩
        · obtain ⟨c, hc, rfl⟩ := List.mem_map.mp hd
          have hc2 := ha c (List.mem_filter.mp hc).1
          refine ⟨?_, Nat.zero_le _⟩
          show PyData.strOk ⟨#[c]⟩ = true
          exact asc_ok (fun e he => by
            have he : e ∈ [c] := he
            rw [List.mem_singleton.mp he]
            exact hc2)
        · have kp : ∀ o, Kp [] H (upd (upd H D (.lst ((((tl z).filter fun c => !isFig c)).map fun c => V.str ⟨#[c]⟩))) p o) := fun o => kp_new (kp_new Kp.refl nD) np
          cases hb : (tl z).filter fun c => !isFig c with
          | nil =>
            refine ⟨false, rfl, iteF ?_⟩
            have hf : (tl z).all isFig = true := by
              rw [List.all_eq_true]
              intro c hc
              have z2 := List.filter_eq_nil_iff.mp hb c hc
              cases e : isFig c with
              | true => rfl
              | false => rw [e] at z2; exact absurd rfl z2
            rw [hb] at kp
            obtain ⟨c0, r, hc0⟩ : ∃ c0 r, tl z = c0 :: r := by
              cases e : tl z with
              | nil => rw [e] at h1; exact absurd h1.1 (by decide)
              | cons c0 r => exact ⟨c0, r, rfl⟩
            have a0 : atI z.cps.toList 0 = some c0 := by
              show atI (tl z) 0 = some c0
              rw [hc0]
              exact atI_0
            have hd : NumText.AllDigits z.cps.toList := fun c hc => of_decide_eq_true (List.all_eq_true.mp hf c hc)
            have hi : PySem.intText? z = some ((NumText.digitsVal (tl z) : Nat) : Int) := PySem.intText_digits hd (by show tl z ≠ []; rw [hc0]; exact List.cons_ne_nil _ _) (by omega)
            have e1 : numberOf z = if (tl z).head? ≠ some 48 ∨ tl z = [48] then some ((NumText.digitsVal (tl z) : Nat) : Int) else none := by
              unfold numberOf
              rw [if_pos ⟨h1, hf⟩]
            walk_at "w"
            by_cases e0 : c0 = 48
            · subst e0
              have z0 : (⟨#[48]⟩ : Str) = "0" := by decide +kernel
              have hn : ¬ (tl z).head? ≠ some 48 := by rw [hc0]; exact fun q => q rfl
              by_cases e2 : z = "0"
              · rw [e1, if_pos (Or.inr (by rw [e2]; decide +kernel))] at q
                walk_at "w"
                exact q _ (kp _)
              · have e3 : ¬ tl z = [48] := fun h => e2 (ext_tl (by rw [h]; decide +kernel))
                rw [e1, if_neg (fun h => h.elim hn e3)] at q
                walk_at "w"
                exact q _ (kp _)
            · have z0 : ¬ (⟨#[c0]⟩ : Str) = "0" := fun h => e0 (by
                have e := congrArg tl h
                have e : [c0] = [48] := e.trans (by decide +kernel)
                injection e)
              have hn : (tl z).head? ≠ some 48 := by
                rw [hc0]
                exact fun h => e0 (Option.some.inj h)
              rw [e1, if_pos (Or.inl hn)] at q
              walk_at "w"
              exact q _ (kp _)
          | cons c r =>
            refine ⟨true, rfl, iteT ?_⟩
            walk_at "w"
            have en : numberOf z = none := by
              unfold numberOf
              rw [if_neg]
              rintro ⟨_, h⟩
              have m : c ∈ (tl z).filter fun c => !isFig c := by rw [hb]; exact List.mem_cons_self
              obtain ⟨m1, m2⟩ := List.mem_filter.mp m
              rw [List.all_eq_true.mp h c m1] at m2
              cases m2
            rw [en] at q
            rw [hb] at kp
            exact q _ (kp _)
    · have en : numberOf z = none := by
        unfold numberOf
        rw [if_neg (fun e => h1 e.1)]
      rw [en] at q
      by_cases h2 : 1 ≤ (tl z).length
      · walk_at "w"
        exact q _ Kp.refl
      · walk_at "w"
        exact q _ Kp.refl
end
end VH

namespace VH
open PySem L2 TL
local macro_rules | `(tactic| walk_at "dT") => `(tactic| first
  | ((with_reducible apply iT); (first | assumption | omega))
  | ((with_reducible apply niT); (first | assumption | omega))
  | ((with_reducible apply sT); (first | assumption | rfl))
  | ((with_reducible apply nsT); (first | assumption | decide))
  | ((with_reducible apply nbT); (first | assumption | omega))
  | ((with_reducible apply decide_eq_true); (first | assumption | omega)))
local macro_rules | `(tactic| walk_at "dF") => `(tactic| first
  | ((with_reducible apply iF); (first | assumption | omega))
  | ((with_reducible apply niF); (first | assumption | omega))
  | ((with_reducible apply sF); (first | assumption | decide))
  | ((with_reducible apply nsF); (first | assumption | rfl))
  | ((with_reducible apply nbF); (first | assumption | omega))
  | ((with_reducible apply decide_eq_false); (first | assumption | omega)))
local macro_rules | `(tactic| walk_at "ne") => `(tactic| first | assumption | (apply Ne.symm; assumption) | (apply ne_of_none <;> assumption) | (apply Ne.symm; apply ne_of_none <;> assumption) | (apply ne_new; assumption; walk_at "hg") | (apply Ne.symm; apply ne_new; assumption; walk_at "hg"))
local macro_rules | `(tactic| walk_at "ni") => `(tactic| first | exact ni_nil | (apply ni_cons; walk_at "ne"; walk_at "ni") | assumption)
local macro_rules | `(tactic| walk_at "hg") => `(tactic| first
  | assumption
  | exact upd_same
  | (apply upd_old; assumption; walk_at "hg")
  | (apply upd_oth; walk_at "ne"; walk_at "hg")
  | (apply kp_get; assumption; walk_at "hg"; walk_at "ni"))
local macro_rules | `(tactic| walk_at "mem") => `(tactic| first | exact List.mem_cons_self | (apply List.mem_cons_of_mem; walk_at "mem") | assumption)
local macro_rules | `(tactic| walk_at "no") => `(tactic| first | assumption | (apply none_of_kp2; assumption; walk_at "kp"))
local macro_rules | `(tactic| walk_at "kp") => `(tactic| first
  | assumption
  | exact Kp.refl
  | (apply kp_new'; assumption; walk_at "kp")
  | (apply kp_setn; assumption; walk_at "kp")
  | (apply kp_set'; walk_at "mem"; walk_at "kp")
  | (apply kp_app; assumption; walk_at "kp")
  | (apply kp_app2; assumption; walk_at "kp"))
local macro_rules | `(tactic| walk_at "sz") => `(tactic| first | assumption | exact sz rfl | (apply szb; omega) | (apply szbl; omega) | (apply szb; simp only [List.length_map, List.length_cons, List.length_nil, List.length_append, List.length_set]; omega) | (apply szbl; simp only [List.length_map, List.length_cons, List.length_nil, List.length_append, List.length_set]; omega))
local macro_rules | `(tactic| walk_at "sq") => `(tactic| first
  | assumption
  | (apply sq_l; walk_at "hg")
  | (apply sq_t; walk_at "hg")
  | (apply sqL_new; assumption; walk_at "sq")
  | (apply sqT_new; assumption; walk_at "sq"))
local macro_rules | `(tactic| walk_at "w1") => `(tactic| first
  | with_reducible refine w_seq ?_
  | ((with_reducible apply w_var); exact rfl)
  | with_reducible refine w_c ?_
  | with_reducible refine w_op ?_
  | with_reducible refine w_I0 ?_
  | ((with_reducible apply w_I); (first | assumption | exact Or.inr ⟨by decide, by decide⟩ | exact Or.inl ⟨by decide, by decide⟩ | exact (by show (0 : Int) < _; decide) | exact ⟨by decide, by decide⟩ | exact Or.inl ⟨by omega, by omega⟩ | exact Or.inr ⟨by omega, by omega⟩ | exact ⟨by omega, by omega⟩ | exact (by show (0 : Int) < _; omega)))
  | with_reducible refine w_cons ?_
  | with_reducible refine w_nil ?_
  | with_reducible refine w_asg ?_
  | with_reducible refine w_gName ?_
  | with_reducible refine w_gSub ?_
  | with_reducible refine w_test ?_
  | with_reducible refine w_B ?_
  | with_reducible refine w_ret ?_
  | with_reducible refine w_drop ?_
  | with_reducible refine w_ifS ?_
  | with_reducible refine w_if ?_
  | with_reducible refine w_un ?_
  | with_reducible refine w_U ?_
  | with_reducible refine w_call ?_
  | with_reducible refine w_cb ?_
  | with_reducible refine w_lst ?_
  | with_reducible refine w_tup ?_
  | with_reducible refine w_bm ?_
  | with_reducible refine w_bm0 ?_
  | with_reducible refine w_m1 ?_
  | with_reducible refine w_for ?_
  | with_reducible refine w_iList ?_
  | with_reducible refine w_iTup ?_
  | with_reducible refine w_iStr ?_
  | with_reducible refine w_iR1 ?_
  | with_reducible refine w_iEnum ?_
  | with_reducible refine w_and ?_
  | with_reducible refine w_or ?_
  | with_reducible refine w_not ?_
  | with_reducible refine w_yes ?_
  | with_reducible refine w_isN ?_
  | ((with_reducible apply w_eq); exact rfl)
  | ((with_reducible apply w_ne); exact rfl)
  | with_reducible refine w_chain ?_
  | with_reducible refine w_andV ?_
  | with_reducible refine w_orV ?_
  | with_reducible refine w_notV ?_
  | with_reducible refine w_bl ?_
  | with_reducible refine w_fld ?_
  | with_reducible refine w_sfld ?_
  | with_reducible refine w_next ?_
  | with_reducible refine w_isZ ?_
  | with_reducible refine w_notZ ?_
  | with_reducible refine w_inS ?_
  | with_reducible refine w_notInS ?_
  | ((with_reducible apply w_ifT); exact rfl)
  | ((with_reducible apply w_ifF); exact rfl)
  | ((with_reducible apply w_ifT); walk_at "dT")
  | ((with_reducible apply w_ifF); walk_at "dF")
  | with_reducible refine w_lc ?_
  | with_reducible refine w_aStr ?_
  | ((with_reducible apply w_itL); walk_at "sq")
  | ((with_reducible apply w_itT); walk_at "sq")
  | ((with_reducible apply w_rng); (first | omega | assumption); (first | omega | assumption))
  | ((with_reducible apply w_enum); walk_at "sq")
  | ((with_reducible apply w_lenS); walk_at "sz")
  | ((with_reducible apply w_split); (first | exact rfl | assumption); walk_at "sz")
  | with_reducible refine w_slice ?_
  | with_reducible refine w_part ?_
  | with_reducible refine w_noPart ?_
  | with_reducible refine w_anInt ?_
  | ((with_reducible apply w_slL); walk_at "sq")
  | ((with_reducible apply w_cat); walk_at "hg"; walk_at "hg"; walk_at "sz")
  | ((with_reducible apply w_newSz); walk_at "sz")
  | ((with_reducible apply w_append); walk_at "hg"; walk_at "sz")
  | ((with_reducible apply w_tyD); walk_at "hg")
  | ((with_reducible apply w_gTup); walk_at "sq"; exact rfl)
  | with_reducible refine w_gCons ?_
  | with_reducible refine w_gNil ?_
  | with_reducible refine w_kget2 ?_
  | with_reducible refine w_same ?_
  | ((with_reducible apply w_kat); assumption)
  | ((with_reducible apply w_in); walk_at "sq"; (first | exact rfl | assumption); (first | assumption | exact rfl))
  | ((with_reducible apply w_strI); assumption)
  | with_reducible refine w_disp ?_
  | with_reducible refine w_pcons ?_
  | with_reducible refine w_pnil ?_
  | with_reducible refine w_dget2 ?_
  | ((with_reducible apply w_isD); walk_at "hg")
  | ((with_reducible apply w_dgS); walk_at "hg")
  | ((with_reducible apply w_dupd); walk_at "ne"; walk_at "hg"; walk_at "hg"; (first | decide | walk_at "sz"))
  | ((with_reducible apply w_catS); walk_at "sz")
  | ((with_reducible apply w_slT); walk_at "sq"; assumption)
  | ((with_reducible apply w_ixS); walk_at "sz"; (first | assumption | exact rfl))
  | ((with_reducible apply w_intS); assumption; (first | assumption | omega))
  | ((with_reducible apply w_isi); (first | exact tx_N | exact tx_B | exact tx_I | exact tx_S | (apply tx_L; walk_at "sq") | (apply tx_T; walk_at "sq")); (first | (refine (?_ : _ = some true); decide +kernel) | (refine (?_ : _ = some false); decide +kernel)))
  | ((with_reducible apply w_lenL); walk_at "sq")
  | ((with_reducible apply w_lenT); walk_at "sq")
  | ((with_reducible apply w_listL); walk_at "sq")
  | ((with_reducible apply w_listT); walk_at "sq")
  | ((with_reducible apply w_tupL); walk_at "sq")
  | with_reducible refine w_intI ?_
  | with_reducible refine w_intB ?_
  | with_reducible refine w_strS ?_
  | ((with_reducible apply w_ixXL); walk_at "sq"; (first | exact rfl | exact atI_0 | assumption))
  | ((with_reducible apply w_ixXT); walk_at "sq"; (first | exact rfl | exact atI_0 | assumption))
  | ((with_reducible apply w_tyL); walk_at "sq")
  | with_reducible refine w_tyS ?_
  | ((with_reducible apply w_popAt0); walk_at "hg")
  | ((with_reducible apply w_ixL); walk_at "sq"; (first | exact rfl | exact atI_0 | assumption))
  | ((with_reducible apply w_ixT); walk_at "sq"; (first | exact rfl | exact atI_0 | assumption))
  | ((with_reducible apply w_setL); walk_at "hg"; (first | exact rfl | exact ixN_0)))
local macro_rules | `(tactic| walk_at "w") => `(tactic| repeat walk_at "w1")

section
variable {P : Program} {w : World} {K : PySem.W.Frag} {mg : Str → Option Value} {base : Heap}
/-! ### the step of a row -/
theorem spl_ne (S : List Nat) : ∀ (k : Nat) (acc l : List Nat), spl S k acc l ≠ []
  | _, acc, [] => by unfold spl; exact List.cons_ne_nil _ _
  | 0, acc, c :: r => by
    unfold spl
    split
    · exact List.cons_ne_nil _ _
    · exact spl_ne S 0 _ r
  | k + 1, acc, c :: r => by
    unfold spl
    exact spl_ne S k acc r
theorem spl_mem (S : List Nat) : ∀ (k : Nat) (acc l : List Nat) (p : List Nat) (c : Nat), p ∈ spl S k acc l → c ∈ p → c ∈ acc ∨ c ∈ l
  | _, acc, [], p, c, h, hc => by
    unfold spl at h
    rw [List.mem_singleton.mp h] at hc
    exact .inl hc
  | 0, acc, d :: r, p, c, h, hc => by
    unfold spl at h
    split at h
    · rcases List.mem_cons.mp h with h | h
      · rw [h] at hc
        exact .inl hc
      · rcases spl_mem S _ _ r p c h hc with z | z
        · cases z
        · exact .inr (List.mem_cons_of_mem _ z)
    · rcases spl_mem S _ _ r p c h hc with z | z
      · rcases List.mem_append.mp z with z | z
        · exact .inl z
        · rw [List.mem_singleton.mp z]
          exact .inr List.mem_cons_self
      · exact .inr (List.mem_cons_of_mem _ z)
  | k + 1, acc, d :: r, p, c, h, hc => by
    unfold spl at h
    rcases spl_mem S _ _ r p c h hc with z | z
    · exact .inl z
    · exact .inr (List.mem_cons_of_mem _ z)
theorem spl_few (S : List Nat) : ∀ (k : Nat) (acc l : List Nat), (spl S k acc l).length ≤ l.length + 1 ∧ ∀ p ∈ spl S k acc l, p.length ≤ acc.length + l.length
  | _, acc, [] => by
    unfold spl
    exact ⟨by simp, fun p hp => by rw [List.mem_singleton.mp hp]; simp⟩
  | 0, acc, c :: r => by
    unfold spl
    split
    · obtain ⟨a, b⟩ := spl_few S (S.length - 1) [] r
      refine ⟨by simp only [List.length_cons]; omega, fun p hp => ?_⟩
      rcases List.mem_cons.mp hp with rfl | hp
      · simp only [List.length_cons]; omega
      · have := b p hp
        simp only [List.length_cons, List.length_nil] at *
        omega
    · obtain ⟨a, b⟩ := spl_few S 0 (acc ++ [c]) r
      refine ⟨by simp only [List.length_cons]; omega, fun p hp => ?_⟩
      have := b p hp
      simp only [List.length_cons, List.length_append, List.length_nil] at *
      omega
  | k + 1, acc, c :: r => by
    unfold spl
    obtain ⟨a, b⟩ := spl_few S k acc r
    refine ⟨by simp only [List.length_cons]; omega, fun p hp => ?_⟩
    have := b p hp
    simp only [List.length_cons] at *
    omega
/-- a text that is cut by one plain sign -/
structure Cuts (z y : Str) : Prop where
  ne : Txt.split z y ≠ []
  asc : asc z → ∀ p ∈ Txt.split z y, asc p
  few : (Txt.split z y).length ≤ z.length + 1
  short : ∀ p ∈ Txt.split z y, p.length ≤ z.length
theorem cuts {z y : Str} (hy : tl y ≠ []) (hk : y.cps.all (· < 256) = true) : Cuts z y := by
  have e := split_spl z y hy (kind_ok hk)
  refine ⟨fun h => ?_, fun ha p hp c hc => ?_, ?_, fun p hp => ?_⟩
  · rw [h] at e
    exact spl_ne _ _ _ _ e.symm
  · have m : tl p ∈ (Txt.split z y).map tl := List.mem_map.mpr ⟨p, hp, rfl⟩
    rw [e] at m
    rcases spl_mem _ _ _ _ _ c m hc with q | q
    · cases q
    · exact ha c q
  · have a := (spl_few (tl y) 0 [] (tl z)).1
    rw [← e, List.length_map, ← len_tl] at a
    exact a
  · have m : tl p ∈ (Txt.split z y).map tl := List.mem_map.mpr ⟨p, hp, rfl⟩
    rw [e] at m
    have a := (spl_few (tl y) 0 [] (tl z)).2 _ m
    rw [len_tl, len_tl z]
    simpa using a
theorem flat_nums : ∀ (os : List (Option Int)), (os.map numV).all flatV = true
  | [] => rfl
  | none :: r => by show (true && _) = true; rw [flat_nums r]; rfl
  | some n :: r => by show (true && _) = true; rw [flat_nums r]; rfl
theorem allSome_cases : ∀ (os : List (Option Int)), (allSome os = none ∧ inV .non (os.map numV) = true) ∨ ∃ ns, allSome os = some ns ∧ inV .non (os.map numV) = false ∧ os.map numV = ns.map V.int
  | [] => .inr ⟨[], rfl, rfl, rfl⟩
  | none :: r => .inl ⟨rfl, by
    show (eqV .non .non || inV .non (r.map numV)) = true
    rfl⟩
  | some n :: r => by
    rcases allSome_cases r with ⟨h1, h2⟩ | ⟨ns, h1, h2, h3⟩
    · refine .inl ⟨by show (allSome r).map (n :: ·) = none; rw [h1]; rfl, ?_⟩
      show (eqV (.int n) .non || inV .non (r.map numV)) = true
      rw [h2]
      rfl
    · refine .inr ⟨n :: ns, by show (allSome r).map (n :: ·) = _; rw [h1]; rfl, ?_, ?_⟩
      · show (eqV (.int n) .non || inV .non (r.map numV)) = false
        rw [h2]
        rfl
      · show V.int n :: r.map numV = V.int n :: ns.map V.int
        rw [h3]
def shapeV (z : Str) : Option V := match shapeOf z with
  | none => none
  | some n => some (.int (n : Int))
def stepVs (s : Stp) : List V := .str s.1 :: s.2.map V.int
def spStepOf : Sp := fun vs H Q _ => ∃ (z : Str), vs = [.str z] ∧ z.length ≤ 60000 ∧ asc z ∧ ∀ H', Kp [] H H' →
  match stepOf z with
  | none => Q .non H'
  | some s => ∀ p, H p = none → H' p = some (.tup (stepVs s)) → Q (.ref p) H'
theorem scStep : FnScope ["row", "words", "numbers", "word"] ["row"] (defScope sStep) := ⟨rfl, rfl, rfl, by decide +kernel, rfl, by decide +kernel, by decide +kernel⟩
theorem ok_step {f fN dS : Addr} {fd fdN : FuncData} (F : Fun K "step_of" "step_of" sStep f fd) (T : Txt K mg) {es : Array DictEntry} {n : Nat} (gS : mg "SHAPES" = some (.ref dS)) (dK : KDict K w dS es n) (hK : ∀ z, KAt es z (shapeV z))
    (FN : Fun K "number_of" "number_of" sNumber fN fdN) (bN : Binds K fdN ["word"] []) (gN : mg "number_of" = some (.ref fN)) (GN : FnOk P w K mg base CX0 1 fN fdN ["word"] spNumber) : FnOk P w K mg base CX0 2 f fd ["row"] spStepOf := by
  refine F.ok scStep (fun vs H Q E h => ?_) (fun cdv A outer s H vs Q E hr h => ?_)
  · obtain ⟨z, rfl, _⟩ := h
    rfl
  · obtain ⟨z, rfl, hl, ha, q⟩ := h
    have hu := hu_of hr
    have C := cuts (z := z) (y := " ") (by decide +kernel) (by decide +kernel)
    have hz : z.length + 2 ≤ sizeLine := Nat.le_trans (show z.length + 2 ≤ 60002 by omega) (by decide)
    have q2 : ∀ H', Kp [] H H' → stepOf z = stepOf z := fun _ _ => rfl
    unfold stepOf at q
    obtain ⟨w0, ws, ew⟩ : ∃ w0 ws, Txt.split z " " = w0 :: ws := by
      cases e : Txt.split z " " with
      | nil => exact absurd e C.ne
      | cons a r => exact ⟨a, r, rfl⟩
    have hk := hK w0
    refine ⟨_, (pss_cons (ps_set (i := 1) scStep.nd rfl (by first | exact Or.inl rfl | exact Or.inr rfl) (pe_splitN (pv 0) pe_str))
    (pss_cons (ps_if (pt_cmpR op_ne (pe_kget2 dK (pe_glob (v := .ref dS) (by rfl) gS rfl) (pe_ix ix_list (pv 1) pe_int (fun _ _ => rfl)) pe_non ⟨rfl, rfl, rfl, rfl⟩) (pe_op op_sub (pe_callB cr_lenL (by rfl) T.len (by decide +kernel) (pa_cons (pv 1) pa_nil)) pe_int) (nomark _)) (pss_one (ps_ret pe_non)) pss_nil)
    (pss_cons (ps_setLcD (i := 2) (own := [("word", 3)]) rfl scStep.nd rfl rfl (sw_true rfl rfl rfl (by decide +kernel)) (pi_list (pe_slice sl_list (pv 1) (po_some pe_int) po_none)) (blkOk_by (N := ["row", "words", "numbers", "word"]) (sc := defScope sStep) (by decide +kernel)) (fun _ _ _ _ _ => (pg_name (i := 3) scStep.nd rfl (by first | exact Or.inl rfl | exact Or.inr rfl))) (fun _ _ _ _ _ => pts_nil) (fun _ _ _ _ _ => (pe_call GN (hr.mono (by decide)) (by rfl) gN FN.kp bN .nil pass0 (pa_cons (pv 3) pa_nil))))
    (pss_one (ps_ret (pe_ifExp (pt_cmpR op_in_seq pe_non (pv 2) (by rfl)) pe_non (pe_callTy cr_tupOf (by rfl) T.tuple (by decide +kernel) (pa_cons (pe_op op_cat (pe_lst (pa_cons (pe_ix ix_list (pv 1) pe_int (fun _ _ => rfl)) pa_nil)) (pv 2)) pa_nil)))))))), ?_⟩
    simp only [cxK, cxK']
    walk_at "w"
    rw [ew]
    intro p np
    rw [ew] at q
    have hn : ∀ p', Kp [] H p' → shapeOf w0 ≠ some ws.length → Q .non p' := fun p' k h => by
      have z := q p' k
      simp only [if_neg h] at z
      exact z
    have lw : ws.length ≤ 70000 := by
      have a := C.few
      rw [ew, List.length_cons] at a
      omega
    have ll : ((List.map V.str (w0 :: ws)).length : Int) = (ws.length : Int) + 1 := by
      rw [List.length_map, List.length_cons]
      omega
    cases hsh : shapeOf w0 with
    | none =>
      have hk : KAt es w0 none := by
        have := hk
        unfold shapeV at this
        rw [hsh] at this
        exact this
      walk_at "w"
      exact hn _ (kp_new Kp.refl np) (by rw [hsh]; exact fun e => nomatch e)
    | some m =>
      have hk : KAt es w0 (some (.int (m : Int))) := by
        have := hk
        unfold shapeV at this
        rw [hsh] at this
        exact this
      walk_at "w"
      refine (show (if (!decide (V.int (m : Int) = V.int ((List.map V.str (w0 :: ws)).length - 1 : Int))) = true then _ else _) from ?_)
      by_cases e : m = ws.length
      · walk_at "w"
        rw [show cutV (List.map V.str (w0 :: ws)) (some 1) none = ws.map V.str from cutV_from _ 1]
        intro p2 np2
        walk_at "w"
        intro D nD
        refine lc_list (xs := ws.map V.str) (fun i H' => Kp [] (upd (upd H p (.lst (List.map V.str (w0 :: ws)))) p2 (.lst (ws.map V.str))) H' ∧ H' D = some (.lst ((ws.take i).map fun x => numV (numberOf x)))) ⟨kp_new Kp.refl nD, upd_same⟩ (fun i H' _ h => sq_l (h.1.k _ _ upd_same ni_nil)) (fun i x H' hx h => ?_) (fun H' h => ?_)
        · obtain ⟨k, hD⟩ := h
          obtain ⟨wd, hwd, rfl⟩ : ∃ wd, ws[i]? = some wd ∧ V.str wd = x := by
            rw [List.getElem?_map] at hx
            cases e : ws[i]? with
            | none => rw [e] at hx; cases hx
            | some wd => rw [e] at hx; exact ⟨wd, rfl, Option.some.inj hx⟩
          have hm : wd ∈ Txt.split z " " := by rw [ew]; exact List.mem_cons_of_mem _ (List.mem_of_getElem? hwd)
          walk_at "w"
          refine ⟨rfl, ?_⟩
          walk_at "w"
          refine ⟨wd, rfl, Nat.le_trans (C.short wd hm) (by omega), C.asc ha wd hm, fun H2 k2 => ?_⟩
          refine ⟨_, by walk_at "hg", ?_, ?_, ?_⟩
          · rw [List.length_map]
            exact Nat.lt_of_le_of_lt (Nat.le_trans (List.length_take_le' _ _) lw) (by decide)
          · walk_at "kp"
          · rw [upd_same, List.take_add_one, hwd]
            simp
        · obtain ⟨k, hD⟩ := h
          have hD : H' D = some (.lst ((ws.map numberOf).map numV)) := by
            rw [hD, List.length_map, List.take_length, List.map_map]
            rfl
          have fl := flat_nums (ws.map numberOf)
          have e2 : ∀ H', Kp [] H H' → _ := q
          simp only [if_pos (show shapeOf w0 = some ws.length by rw [hsh, e])] at e2
          rcases allSome_cases (ws.map numberOf) with ⟨h1, h2⟩ | ⟨ns, h1, h2, h3⟩
          · rw [h1] at e2
            walk_at "w"
            refine w_ifT h2 ?_
            walk_at "w"
            exact e2 _ (by walk_at "kp")
          · rw [h1] at e2
            have ln : ns.length = ws.length := by
              have a := congrArg List.length h3
              simp only [List.length_map] at a
              exact a.symm
            walk_at "w"
            refine w_ifF h2 ?_
            walk_at "w"
            intro p3 np3
            walk_at "w"
            intro p4 np4
            walk_at "w"
            intro p5 np5
            refine e2 _ (by walk_at "kp") p5 (by walk_at "no") ?_
            rw [upd_same, h3]
            rfl
      · walk_at "w"
        exact hn _ (kp_new Kp.refl np) (by rw [hsh]; exact fun e2 => e (Option.some.inj e2))
end
end VH

namespace VH
open PySem L2 TL
local macro_rules | `(tactic| walk_at "dT") => `(tactic| first
  | ((with_reducible apply iT); (first | assumption | omega))
  | ((with_reducible apply niT); (first | assumption | omega))
  | ((with_reducible apply sT); (first | assumption | rfl))
  | ((with_reducible apply nsT); (first | assumption | decide))
  | ((with_reducible apply nbT); (first | assumption | omega))
  | ((with_reducible apply decide_eq_true); (first | assumption | omega)))
local macro_rules | `(tactic| walk_at "dF") => `(tactic| first
  | ((with_reducible apply iF); (first | assumption | omega))
  | ((with_reducible apply niF); (first | assumption | omega))
  | ((with_reducible apply sF); (first | assumption | decide))
  | ((with_reducible apply nsF); (first | assumption | rfl))
  | ((with_reducible apply nbF); (first | assumption | omega))
  | ((with_reducible apply decide_eq_false); (first | assumption | omega)))
local macro_rules | `(tactic| walk_at "ne") => `(tactic| first | assumption | (apply Ne.symm; assumption) | (apply ne_of_none <;> assumption) | (apply Ne.symm; apply ne_of_none <;> assumption) | (apply ne_new; assumption; walk_at "hg") | (apply Ne.symm; apply ne_new; assumption; walk_at "hg"))
local macro_rules | `(tactic| walk_at "ni") => `(tactic| first | exact ni_nil | (apply ni_cons; walk_at "ne"; walk_at "ni") | assumption)
local macro_rules | `(tactic| walk_at "hg") => `(tactic| first
  | assumption
  | exact upd_same
  | (apply upd_old; assumption; walk_at "hg")
  | (apply upd_oth; walk_at "ne"; walk_at "hg")
  | (apply kp_get; assumption; walk_at "hg"; walk_at "ni"))
local macro_rules | `(tactic| walk_at "mem") => `(tactic| first | exact List.mem_cons_self | (apply List.mem_cons_of_mem; walk_at "mem") | assumption)
local macro_rules | `(tactic| walk_at "no") => `(tactic| first | assumption | (apply none_of_kp2; assumption; walk_at "kp"))
local macro_rules | `(tactic| walk_at "kp") => `(tactic| first
  | assumption
  | exact Kp.refl
  | (apply kp_new'; assumption; walk_at "kp")
  | (apply kp_setn; assumption; walk_at "kp")
  | (apply kp_set'; walk_at "mem"; walk_at "kp")
  | (apply kp_app; assumption; walk_at "kp")
  | (apply kp_app2; assumption; walk_at "kp"))
local macro_rules | `(tactic| walk_at "sz") => `(tactic| first | assumption | exact sz rfl | (apply szb; omega) | (apply szbl; omega) | (apply szb; simp only [List.length_map, List.length_cons, List.length_nil, List.length_append, List.length_set]; omega) | (apply szbl; simp only [List.length_map, List.length_cons, List.length_nil, List.length_append, List.length_set]; omega))
local macro_rules | `(tactic| walk_at "sq") => `(tactic| first
  | assumption
  | (apply sq_l; walk_at "hg")
  | (apply sq_t; walk_at "hg")
  | (apply sqL_new; assumption; walk_at "sq")
  | (apply sqT_new; assumption; walk_at "sq"))
local macro_rules | `(tactic| walk_at "w1") => `(tactic| first
  | with_reducible refine w_seq ?_
  | ((with_reducible apply w_var); exact rfl)
  | with_reducible refine w_c ?_
  | with_reducible refine w_op ?_
  | with_reducible refine w_I0 ?_
  | ((with_reducible apply w_I); (first | assumption | exact Or.inr ⟨by decide, by decide⟩ | exact Or.inl ⟨by decide, by decide⟩ | exact (by show (0 : Int) < _; decide) | exact ⟨by decide, by decide⟩ | exact Or.inl ⟨by omega, by omega⟩ | exact Or.inr ⟨by omega, by omega⟩ | exact ⟨by omega, by omega⟩ | exact (by show (0 : Int) < _; omega)))
  | with_reducible refine w_cons ?_
  | with_reducible refine w_nil ?_
  | with_reducible refine w_asg ?_
  | with_reducible refine w_gName ?_
  | with_reducible refine w_gSub ?_
  | with_reducible refine w_test ?_
  | with_reducible refine w_B ?_
  | with_reducible refine w_ret ?_
  | with_reducible refine w_drop ?_
  | with_reducible refine w_ifS ?_
  | with_reducible refine w_if ?_
  | with_reducible refine w_un ?_
  | with_reducible refine w_U ?_
  | with_reducible refine w_call ?_
  | with_reducible refine w_cb ?_
  | with_reducible refine w_lst ?_
  | with_reducible refine w_tup ?_
  | with_reducible refine w_bm ?_
  | with_reducible refine w_bm0 ?_
  | with_reducible refine w_m1 ?_
  | with_reducible refine w_for ?_
  | with_reducible refine w_iList ?_
  | with_reducible refine w_iTup ?_
  | with_reducible refine w_iStr ?_
  | with_reducible refine w_iR1 ?_
  | with_reducible refine w_iEnum ?_
  | with_reducible refine w_and ?_
  | with_reducible refine w_or ?_
  | with_reducible refine w_not ?_
  | with_reducible refine w_yes ?_
  | with_reducible refine w_isN ?_
  | ((with_reducible apply w_eq); exact rfl)
  | ((with_reducible apply w_ne); exact rfl)
  | with_reducible refine w_chain ?_
  | with_reducible refine w_andV ?_
  | with_reducible refine w_orV ?_
  | with_reducible refine w_notV ?_
  | with_reducible refine w_bl ?_
  | with_reducible refine w_fld ?_
  | with_reducible refine w_sfld ?_
  | with_reducible refine w_next ?_
  | with_reducible refine w_isZ ?_
  | with_reducible refine w_notZ ?_
  | with_reducible refine w_inS ?_
  | with_reducible refine w_notInS ?_
  | ((with_reducible apply w_ifT); exact rfl)
  | ((with_reducible apply w_ifF); exact rfl)
  | ((with_reducible apply w_ifT); walk_at "dT")
  | ((with_reducible apply w_ifF); walk_at "dF")
  | with_reducible refine w_lc ?_
  | with_reducible refine w_aStr ?_
  | ((with_reducible apply w_itL); walk_at "sq")
  | ((with_reducible apply w_itT); walk_at "sq")
  | ((with_reducible apply w_rng); (first | omega | assumption); (first | omega | assumption))
  | ((with_reducible apply w_enum); walk_at "sq")
  | ((with_reducible apply w_lenS); walk_at "sz")
  | ((with_reducible apply w_split); (first | exact rfl | assumption); walk_at "sz")
  | with_reducible refine w_slice ?_
  | with_reducible refine w_part ?_
  | with_reducible refine w_noPart ?_
  | with_reducible refine w_anInt ?_
  | ((with_reducible apply w_slL); walk_at "sq")
  | ((with_reducible apply w_cat); walk_at "hg"; walk_at "hg"; walk_at "sz")
  | ((with_reducible apply w_newSz); walk_at "sz")
  | ((with_reducible apply w_append); walk_at "hg"; walk_at "sz")
  | ((with_reducible apply w_tyD); walk_at "hg")
  | ((with_reducible apply w_gTup); walk_at "sq"; exact rfl)
  | with_reducible refine w_gCons ?_
  | with_reducible refine w_gNil ?_
  | with_reducible refine w_kget2 ?_
  | with_reducible refine w_same ?_
  | ((with_reducible apply w_kat); assumption)
  | ((with_reducible apply w_in); walk_at "sq"; (first | exact rfl | assumption); (first | assumption | exact rfl))
  | ((with_reducible apply w_strI); assumption)
  | with_reducible refine w_disp ?_
  | with_reducible refine w_pcons ?_
  | with_reducible refine w_pnil ?_
  | with_reducible refine w_dget2 ?_
  | ((with_reducible apply w_isD); walk_at "hg")
  | ((with_reducible apply w_dgS); walk_at "hg")
  | ((with_reducible apply w_dupd); walk_at "ne"; walk_at "hg"; walk_at "hg"; (first | decide | walk_at "sz"))
  | ((with_reducible apply w_catS); walk_at "sz")
  | ((with_reducible apply w_slT); walk_at "sq"; assumption)
  | ((with_reducible apply w_ixS); walk_at "sz"; (first | assumption | exact rfl))
  | ((with_reducible apply w_intS); assumption; (first | assumption | omega))
  | ((with_reducible apply w_isi); (first | exact tx_N | exact tx_B | exact tx_I | exact tx_S | (apply tx_L; walk_at "sq") | (apply tx_T; walk_at "sq")); (first | (refine (?_ : _ = some true); decide +kernel) | (refine (?_ : _ = some false); decide +kernel)))
  | ((with_reducible apply w_lenL); walk_at "sq")
  | ((with_reducible apply w_lenT); walk_at "sq")
  | ((with_reducible apply w_listL); walk_at "sq")
  | ((with_reducible apply w_listT); walk_at "sq")
  | ((with_reducible apply w_tupL); walk_at "sq")
  | with_reducible refine w_intI ?_
  | with_reducible refine w_intB ?_
  | with_reducible refine w_strS ?_
  | ((with_reducible apply w_ixXL); walk_at "sq"; (first | exact rfl | exact atI_0 | assumption))
  | ((with_reducible apply w_ixXT); walk_at "sq"; (first | exact rfl | exact atI_0 | assumption))
  | ((with_reducible apply w_tyL); walk_at "sq")
  | with_reducible refine w_tyS ?_
  | ((with_reducible apply w_popAt0); walk_at "hg")
  | ((with_reducible apply w_ixL); walk_at "sq"; (first | exact rfl | exact atI_0 | assumption))
  | ((with_reducible apply w_ixT); walk_at "sq"; (first | exact rfl | exact atI_0 | assumption))
  | ((with_reducible apply w_setL); walk_at "hg"; (first | exact rfl | exact ixN_0)))
local macro_rules | `(tactic| walk_at "w") => `(tactic| repeat walk_at "w1")
local macro_rules | `(tactic| walk_at "wI") => `(tactic| repeat (fail_if_success (with_reducible show tIfS _ _ _ _ _ _); walk_at "w1"))

section
variable {P : Program} {w : World} {K : PySem.W.Frag} {mg : Str → Option Value} {base : Heap}
/-- a list's items are these steps -/
def StepsIn (H : Hp) (vs : List V) (ss : List Stp) : Prop := vs.length = ss.length ∧ ∀ (i : Nat) (x : V) (s : Stp), vs[i]? = some x → ss[i]? = some s → ∃ p, x = V.ref p ∧ H p = some (.tup (stepVs s))
theorem StepsIn.keep {H H' : Hp} {vs : List V} {ss : List Stp} (S : StepsIn H vs ss) (k : Kp [] H H') : StepsIn H' vs ss :=
  ⟨S.1, fun i x s a b => let ⟨p, e, h⟩ := S.2 i x s a b; ⟨p, e, k.k _ _ h ni_nil⟩⟩
theorem StepsIn.set {H : Hp} {vs ys : List V} {ss : List Stp} {o : Addr} {u : HO} (S : StepsIn H vs ss) (ho : H o = some (.lst ys)) : StepsIn (upd H o u) vs ss :=
  ⟨S.1, fun i x s a b => let ⟨p, e, h⟩ := S.2 i x s a b; ⟨p, e, by rw [upd_ne (ne_of h ho (by intro z; cases z))]; exact h⟩⟩
theorem StepsIn.snoc {H : Hp} {vs : List V} {ss : List Stp} {p : Addr} {s : Stp} (S : StepsIn H vs ss) (h : H p = some (.tup (stepVs s))) : StepsIn H (vs ++ [.ref p]) (ss ++ [s]) := by
  refine ⟨by rw [List.length_append, List.length_append, S.1]; rfl, fun i x t a b => ?_⟩
  by_cases hi : i < vs.length
  · rw [List.getElem?_append_left hi] at a
    rw [List.getElem?_append_left (by rw [← S.1]; exact hi)] at b
    exact S.2 i x t a b
  · rw [List.getElem?_append_right (by omega)] at a
    rw [List.getElem?_append_right (by rw [← S.1]; omega), ← S.1] at b
    cases e : i - vs.length with
    | zero =>
      rw [e] at a b
      have a : V.ref p = x := Option.some.inj a
      have b : s = t := Option.some.inj b
      exact ⟨p, a.symm, by rw [← b]; exact h⟩
    | succ k =>
      rw [e] at a
      simp at a
theorem log2_small {n : Int} (h0 : 0 ≤ n) (h : n < 10000) : n.natAbs.log2 < 1920 := PySem.Flt.log2_lt_of (by decide) (Nat.lt_of_lt_of_le (show n.natAbs < 2 ^ 14 by omega) (Nat.pow_le_pow_right (by decide) (by decide)))
theorem Box.keep {H H' : Hp} {b l : Addr} {ns : List Int} {s : Int} (B : Box H b l ns s) (k : Kp [] H H') : Box H' b l ns s := ⟨k.k _ _ B.b ni_nil, k.k _ _ B.l ni_nil, B.s0, B.s1⟩
theorem Box.not {H : Hp} {b l p : Addr} {ns : List Int} {s : Int} (B : Box H b l ns s) (n : H p = none) : p ∉ [b, l] := ni_cons (Ne.symm (ne_of_none B.b n)) (ni_cons (Ne.symm (ne_of_none B.l n)) ni_nil)
/-- the rows of a text -/
def rowsOf (z : Str) : List Str := if z = "" then [] else Txt.split z "\n"
abbrev resOf (z : Str) : List (Option Stp) := (rowsOf z).map stepOf
/-! ### BadText is made -/
def spBTI (K : PySem.W.Frag) : Sp := fun vs H Q _ => ∃ (a C : Addr) (v : V), vs = [.ref a, v] ∧ OexC K C ∧ PySem.W.findIn K (.ref C) "row" = some none ∧ H a = some (exo a C none) ∧ ∀ dx, H dx = none → dx ≠ a → Q .non (upd (upd H dx (exd dx [("row", v)])) a (exo a C (some dx)))
theorem scBTI : FnScope ["self", "row"] ["self", "row"] (defScope sBTI) := ⟨rfl, rfl, rfl, by decide +kernel, rfl, by decide +kernel, by decide +kernel⟩
theorem ok_bti {f CV : Addr} {fd : FuncData} (F : Fun K "__init__" "BadText.__init__" sBTI f fd) (gVE : mg "VolumeError" = some (.ref CV)) (crV : ClX.CRead K CV (.type "type"))
    (viV : PySem.W.findCls K (.ref CV) (.type "type") "__init__" = some (.val (.builtin "ValueError.__init__"))) : FnOk P w K mg base CX0 1 f fd ["self", "row"] (spBTI K) := by
  refine F.ok scBTI (fun vs H Q E h => ?_) (fun cdv A outer s H vs Q E hr h => ?_)
  · obtain ⟨a, C, v, rfl, _⟩ := h
    rfl
  · obtain ⟨a, C, v, rfl, T, nf, ea, q⟩ := h
    have hu := hu_of hr
    refine ⟨_, (pss_cons (ps_expr (pe_vinit (by rfl) gVE crV viV (pa_cons (pv 0) (pa_cons pe_str pa_nil))))
    (pss_one (ps_ost (pv 0) (pv 1) rfl))), ?_⟩
    simp only [cxK, cxK']
    walk_at "w"
    refine w_vei ?_
    walk_at "w"
    refine ⟨a, C, _, rfl, by decide, T, ea, ?_⟩
    show tOst K "row" (tVar 0) (tVar 1) _ _ _
    refine w_ost ?_
    walk_at "w"
    refine ⟨a, C, rfl, T, nf, .inl ⟨ea, fun dx nd ne => ?_⟩⟩
    exact q dx nd ne
/-! ### read: the steps, or the first row that is none -/
def spRead (K : PySem.W.Frag) (CB : Addr) : Sp := fun vs H Q E => ∃ (z : Str), vs = [.str z] ∧ z.length ≤ 50000 ∧ asc z ∧
  (∀ ss, resOf z = ss.map some → ∀ H' p xs, Kp [] H H' → H p = none → H' p = some (.lst xs) → StepsIn H' xs ss → Q (.ref p) H') ∧
  (∀ i : Nat, (resOf z)[i]? = some none → (∀ j < i, (resOf z)[j]? ≠ some none) → ∀ H' dd, Kp [] H H' → H dd = none → H' dd = some (.xd [("row", .int (i : Int))]) → E (.ref CB) (some dd) H')
theorem scRead : FnScope ["text", "found", "number", "row", "step"] ["text"] (defScope sRead) := ⟨rfl, rfl, rfl, by decide +kernel, rfl, by decide +kernel, by decide +kernel⟩
theorem rows_few {z : Str} (h : z.length ≤ 50000) : (rowsOf z).length ≤ 50001 := by
  unfold rowsOf
  split
  · exact Nat.zero_le _
  · have C := cuts (z := z) (y := "\n") (by decide +kernel) (by decide +kernel)
    have := C.few
    omega
theorem rows_ok {z : Str} (h : z.length ≤ 50000) (ha : asc z) : ∀ r ∈ rowsOf z, r.length ≤ 50000 ∧ asc r := by
  intro r hr
  unfold rowsOf at hr
  split at hr
  · cases hr
  · have C := cuts (z := z) (y := "\n") (by decide +kernel) (by decide +kernel)
    exact ⟨Nat.le_trans (C.short r hr) h, C.asc ha r hr⟩
theorem ok_read {f fS CB fI : Addr} {fd fdS fdI : FuncData} (F : Fun K "read" "read" sRead f fd) (T : Txt K mg) (gB : mg "BadText" = some (.ref CB)) (oexB : OexC K CB) (icB : PySem.W.findIn K (.ref CB) "__init__" = some (some (.ref fI))) (tiB : PySem.W.typeIn K (.ref fI) = some (.type "function")) (nfB : PySem.W.findIn K (.ref CB) "row" = some none)
    (bI : Binds K fdI ["self", "row"] []) (GI : FnOk P w K mg base CX0 1 fI fdI ["self", "row"] (spBTI K))
    (FS : Fun K "step_of" "step_of" sStep fS fdS) (bS : Binds K fdS ["row"] []) (gSt : mg "step_of" = some (.ref fS)) (GS : FnOk P w K mg base CX0 2 fS fdS ["row"] spStepOf) : FnOk P w K mg base (L2.CX P w) 3 f fd ["text"] (spRead K CB) := by
  refine F.okX scRead (fun vs H Q E h => ?_) (fun cdv A outer s H vs Q E hr h => ?_)
  · obtain ⟨z, rfl, _⟩ := h
    rfl
  · obtain ⟨z, rfl, hl, ha, qt, qf⟩ := h
    have hu := hu_of hr
    refine ⟨_, (pss_cons (ps_set (i := 1) scRead.nd rfl (by first | exact Or.inl rfl | exact Or.inr rfl) (pe_lst pa_nil))
    (pss_cons (ps_for (passes_of rfl) rfl (pi_enum (by rfl) T.enumerate (pa_cons (pe_ifExp (pt_cmpR op_ne (pv 0) pe_str (nomark _)) (pe_splitN (pv 0) pe_str) (pe_lst pa_nil)) pa_nil)) (pg_tup rfl (pgs_cons (pg_name (i := 2) scRead.nd rfl (by first | exact Or.inl rfl | exact Or.inr rfl)) (pgs_cons (pg_name (i := 3) scRead.nd rfl (by first | exact Or.inl rfl | exact Or.inr rfl)) pgs_nil)))
      (pss_cons (ps_set (i := 4) scRead.nd rfl (by first | exact Or.inl rfl | exact Or.inr rfl) (pe_call GS (hr.mono (by decide)) (by rfl) gSt FS.kp bS .nil pass0 (pa_cons (pv 3) pa_nil)))
      (pss_cons (ps_if (pt_cmpR op_isN1 (pv 4) pe_non (nomark _)) (pss_one (ps_raise rfl (takes_of rfl rfl rfl rfl) (pmk_oex oexB icB tiB GI (hr.mono (by decide)) bI .nil pass0 (by rfl) gB (pa_cons (pv 2) pa_nil)))) pss_nil)
      (pss_one (ps_expr (pe_bm PySem.F.plainAttrs_list PySem.F.slot_list_append PySem.F.type_list_append mt_append (pv 1) (pa_cons (pv 4) pa_nil)))))))
    (pss_one (ps_ret (pv 1))))), ?_⟩
    simp only [cxK, cxK']
    walk_at "w"
    intro o no
    by_cases h0 : z = ""
    · walk_at "w"
      intro p np
      have eo0 : (upd (upd H o (.lst [])) p (.lst [])) o = some (.lst []) := by walk_at "hg"
      have ep0 : (upd (upd H o (.lst [])) p (.lst [])) p = some (.lst ((rowsOf z).map V.str)) := by rw [upd_same]; unfold rowsOf; rw [if_pos h0]; rfl
      have npo : p ≠ o := Ne.symm (ne_of_none upd_same np)
      have few := rows_few hl
      walk_at "w"
      refine for_enum (xs := (rowsOf z).map V.str) (fun i σ H' => ∃ xs ss y2 y3 y4, σ = [some (.str z), some (.ref o), y2, y3, y4] ∧ Kp [] H H' ∧ H' p = some (.lst ((rowsOf z).map V.str)) ∧ H' o = some (.lst xs) ∧ ((rowsOf z).take i).map stepOf = ss.map some ∧ StepsIn H' xs ss) ⟨[], [], none, none, none, rfl, by walk_at "kp", ep0, eo0, by rw [List.take_zero]; rfl, rfl, fun i x s hx _ => by simp at hx⟩ (fun i σ H' _ h => ?_) (fun i x T σ H' hx h nT => ?_) (fun σ H' h => ?_)
      · obtain ⟨xs, ss, y2, y3, y4, rfl, k, hp, ho, et, S⟩ := h
        exact sq_l hp
      · obtain ⟨xs, ss, y2, y3, y4, rfl, k, hp, ho, et, S⟩ := h
        obtain ⟨r, hs, rfl⟩ : ∃ r, (rowsOf z)[i]? = some r ∧ V.str r = x := by
          rw [List.getElem?_map] at hx
          cases e : (rowsOf z)[i]? with
          | none => rw [e] at hx; cases hx
          | some s => rw [e] at hx; exact ⟨s, rfl, Option.some.inj hx⟩
        have os := rows_ok hl ha r (List.mem_of_getElem? hs)
        have li : i < (rowsOf z).length := (List.getElem?_eq_some_iff.mp hs).1
        have lss : ss.length ≤ i := by
          have a := congrArg List.length et
          rw [List.length_map, List.length_map, List.length_take] at a
          omega
        walk_at "w"
        refine ⟨r, rfl, by have := os.1; omega, os.2, fun H2 k2 => ?_⟩
        have hr0 : (resOf z)[i]? = some (stepOf r) := by
          show ((rowsOf z).map stepOf)[i]? = _
          rw [List.getElem?_map, hs]
          rfl
        cases es : stepOf r with
        | none =>
          walk_at "w"
          refine w_mkO ?_
          walk_at "w"
          refine ⟨(by decide : 1 ≤ 1000), fun a na => ?_⟩
          refine ⟨a, CB, _, rfl, oexB, nfB, upd_same, fun dx nd ne => ⟨rfl, dx, [("row", .int (i : Int))], upd_same, ?_, ?_, ?_⟩⟩
          · rw [upd_ne ne, upd_same]
          · rw [upd_ne ne] at nd
            exact nd
          · have nd' : H2 dx = none := by
              rw [upd_ne ne] at nd
              exact nd
            have nT' : H' T = none := nT
            refine qf i (by rw [hr0, es]) (fun j hj e => ?_) _ dx ?_ ?_ upd_same
            · have e1 : (((rowsOf z).take i).map stepOf)[j]? = some none := by
                rw [List.map_take, List.getElem?_take_of_lt hj]
                exact e
              rw [et, List.getElem?_map] at e1
              cases q : ss[j]? with
              | none => rw [q] at e1; cases e1
              | some s => rw [q] at e1; cases e1
            · exact kp_app (kp_mkO na nd') (by walk_at "kp")
            · have k4 : Kp [] H H2 := by walk_at "kp"
              exact none_of_kp2 nd' k4
        | some s =>
          intro u nu hu2
          walk_at "w"
          have ho2 : H2 o = some (.lst xs) := by walk_at "hg"
          have lx : xs.length = ss.length := S.1
          walk_at "w"
          refine ⟨_, ss ++ [s], _, _, _, rfl, ?_, ?_, upd_same, ?_, ?_⟩
          · walk_at "kp"
          · walk_at "hg"
          · rw [List.take_add_one, hs, List.map_append, et, List.map_append]
            show _ ++ [stepOf r] = _
            rw [es]
            rfl
          · exact ((S.keep (Kp.of (fun a o e => by walk_at "hg"))).snoc hu2).set ho2
      · obtain ⟨xs, ss, y2, y3, y4, rfl, k, hp, ho, et, S⟩ := h
        walk_at "w"
        rw [List.length_map, List.take_length] at et
        exact qt ss et _ o xs k (by walk_at "no") ho S
    · walk_at "w"
      intro p np
      have eo0 : (upd (upd H o (.lst [])) p (.lst ((Txt.split z "\n").map V.str))) o = some (.lst []) := by walk_at "hg"
      have ep0 : (upd (upd H o (.lst [])) p (.lst ((Txt.split z "\n").map V.str))) p = some (.lst ((rowsOf z).map V.str)) := by rw [upd_same]; unfold rowsOf; rw [if_neg h0]
      have npo : p ≠ o := Ne.symm (ne_of_none upd_same np)
      have few := rows_few hl
      walk_at "w"
      refine for_enum (xs := (rowsOf z).map V.str) (fun i σ H' => ∃ xs ss y2 y3 y4, σ = [some (.str z), some (.ref o), y2, y3, y4] ∧ Kp [] H H' ∧ H' p = some (.lst ((rowsOf z).map V.str)) ∧ H' o = some (.lst xs) ∧ ((rowsOf z).take i).map stepOf = ss.map some ∧ StepsIn H' xs ss) ⟨[], [], none, none, none, rfl, by walk_at "kp", ep0, eo0, by rw [List.take_zero]; rfl, rfl, fun i x s hx _ => by simp at hx⟩ (fun i σ H' _ h => ?_) (fun i x T σ H' hx h nT => ?_) (fun σ H' h => ?_)
      · obtain ⟨xs, ss, y2, y3, y4, rfl, k, hp, ho, et, S⟩ := h
        exact sq_l hp
      · obtain ⟨xs, ss, y2, y3, y4, rfl, k, hp, ho, et, S⟩ := h
        obtain ⟨r, hs, rfl⟩ : ∃ r, (rowsOf z)[i]? = some r ∧ V.str r = x := by
          rw [List.getElem?_map] at hx
          cases e : (rowsOf z)[i]? with
          | none => rw [e] at hx; cases hx
          | some s => rw [e] at hx; exact ⟨s, rfl, Option.some.inj hx⟩
        have os := rows_ok hl ha r (List.mem_of_getElem? hs)
        have li : i < (rowsOf z).length := (List.getElem?_eq_some_iff.mp hs).1
        have lss : ss.length ≤ i := by
          have a := congrArg List.length et
          rw [List.length_map, List.length_map, List.length_take] at a
          omega
        walk_at "w"
        refine ⟨r, rfl, by have := os.1; omega, os.2, fun H2 k2 => ?_⟩
        have hr0 : (resOf z)[i]? = some (stepOf r) := by
          show ((rowsOf z).map stepOf)[i]? = _
          rw [List.getElem?_map, hs]
          rfl
        cases es : stepOf r with
        | none =>
          walk_at "w"
          refine w_mkO ?_
          walk_at "w"
          refine ⟨(by decide : 1 ≤ 1000), fun a na => ?_⟩
          refine ⟨a, CB, _, rfl, oexB, nfB, upd_same, fun dx nd ne => ⟨rfl, dx, [("row", .int (i : Int))], upd_same, ?_, ?_, ?_⟩⟩
          · rw [upd_ne ne, upd_same]
          · rw [upd_ne ne] at nd
            exact nd
          · have nd' : H2 dx = none := by
              rw [upd_ne ne] at nd
              exact nd
            have nT' : H' T = none := nT
            refine qf i (by rw [hr0, es]) (fun j hj e => ?_) _ dx ?_ ?_ upd_same
            · have e1 : (((rowsOf z).take i).map stepOf)[j]? = some none := by
                rw [List.map_take, List.getElem?_take_of_lt hj]
                exact e
              rw [et, List.getElem?_map] at e1
              cases q : ss[j]? with
              | none => rw [q] at e1; cases e1
              | some s => rw [q] at e1; cases e1
            · exact kp_app (kp_mkO na nd') (by walk_at "kp")
            · have k4 : Kp [] H H2 := by walk_at "kp"
              exact none_of_kp2 nd' k4
        | some s =>
          intro u nu hu2
          walk_at "w"
          have ho2 : H2 o = some (.lst xs) := by walk_at "hg"
          have lx : xs.length = ss.length := S.1
          walk_at "w"
          refine ⟨_, ss ++ [s], _, _, _, rfl, ?_, ?_, upd_same, ?_, ?_⟩
          · walk_at "kp"
          · walk_at "hg"
          · rw [List.take_add_one, hs, List.map_append, et, List.map_append]
            show _ ++ [stepOf r] = _
            rw [es]
            rfl
          · exact ((S.keep (Kp.of (fun a o e => by walk_at "hg"))).snoc hu2).set ho2
      · obtain ⟨xs, ss, y2, y3, y4, rfl, k, hp, ho, et, S⟩ := h
        walk_at "w"
        rw [List.length_map, List.take_length] at et
        exact qt ss et _ o xs k (by walk_at "no") ho S
end
end VH

namespace VH
open PySem L2 TL
local macro_rules | `(tactic| walk_at "dT") => `(tactic| first
  | ((with_reducible apply iT); (first | assumption | omega))
  | ((with_reducible apply niT); (first | assumption | omega))
  | ((with_reducible apply sT); (first | assumption | rfl))
  | ((with_reducible apply nsT); (first | assumption | decide))
  | ((with_reducible apply nbT); (first | assumption | omega))
  | ((with_reducible apply decide_eq_true); (first | assumption | omega)))
local macro_rules | `(tactic| walk_at "dF") => `(tactic| first
  | ((with_reducible apply iF); (first | assumption | omega))
  | ((with_reducible apply niF); (first | assumption | omega))
  | ((with_reducible apply sF); (first | assumption | decide))
  | ((with_reducible apply nsF); (first | assumption | rfl))
  | ((with_reducible apply nbF); (first | assumption | omega))
  | ((with_reducible apply decide_eq_false); (first | assumption | omega)))
local macro_rules | `(tactic| walk_at "ne") => `(tactic| first | assumption | (apply Ne.symm; assumption) | (apply ne_of_none <;> assumption) | (apply Ne.symm; apply ne_of_none <;> assumption) | (apply ne_new; assumption; walk_at "hg") | (apply Ne.symm; apply ne_new; assumption; walk_at "hg"))
local macro_rules | `(tactic| walk_at "ni") => `(tactic| first | exact ni_nil | (apply ni_cons; walk_at "ne"; walk_at "ni") | assumption)
local macro_rules | `(tactic| walk_at "hg") => `(tactic| first
  | assumption
  | exact upd_same
  | (apply upd_old; assumption; walk_at "hg")
  | (apply upd_oth; walk_at "ne"; walk_at "hg")
  | (apply kp_get; assumption; walk_at "hg"; walk_at "ni"))
local macro_rules | `(tactic| walk_at "mem") => `(tactic| first | exact List.mem_cons_self | (apply List.mem_cons_of_mem; walk_at "mem") | assumption)
local macro_rules | `(tactic| walk_at "no") => `(tactic| first | assumption | (apply none_of_kp2; assumption; walk_at "kp"))
local macro_rules | `(tactic| walk_at "kp") => `(tactic| first
  | assumption
  | exact Kp.refl
  | (apply kp_new'; assumption; walk_at "kp")
  | (apply kp_setn; assumption; walk_at "kp")
  | (apply kp_set'; walk_at "mem"; walk_at "kp")
  | (apply kp_app; assumption; walk_at "kp")
  | (apply kp_app2; assumption; walk_at "kp"))
local macro_rules | `(tactic| walk_at "sz") => `(tactic| first | assumption | exact sz rfl | (apply szb; omega) | (apply szbl; omega) | (apply szb; simp only [List.length_map, List.length_cons, List.length_nil, List.length_append, List.length_set]; omega) | (apply szbl; simp only [List.length_map, List.length_cons, List.length_nil, List.length_append, List.length_set]; omega))
local macro_rules | `(tactic| walk_at "sq") => `(tactic| first
  | assumption
  | (apply sq_l; walk_at "hg")
  | (apply sq_t; walk_at "hg")
  | (apply sqL_new; assumption; walk_at "sq")
  | (apply sqT_new; assumption; walk_at "sq"))
local macro_rules | `(tactic| walk_at "w1") => `(tactic| first
  | with_reducible refine w_seq ?_
  | ((with_reducible apply w_var); exact rfl)
  | with_reducible refine w_c ?_
  | with_reducible refine w_op ?_
  | with_reducible refine w_I0 ?_
  | ((with_reducible apply w_I); (first | assumption | exact Or.inr ⟨by decide, by decide⟩ | exact Or.inl ⟨by decide, by decide⟩ | exact (by show (0 : Int) < _; decide) | exact ⟨by decide, by decide⟩ | exact Or.inl ⟨by omega, by omega⟩ | exact Or.inr ⟨by omega, by omega⟩ | exact ⟨by omega, by omega⟩ | exact (by show (0 : Int) < _; omega)))
  | with_reducible refine w_cons ?_
  | with_reducible refine w_nil ?_
  | with_reducible refine w_asg ?_
  | with_reducible refine w_gName ?_
  | with_reducible refine w_gSub ?_
  | with_reducible refine w_test ?_
  | with_reducible refine w_B ?_
  | with_reducible refine w_ret ?_
  | with_reducible refine w_drop ?_
  | with_reducible refine w_ifS ?_
  | with_reducible refine w_if ?_
  | with_reducible refine w_un ?_
  | with_reducible refine w_U ?_
  | with_reducible refine w_call ?_
  | with_reducible refine w_cb ?_
  | with_reducible refine w_lst ?_
  | with_reducible refine w_tup ?_
  | with_reducible refine w_bm ?_
  | with_reducible refine w_bm0 ?_
  | with_reducible refine w_m1 ?_
  | with_reducible refine w_for ?_
  | with_reducible refine w_iList ?_
  | with_reducible refine w_iTup ?_
  | with_reducible refine w_iStr ?_
  | with_reducible refine w_iR1 ?_
  | with_reducible refine w_iEnum ?_
  | with_reducible refine w_and ?_
  | with_reducible refine w_or ?_
  | with_reducible refine w_not ?_
  | with_reducible refine w_yes ?_
  | with_reducible refine w_isN ?_
  | ((with_reducible apply w_eq); exact rfl)
  | ((with_reducible apply w_ne); exact rfl)
  | with_reducible refine w_chain ?_
  | with_reducible refine w_andV ?_
  | with_reducible refine w_orV ?_
  | with_reducible refine w_notV ?_
  | with_reducible refine w_bl ?_
  | with_reducible refine w_fld ?_
  | with_reducible refine w_sfld ?_
  | with_reducible refine w_next ?_
  | with_reducible refine w_isZ ?_
  | with_reducible refine w_notZ ?_
  | with_reducible refine w_inS ?_
  | with_reducible refine w_notInS ?_
  | ((with_reducible apply w_ifT); exact rfl)
  | ((with_reducible apply w_ifF); exact rfl)
  | ((with_reducible apply w_ifT); walk_at "dT")
  | ((with_reducible apply w_ifF); walk_at "dF")
  | with_reducible refine w_lc ?_
  | with_reducible refine w_aStr ?_
  | ((with_reducible apply w_itL); walk_at "sq")
  | ((with_reducible apply w_itT); walk_at "sq")
  | ((with_reducible apply w_rng); (first | omega | assumption); (first | omega | assumption))
  | ((with_reducible apply w_enum); walk_at "sq")
  | ((with_reducible apply w_lenS); walk_at "sz")
  | ((with_reducible apply w_split); (first | exact rfl | assumption); walk_at "sz")
  | with_reducible refine w_slice ?_
  | with_reducible refine w_part ?_
  | with_reducible refine w_noPart ?_
  | with_reducible refine w_anInt ?_
  | ((with_reducible apply w_slL); walk_at "sq")
  | ((with_reducible apply w_cat); walk_at "hg"; walk_at "hg"; walk_at "sz")
  | ((with_reducible apply w_newSz); walk_at "sz")
  | ((with_reducible apply w_append); walk_at "hg"; walk_at "sz")
  | ((with_reducible apply w_tyD); walk_at "hg")
  | ((with_reducible apply w_gTup); walk_at "sq"; exact rfl)
  | with_reducible refine w_gCons ?_
  | with_reducible refine w_gNil ?_
  | with_reducible refine w_kget2 ?_
  | with_reducible refine w_same ?_
  | ((with_reducible apply w_kat); assumption)
  | ((with_reducible apply w_in); walk_at "sq"; (first | exact rfl | assumption); (first | assumption | exact rfl))
  | ((with_reducible apply w_strI); assumption)
  | with_reducible refine w_disp ?_
  | with_reducible refine w_pcons ?_
  | with_reducible refine w_pnil ?_
  | with_reducible refine w_dget2 ?_
  | ((with_reducible apply w_isD); walk_at "hg")
  | ((with_reducible apply w_dgS); walk_at "hg")
  | ((with_reducible apply w_dupd); walk_at "ne"; walk_at "hg"; walk_at "hg"; (first | decide | walk_at "sz"))
  | ((with_reducible apply w_catS); walk_at "sz")
  | ((with_reducible apply w_slT); walk_at "sq"; assumption)
  | ((with_reducible apply w_ixS); walk_at "sz"; (first | assumption | exact rfl))
  | ((with_reducible apply w_intS); assumption; (first | assumption | omega))
  | ((with_reducible apply w_isi); (first | exact tx_N | exact tx_B | exact tx_I | exact tx_S | (apply tx_L; walk_at "sq") | (apply tx_T; walk_at "sq")); (first | (refine (?_ : _ = some true); decide +kernel) | (refine (?_ : _ = some false); decide +kernel)))
  | ((with_reducible apply w_lenL); walk_at "sq")
  | ((with_reducible apply w_lenT); walk_at "sq")
  | ((with_reducible apply w_listL); walk_at "sq")
  | ((with_reducible apply w_listT); walk_at "sq")
  | ((with_reducible apply w_tupL); walk_at "sq")
  | with_reducible refine w_intI ?_
  | with_reducible refine w_intB ?_
  | with_reducible refine w_strS ?_
  | ((with_reducible apply w_ixXL); walk_at "sq"; (first | exact rfl | exact atI_0 | assumption))
  | ((with_reducible apply w_ixXT); walk_at "sq"; (first | exact rfl | exact atI_0 | assumption))
  | ((with_reducible apply w_tyL); walk_at "sq")
  | with_reducible refine w_tyS ?_
  | ((with_reducible apply w_popAt0); walk_at "hg")
  | ((with_reducible apply w_ixL); walk_at "sq"; (first | exact rfl | exact atI_0 | assumption))
  | ((with_reducible apply w_ixT); walk_at "sq"; (first | exact rfl | exact atI_0 | assumption))
  | ((with_reducible apply w_setL); walk_at "hg"; (first | exact rfl | exact ixN_0)))
local macro_rules | `(tactic| walk_at "w") => `(tactic| repeat walk_at "w1")
local macro_rules | `(tactic| walk_at "wI") => `(tactic| repeat (fail_if_success (with_reducible show tIfS _ _ _ _ _ _); walk_at "w1"))

section
variable {P : Program} {w : World} {K : PySem.W.Frag} {mg : Str → Option Value} {base : Heap}
def wordsL : List Str := ((["make", "grow", "mirror", "read", "write", "write", "step", "step", "drop", "leave", "stay"] : List Str) ++ (["room", "lacks", "lost", "volumes", "places", "copying", "lose", "bring", "arm"] : List Str)) ++ (["again", "make", "step", "bring"] : List Str)
def countsL : List (Key × V) := mergeK (mergeK [] [(Sum.inr "make", .int 3), (Sum.inr "grow", .int 2), (Sum.inr "mirror", .int 2), (Sum.inr "read", .int 2), (Sum.inr "write", .int 3), (Sum.inr "bring", .int 2), (Sum.inr "step", .int 0), (Sum.inr "lacks", .int 0), (Sum.inr "lost", .int 0)]) (mergeK [] [(Sum.inr "volumes", .int 0), (Sum.inr "copying", .int 0), (Sum.inr "again", .int 0)])
theorem words_shape : (wordsL.all fun w => match shapeOf w with | some n => decide ((valV countsL (Sum.inr w)).getD (.int 1) = .int (n : Int)) && decide (n ≤ 3) | none => false) = true := by decide +kernel
theorem word_shape {w : Str} (h : w ∈ wordsL) : ∃ n, shapeOf w = some n ∧ (valV countsL (Sum.inr w)).getD (.int 1) = .int (n : Int) ∧ n ≤ 3 := by
  have a := List.all_eq_true.mp words_shape w h
  cases e : shapeOf w with
  | none => rw [e] at a; cases a
  | some n =>
    rw [e] at a
    rw [Bool.and_eq_true, decide_eq_true_eq, decide_eq_true_eq] at a
    exact ⟨n, rfl, a.1, a.2⟩
def spAny : Sp := fun vs H Q _ => ∃ (b l : Addr) (ns : List Int) (s : Int), vs = [.ref b] ∧ Box H b l ns s ∧ b ≠ l ∧
  ∀ H' ns' s' p st, Kp [b, l] H H' → Box H' b l ns' s' → H p = none → H' p = some (.tup (stepVs st)) → StpOk st → Q (.ref p) H'
theorem scAny : FnScope ["_law_box", "_law_words", "_law_counts", "_law_word", "_law_numbers", "_law_k"] ["_law_box"] (defScope sAny) := ⟨rfl, rfl, rfl, by decide +kernel, rfl, by decide +kernel, by decide +kernel⟩
theorem ok_any {f fT : Addr} {fd fdT : FuncData} (F : Fun K "_law_anystep" "_law_anystep" sAny f fd) (T : Txt K mg)
    (FT : Fun K "_law_take" "_law_take" sTake fT fdT) (bT : Binds K fdT ["_law_box", "_law_many"] []) (gT : mg "_law_take" = some (.ref fT)) (GT : FnOk P w K mg base CX0 1 fT fdT ["_law_box", "_law_many"] spTake) : FnOk P w K mg base CX0 2 f fd ["_law_box"] spAny := by
  refine F.ok scAny (fun vs H Q E h => ?_) (fun cdv A outer s H vs Q E hr h => ?_)
  · obtain ⟨b, l, ns, s, rfl, _⟩ := h
    rfl
  · obtain ⟨b, l, ns, s, rfl, B, nbl, q⟩ := h
    have hu := hu_of hr
    have eb := B.b
    have el := B.l
    refine ⟨_, (pss_cons (ps_set (i := 1) scAny.nd rfl (by first | exact Or.inl rfl | exact Or.inr rfl) (pe_lst (pa_cons pe_str (pa_cons pe_str (pa_cons pe_str (pa_cons pe_str (pa_cons pe_str (pa_cons pe_str (pa_cons pe_str (pa_cons pe_str (pa_cons pe_str (pa_cons pe_str (pa_cons pe_str pa_nil)))))))))))))
    (pss_cons (ps_set (i := 1) scAny.nd rfl (by first | exact Or.inl rfl | exact Or.inr rfl) (pe_op op_cat (pv 1) (pe_lst (pa_cons pe_str (pa_cons pe_str (pa_cons pe_str (pa_cons pe_str (pa_cons pe_str (pa_cons pe_str (pa_cons pe_str (pa_cons pe_str (pa_cons pe_str pa_nil))))))))))))
    (pss_cons (ps_set (i := 1) scAny.nd rfl (by first | exact Or.inl rfl | exact Or.inr rfl) (pe_op op_cat (pv 1) (pe_lst (pa_cons pe_str (pa_cons pe_str (pa_cons pe_str (pa_cons pe_str pa_nil)))))))
    (pss_cons (ps_set (i := 2) scAny.nd rfl (by first | exact Or.inl rfl | exact Or.inr rfl) (pe_disp (pps_cons pe_str pe_int (pps_cons pe_str pe_int (pps_cons pe_str pe_int (pps_cons pe_str pe_int (pps_cons pe_str pe_int (pps_cons pe_str pe_int (pps_cons pe_str pe_int (pps_cons pe_str pe_int (pps_cons pe_str pe_int pps_nil))))))))) (by rfl) (by rfl) (fun z => by cases z) (by decide)))
    (pss_cons (ps_expr (pe_bm PySem.F.plainAttrs_dict PySem.F.slot_dict_update PySem.F.type_dict_update mt_dupdate (pv 2) (pa_cons (pe_disp (pps_cons pe_str pe_int (pps_cons pe_str pe_int (pps_cons pe_str pe_int pps_nil))) (by rfl) (by rfl) (fun z => by cases z) (by decide)) pa_nil)))
    (pss_cons (ps_set (i := 3) scAny.nd rfl (by first | exact Or.inl rfl | exact Or.inr rfl) (pe_ix ix_list (pv 1) (pe_call GT (hr.mono (by decide)) (by rfl) gT FT.kp bT .nil pass0 (pa_cons (pv 0) (pa_cons pe_int pa_nil))) (fun _ _ => rfl)))
    (pss_cons (ps_set (i := 4) scAny.nd rfl (by first | exact Or.inl rfl | exact Or.inr rfl) (pe_lst pa_nil))
    (pss_cons (ps_for PassesOwn.never rfl (pi_range1 (by rfl) T.range (pa_cons (pe_dget2 hu (pv 2) (pv 3) pe_int ⟨rfl, rfl, rfl, rfl⟩) pa_nil)) (pg_name (i := 5) scAny.nd rfl (by first | exact Or.inl rfl | exact Or.inr rfl))
      (pss_one (ps_expr (pe_bm PySem.F.plainAttrs_list PySem.F.slot_list_append PySem.F.type_list_append mt_append (pv 4) (pa_cons (pe_call GT (hr.mono (by decide)) (by rfl) gT FT.kp bT .nil pass0 (pa_cons (pv 0) (pa_cons (pe_ix ix_list (pe_lst (pa_cons pe_int (pa_cons pe_int (pa_cons pe_int (pa_cons pe_int (pa_cons pe_int pa_nil)))))) (pe_call GT (hr.mono (by decide)) (by rfl) gT FT.kp bT .nil pass0 (pa_cons (pv 0) (pa_cons pe_int pa_nil))) (fun _ _ => rfl)) pa_nil))) pa_nil)))))
    (pss_one (ps_ret (pe_callTy cr_tupOf (by rfl) T.tuple (by decide +kernel) (pa_cons (pe_op op_cat (pe_lst (pa_cons (pv 3) pa_nil)) (pv 4)) pa_nil)))))))))))), ?_⟩
    simp only [cxK, cxK']
    walk_at "w"
    intro p1 n1
    walk_at "w"
    intro p2 n2
    walk_at "w"
    intro p3 n3
    walk_at "w"
    intro p4 n4
    walk_at "w"
    intro p5 n5
    walk_at "w"
    intro p6 n6
    walk_at "w"
    refine ⟨upd_same, [(Sum.inr "make", .int 3), (Sum.inr "grow", .int 2), (Sum.inr "mirror", .int 2), (Sum.inr "read", .int 2), (Sum.inr "write", .int 3), (Sum.inr "bring", .int 2), (Sum.inr "step", .int 0), (Sum.inr "lacks", .int 0), (Sum.inr "lost", .int 0)], rfl, by decide, ?_⟩
    walk_at "w"
    intro p7 n7
    walk_at "w"
    refine ⟨upd_same, [(Sum.inr "volumes", .int 0), (Sum.inr "copying", .int 0), (Sum.inr "again", .int 0)], rfl, by decide, ?_⟩
    walk_at "w"
    have ne56 : p5 ≠ p6 := by walk_at "ne"
    have ne57 : p5 ≠ p7 := by walk_at "ne"
    have n5' : H p5 = none := by walk_at "no"
    have n6' : H p6 = none := by walk_at "no"
    have f5 : p5 ≠ b ∧ p5 ≠ l := ⟨Ne.symm (ne_of_none eb n5'), Ne.symm (ne_of_none el n5')⟩
    have f6 : p6 ≠ b ∧ p6 ≠ l := ⟨Ne.symm (ne_of_none eb n6'), Ne.symm (ne_of_none el n6')⟩
    obtain ⟨f5b, f5l⟩ := f5
    obtain ⟨f6b, f6l⟩ := f6
    have n7' : H p7 = none := by walk_at "no"
    refine w_gen (fun Hx => Kp [] H Hx ∧ Hx p5 = some (.lst (wordsL.map V.str)) ∧ Hx p6 = some (.dK countsL)) ⟨by walk_at "kp", by walk_at "hg", upd_same⟩ ?_
    rintro H7 ⟨k70, e5, e6⟩
    have eb7 := k70.k _ _ eb ni_nil
    have el7 := k70.k _ _ el ni_nil
    have k7 : Kp [b, l] H H7 := kp_app k70 Kp.refl
    clear n1 n2 n3 n4 n5 n6 n7
    refine ⟨b, l, ns, s, 24, rfl, ⟨eb7, el7, B.s0, B.s1⟩, nbl, by decide, by decide, fun H8 ns8 s8 r8 k8 B8 r0 r1 => ?_⟩
    obtain ⟨w8, hw8⟩ : ∃ w8, wordsL[r8.toNat]? = some w8 := ⟨_, List.getElem?_eq_getElem (by
      have e : wordsL.length = 24 := by decide +kernel
      omega)⟩
    have a8 : atI (wordsL.map V.str) r8 = some (.str w8) := by
      refine at_of (j := r8.toNat) (by omega) ?_
      rw [List.getElem?_map, hw8]
      rfl
    obtain ⟨cnt, hc, hv, h3⟩ := word_shape (List.mem_of_getElem? hw8)
    have e5 := k8.k _ _ e5 (by walk_at "ni")
    have e6 := k8.k _ _ e6 (by walk_at "ni")
    have eb8 := B8.b
    have el8 := B8.l
    have k8 := kp_app2 k8 k7
    walk_at "w"
    intro p9 n9
    walk_at "w"
    rw [hv]
    walk_at "w"
    have n9' : H p9 = none := by
      cases e : H p9 with
      | none => rfl
      | some o =>
        have z := k8.k p9 o e (ni_cons (Ne.symm (ne_of_none eb8 n9)) (ni_cons (Ne.symm (ne_of_none el8 n9)) ni_nil))
        rw [n9] at z
        cases z
    have f9b : p9 ≠ b := Ne.symm (ne_of_none eb8 n9)
    have f9l : p9 ≠ l := Ne.symm (ne_of_none el8 n9)
    refine for_range (fun i σ H' => ∃ (nums ns' : List Int) (s' : Int) (y : Option V), σ = [some (.ref b), some (.ref p5), some (.ref p6), some (.str w8), some (.ref p9), y] ∧ Kp [b, l] H H' ∧ Box H' b l ns' s' ∧ H' p9 = some (.lst (nums.map V.int)) ∧ nums.length = i ∧ ∀ n ∈ nums, 0 ≤ n ∧ n < 10000)
      ⟨[], ns8, s8, none, rfl, by walk_at "kp", ⟨by walk_at "hg", by walk_at "hg", B8.s0, B8.s1⟩, upd_same, rfl, fun _ h => by cases h⟩ (fun i σ H' hi h => ?_) (fun σ H' h => ?_)
    · obtain ⟨nums, ns9, s9, y, rfl, k9, B9, e9, hl9, hn9⟩ := h
      have eb9 := B9.b
      have el9 := B9.l
      walk_at "w"
      intro u nu
      have fub : u ≠ b := Ne.symm (ne_of_none eb9 nu)
      have ful : u ≠ l := Ne.symm (ne_of_none el9 nu)
      walk_at "w"
      refine ⟨b, l, ns9, s9, 5, rfl, ⟨by walk_at "hg", by walk_at "hg", B9.s0, B9.s1⟩, nbl, by decide, by decide, fun H10 ns10 s10 r10 k10 B10 q0 q1 => ?_⟩
      obtain ⟨m, hm, m0, m1⟩ : ∃ m : Int, atI [V.int 4, V.int 4, V.int 13, V.int 1001, V.int 9999] r10 = some (.int m) ∧ 0 < m ∧ m ≤ 9999 := by
        rcases (show r10 = 0 ∨ r10 = 1 ∨ r10 = 2 ∨ r10 = 3 ∨ r10 = 4 by omega) with rfl | rfl | rfl | rfl | rfl
        · exact ⟨4, rfl, by decide, by decide⟩
        · exact ⟨4, rfl, by decide, by decide⟩
        · exact ⟨13, rfl, by decide, by decide⟩
        · exact ⟨1001, rfl, by decide, by decide⟩
        · exact ⟨9999, rfl, by decide, by decide⟩
      have eu : H10 u = some (.lst [V.int 4, V.int 4, V.int 13, V.int 1001, V.int 9999]) := k10.k _ _ upd_same (by walk_at "ni")
      have e10 : H10 p9 = some (.lst (nums.map V.int)) := k10.k _ _ (by walk_at "hg") (by walk_at "ni")
      have eb10 := B10.b
      have el10 := B10.l
      walk_at "w"
      refine ⟨b, l, ns10, s10, m, rfl, B10, nbl, m0, by omega, fun H11 ns11 s11 r11 k11 B11 t0 t1 => ?_⟩
      have e11 : H11 p9 = some (.lst (nums.map V.int)) := k11.k _ _ e10 (by walk_at "ni")
      have eb11 := B11.b
      have el11 := B11.l
      walk_at "w"
      refine ⟨nums ++ [r11], ns11, s11, _, rfl, ?_, ⟨by walk_at "hg", by walk_at "hg", B11.s0, B11.s1⟩, ?_, ?_, ?_⟩
      · walk_at "kp"
      · rw [upd_same, List.map_append]
        rfl
      · rw [List.length_append, hl9]
        rfl
      · intro n hn
        rcases List.mem_append.mp hn with hn | hn
        · exact hn9 n hn
        · rw [List.mem_singleton.mp hn]
          omega
    · obtain ⟨nums, ns9, s9, y, rfl, k9, B9, e9, hl9, hn9⟩ := h
      have eb9 := B9.b
      have el9 := B9.l
      walk_at "w"
      intro u1 nu1
      walk_at "w"
      intro u2 nu2
      walk_at "w"
      intro u3 nu3
      have k12 : Kp [b, l] H (upd (upd (upd H' u1 (.lst [V.str w8])) u2 (.lst ([V.str w8] ++ nums.map V.int))) u3 (.tup ([V.str w8] ++ nums.map V.int))) := by walk_at "kp"
      refine q _ ns9 s9 u3 (w8, nums) k12 ⟨by walk_at "hg", by walk_at "hg", B9.s0, B9.s1⟩ ?_ upd_same ⟨?_, hn9⟩
      · have f1 : b ≠ u3 := by walk_at "ne"
        have f2 : l ≠ u3 := by walk_at "ne"
        cases e : H u3 with
        | none => rfl
        | some o =>
          have z := k9.k u3 o e (ni_cons (Ne.symm f1) (ni_cons (Ne.symm f2) ni_nil))
          have z2 := none_of_upd (none_of_upd nu3)
          rw [z2] at z
          cases z
      · show shapeOf w8 = some nums.length
        rw [hc, hl9]
        congr 1
end
end VH

namespace VH
open PySem L2 TL LamX
local macro_rules | `(tactic| walk_at "dT") => `(tactic| first
  | ((with_reducible apply iT); (first | assumption | omega))
  | ((with_reducible apply niT); (first | assumption | omega))
  | ((with_reducible apply sT); (first | assumption | rfl))
  | ((with_reducible apply nsT); (first | assumption | decide))
  | ((with_reducible apply nbT); (first | assumption | omega))
  | ((with_reducible apply decide_eq_true); (first | assumption | omega)))
local macro_rules | `(tactic| walk_at "dF") => `(tactic| first
  | ((with_reducible apply iF); (first | assumption | omega))
  | ((with_reducible apply niF); (first | assumption | omega))
  | ((with_reducible apply sF); (first | assumption | decide))
  | ((with_reducible apply nsF); (first | assumption | rfl))
  | ((with_reducible apply nbF); (first | assumption | omega))
  | ((with_reducible apply decide_eq_false); (first | assumption | omega)))
local macro_rules | `(tactic| walk_at "ne") => `(tactic| first | assumption | (apply Ne.symm; assumption) | (apply ne_of_none <;> assumption) | (apply Ne.symm; apply ne_of_none <;> assumption) | (apply ne_new; assumption; walk_at "hg") | (apply Ne.symm; apply ne_new; assumption; walk_at "hg"))
local macro_rules | `(tactic| walk_at "ni") => `(tactic| first | exact ni_nil | (apply ni_cons; walk_at "ne"; walk_at "ni") | assumption)
local macro_rules | `(tactic| walk_at "hg") => `(tactic| first
  | assumption
  | exact upd_same
  | (apply upd_old; assumption; walk_at "hg")
  | (apply upd_oth; walk_at "ne"; walk_at "hg")
  | (apply kp_get; assumption; walk_at "hg"; walk_at "ni"))
local macro_rules | `(tactic| walk_at "mem") => `(tactic| first | exact List.mem_cons_self | (apply List.mem_cons_of_mem; walk_at "mem") | assumption)
local macro_rules | `(tactic| walk_at "no") => `(tactic| first | assumption | (apply none_of_kp2; assumption; walk_at "kp"))
local macro_rules | `(tactic| walk_at "kp") => `(tactic| first
  | assumption
  | exact Kp.refl
  | (apply kp_new'; assumption; walk_at "kp")
  | (apply kp_setn; assumption; walk_at "kp")
  | (apply kp_set'; walk_at "mem"; walk_at "kp")
  | (apply kp_app; assumption; walk_at "kp")
  | (apply kp_app2; assumption; walk_at "kp"))
local macro_rules | `(tactic| walk_at "sz") => `(tactic| first | assumption | exact sz rfl | (apply szb; omega) | (apply szbl; omega) | (apply szb; simp only [List.length_map, List.length_cons, List.length_nil, List.length_append, List.length_set]; omega) | (apply szbl; simp only [List.length_map, List.length_cons, List.length_nil, List.length_append, List.length_set]; omega))
local macro_rules | `(tactic| walk_at "sq") => `(tactic| first
  | assumption
  | (apply sq_l; walk_at "hg")
  | (apply sq_t; walk_at "hg")
  | (apply sqL_new; assumption; walk_at "sq")
  | (apply sqT_new; assumption; walk_at "sq"))
local macro_rules | `(tactic| walk_at "w1") => `(tactic| first
  | with_reducible refine w_seq ?_
  | ((with_reducible apply w_var); exact rfl)
  | with_reducible refine w_c ?_
  | with_reducible refine w_op ?_
  | with_reducible refine w_I0 ?_
  | ((with_reducible apply w_I); (first | assumption | exact Or.inr ⟨by decide, by decide⟩ | exact Or.inl ⟨by decide, by decide⟩ | exact (by show (0 : Int) < _; decide) | exact ⟨by decide, by decide⟩ | exact Or.inl ⟨by omega, by omega⟩ | exact Or.inr ⟨by omega, by omega⟩ | exact ⟨by omega, by omega⟩ | exact (by show (0 : Int) < _; omega)))
  | with_reducible refine w_cons ?_
  | with_reducible refine w_nil ?_
  | with_reducible refine w_asg ?_
  | with_reducible refine w_gName ?_
  | with_reducible refine w_gSub ?_
  | with_reducible refine w_test ?_
  | with_reducible refine w_B ?_
  | with_reducible refine w_ret ?_
  | with_reducible refine w_drop ?_
  | with_reducible refine w_ifS ?_
  | with_reducible refine w_if ?_
  | with_reducible refine w_un ?_
  | with_reducible refine w_U ?_
  | with_reducible refine w_call ?_
  | with_reducible refine w_cb ?_
  | with_reducible refine w_lst ?_
  | with_reducible refine w_tup ?_
  | with_reducible refine w_bm ?_
  | with_reducible refine w_bm0 ?_
  | with_reducible refine w_m1 ?_
  | with_reducible refine w_for ?_
  | with_reducible refine w_iList ?_
  | with_reducible refine w_iTup ?_
  | with_reducible refine w_iStr ?_
  | with_reducible refine w_iR1 ?_
  | with_reducible refine w_iEnum ?_
  | with_reducible refine w_and ?_
  | with_reducible refine w_or ?_
  | with_reducible refine w_not ?_
  | with_reducible refine w_yes ?_
  | with_reducible refine w_isN ?_
  | ((with_reducible apply w_eq); exact rfl)
  | ((with_reducible apply w_ne); exact rfl)
  | with_reducible refine w_chain ?_
  | with_reducible refine w_andV ?_
  | with_reducible refine w_orV ?_
  | with_reducible refine w_notV ?_
  | with_reducible refine w_bl ?_
  | with_reducible refine w_fld ?_
  | with_reducible refine w_sfld ?_
  | with_reducible refine w_next ?_
  | with_reducible refine w_isZ ?_
  | with_reducible refine w_notZ ?_
  | with_reducible refine w_inS ?_
  | with_reducible refine w_notInS ?_
  | ((with_reducible apply w_ifT); exact rfl)
  | ((with_reducible apply w_ifF); exact rfl)
  | ((with_reducible apply w_ifT); walk_at "dT")
  | ((with_reducible apply w_ifF); walk_at "dF")
  | with_reducible refine w_lc ?_
  | with_reducible refine w_aStr ?_
  | ((with_reducible apply w_itL); walk_at "sq")
  | ((with_reducible apply w_itT); walk_at "sq")
  | ((with_reducible apply w_rng); (first | omega | assumption); (first | omega | assumption))
  | ((with_reducible apply w_enum); walk_at "sq")
  | ((with_reducible apply w_lenS); walk_at "sz")
  | ((with_reducible apply w_split); (first | exact rfl | assumption); walk_at "sz")
  | with_reducible refine w_slice ?_
  | with_reducible refine w_part ?_
  | with_reducible refine w_noPart ?_
  | with_reducible refine w_anInt ?_
  | ((with_reducible apply w_slL); walk_at "sq")
  | ((with_reducible apply w_cat); walk_at "hg"; walk_at "hg"; walk_at "sz")
  | ((with_reducible apply w_newSz); walk_at "sz")
  | ((with_reducible apply w_append); walk_at "hg"; walk_at "sz")
  | ((with_reducible apply w_tyD); walk_at "hg")
  | ((with_reducible apply w_gTup); walk_at "sq"; exact rfl)
  | with_reducible refine w_gCons ?_
  | with_reducible refine w_gNil ?_
  | with_reducible refine w_kget2 ?_
  | with_reducible refine w_same ?_
  | ((with_reducible apply w_kat); assumption)
  | ((with_reducible apply w_in); walk_at "sq"; (first | exact rfl | assumption); (first | assumption | exact rfl))
  | ((with_reducible apply w_strI); assumption)
  | with_reducible refine w_disp ?_
  | with_reducible refine w_pcons ?_
  | with_reducible refine w_pnil ?_
  | with_reducible refine w_dget2 ?_
  | ((with_reducible apply w_isD); walk_at "hg")
  | ((with_reducible apply w_dgS); walk_at "hg")
  | ((with_reducible apply w_dupd); walk_at "ne"; walk_at "hg"; walk_at "hg"; (first | decide | walk_at "sz"))
  | ((with_reducible apply w_catS); walk_at "sz")
  | ((with_reducible apply w_slT); walk_at "sq"; assumption)
  | ((with_reducible apply w_ixS); walk_at "sz"; (first | assumption | exact rfl))
  | ((with_reducible apply w_intS); assumption; (first | assumption | omega))
  | ((with_reducible apply w_isi); (first | exact tx_N | exact tx_B | exact tx_I | exact tx_S | (apply tx_L; walk_at "sq") | (apply tx_T; walk_at "sq")); (first | (refine (?_ : _ = some true); decide +kernel) | (refine (?_ : _ = some false); decide +kernel)))
  | ((with_reducible apply w_lenL); walk_at "sq")
  | ((with_reducible apply w_lenT); walk_at "sq")
  | ((with_reducible apply w_listL); walk_at "sq")
  | ((with_reducible apply w_listT); walk_at "sq")
  | ((with_reducible apply w_tupL); walk_at "sq")
  | with_reducible refine w_intI ?_
  | with_reducible refine w_intB ?_
  | with_reducible refine w_strS ?_
  | ((with_reducible apply w_ixXL); walk_at "sq"; (first | exact rfl | exact atI_0 | assumption))
  | ((with_reducible apply w_ixXT); walk_at "sq"; (first | exact rfl | exact atI_0 | assumption))
  | ((with_reducible apply w_tyL); walk_at "sq")
  | with_reducible refine w_tyS ?_
  | ((with_reducible apply w_popAt0); walk_at "hg")
  | ((with_reducible apply w_ixL); walk_at "sq"; (first | exact rfl | exact atI_0 | assumption))
  | ((with_reducible apply w_ixT); walk_at "sq"; (first | exact rfl | exact atI_0 | assumption))
  | ((with_reducible apply w_setL); walk_at "hg"; (first | exact rfl | exact ixN_0)))
local macro_rules | `(tactic| walk_at "w") => `(tactic| repeat walk_at "w1")
local macro_rules | `(tactic| walk_at "wI") => `(tactic| repeat (fail_if_success (with_reducible show tIfS _ _ _ _ _ _); walk_at "w1"))

def clsNames : List Str := ["BadNumber", "BadSizes", "BadText", "BadVolume", "Full", "Lost", "NoBlock", "NoDisk", "NoVolume", "Stopped"]
/-- what the text says of the ten classes -/
structure ToldK (K : PySem.W.Frag) (mg : Str → Option Value) (c : Nat → Addr) (CV : Addr) : Prop where
  gBadNumber : mg "BadNumber" = some (.ref (c 0))
  gBadSizes : mg "BadSizes" = some (.ref (c 1))
  gBadText : mg "BadText" = some (.ref (c 2))
  gBadVolume : mg "BadVolume" = some (.ref (c 3))
  gFull : mg "Full" = some (.ref (c 4))
  gLost : mg "Lost" = some (.ref (c 5))
  gNoBlock : mg "NoBlock" = some (.ref (c 6))
  gNoDisk : mg "NoDisk" = some (.ref (c 7))
  gNoVolume : mg "NoVolume" = some (.ref (c 8))
  gStopped : mg "Stopped" = some (.ref (c 9))
  ValueError : mg "ValueError" = none
  gVE : mg "VolumeError" = some (.ref CV)
  exc : ∀ i < 10, ExcC K (c i)
  exm : ∀ i < 10, PySem.W.exmOne K (.ref (c i)) (.ref CV) = some true
  kit : ∀ i < 10, ∀ j < 10, PySem.W.kitOne K (.ref (c i)) (.ref (c j)) = some (decide (i = j))
  kitV : ∀ i < 10, PySem.W.kitOne K (.ref (c i)) (.type "ValueError") = some true
  xf : XfC K (c 2)
  nf : PySem.W.findIn K (.ref (c 2)) "row" = some none
/-- what told tells of an exception -/
def TEx (c : Nat → Addr) (cls : Value) (d : Option Addr) (H : Hp) (w : Str) (v : V) : Prop :=
  ∃ i, i < 10 ∧ clsNames[i]? = some w ∧ cls = .ref (c i) ∧ ((i ≠ 2 ∧ d = none ∧ v = .int 0) ∨ (i = 2 ∧ ∃ dd fs, d = some dd ∧ H dd = some (.xd fs) ∧ fs.lookup ("row" : Str) = some v))
def TToldV (c : Nat → Addr) : (XK → Hp → VK → Prop) → Hp → VK → Prop := fun tl H Q =>
  tl (fun cls d H' => ∃ w v, TEx c cls d H' w v ∧ ∀ p H'', Kp [] H' H'' → H' p = none → H'' p = some (.tup [.str w, v]) → Q (.ref p) H'') H Q
theorem w_isC {K : PySem.W.Frag} {mg : Str → Option Value} {c : Nat → Addr} {CV a : Addr} {d : Option Addr} {H : Hp} {Q : VK} {i j : Nat} (TK : ToldK K mg c CV) (hi : i < 10) (hj : j < 10) (hd : d = none ∨ ∃ dd fs, d = some dd ∧ H dd = some (.xd fs)) (q : Q (.bl (decide (i = j))) H) : rIsC K a (.ref (c i)) d [.ref a, .ref (c j)] H Q :=
  ⟨c i, .ref (c j), .ref (c j), _, rfl, TK.exc i hi, hd, rfl, fun u h => h, TK.kit i hi j hj, q⟩
theorem w_isCV {K : PySem.W.Frag} {mg : Str → Option Value} {c : Nat → Addr} {CV a : Addr} {d : Option Addr} {H : Hp} {Q : VK} {i : Nat} (TK : ToldK K mg c CV) (hi : i < 10) (hd : d = none ∨ ∃ dd fs, d = some dd ∧ H dd = some (.xd fs)) (q : Q (.bl true) H) : rIsC K a (.ref (c i)) d [.ref a, .ty "ValueError"] H Q :=
  ⟨c i, .ty "ValueError", .type "ValueError", _, rfl, TK.exc i hi, hd, rfl, fun u h => h, TK.kitV i hi, q⟩
theorem hd_new {d : Option Addr} {H : Hp} {p : Addr} {o : HO} (n : H p = none) (hd : d = none ∨ ∃ dd fs, d = some dd ∧ H dd = some (.xd fs)) : d = none ∨ ∃ dd fs, d = some dd ∧ (upd H p o) dd = some (.xd fs) := by
  rcases hd with h | ⟨dd, fs, h, e⟩
  · exact .inl h
  · exact .inr ⟨dd, fs, h, upd_old n e⟩
local macro_rules | `(tactic| walk_at "hd") => `(tactic| first | assumption | (apply hd_new; assumption; walk_at "hd"))
local macro_rules | `(tactic| walk_at "w1") => `(tactic| first
  | ((with_reducible apply w_isC); assumption; assumption; decide; walk_at "hd")
  | ((with_reducible apply w_isCV); assumption; assumption; walk_at "hd"))
def bits (i : Nat) : List V := ([V.bl (decide (i = 0)), V.bl (decide (i = 1)), V.bl (decide (i = 2)), V.bl (decide (i = 3))] ++ [V.bl (decide (i = 4)), V.bl (decide (i = 5)), V.bl (decide (i = 6)), V.bl (decide (i = 7))]) ++ [V.bl (decide (i = 8)), V.bl (decide (i = 9))]
theorem told_bits : ∀ i < 10, ((bits i).countP fun z => eqV z (.bl true)) = 1 ∧ (bits i).all flatV = true ∧ (bits i)[i]? = some (.bl true) ∧ ∀ m < i, (bits i)[m]? = some (.bl false) := by decide +kernel
def nmL : List V := [V.str "BadNumber", V.str "BadSizes", V.str "BadText", V.str "BadVolume", V.str "Full", V.str "Lost", V.str "NoBlock", V.str "NoDisk", V.str "NoVolume"] ++ [V.str "Stopped"]
theorem nmL_eq : nmL = clsNames.map V.str := rfl
theorem clsAt : ∀ i < 10, (clsNames[i]? = some ("BadText" : Str)) ↔ i = 2 := by decide +kernel
theorem takes_len {X : Cx} {W : WX} (tk : Takes X W) : Takes X (fun cls d σ H => σ.length = X.N.length → W cls d σ H) := fun u s' x => by
  obtain ⟨a, B, sI, pins, σ, H, cls, d, e, I, nb, up, sky, na, os, ag, w⟩ := x
  exact tk u s' ⟨a, B, sI, pins, σ, H, cls, d, e, I, nb, up, sky, na, os, ag, w I.len⟩
theorem scTold : FnScope ["_law_work", "e", "_law_kinds", "_law_words", "_law_word"] ["_law_work"] (defScope sTold) := ⟨rfl, rfl, rfl, by decide +kernel, rfl, by decide +kernel, by decide +kernel⟩
theorem told_gives2 {X : Cx} {q : Str} {g CV : Addr} {c : Nat → Addr} {cdg : Value} (T : Txt X.K X.mg) (TK : ToldK X.K X.mg c CV) : GivesTo X ["_law_work", "e", "_law_kinds", "_law_words", "_law_word"] "_law_told" (defScope sTold) g cdg (defBody sTold) "_law_work" q (TToldV c) := by
  intro f c' s H Q tl act hc h
  refine ⟨_, pss_one (ps_try_as (X := (cxOf C8.CX0 X.prog X.w X.K X.mg X.base ["_law_work", "e", "_law_kinds", "_law_words", "_law_word"] "_law_told" (defScope sTold) g cdg X.A X.stack s H C8.E0).nox) (c := .ref CV) (i := 1) (n := "e")
      (tb := fun W D σ H => ∃ Ech : XK, (∀ cls d σ' H', σ'.length = 5 → Ech cls d H' → W cls d σ' H') ∧ σ[0]? = some (some (.ref f)) ∧ H c' = some (CodeO c' q) ∧ tl Ech H D.rt)
      rfl rfl scTold.nd rfl rfl ⟨by rfl, by decide, .inl TK.gVE⟩ LamX.takes0 (fun W pn xe tk _ => ?_) (fun a oe cls d pn hzE hfE => (pss_cons (ps_set (i := 2) scTold.nd rfl (by first | exact Or.inl rfl | exact Or.inr rfl) (pe_lst (pa_cons (pe_callB (call_isC hzE hfE) (by rfl) T.isinstance (by decide +kernel) (pa_cons (pv 1) (pa_cons (pe_glob (v := .ref _) (by rfl) TK.gBadNumber rfl) pa_nil))) (pa_cons (pe_callB (call_isC hzE hfE) (by rfl) T.isinstance (by decide +kernel) (pa_cons (pv 1) (pa_cons (pe_glob (v := .ref _) (by rfl) TK.gBadSizes rfl) pa_nil))) (pa_cons (pe_callB (call_isC hzE hfE) (by rfl) T.isinstance (by decide +kernel) (pa_cons (pv 1) (pa_cons (pe_glob (v := .ref _) (by rfl) TK.gBadText rfl) pa_nil))) (pa_cons (pe_callB (call_isC hzE hfE) (by rfl) T.isinstance (by decide +kernel) (pa_cons (pv 1) (pa_cons (pe_glob (v := .ref _) (by rfl) TK.gBadVolume rfl) pa_nil))) pa_nil))))))
    (pss_cons (ps_set (i := 2) scTold.nd rfl (by first | exact Or.inl rfl | exact Or.inr rfl) (pe_op op_cat (pv 2) (pe_lst (pa_cons (pe_callB (call_isC hzE hfE) (by rfl) T.isinstance (by decide +kernel) (pa_cons (pv 1) (pa_cons (pe_glob (v := .ref _) (by rfl) TK.gFull rfl) pa_nil))) (pa_cons (pe_callB (call_isC hzE hfE) (by rfl) T.isinstance (by decide +kernel) (pa_cons (pv 1) (pa_cons (pe_glob (v := .ref _) (by rfl) TK.gLost rfl) pa_nil))) (pa_cons (pe_callB (call_isC hzE hfE) (by rfl) T.isinstance (by decide +kernel) (pa_cons (pv 1) (pa_cons (pe_glob (v := .ref _) (by rfl) TK.gNoBlock rfl) pa_nil))) (pa_cons (pe_callB (call_isC hzE hfE) (by rfl) T.isinstance (by decide +kernel) (pa_cons (pv 1) (pa_cons (pe_glob (v := .ref _) (by rfl) TK.gNoDisk rfl) pa_nil))) pa_nil)))))))
    (pss_cons (ps_set (i := 2) scTold.nd rfl (by first | exact Or.inl rfl | exact Or.inr rfl) (pe_op op_cat (pv 2) (pe_lst (pa_cons (pe_callB (call_isC hzE hfE) (by rfl) T.isinstance (by decide +kernel) (pa_cons (pv 1) (pa_cons (pe_glob (v := .ref _) (by rfl) TK.gNoVolume rfl) pa_nil))) (pa_cons (pe_callB (call_isC hzE hfE) (by rfl) T.isinstance (by decide +kernel) (pa_cons (pv 1) (pa_cons (pe_glob (v := .ref _) (by rfl) TK.gStopped rfl) pa_nil))) pa_nil)))))
    (pss_cons (ps_if (PW.pt (pw_or (pt_cmpR op_ne (pe_bmS PySem.F.plainAttrs_list PySem.F.slot_list_count PySem.F.type_list_count mt_countS (pv 2) (pa_cons pe_bl pa_nil)) pe_int (nomark _)) (pw_or1 (pt_not (pt_val (pe_callB (call_isC hzE hfE) (by rfl) T.isinstance (by decide +kernel) (pa_cons (pv 1) (pa_cons (pe_bltn (v := .ty "ValueError") (by rfl) TK.ValueError (by decide +kernel) rfl) pa_nil)))))))) (pss_one (ps_ret (pe_tup (pa_cons pe_str (pa_cons pe_int pa_nil))))) pss_nil)
    (pss_cons (ps_set (i := 3) scTold.nd rfl (by first | exact Or.inl rfl | exact Or.inr rfl) (pe_lst (pa_cons pe_str (pa_cons pe_str (pa_cons pe_str (pa_cons pe_str (pa_cons pe_str (pa_cons pe_str (pa_cons pe_str (pa_cons pe_str (pa_cons pe_str pa_nil)))))))))))
    (pss_cons (ps_set (i := 4) scTold.nd rfl (by first | exact Or.inl rfl | exact Or.inr rfl) (pe_ix ix_listS (pe_op op_cat (pv 3) (pe_lst (pa_cons pe_str pa_nil))) (pe_bmS PySem.F.plainAttrs_list PySem.F.slot_list_index PySem.F.type_list_index mt_indexS (pv 2) (pa_cons pe_bl pa_nil)) (fun _ _ => rfl)))
    (pss_one (ps_ret (pe_tup (pa_cons (pv 4) (pa_cons (pe_ifExp (pt_cmpR op_eq (pv 4) pe_str (nomark _)) (pe_xf TK.xf TK.nf hzE hfE (pv 1)) pe_int) pa_nil))))))))))))), ?_⟩
  · refine ⟨fun pins s' σ H' D I h' => ?_⟩
    obtain ⟨Ech, hW, h1, h2, h3⟩ := h'
    exact (pss_one (ps_ret (act (fun cls d σ H => σ.length = 5 → W cls d σ H) pn xe Ech _ _ (takes_len tk) (fun cls d σ' H' e l => hW cls d σ' H' l e)))).run pins s' σ H' D I ⟨h1, h2, h3⟩
  · refine ⟨_, fun cls d σ' H' hl he => ?_, rfl, hc, h⟩
    obtain ⟨w, v, ⟨i, hi, hw, rfl, hd⟩, fin⟩ := he
    refine ⟨true, TK.exm i hi, fun _ a na => ?_, fun z => by cases z⟩
    have hd0 : d = none ∨ ∃ dd fs, d = some dd ∧ H' dd = some (.xd fs) := by
      rcases hd with ⟨_, h, _⟩ | ⟨_, dd, fs, h, e, _⟩
      · exact .inl h
      · exact .inr ⟨dd, fs, h, e⟩
    match σ', hl with
    | [x0, x1, x2, x3, x4], _ =>
    simp only [cxK, cxK']
    walk_at "w"
    intro p1 n1
    walk_at "w"
    intro p2 n2
    walk_at "w"
    intro p3 n3
    walk_at "w"
    intro p4 n4
    walk_at "w"
    intro p5 n5
    walk_at "w"
    obtain ⟨b1, b2, b3, b4⟩ := told_bits i hi
    have k5 : ∀ o, Kp [] H' (upd (upd (upd (upd (upd H' p1 (.lst [V.bl (decide (i = 0)), V.bl (decide (i = 1)), V.bl (decide (i = 2)), V.bl (decide (i = 3))])) p2 (.lst [V.bl (decide (i = 4)), V.bl (decide (i = 5)), V.bl (decide (i = 6)), V.bl (decide (i = 7))])) p3 (.lst ([V.bl (decide (i = 0)), V.bl (decide (i = 1)), V.bl (decide (i = 2)), V.bl (decide (i = 3))] ++ [V.bl (decide (i = 4)), V.bl (decide (i = 5)), V.bl (decide (i = 6)), V.bl (decide (i = 7))])))
      p4 (.lst [V.bl (decide (i = 8)), V.bl (decide (i = 9))])) p5 o) := fun o => by walk_at "kp"
    refine w_cntF (n := 1) (ys := bits i) (sq_l upd_same) rfl b2 (by rw [b1]; rfl) ?_
    walk_at "w"
    intro p6 n6
    walk_at "w"
    intro p7 n7
    walk_at "w"
    intro p8 n8
    walk_at "w"
    refine w_indF (j := i) (z := .bl true) (ys := bits i) (sq_l (by walk_at "hg")) rfl b2 b3 rfl (fun m z' hm hz => ?_) ?_
    · rw [b4 m hm] at hz
      rw [← Option.some.inj hz]
      rfl
    have aw : atI nmL ((i : Nat) : Int) = some (.str w) := by
      refine atI_nat ?_
      rw [nmL_eq, List.getElem?_map, hw]
      rfl
    refine w_ixL (sq_l upd_same) aw ?_
    walk_at "w"
    by_cases ew : w = "BadText"
    · have e2 : i = 2 := (clsAt i hi).mp (by rw [hw, ew])
      rcases hd with ⟨ne, _⟩ | ⟨_, dd, fs, rfl, ed, lr⟩
      · exact absurd e2 ne
      · subst e2
        walk_at "w"
        refine ⟨V.ref a, rfl, rfl, rfl, dd, fs, v, rfl, by walk_at "hg", lr, ?_⟩
        walk_at "w"
        intro p9 n9
        exact fin p9 _ (by walk_at "kp") (by walk_at "no") upd_same
    · rcases hd with ⟨_, rfl, rfl⟩ | ⟨e2, _⟩
      · walk_at "w"
        intro p9 n9
        exact fin p9 _ (by walk_at "kp") (by walk_at "no") upd_same
      · exact absurd (by rw [(clsAt i hi).mpr e2] at hw; exact (Option.some.inj hw).symm) ew
end VH

namespace VH
open PySem L2 TL
local macro_rules | `(tactic| walk_at "dT") => `(tactic| first
  | ((with_reducible apply iT); (first | assumption | omega))
  | ((with_reducible apply niT); (first | assumption | omega))
  | ((with_reducible apply sT); (first | assumption | rfl))
  | ((with_reducible apply nsT); (first | assumption | decide))
  | ((with_reducible apply nbT); (first | assumption | omega))
  | ((with_reducible apply decide_eq_true); (first | assumption | omega)))
local macro_rules | `(tactic| walk_at "dF") => `(tactic| first
  | ((with_reducible apply iF); (first | assumption | omega))
  | ((with_reducible apply niF); (first | assumption | omega))
  | ((with_reducible apply sF); (first | assumption | decide))
  | ((with_reducible apply nsF); (first | assumption | rfl))
  | ((with_reducible apply nbF); (first | assumption | omega))
  | ((with_reducible apply decide_eq_false); (first | assumption | omega)))
local macro_rules | `(tactic| walk_at "ne") => `(tactic| first | assumption | (apply Ne.symm; assumption) | (apply ne_of_none <;> assumption) | (apply Ne.symm; apply ne_of_none <;> assumption) | (apply ne_new; assumption; walk_at "hg") | (apply Ne.symm; apply ne_new; assumption; walk_at "hg"))
local macro_rules | `(tactic| walk_at "ni") => `(tactic| first | exact ni_nil | (apply ni_cons; walk_at "ne"; walk_at "ni") | assumption)
local macro_rules | `(tactic| walk_at "hg") => `(tactic| first
  | assumption
  | exact upd_same
  | (apply upd_old; assumption; walk_at "hg")
  | (apply upd_oth; walk_at "ne"; walk_at "hg")
  | (apply kp_get; assumption; walk_at "hg"; walk_at "ni"))
local macro_rules | `(tactic| walk_at "mem") => `(tactic| first | exact List.mem_cons_self | (apply List.mem_cons_of_mem; walk_at "mem") | assumption)
local macro_rules | `(tactic| walk_at "no") => `(tactic| first | assumption | (apply none_of_kp2; assumption; walk_at "kp"))
local macro_rules | `(tactic| walk_at "kp") => `(tactic| first
  | assumption
  | exact Kp.refl
  | (apply kp_new'; assumption; walk_at "kp")
  | (apply kp_setn; assumption; walk_at "kp")
  | (apply kp_set'; walk_at "mem"; walk_at "kp")
  | (apply kp_app; assumption; walk_at "kp")
  | (apply kp_app2; assumption; walk_at "kp"))
local macro_rules | `(tactic| walk_at "sz") => `(tactic| first | assumption | exact sz rfl | (apply szb; omega) | (apply szbl; omega) | (apply szb; simp only [List.length_map, List.length_cons, List.length_nil, List.length_append, List.length_set]; omega) | (apply szbl; simp only [List.length_map, List.length_cons, List.length_nil, List.length_append, List.length_set]; omega))
local macro_rules | `(tactic| walk_at "sq") => `(tactic| first
  | assumption
  | (apply sq_l; walk_at "hg")
  | (apply sq_t; walk_at "hg")
  | (apply sqL_new; assumption; walk_at "sq")
  | (apply sqT_new; assumption; walk_at "sq"))
local macro_rules | `(tactic| walk_at "w1") => `(tactic| first
  | with_reducible refine w_seq ?_
  | ((with_reducible apply w_var); exact rfl)
  | with_reducible refine w_c ?_
  | with_reducible refine w_op ?_
  | with_reducible refine w_I0 ?_
  | ((with_reducible apply w_I); (first | assumption | exact Or.inr ⟨by decide, by decide⟩ | exact Or.inl ⟨by decide, by decide⟩ | exact (by show (0 : Int) < _; decide) | exact ⟨by decide, by decide⟩ | exact Or.inl ⟨by omega, by omega⟩ | exact Or.inr ⟨by omega, by omega⟩ | exact ⟨by omega, by omega⟩ | exact (by show (0 : Int) < _; omega)))
  | with_reducible refine w_cons ?_
  | with_reducible refine w_nil ?_
  | with_reducible refine w_asg ?_
  | with_reducible refine w_gName ?_
  | with_reducible refine w_gSub ?_
  | with_reducible refine w_test ?_
  | with_reducible refine w_B ?_
  | with_reducible refine w_ret ?_
  | with_reducible refine w_drop ?_
  | with_reducible refine w_ifS ?_
  | with_reducible refine w_if ?_
  | with_reducible refine w_un ?_
  | with_reducible refine w_U ?_
  | with_reducible refine w_call ?_
  | with_reducible refine w_cb ?_
  | with_reducible refine w_lst ?_
  | with_reducible refine w_tup ?_
  | with_reducible refine w_bm ?_
  | with_reducible refine w_bm0 ?_
  | with_reducible refine w_m1 ?_
  | with_reducible refine w_for ?_
  | with_reducible refine w_iList ?_
  | with_reducible refine w_iTup ?_
  | with_reducible refine w_iStr ?_
  | with_reducible refine w_iR1 ?_
  | with_reducible refine w_iEnum ?_
  | with_reducible refine w_and ?_
  | with_reducible refine w_or ?_
  | with_reducible refine w_not ?_
  | with_reducible refine w_yes ?_
  | with_reducible refine w_isN ?_
  | ((with_reducible apply w_eq); exact rfl)
  | ((with_reducible apply w_ne); exact rfl)
  | with_reducible refine w_chain ?_
  | with_reducible refine w_andV ?_
  | with_reducible refine w_orV ?_
  | with_reducible refine w_notV ?_
  | with_reducible refine w_bl ?_
  | with_reducible refine w_fld ?_
  | with_reducible refine w_sfld ?_
  | with_reducible refine w_next ?_
  | with_reducible refine w_isZ ?_
  | with_reducible refine w_notZ ?_
  | with_reducible refine w_inS ?_
  | with_reducible refine w_notInS ?_
  | ((with_reducible apply w_ifT); exact rfl)
  | ((with_reducible apply w_ifF); exact rfl)
  | ((with_reducible apply w_ifT); walk_at "dT")
  | ((with_reducible apply w_ifF); walk_at "dF")
  | with_reducible refine w_lc ?_
  | with_reducible refine w_aStr ?_
  | ((with_reducible apply w_itL); walk_at "sq")
  | ((with_reducible apply w_itT); walk_at "sq")
  | ((with_reducible apply w_rng); (first | omega | assumption); (first | omega | assumption))
  | ((with_reducible apply w_enum); walk_at "sq")
  | ((with_reducible apply w_lenS); walk_at "sz")
  | ((with_reducible apply w_split); (first | exact rfl | assumption); walk_at "sz")
  | with_reducible refine w_slice ?_
  | with_reducible refine w_part ?_
  | with_reducible refine w_noPart ?_
  | with_reducible refine w_anInt ?_
  | ((with_reducible apply w_slL); walk_at "sq")
  | ((with_reducible apply w_cat); walk_at "hg"; walk_at "hg"; walk_at "sz")
  | ((with_reducible apply w_newSz); walk_at "sz")
  | ((with_reducible apply w_append); walk_at "hg"; walk_at "sz")
  | ((with_reducible apply w_tyD); walk_at "hg")
  | ((with_reducible apply w_gTup); walk_at "sq"; exact rfl)
  | with_reducible refine w_gCons ?_
  | with_reducible refine w_gNil ?_
  | with_reducible refine w_kget2 ?_
  | with_reducible refine w_same ?_
  | ((with_reducible apply w_kat); assumption)
  | ((with_reducible apply w_in); walk_at "sq"; (first | exact rfl | assumption); (first | assumption | exact rfl))
  | ((with_reducible apply w_strI); assumption)
  | with_reducible refine w_disp ?_
  | with_reducible refine w_pcons ?_
  | with_reducible refine w_pnil ?_
  | with_reducible refine w_dget2 ?_
  | ((with_reducible apply w_isD); walk_at "hg")
  | ((with_reducible apply w_dgS); walk_at "hg")
  | ((with_reducible apply w_dupd); walk_at "ne"; walk_at "hg"; walk_at "hg"; (first | decide | walk_at "sz"))
  | ((with_reducible apply w_catS); walk_at "sz")
  | ((with_reducible apply w_slT); walk_at "sq"; assumption)
  | ((with_reducible apply w_ixS); walk_at "sz"; (first | assumption | exact rfl))
  | ((with_reducible apply w_intS); assumption; (first | assumption | omega))
  | ((with_reducible apply w_isi); (first | exact tx_N | exact tx_B | exact tx_I | exact tx_S | (apply tx_L; walk_at "sq") | (apply tx_T; walk_at "sq")); (first | (refine (?_ : _ = some true); decide +kernel) | (refine (?_ : _ = some false); decide +kernel)))
  | ((with_reducible apply w_lenL); walk_at "sq")
  | ((with_reducible apply w_lenT); walk_at "sq")
  | ((with_reducible apply w_listL); walk_at "sq")
  | ((with_reducible apply w_listT); walk_at "sq")
  | ((with_reducible apply w_tupL); walk_at "sq")
  | with_reducible refine w_intI ?_
  | with_reducible refine w_intB ?_
  | with_reducible refine w_strS ?_
  | ((with_reducible apply w_ixXL); walk_at "sq"; (first | exact rfl | exact atI_0 | assumption))
  | ((with_reducible apply w_ixXT); walk_at "sq"; (first | exact rfl | exact atI_0 | assumption))
  | ((with_reducible apply w_tyL); walk_at "sq")
  | with_reducible refine w_tyS ?_
  | ((with_reducible apply w_popAt0); walk_at "hg")
  | ((with_reducible apply w_ixL); walk_at "sq"; (first | exact rfl | exact atI_0 | assumption))
  | ((with_reducible apply w_ixT); walk_at "sq"; (first | exact rfl | exact atI_0 | assumption))
  | ((with_reducible apply w_setL); walk_at "hg"; (first | exact rfl | exact ixN_0)))
local macro_rules | `(tactic| walk_at "w") => `(tactic| repeat walk_at "w1")
local macro_rules | `(tactic| walk_at "wI") => `(tactic| repeat (fail_if_success (with_reducible show tIfS _ _ _ _ _ _); walk_at "w1"))

section
variable {σ : L2.St} {H : Hp} {Q : VK}
theorem w_dnin {ty td : TE} (h : ty σ H fun y H1 => td σ H1 fun x H2 => ∃ a o, x = .ref a ∧ DGet H2 a y o ∧ Q (.bl (!o.isSome)) H2) : tDNotIn ty td σ H Q := h
theorem w_dnS {p : Addr} {kvs : List (Key × V)} {z : Str} {o : Option V} {R : Option V → Prop} (e : H p = some (.dK kvs)) (ev : valV kvs (Sum.inr z) = o) (q : R o) : ∃ a o, V.ref p = .ref a ∧ DGet H a (.str z) o ∧ R o := ⟨p, o, rfl, by rw [← ev]; exact DGet.k (k := Sum.inr z) e, q⟩
theorem w_dgV {p : Addr} {kvs : List (Key × V)} {z : Str} {v : V} {R : V → Prop} (e : H p = some (.dK kvs)) (ev : valV kvs (Sum.inr z) = some v) (q : R v) : ∃ a v, V.ref p = .ref a ∧ DGet H a (.str z) (some v) ∧ R v := ⟨p, v, rfl, by rw [← ev]; exact DGet.k (k := Sum.inr z) e, q⟩
theorem w_catA {K : PySem.W.Frag} {a b : Addr} {xs ys : List V} (ha : SqT K H a xs) (hb : SqT K H b ys) (hz : xs.length + ys.length ≤ sizeLine) (hx : xs ≠ []) (hy : ys ≠ []) (q : ∀ p, H p = none → Q (.ref p) (upd H p (.tup (xs ++ ys)))) : rCatA K (.ref a) (.ref b) H Q :=
  ⟨a, b, xs, ys, rfl, rfl, ha, hb, hz, fun z => absurd z hx, fun _ z => absurd z hy, fun _ _ => q⟩
end
local macro_rules | `(tactic| walk_at "w1") => `(tactic| first
  | with_reducible refine w_dnin ?_
  | with_reducible refine w_dget ?_)
section
variable {P : Program} {w : World} {K : PySem.W.Frag} {mg : Str → Option Value} {base : Heap}
/-! ### the law's own reader of a row -/
def lshapes : List (Key × V) := mergeK (mergeK (mergeK [] [(Sum.inr "make", .int 3), (Sum.inr "grow", .int 2), (Sum.inr "drop", .int 1), (Sum.inr "mirror", .int 2), (Sum.inr "leave", .int 1), (Sum.inr "stay", .int 1), (Sum.inr "read", .int 2), (Sum.inr "write", .int 3), (Sum.inr "step", .int 0)])
  (mergeK [] [(Sum.inr "lose", .int 1), (Sum.inr "bring", .int 2), (Sum.inr "arm", .int 1), (Sum.inr "again", .int 0), (Sum.inr "room", .int 1), (Sum.inr "lacks", .int 0), (Sum.inr "lost", .int 0), (Sum.inr "volumes", .int 0)])) (mergeK [] [(Sum.inr "places", .int 1), (Sum.inr "copying", .int 0)])
theorem lshapes_eq : lshapes = shapes.map fun p => (Sum.inr p.1, .int (p.2 : Int)) := by decide +kernel
theorem lshape_at (z : Str) : valV lshapes (Sum.inr z) = shapeV z := by
  rw [lshapes_eq]
  unfold valV shapeV shapeOf
  generalize shapes = l
  induction l with
  | nil => rfl
  | cons p r ih =>
    rw [List.map_cons, List.find?_cons, List.lookup_cons]
    by_cases h : z = p.1
    · rw [h]
      simp
    · have e1 : (z == p.1) = false := by simpa using h
      have e2 : decide ((Sum.inr p.1 : Key) = Sum.inr z) = false := decide_eq_false fun q => h (Sum.inr.inj q).symm
      rw [e1]
      simp only [e2]
      exact ih
theorem numL_digs {l : List Nat} (hd : l.all isFig = true) (hne : l ≠ []) (h0 : l.head? ≠ some 48 ∨ l = [48]) : numL (NumText.digitsVal l) = l := by
  have ad : NumText.AllDigits l := fun c hc => of_decide_eq_true (List.all_eq_true.mp hd c hc)
  obtain ⟨c, r, rfl⟩ : ∃ c r, l = c :: r := by
    cases l with
    | nil => exact absurd rfl hne
    | cons c r => exact ⟨c, r, rfl⟩
  have e := NumText.toDigits_digitsVal r.length (c :: r) rfl ad (by
    rcases h0 with h | h
    · right
      refine ⟨c, r, rfl, ?_⟩
      have hc := of_decide_eq_true (List.all_eq_true.mp hd c List.mem_cons_self)
      have : c ≠ 48 := fun q => h (by rw [q]; rfl)
      omega
    · left
      injection h with _ h
      rw [h]
      rfl)
  unfold numL
  rw [e, List.map_map]
  have : ∀ m : List Nat, (∀ x ∈ m, 48 ≤ x ∧ x ≤ 57) → m.map (Char.toNat ∘ Char.ofNat) = m := by
    intro m
    induction m with
    | nil => intro _; rfl
    | cons x m ih =>
      intro h
      rw [List.map_cons, ih fun y hy => h y (List.mem_cons_of_mem _ hy)]
      congr 1
      have hx := h x List.mem_cons_self
      have all : ∀ n < 58, (Char.ofNat n).toNat = n := by decide +kernel
      exact all x (by omega)
  exact this _ ad
/-- the number of a word of one to four figures -/
theorem number_fig {z : Str} (h : 1 ≤ (tl z).length ∧ (tl z).length ≤ 4) (hf : (tl z).all isFig = true) :
    (numT ((NumText.digitsVal (tl z) : Nat) : Int) = z ∧ numberOf z = some ((NumText.digitsVal (tl z) : Nat) : Int)) ∨ (numT ((NumText.digitsVal (tl z) : Nat) : Int) ≠ z ∧ numberOf z = none) := by
  have hne : tl z ≠ [] := by
    intro e
    rw [e] at h
    exact absurd h.1 (by decide)
  have e1 : numberOf z = if (tl z).head? ≠ some 48 ∨ tl z = [48] then some ((NumText.digitsVal (tl z) : Nat) : Int) else none := by
    unfold numberOf
    rw [if_pos ⟨h, hf⟩]
  rw [e1]
  by_cases h0 : (tl z).head? ≠ some 48 ∨ tl z = [48]
  · left
    refine ⟨ext_tl ?_, if_pos h0⟩
    rw [tl_numT (by omega), Int.toNat_natCast]
    exact numL_digs hf hne h0
  · right
    refine ⟨fun e => h0 ?_, if_neg h0⟩
    have e2 := congrArg tl e
    rw [tl_numT (by omega), Int.toNat_natCast] at e2
    rw [← e2]
    exact numL_head _
theorem digs_few : ∀ (l : List Nat) (acc : Nat), (∀ c ∈ l, c ≤ 57) → l.foldl (fun n c => n * 10 + (c - 48)) acc < (acc + 1) * 10 ^ l.length
  | [], acc, _ => by simp
  | c :: r, acc, h => by
    have hc := h c List.mem_cons_self
    refine Nat.lt_of_lt_of_le (digs_few r (acc * 10 + (c - 48)) fun d hd => h d (List.mem_cons_of_mem _ hd)) ?_
    rw [List.length_cons, Nat.pow_succ, Nat.mul_comm (10 ^ r.length) 10, ← Nat.mul_assoc]
    exact Nat.mul_le_mul_right _ (by omega)
theorem digs_small {l : List Nat} (hf : l.all isFig = true) (hl : l.length ≤ 4) : NumText.digitsVal l < 10000 := by
  have a := digs_few l 0 fun c hc => (of_decide_eq_true (List.all_eq_true.mp hf c hc) : 48 ≤ c ∧ c ≤ 57).2
  have b : 10 ^ l.length ≤ 10 ^ 4 := Nat.pow_le_pow_right (by decide) hl
  unfold NumText.digitsVal
  omega
theorem allSome_map : ∀ ns : List Int, allSome (ns.map some) = some ns
  | [] => rfl
  | n :: r => by
    show (allSome (r.map some)).map (n :: ·) = _
    rw [allSome_map r]
    rfl
theorem allSome_none : ∀ {os : List (Option Int)}, none ∈ os → allSome os = none
  | [], h => by cases h
  | none :: r, _ => rfl
  | some n :: r, h => by
    show (allSome r).map (n :: ·) = none
    rw [allSome_none (os := r) (by
      rcases List.mem_cons.mp h with h | h
      · cases h
      · exact h)]
    rfl
theorem number_bad {z : Str} (h : ¬ ((1 ≤ (tl z).length ∧ (tl z).length ≤ 4) ∧ (tl z).all isFig = true)) : numberOf z = none := by
  unfold numberOf
  rw [if_neg h]
theorem scLStep : FnScope ["_law_row", "_law_shapes", "_law_words", "_law_found", "_law_word", "_law_sign"] ["_law_row"] (defScope sLStep) := ⟨rfl, rfl, rfl, by decide +kernel, rfl, by decide +kernel, by decide +kernel⟩
theorem ok_lstep {f : Addr} {fd : FuncData} (F : Fun K "_law_step" "_law_step" sLStep f fd) (T : Txt K mg) : FnOk P w K mg base CX0 2 f fd ["_law_row"] spStepOf := by
  refine F.ok scLStep (fun vs H Q E h => ?_) (fun cdv A outer s H vs Q E hr h => ?_)
  · obtain ⟨z, rfl, _⟩ := h
    rfl
  · obtain ⟨z, rfl, hl, ha, q⟩ := h
    have hu := hu_of hr
    have C := cuts (z := z) (y := " ") (by decide +kernel) (by decide +kernel)
    have hz : z.length + 2 ≤ sizeLine := Nat.le_trans (show z.length + 2 ≤ 60002 by omega) (by decide)
    unfold stepOf at q
    obtain ⟨w0, ws, ew⟩ : ∃ w0 ws, Txt.split z " " = w0 :: ws := by
      cases e : Txt.split z " " with
      | nil => exact absurd e C.ne
      | cons a r => exact ⟨a, r, rfl⟩
    refine ⟨_, (pss_cons (ps_set (i := 1) scLStep.nd rfl (by first | exact Or.inl rfl | exact Or.inr rfl) (pe_disp (pps_cons pe_str pe_int (pps_cons pe_str pe_int (pps_cons pe_str pe_int (pps_cons pe_str pe_int (pps_cons pe_str pe_int (pps_cons pe_str pe_int (pps_cons pe_str pe_int (pps_cons pe_str pe_int (pps_cons pe_str pe_int pps_nil))))))))) (by rfl) (by rfl) (fun z => by cases z) (by decide)))
    (pss_cons (ps_expr (pe_bm PySem.F.plainAttrs_dict PySem.F.slot_dict_update PySem.F.type_dict_update mt_dupdate (pv 1) (pa_cons (pe_disp (pps_cons pe_str pe_int (pps_cons pe_str pe_int (pps_cons pe_str pe_int (pps_cons pe_str pe_int (pps_cons pe_str pe_int (pps_cons pe_str pe_int (pps_cons pe_str pe_int (pps_cons pe_str pe_int pps_nil)))))))) (by rfl) (by rfl) (fun z => by cases z) (by decide)) pa_nil)))
    (pss_cons (ps_expr (pe_bm PySem.F.plainAttrs_dict PySem.F.slot_dict_update PySem.F.type_dict_update mt_dupdate (pv 1) (pa_cons (pe_disp (pps_cons pe_str pe_int (pps_cons pe_str pe_int pps_nil)) (by rfl) (by rfl) (fun z => by cases z) (by decide)) pa_nil)))
    (pss_cons (ps_set (i := 2) scLStep.nd rfl (by first | exact Or.inl rfl | exact Or.inr rfl) (pe_splitN (pv 0) pe_str))
    (pss_cons (ps_if (PW.pt (pw_or (pt_cmp (pc_dnotin hu (pe_ix ix_list (pv 2) pe_int (fun _ _ => rfl)) (pv 1))) (pw_or1 (pt_cmpR op_ne (pe_callB cr_lenL (by rfl) T.len (by decide +kernel) (pa_cons (pv 2) pa_nil)) (pe_op op_add pe_int (pe_dget hu (pv 1) (pe_ix ix_list (pv 2) pe_int (fun _ _ => rfl)) (fun _ _ => rfl))) (nomark _))))) (pss_one (ps_ret pe_non)) pss_nil)
    (pss_cons (ps_set (i := 3) scLStep.nd rfl (by first | exact Or.inl rfl | exact Or.inr rfl) (pe_tup (pa_cons (pe_ix ix_list (pv 2) pe_int (fun _ _ => rfl)) pa_nil)))
    (pss_cons (ps_for PassesOwn.never rfl (pi_list (pe_slice sl_list (pv 2) (po_some pe_int) po_none)) (pg_name (i := 4) scLStep.nd rfl (by first | exact Or.inl rfl | exact Or.inr rfl))
      (pss_cons (ps_if (PW.pt (pw_or (pt_not (pt_chain op_le op_le pe_int (pe_callB cr_lenS (by rfl) T.len (by decide +kernel) (pa_cons (pv 4) pa_nil)) pe_int)) (pw_or1 (pt_cmpR (op_neD hr.units) (pe_lcD (own := [("_law_sign", 5)]) rfl scLStep.nd (pi_str (pv 4)) (blkOk_by (N := ["_law_row", "_law_shapes", "_law_words", "_law_found", "_law_word", "_law_sign"]) (sc := defScope sLStep) (by decide +kernel)) (fun _ _ _ _ _ => (pg_name (i := 5) scLStep.nd rfl (by first | exact Or.inl rfl | exact Or.inr rfl))) (fun _ _ _ _ _ => (pts_one (pt_cmpR op_notInS (pv 5) pe_str (by rfl)))) (fun _ _ _ _ _ => (pv 5))) (pe_lst pa_nil) (nomark _))))) (pss_one (ps_ret pe_non)) pss_nil)
      (pss_cons (ps_if (pt_cmpR op_ne (pe_callTy cr_strX (by rfl) T.str (by decide +kernel) (pa_cons (pe_callTy cr_intS (by rfl) T.int (by decide +kernel) (pa_cons (pv 4) pa_nil)) pa_nil)) (pv 4) (nomark _)) (pss_one (ps_ret pe_non)) pss_nil)
      (pss_one (ps_set (i := 3) scLStep.nd rfl (by first | exact Or.inl rfl | exact Or.inr rfl) (pe_op op_catA (pv 3) (pe_tup (pa_cons (pe_callTy cr_intS (by rfl) T.int (by decide +kernel) (pa_cons (pv 4) pa_nil)) pa_nil))))))))
    (pss_one (ps_ret (pv 3)))))))))), ?_⟩
    simp only [cxK, cxK']
    walk_at "w"
    intro p1 n1
    refine ⟨upd_same, [(Sum.inr "make", .int 3), (Sum.inr "grow", .int 2), (Sum.inr "drop", .int 1), (Sum.inr "mirror", .int 2), (Sum.inr "leave", .int 1), (Sum.inr "stay", .int 1), (Sum.inr "read", .int 2), (Sum.inr "write", .int 3), (Sum.inr "step", .int 0)], rfl, by decide, ?_⟩
    walk_at "w"
    intro p2 n2
    refine ⟨upd_same, [(Sum.inr "lose", .int 1), (Sum.inr "bring", .int 2), (Sum.inr "arm", .int 1), (Sum.inr "again", .int 0), (Sum.inr "room", .int 1), (Sum.inr "lacks", .int 0), (Sum.inr "lost", .int 0), (Sum.inr "volumes", .int 0)], rfl, by decide, ?_⟩
    walk_at "w"
    intro p3 n3
    refine ⟨upd_same, [(Sum.inr "places", .int 1), (Sum.inr "copying", .int 0)], rfl, by decide, ?_⟩
    walk_at "w"
    have n2' : H p2 = none := by walk_at "no"
    have n3' : H p3 = none := by walk_at "no"
    refine w_newN (fun HB => Kp [] H HB ∧ HB p1 = some (.dK lshapes)) ⟨by walk_at "kp", upd_same⟩ (fun HB hB p4 n4 => ?_)
    obtain ⟨kB, eB⟩ := hB
    rw [ew] at q
    have hn : ∀ p', Kp [] H p' → shapeOf w0 ≠ some ws.length → Q .non p' := fun p' k h => by
      have z := q p' k
      simp only [if_neg h] at z
      exact z
    have lw : ws.length ≤ 70000 := by
      have a := C.few
      rw [ew, List.length_cons] at a
      omega
    rw [ew]
    have ll : ((List.map V.str (w0 :: ws)).length : Int) = (ws.length : Int) + 1 := by
      rw [List.length_map, List.length_cons]
      omega
    have eV := lshape_at w0
    walk_at "w"
    cases hsh : shapeOf w0 with
    | none =>
      have eV : valV lshapes (Sum.inr w0) = none := by
        rw [eV]
        unfold shapeV
        rw [hsh]
      refine w_dnS (upd_old n4 eB) eV ?_
      walk_at "w"
      exact hn _ (by walk_at "kp") (by rw [hsh]; exact fun e => nomatch e)
    | some m =>
      have eV : valV lshapes (Sum.inr w0) = some (.int (m : Int)) := by
        rw [eV]
        unfold shapeV
        rw [hsh]
      refine w_dnS (upd_old n4 eB) eV ?_
      walk_at "w"
      refine w_dgV (upd_old n4 eB) eV ?_
      walk_at "w"
      clear n2 n3 n2' n3'
      by_cases e : m = ws.length
      · have e2 : ∀ H', Kp [] H H' → _ := q
        simp only [if_pos (show shapeOf w0 = some ws.length by rw [hsh, e])] at e2
        have bad : ∀ wd ∈ ws, numberOf wd = none → ∀ H', Kp [] H H' → Q .non H' := fun wd hm hb H' k => by
          have a := e2 H' k
          rw [allSome_none (List.mem_map.mpr ⟨wd, hm, hb⟩)] at a
          exact a
        walk_at "w"
        intro p5 n5
        walk_at "w"
        intro p6 n6
        rw [show cutV (List.map V.str (w0 :: ws)) (some 1) none = ws.map V.str from cutV_from _ 1]
        have n5' : H p5 = none := by walk_at "no"
        walk_at "w"
        refine for_list (xs := ws.map V.str) (fun i σ H' => ∃ Fd ns y4 y5, σ = [some (.str z), some (.ref p1), some (.ref p4), some (.ref Fd), y4, y5] ∧ Kp [] H H' ∧ H' p6 = some (.lst (ws.map V.str)) ∧ H' Fd = some (.tup (.str w0 :: ns.map V.int)) ∧ H Fd = none ∧ (ws.take i).map numberOf = ns.map some)
          ⟨p5, [], none, none, rfl, by walk_at "kp", upd_same, by walk_at "hg", n5', by rw [List.take_zero]; rfl⟩ (fun i σ H' _ h => ?_) (fun i x σ H' hx h => ?_) (fun σ H' h => ?_)
        · obtain ⟨Fd, ns, y4, y5, rfl, k, h6, hF, nF, en⟩ := h
          exact sq_l h6
        · obtain ⟨Fd, ns, y4, y5, rfl, k, h6, hF, nF, en⟩ := h
          obtain ⟨wd, hwd, rfl⟩ : ∃ wd, ws[i]? = some wd ∧ V.str wd = x := by
            rw [List.getElem?_map] at hx
            cases e : ws[i]? with
            | none => rw [e] at hx; cases hx
            | some wd => rw [e] at hx; exact ⟨wd, rfl, Option.some.inj hx⟩
          have mw := List.mem_of_getElem? hwd
          have hm : wd ∈ Txt.split z " " := by rw [ew]; exact List.mem_cons_of_mem _ mw
          have el : wd.length = (tl wd).length := len_tl wd
          have hlw : wd.length ≤ 60000 := Nat.le_trans (C.short wd hm) hl
          have hz2 : wd.length ≤ sizeLine := Nat.le_trans hlw (by decide)
          have haw := C.asc ha wd hm
          have lns : ns.length ≤ 70000 := by
            have a := congrArg List.length en
            rw [List.length_map, List.length_map, List.length_take] at a
            omega
          by_cases h1 : 1 ≤ (tl wd).length ∧ (tl wd).length ≤ 4
          · walk_at "w"
            intro D nD
            refine lc_str (fun i H2 => H2 = upd H' D (.lst ((((tl wd).take i).filter fun c => !isFig c).map fun c => V.str ⟨#[c]⟩))) rfl (fun i c H2 hc hP => ?_) (fun H2 hP => ?_)
            · subst hP
              have hc : (tl wd)[i]? = some c := by
                show wd.cps.toList[i]? = some c
                rw [Array.getElem?_toList]
                exact hc
              walk_at "w"
              refine ⟨rfl, ?_⟩
              walk_at "w"
              rw [fig_in]
              cases hf : isFig c with
              | true =>
                refine iteF ?_
                rw [List.take_add_one, hc]
                simp [hf]
              | false =>
                refine iteT ?_
                walk_at "w"
                refine ⟨_, upd_same, ?_, ?_⟩
                · rw [List.length_map]
                  refine small1000 (Nat.le_trans (List.length_filter_le _ _) (Nat.le_trans (List.length_take_le' _ _) (by omega)))
                · rw [upd_upd, List.take_add_one, hc]
                  simp [hf]
            · subst hP
              have hall : (tl wd).take wd.cps.size = tl wd := List.take_of_length_le (by rw [← el]; exact Nat.le_refl _)
              rw [hall]
              walk_at "w"
              refine fun p np => ?_
              have nDp : D ≠ p := ne_of_none upd_same np
              refine ⟨.list ((((tl wd).filter fun c => !isFig c)).map fun c => .str ⟨#[c]⟩), .list [], .lst (sqL_new np (sq_l upd_same)) (dp_signs _), .lst (sq_l upd_same) .nil, shaped_list (fun d hd => ?_), rfl, ?_⟩
              · obtain ⟨c, hc, rfl⟩ := List.mem_map.mp hd
                have hc2 := haw c (List.mem_filter.mp hc).1
                refine ⟨?_, Nat.zero_le _⟩
                show PyData.strOk ⟨#[c]⟩ = true
                exact asc_ok (fun e he => by
                  have he : e ∈ [c] := he
                  rw [List.mem_singleton.mp he]
                  exact hc2)
              · have kp : ∀ o, Kp [] H (upd (upd H' D (.lst ((((tl wd).filter fun c => !isFig c)).map fun c => V.str ⟨#[c]⟩))) p o) := fun o => kp_new (kp_new k nD) np
                cases hb : (tl wd).filter fun c => !isFig c with
                | nil =>
                  refine ⟨false, rfl, iteF ?_⟩
                  have hf : (tl wd).all isFig = true := by
                    rw [List.all_eq_true]
                    intro c hc
                    have z2 := List.filter_eq_nil_iff.mp hb c hc
                    cases e : isFig c with
                    | true => rfl
                    | false => rw [e] at z2; exact absurd rfl z2
                  rw [hb] at kp np
                  have hne : tl wd ≠ [] := by
                    intro e
                    rw [e] at h1
                    exact absurd h1.1 (by decide)
                  have hd : NumText.AllDigits wd.cps.toList := fun c hc => of_decide_eq_true (List.all_eq_true.mp hf c hc)
                  have hi : PySem.intText? wd = some ((NumText.digitsVal (tl wd) : Nat) : Int) := PySem.intText_digits hd hne (by omega)
                  have lg : ((NumText.digitsVal (tl wd) : Nat) : Int).natAbs.log2 < 1920 := log2_small (by omega) (by have := digs_small hf h1.2; omega)
                  walk_at "w"
                  rcases number_fig h1 hf with ⟨e1, e2⟩ | ⟨e1, e2⟩
                  · have e1 : Str.ofString (toString ((NumText.digitsVal (tl wd) : Nat) : Int)) = wd := e1
                    walk_at "w"
                    intro p7 n7
                    have hF2 := upd_old (o := .tup [V.int ((NumText.digitsVal (tl wd) : Nat) : Int)]) n7 (upd_old (o := .lst []) np (upd_old (o := .lst []) nD hF))
                    refine w_catA (sq_t hF2) (sq_t upd_same) ?_ (fun q => by cases q) (fun q => by cases q) (fun p8 n8 => ?_)
                    · rw [List.length_cons, List.length_map]
                      exact szb (by show ns.length + 1 + 1 ≤ _; omega)
                    · walk_at "w"
                      have n8' : H p8 = none := by walk_at "no"
                      refine ⟨p8, ns ++ [((NumText.digitsVal (tl wd) : Nat) : Int)], _, _, rfl, ?_, by walk_at "hg", ?_, n8', ?_⟩
                      · walk_at "kp"
                      · rw [upd_same, List.map_append]
                        rfl
                      · rw [List.take_add_one, hwd, List.map_append, en, List.map_append]
                        show _ ++ [numberOf wd] = _
                        rw [e2]
                        rfl
                  · have e1 : ¬ Str.ofString (toString ((NumText.digitsVal (tl wd) : Nat) : Int)) = wd := e1
                    walk_at "w"
                    exact bad wd mw e2 _ (kp _)
                | cons c r =>
                  refine ⟨true, rfl, iteT ?_⟩
                  walk_at "w"
                  rw [hb] at kp
                  refine bad wd mw (number_bad ?_) _ (kp _)
                  rintro ⟨_, h⟩
                  have m : c ∈ (tl wd).filter fun c => !isFig c := by rw [hb]; exact List.mem_cons_self
                  obtain ⟨m1, m2⟩ := List.mem_filter.mp m
                  rw [List.all_eq_true.mp h c m1] at m2
                  cases m2
          · have en0 : numberOf wd = none := number_bad fun e => h1 e.1
            by_cases h2 : 1 ≤ (tl wd).length
            · walk_at "w"
              exact bad wd mw en0 _ (by walk_at "kp")
            · walk_at "w"
              exact bad wd mw en0 _ (by walk_at "kp")
        · obtain ⟨Fd, ns, y4, y5, rfl, k, h6, hF, nF, en⟩ := h
          walk_at "w"
          rw [List.length_map, List.take_length] at en
          have a := e2 H' k
          rw [en, allSome_map] at a
          exact a Fd nF hF
      · walk_at "w"
        exact hn _ (by walk_at "kp") (by rw [hsh]; exact fun e2 => e (Option.some.inj e2))
end
end VH

namespace VH
open PySem L2 TL
local macro_rules | `(tactic| walk_at "dT") => `(tactic| first
  | ((with_reducible apply iT); (first | assumption | omega))
  | ((with_reducible apply niT); (first | assumption | omega))
  | ((with_reducible apply sT); (first | assumption | rfl))
  | ((with_reducible apply nsT); (first | assumption | decide))
  | ((with_reducible apply nbT); (first | assumption | omega))
  | ((with_reducible apply decide_eq_true); (first | assumption | omega)))
local macro_rules | `(tactic| walk_at "dF") => `(tactic| first
  | ((with_reducible apply iF); (first | assumption | omega))
  | ((with_reducible apply niF); (first | assumption | omega))
  | ((with_reducible apply sF); (first | assumption | decide))
  | ((with_reducible apply nsF); (first | assumption | rfl))
  | ((with_reducible apply nbF); (first | assumption | omega))
  | ((with_reducible apply decide_eq_false); (first | assumption | omega)))
local macro_rules | `(tactic| walk_at "ne") => `(tactic| first | assumption | (apply Ne.symm; assumption) | (apply ne_of_none <;> assumption) | (apply Ne.symm; apply ne_of_none <;> assumption) | (apply ne_new; assumption; walk_at "hg") | (apply Ne.symm; apply ne_new; assumption; walk_at "hg"))
local macro_rules | `(tactic| walk_at "ni") => `(tactic| first | exact ni_nil | (apply ni_cons; walk_at "ne"; walk_at "ni") | assumption)
local macro_rules | `(tactic| walk_at "hg") => `(tactic| first
  | assumption
  | exact upd_same
  | (apply upd_old; assumption; walk_at "hg")
  | (apply upd_oth; walk_at "ne"; walk_at "hg")
  | (apply kp_get; assumption; walk_at "hg"; walk_at "ni"))
local macro_rules | `(tactic| walk_at "mem") => `(tactic| first | exact List.mem_cons_self | (apply List.mem_cons_of_mem; walk_at "mem") | assumption)
local macro_rules | `(tactic| walk_at "no") => `(tactic| first | assumption | (apply none_of_kp2; assumption; walk_at "kp"))
local macro_rules | `(tactic| walk_at "kp") => `(tactic| first
  | assumption
  | exact Kp.refl
  | (apply kp_new'; assumption; walk_at "kp")
  | (apply kp_setn; assumption; walk_at "kp")
  | (apply kp_set'; walk_at "mem"; walk_at "kp")
  | (apply kp_app; assumption; walk_at "kp")
  | (apply kp_app2; assumption; walk_at "kp"))
local macro_rules | `(tactic| walk_at "sz") => `(tactic| first | assumption | exact sz rfl | (apply szb; omega) | (apply szbl; omega) | (apply szb; simp only [List.length_map, List.length_cons, List.length_nil, List.length_append, List.length_set]; omega) | (apply szbl; simp only [List.length_map, List.length_cons, List.length_nil, List.length_append, List.length_set]; omega))
local macro_rules | `(tactic| walk_at "sq") => `(tactic| first
  | assumption
  | (apply sq_l; walk_at "hg")
  | (apply sq_t; walk_at "hg")
  | (apply sqL_new; assumption; walk_at "sq")
  | (apply sqT_new; assumption; walk_at "sq"))
local macro_rules | `(tactic| walk_at "w1") => `(tactic| first
  | with_reducible refine w_seq ?_
  | ((with_reducible apply w_var); exact rfl)
  | with_reducible refine w_c ?_
  | with_reducible refine w_op ?_
  | with_reducible refine w_I0 ?_
  | ((with_reducible apply w_I); (first | assumption | exact Or.inr ⟨by decide, by decide⟩ | exact Or.inl ⟨by decide, by decide⟩ | exact (by show (0 : Int) < _; decide) | exact ⟨by decide, by decide⟩ | exact Or.inl ⟨by omega, by omega⟩ | exact Or.inr ⟨by omega, by omega⟩ | exact ⟨by omega, by omega⟩ | exact (by show (0 : Int) < _; omega)))
  | with_reducible refine w_cons ?_
  | with_reducible refine w_nil ?_
  | with_reducible refine w_asg ?_
  | with_reducible refine w_gName ?_
  | with_reducible refine w_gSub ?_
  | with_reducible refine w_test ?_
  | with_reducible refine w_B ?_
  | with_reducible refine w_ret ?_
  | with_reducible refine w_drop ?_
  | with_reducible refine w_ifS ?_
  | with_reducible refine w_if ?_
  | with_reducible refine w_un ?_
  | with_reducible refine w_U ?_
  | with_reducible refine w_call ?_
  | with_reducible refine w_cb ?_
  | with_reducible refine w_lst ?_
  | with_reducible refine w_tup ?_
  | with_reducible refine w_bm ?_
  | with_reducible refine w_bm0 ?_
  | with_reducible refine w_m1 ?_
  | with_reducible refine w_for ?_
  | with_reducible refine w_iList ?_
  | with_reducible refine w_iTup ?_
  | with_reducible refine w_iStr ?_
  | with_reducible refine w_iR1 ?_
  | with_reducible refine w_iEnum ?_
  | with_reducible refine w_and ?_
  | with_reducible refine w_or ?_
  | with_reducible refine w_not ?_
  | with_reducible refine w_yes ?_
  | with_reducible refine w_isN ?_
  | ((with_reducible apply w_eq); exact rfl)
  | ((with_reducible apply w_ne); exact rfl)
  | with_reducible refine w_chain ?_
  | with_reducible refine w_andV ?_
  | with_reducible refine w_orV ?_
  | with_reducible refine w_notV ?_
  | with_reducible refine w_bl ?_
  | with_reducible refine w_fld ?_
  | with_reducible refine w_sfld ?_
  | with_reducible refine w_next ?_
  | with_reducible refine w_isZ ?_
  | with_reducible refine w_notZ ?_
  | with_reducible refine w_inS ?_
  | with_reducible refine w_notInS ?_
  | ((with_reducible apply w_ifT); exact rfl)
  | ((with_reducible apply w_ifF); exact rfl)
  | ((with_reducible apply w_ifT); walk_at "dT")
  | ((with_reducible apply w_ifF); walk_at "dF")
  | with_reducible refine w_lc ?_
  | with_reducible refine w_aStr ?_
  | ((with_reducible apply w_itL); walk_at "sq")
  | ((with_reducible apply w_itT); walk_at "sq")
  | ((with_reducible apply w_rng); (first | omega | assumption); (first | omega | assumption))
  | ((with_reducible apply w_enum); walk_at "sq")
  | ((with_reducible apply w_lenS); walk_at "sz")
  | ((with_reducible apply w_split); (first | exact rfl | assumption); walk_at "sz")
  | with_reducible refine w_slice ?_
  | with_reducible refine w_part ?_
  | with_reducible refine w_noPart ?_
  | with_reducible refine w_anInt ?_
  | ((with_reducible apply w_slL); walk_at "sq")
  | ((with_reducible apply w_cat); walk_at "hg"; walk_at "hg"; walk_at "sz")
  | ((with_reducible apply w_newSz); walk_at "sz")
  | ((with_reducible apply w_append); walk_at "hg"; walk_at "sz")
  | ((with_reducible apply w_tyD); walk_at "hg")
  | ((with_reducible apply w_gTup); walk_at "sq"; exact rfl)
  | with_reducible refine w_gCons ?_
  | with_reducible refine w_gNil ?_
  | with_reducible refine w_kget2 ?_
  | with_reducible refine w_same ?_
  | ((with_reducible apply w_kat); assumption)
  | ((with_reducible apply w_in); walk_at "sq"; (first | exact rfl | assumption); (first | assumption | exact rfl))
  | ((with_reducible apply w_strI); assumption)
  | with_reducible refine w_disp ?_
  | with_reducible refine w_pcons ?_
  | with_reducible refine w_pnil ?_
  | with_reducible refine w_dget2 ?_
  | ((with_reducible apply w_isD); walk_at "hg")
  | ((with_reducible apply w_dgS); walk_at "hg")
  | ((with_reducible apply w_dupd); walk_at "ne"; walk_at "hg"; walk_at "hg"; (first | decide | walk_at "sz"))
  | ((with_reducible apply w_catS); walk_at "sz")
  | ((with_reducible apply w_slT); walk_at "sq"; assumption)
  | ((with_reducible apply w_ixS); walk_at "sz"; (first | assumption | exact rfl))
  | ((with_reducible apply w_intS); assumption; (first | assumption | omega))
  | ((with_reducible apply w_isi); (first | exact tx_N | exact tx_B | exact tx_I | exact tx_S | (apply tx_L; walk_at "sq") | (apply tx_T; walk_at "sq")); (first | (refine (?_ : _ = some true); decide +kernel) | (refine (?_ : _ = some false); decide +kernel)))
  | ((with_reducible apply w_lenL); walk_at "sq")
  | ((with_reducible apply w_lenT); walk_at "sq")
  | ((with_reducible apply w_listL); walk_at "sq")
  | ((with_reducible apply w_listT); walk_at "sq")
  | ((with_reducible apply w_tupL); walk_at "sq")
  | with_reducible refine w_intI ?_
  | with_reducible refine w_intB ?_
  | with_reducible refine w_strS ?_
  | ((with_reducible apply w_ixXL); walk_at "sq"; (first | exact rfl | exact atI_0 | assumption))
  | ((with_reducible apply w_ixXT); walk_at "sq"; (first | exact rfl | exact atI_0 | assumption))
  | ((with_reducible apply w_tyL); walk_at "sq")
  | with_reducible refine w_tyS ?_
  | ((with_reducible apply w_popAt0); walk_at "hg")
  | ((with_reducible apply w_ixL); walk_at "sq"; (first | exact rfl | exact atI_0 | assumption))
  | ((with_reducible apply w_ixT); walk_at "sq"; (first | exact rfl | exact atI_0 | assumption))
  | ((with_reducible apply w_setL); walk_at "hg"; (first | exact rfl | exact ixN_0)))
local macro_rules | `(tactic| walk_at "w") => `(tactic| repeat walk_at "w1")
local macro_rules | `(tactic| walk_at "wI") => `(tactic| repeat (fail_if_success (with_reducible show tIfS _ _ _ _ _ _); walk_at "w1"))

section
variable {σ : L2.St} {H : Hp} {D : Ends}
theorem w_par {i j : Nat} {ta : TA} (h : ta σ H fun vs H1 => ∃ v w, vs = [v, w] ∧ D.nx ((σ.set i (some v)).set j (some w)) H1) : tPar i j ta D σ H := h
theorem w_two {v w : V} {R : V → V → Prop} (h : R v w) : ∃ v' w', [v, w] = [v', w'] ∧ R v' w' := ⟨v, w, rfl, h⟩
theorem w_revS {te : TE} {Q : VK} (h : te σ H fun x H1 => ∃ z, x = .str z ∧ z.length ≤ sizeLine ∧ Q (.str (revS z)) H1) : tRevS te σ H Q := h
theorem w_slS {z : Str} {lo hi : Option Int} {Q : VK} (l : z.length ≤ sizeLine) (q : Q (.str (cutS z lo hi)) H) : rSlS (.str z) lo hi H Q := ⟨z, rfl, l, q⟩
theorem w_rep {l : Addr} {k : Int} {xs : List V} {Q : VK} (hl : H l = some (.lst xs)) (h0 : -(2 ^ 63) ≤ k) (h1 : k < 2 ^ 63) (hz : xs.length * k.toNat ≤ sizeLine) (q : ∀ p, H p = none → Q (.ref p) (upd H p (.lst (List.replicate k.toNat xs).flatten))) : rRep (.ref l) (.int k) H Q := ⟨l, k, xs, rfl, rfl, hl, h0, h1, hz, q⟩
end
local macro_rules | `(tactic| walk_at "w1") => `(tactic| first
  | with_reducible refine w_par ?_
  | with_reducible refine w_two ?_
  | with_reducible refine w_revS ?_
  | ((with_reducible apply w_slS); walk_at "sz"))
section
variable {P : Program} {w : World} {K : PySem.W.Frag} {mg : Str → Option Value} {base : Heap}
/-! ### texts spoilt: no longer than so, of signs that there are -/
def wt (l : List Str) : Nat := (l.map (·.length)).sum + l.length
theorem wt_nil : wt [] = 0 := rfl
theorem wt_cons (a : Str) (l : List Str) : wt (a :: l) = a.length + 1 + wt l := by
  unfold wt
  rw [List.map_cons, List.sum_cons, List.length_cons]
  omega
theorem wt_app (l m : List Str) : wt (l ++ m) = wt l + wt m := by
  induction l with
  | nil => rw [List.nil_append, wt_nil, Nat.zero_add]
  | cons a r ih => rw [List.cons_append, wt_cons, wt_cons, ih]; omega
theorem wt_drop_le (l : List Str) (k : Nat) : wt (l.drop k) ≤ wt l := by
  have e := wt_app (l.take k) (l.drop k)
  rw [List.take_append_drop] at e
  omega
theorem wt_cut (l : List Str) (k : Nat) (h : k < l.length) : wt (l.take k) + (l[k].length + 1) + wt (l.drop (k + 1)) = wt l := by
  have e := wt_app (l.take k) (l.drop k)
  rw [List.take_append_drop, List.drop_eq_getElem_cons h, wt_cons] at e
  omega
theorem join_wt {y : Str} (hy : y.length = 1) (l : List Str) : (Txt.join y l).length ≤ wt l := by
  rw [len_tl, join_eq, tl_join]
  refine Nat.le_trans (joinL_len _ _) ?_
  rw [List.length_map, ← len_tl, hy, List.map_map]
  unfold wt
  have : (l.map (List.length ∘ tl)) = l.map (·.length) := List.map_congr_left fun x _ => (len_tl x).symm
  rw [this]
  omega
theorem join_asc {y : Str} (hy : asc y) {l : List Str} (h : ∀ x ∈ l, asc x) : asc (Txt.join y l) := by
  intro c hc
  rw [join_eq, tl_join] at hc
  rcases mem_joinL hc with m | ⟨p, hp, m⟩
  · exact hy c m
  · obtain ⟨x, hx, rfl⟩ := List.mem_map.mp hp
    exact h x hx c m
theorem spl_sum {S : List Nat} (hS : S.length = 1) : ∀ (acc l : List Nat), ((spl S 0 acc l).map List.length).sum + (spl S 0 acc l).length ≤ acc.length + l.length + 1
  | acc, [] => by unfold spl; simp
  | acc, c :: r => by
    unfold spl
    rw [hS, Nat.sub_self]
    split
    · have b := spl_sum hS [] r
      simp only [List.map_cons, List.sum_cons, List.length_cons, List.length_nil] at *
      omega
    · have b := spl_sum hS (acc ++ [c]) r
      simp only [List.length_append, List.length_cons, List.length_nil] at *
      omega
theorem split_wt {z y : Str} (hy : (tl y).length = 1) (hk : y.cps.all (· < 256) = true) : wt (Txt.split z y) ≤ z.length + 1 := by
  have e := split_spl z y (fun q => by rw [q] at hy; cases hy) (kind_ok hk)
  have a := spl_sum hy [] (tl z)
  rw [← e, List.map_map, List.length_map] at a
  have : ((Txt.split z y).map (List.length ∘ tl)) = (Txt.split z y).map (·.length) := List.map_congr_left fun x _ => (len_tl x).symm
  rw [this, List.length_nil, Nat.zero_add, ← len_tl] at a
  exact a
theorem cutS_asc {z : Str} {lo hi : Option Int} (h : asc z) : asc (cutS z lo hi) := fun c hc => h c (List.mem_of_mem_drop (List.mem_of_mem_take hc))
theorem app_asc {a b : Str} (ha : asc a) (hb : asc b) : asc (a ++ b) := fun c hc => by
  rw [tl_append] at hc
  rcases List.mem_append.mp hc with h | h
  · exact ha c h
  · exact hb c h
theorem app_len (a b : Str) : (a ++ b).length = a.length + b.length := by rw [len_tl, tl_append, List.length_append, ← len_tl, ← len_tl]
theorem cutV_to (xs : List V) (k : Nat) : cutV xs none (some (k : Int)) = xs.take k := by
  unfold cutV
  rw [HT.sIx_nat, HT.sIx_none, List.drop_zero, Nat.sub_zero]
  by_cases h : k ≤ xs.length
  · rw [Nat.min_eq_left h]
  · rw [Nat.min_eq_right (by omega), List.take_of_length_le (Nat.le_refl _), List.take_of_length_le (by omega)]
theorem cutV_mid (xs : List V) (k m : Nat) (h : m ≤ xs.length) : cutV xs (some (k : Int)) (some (m : Int)) = (xs.drop k).take (m - k) := by
  unfold cutV
  rw [HT.sIx_nat, HT.sIx_nat, Nat.min_eq_left h]
  by_cases hk : k ≤ xs.length
  · rw [Nat.min_eq_left hk]
  · rw [Nat.min_eq_right (by omega), List.drop_of_length_le (Nat.le_refl _), List.drop_of_length_le (by omega), List.take_nil, List.take_nil]
def every : Str := "0123456789 \nabcdefghijklmnopqrstuvwxyz!#$&'()*+,-./:;<=>?@ABCDEFGHIJKLMNOPQRSTUVWXYZ[]^_{|}~"
theorem every_len : every.cps.toList.length = 92 ∧ every.length = 92 ∧ ∀ c ∈ tl every, c < 1114112 := by decide +kernel
theorem every_at {i : Nat} (h : i < 92) : ∃ c, every.cps.toList[i]? = some c ∧ c < 1114112 := by
  have e := every_len
  have h2 : i < every.cps.toList.length := by omega
  exact ⟨_, List.getElem?_eq_getElem h2, e.2.2 _ (List.getElem_mem h2)⟩
theorem cm_to (rs : List Str) (k : Nat) : cutV (rs.map V.str) none (some (k : Int)) = (rs.take k).map V.str := by rw [cutV_to, List.map_take]
theorem cm_mid (rs : List Str) (k : Nat) (h : k < rs.length) : cutV (rs.map V.str) (some (k : Int)) (some ((k : Int) + 1)) = [V.str rs[k]] := by
  have e := cutV_mid (rs.map V.str) k (k + 1) (by rw [List.length_map]; exact h)
  rw [show ((k : Int) + 1) = ((k + 1 : Nat) : Int) from rfl, e, List.drop_eq_getElem_cons (by rw [List.length_map]; exact h), show k + 1 - k = 1 by omega]
  simp
theorem cm_from (rs : List Str) (k : Nat) : cutV (rs.map V.str) (some ((k : Int) + 1)) none = (rs.drop (k + 1)).map V.str := by
  have e := cutV_from (rs.map V.str) (k + 1)
  rw [show ((k : Int) + 1) = ((k + 1 : Nat) : Int) from rfl, e, List.map_drop]
def oddL : List Str := ["", "0", "00", "07", "9999", "10000", "-1", "make", "step", "steps", "Again", "lose", "room", "lost", "x"]
theorem oddL_ok : (oddL.length = 15) ∧ ∀ x ∈ oddL, x.length ≤ 5 ∧ ∀ c ∈ tl x, c < 1114112 := by decide +kernel
theorem Box.not2 {H H' : Hp} {b l p : Addr} {ns : List Int} {s : Int} (B : Box H b l ns s) (k : Kp [] H H') (n : H' p = none) : p ∉ [b, l] := B.not (none_of_kp2 n k)
def spSpoilt : Sp := fun vs H Q _ => ∃ (b l : Addr) (ns : List Int) (s : Int) (z : Str), vs = [.ref b, .str z] ∧ Box H b l ns s ∧ b ≠ l ∧ asc z ∧ z.length ≤ 10000 ∧
  ∀ H' ns' s' z', Kp [b, l] H H' → Box H' b l ns' s' → asc z' → z'.length ≤ 3 * z.length + 20 → Q (.str z') H'
theorem scSpoilt : FnScope ["_law_box", "_law_text", "_law_deed", "_law_place", "_law_every", "_law_sign", "_law_two", "_law_rows", "_law_k", "_law_words", "_law_j", "_law_odd"] ["_law_box", "_law_text"] (defScope sSpoilt) := ⟨rfl, rfl, rfl, by decide +kernel, rfl, by decide +kernel, by decide +kernel⟩
theorem ok_spoilt {f fT : Addr} {fd fdT : FuncData} (F : Fun K "_law_spoilt" "_law_spoilt" sSpoilt f fd) (T : Txt K mg)
    (FT : Fun K "_law_take" "_law_take" sTake fT fdT) (bT : Binds K fdT ["_law_box", "_law_many"] []) (gT : mg "_law_take" = some (.ref fT)) (GT : FnOk P w K mg base CX0 1 fT fdT ["_law_box", "_law_many"] spTake) : FnOk P w K mg base CX0 2 f fd ["_law_box", "_law_text"] spSpoilt := by
  refine F.ok scSpoilt (fun vs H Q E h => ?_) (fun cdv A outer s H vs Q E hr h => ?_)
  · obtain ⟨b, l, ns, s, z, rfl, _⟩ := h
    rfl
  · obtain ⟨b, l, ns, s, z, rfl, B, nbl, az, hz, q⟩ := h
    have hu := hu_of hr
    refine ⟨_, (pss_cons (ps_par (i := 2) (j := 3) (by rfl) scSpoilt.nd rfl rfl (by decide) rfl rfl (pa_cons (pe_call GT (hr.mono (by decide)) (by rfl) gT FT.kp bT .nil pass0 (pa_cons (pv 0) (pa_cons pe_int pa_nil))) (pa_cons (pe_call GT (hr.mono (by decide)) (by rfl) gT FT.kp bT .nil pass0 (pa_cons (pv 0) (pa_cons (pe_op op_add (pe_callB cr_lenS (by rfl) T.len (by decide +kernel) (pa_cons (pv 1) pa_nil)) pe_int) pa_nil))) pa_nil)) (by rfl))
    (pss_cons (ps_set (i := 4) scSpoilt.nd rfl (by first | exact Or.inl rfl | exact Or.inr rfl) pe_str)
    (pss_cons (ps_set (i := 5) scSpoilt.nd rfl (by first | exact Or.inl rfl | exact Or.inr rfl) (pe_ix ix_str (pv 4) (pe_call GT (hr.mono (by decide)) (by rfl) gT FT.kp bT .nil pass0 (pa_cons (pv 0) (pa_cons (pe_ix ix_list (pe_lst (pa_cons pe_int (pa_cons pe_int pa_nil))) (pe_call GT (hr.mono (by decide)) (by rfl) gT FT.kp bT .nil pass0 (pa_cons (pv 0) (pa_cons pe_int pa_nil))) (fun _ _ => rfl)) pa_nil))) (fun _ _ => rfl)))
    (pss_cons (ps_if (pt_cmpR op_eq (pv 2) pe_int (nomark _)) (pss_one (ps_set (i := 5) scSpoilt.nd rfl (by first | exact Or.inl rfl | exact Or.inr rfl) pe_str)) pss_nil)
    (pss_cons (ps_if (pt_cmpR op_lt (pv 2) pe_int (nomark _)) (pss_one (ps_ret (pe_op op_catS (pe_op op_catS (pe_slice sl_str (pv 1) po_none (po_some (pv 3))) (pv 5)) (pe_slice sl_str (pv 1) (po_some (pe_op op_add (pv 3) (pe_callTy cr_int1 (by rfl) T.int (by decide +kernel) (pa_cons (pe_cmpR op_gt (pv 2) pe_int (nomark _)) pa_nil)))) po_none)))) pss_nil)
    (pss_cons (ps_if (pt_cmpR op_eq (pv 2) pe_int (nomark _)) (pss_cons (ps_set (i := 6) scSpoilt.nd rfl (by first | exact Or.inl rfl | exact Or.inr rfl) (pe_revS (pe_slice sl_str (pv 1) (po_some (pv 3)) (po_some (pe_op op_add (pv 3) pe_int)))))
      (pss_one (ps_ret (pe_op op_catS (pe_op op_catS (pe_slice sl_str (pv 1) po_none (po_some (pv 3))) (pv 6)) (pe_slice sl_str (pv 1) (po_some (pe_op op_add (pv 3) pe_int)) po_none))))) pss_nil)
    (pss_cons (ps_set (i := 7) scSpoilt.nd rfl (by first | exact Or.inl rfl | exact Or.inr rfl) (pe_splitN (pv 1) pe_str))
    (pss_cons (ps_set (i := 8) scSpoilt.nd rfl (by first | exact Or.inl rfl | exact Or.inr rfl) (pe_call GT (hr.mono (by decide)) (by rfl) gT FT.kp bT .nil pass0 (pa_cons (pv 0) (pa_cons (pe_callB cr_lenL (by rfl) T.len (by decide +kernel) (pa_cons (pv 7) pa_nil)) pa_nil))))
    (pss_cons (ps_if (pt_cmpR op_lt (pv 2) pe_int (nomark _)) (pss_one (ps_ret (pe_joinN pe_str (pe_op op_cat (pe_op op_cat (pe_slice sl_list (pv 7) po_none (po_some (pv 8))) (pe_op op_rep (pe_slice sl_list (pv 7) (po_some (pv 8)) (po_some (pe_op op_add (pv 8) pe_int))) (pe_ix ix_list (pe_lst (pa_cons pe_int (pa_cons pe_int pa_nil))) (pe_op op_sub (pv 2) pe_int) (fun _ _ => rfl)))) (pe_slice sl_list (pv 7) (po_some (pe_op op_add (pv 8) pe_int)) po_none))))) pss_nil)
    (pss_cons (ps_set (i := 9) scSpoilt.nd rfl (by first | exact Or.inl rfl | exact Or.inr rfl) (pe_splitN (pe_ix ix_list (pv 7) (pv 8) (fun _ _ => rfl)) pe_str))
    (pss_cons (ps_set (i := 10) scSpoilt.nd rfl (by first | exact Or.inl rfl | exact Or.inr rfl) (pe_call GT (hr.mono (by decide)) (by rfl) gT FT.kp bT .nil pass0 (pa_cons (pv 0) (pa_cons (pe_callB cr_lenL (by rfl) T.len (by decide +kernel) (pa_cons (pv 9) pa_nil)) pa_nil))))
    (pss_cons (ps_set (i := 11) scSpoilt.nd rfl (by first | exact Or.inl rfl | exact Or.inr rfl) (pe_lst (pa_cons pe_str (pa_cons pe_str (pa_cons pe_str (pa_cons pe_str (pa_cons pe_str (pa_cons pe_str (pa_cons pe_str (pa_cons pe_str (pa_cons pe_str (pa_cons pe_str (pa_cons pe_str (pa_cons pe_str (pa_cons pe_str (pa_cons pe_str (pa_cons pe_str pa_nil)))))))))))))))))
    (pss_cons (ps_set (i := 9) scSpoilt.nd rfl (by first | exact Or.inl rfl | exact Or.inr rfl) (pe_op op_cat (pe_op op_cat (pe_slice sl_list (pv 9) po_none (po_some (pv 10))) (pe_ix ix_list (pe_lst (pa_cons (pe_lst pa_nil) (pa_cons (pe_op op_rep (pe_lst (pa_cons (pe_ix ix_list (pv 9) (pv 10) (fun _ _ => rfl)) pa_nil)) pe_int) (pa_cons (pe_lst (pa_cons (pe_ix ix_list (pv 11) (pe_call GT (hr.mono (by decide)) (by rfl) gT FT.kp bT .nil pass0 (pa_cons (pv 0) (pa_cons pe_int pa_nil))) (fun _ _ => rfl)) pa_nil)) pa_nil)))) (pe_op op_sub (pv 2) pe_int) (fun _ _ => rfl))) (pe_slice sl_list (pv 9) (po_some (pe_op op_add (pv 10) pe_int)) po_none)))
    (pss_one (ps_ret (pe_joinN pe_str (pe_op op_cat (pe_op op_cat (pe_slice sl_list (pv 7) po_none (po_some (pv 8))) (pe_lst (pa_cons (pe_joinN pe_str (pv 9)) pa_nil))) (pe_slice sl_list (pv 7) (po_some (pe_op op_add (pv 8) pe_int)) po_none)))))))))))))))))), ?_⟩
    simp only [cxK, cxK']
    have hzs : z.length ≤ sizeLine := Nat.le_trans hz (by decide)
    walk_at "w"
    refine ⟨b, l, ns, s, 9, rfl, B, nbl, by decide, by decide, fun H1 ns1 s1 d k1 B1 d0 d9 => ?_⟩
    walk_at "w"
    refine ⟨b, l, ns1, s1, (z.length : Int) + 1, rfl, B1, nbl, by omega, by omega, fun H2 ns2 s2 pl k2 B2 p0 p1 => ?_⟩
    walk_at "w"
    intro p3 n3
    walk_at "w"
    refine ⟨b, l, ns2, s2, 2, rfl, B2.keep (kp_new Kp.refl n3), nbl, by decide, by decide, fun H3 ns3 s3 e k3 B3 e0 e2 => ?_⟩
    have l3 : H3 p3 = some (.lst [.int 14, .int 92]) := k3.k _ _ upd_same (B2.not n3)
    have ae : ∃ m : Int, atI [V.int 14, V.int 92] e = some (.int m) ∧ 0 < m ∧ m ≤ 92 := by
      rcases (show e = 0 ∨ e = 1 by omega) with rfl | rfl
      · exact ⟨14, rfl, by decide, by decide⟩
      · exact ⟨92, rfl, by decide, by decide⟩
    obtain ⟨m, am, m0, m92⟩ := ae
    refine w_ixL (sq_l l3) am ?_
    walk_at "w"
    refine ⟨b, l, ns3, s3, m, rfl, B3, nbl, m0, by omega, fun H4 ns4 s4 g k4 B4 g0 g1 => ?_⟩
    obtain ⟨gn, rfl⟩ : ∃ gn : Nat, g = gn := ⟨g.toNat, by omega⟩
    obtain ⟨c, hc, c1⟩ := every_at (i := gn) (by omega)
    have kk : Kp [b, l] H H4 := kp_app2 k4 (kp_app2 k3 (kp_new' n3 (kp_app2 k2 k1)))
    refine w_ixS (z := every) (by rw [every_len.2.1]; decide) (atI_nat hc) ?_
    obtain ⟨pn, rfl⟩ : ∃ pn : Nat, pl = pn := ⟨pl.toNat, by omega⟩
    have ac : asc ⟨#[c]⟩ := fun x hx => by
      have hx : x ∈ [c] := hx
      rw [List.mem_singleton.mp hx]
      exact c1
    have lc : (⟨#[c]⟩ : Str).length = 1 := rfl
    have cl : ∀ lo hi, (cutS z lo hi).length ≤ z.length := fun lo hi => cutS_length z lo hi
    have ca : ∀ lo hi, asc (cutS z lo hi) := fun lo hi => cutS_asc az
    have fin : ∀ (x : Str) (lo hi lo' hi' : Option Int), x.length ≤ z.length + 1 → asc x → Q (.str (cutS z lo hi ++ x ++ cutS z lo' hi')) H4 := fun x lo hi lo' hi' hx ax => by
      refine q H4 ns4 s4 _ kk B4 (app_asc (app_asc (ca _ _) ax) (ca _ _)) ?_
      rw [app_len, app_len]
      have a := cl lo hi
      have b := cl lo' hi'
      omega
    walk_at "w"
    have s1 : ∀ (x : Str) (lo hi : Option Int), x.length ≤ z.length + 1 → (cutS z lo hi).length + x.length ≤ sizeLine := fun x lo hi hx => szb (by have := cl lo hi; omega)
    have s2 : ∀ (x : Str) (lo hi lo' hi' : Option Int), x.length ≤ z.length + 1 → (cutS z lo hi ++ x).length + (cutS z lo' hi').length ≤ sizeLine := fun x lo hi lo' hi' hx => szb (by rw [app_len]; have := cl lo hi; have := cl lo' hi'; omega)
    by_cases h1 : d = 1
    · have l0 : ("" : Str).length ≤ z.length + 1 := by show 0 ≤ _; omega
      walk_at "w"
      refine w_catS (s1 _ _ _ l0) ?_
      walk_at "w"
      refine w_catS (s2 _ _ _ _ _ l0) ?_
      walk_at "w"
      exact fin _ _ _ _ _ l0 (fun c hc => by cases hc)
    · have l0 : (⟨#[c]⟩ : Str).length ≤ z.length + 1 := by rw [lc]; omega
      walk_at "w"
      by_cases h3 : d < 3
      · by_cases hd : d > 0
        · walk_at "w"
          refine w_catS (s1 _ _ _ l0) ?_
          walk_at "w"
          refine w_catS (s2 _ _ _ _ _ l0) ?_
          walk_at "w"
          exact fin _ _ _ _ _ l0 ac
        · walk_at "w"
          refine w_catS (s1 _ _ _ l0) ?_
          walk_at "w"
          refine w_catS (s2 _ _ _ _ _ l0) ?_
          walk_at "w"
          exact fin _ _ _ _ _ l0 ac
      · walk_at "w"
        by_cases h4 : d = 3
        · walk_at "w"
          have c2 := cl (some (pn : Int)) (some ((pn : Int) + 2))
          walk_at "w"
          have l5 : (revS (cutS z (some (pn : Int)) (some ((pn : Int) + 2)))).length ≤ z.length + 1 := Nat.le_trans (revS_len _) (by omega)
          refine w_catS (s1 _ _ _ l5) ?_
          walk_at "w"
          refine w_catS (s2 _ _ _ _ _ l5) ?_
          walk_at "w"
          exact fin _ _ _ _ _ l5 (fun c hc => ca _ _ c (revS_mem hc))
        · walk_at "w"
          have C := cuts (z := z) (y := "\n") (by decide +kernel) (by decide +kernel)
          have Wr := split_wt (z := z) (y := "\n") (by decide +kernel) (by decide +kernel)
          have ars := C.asc az
          have srs := C.short
          have nrs := C.ne
          have few := C.few
          generalize Txt.split z "\n" = rs at *
          have lrs : rs.length ≤ 10001 := Nat.le_trans few (by omega)
          have prs : 0 < rs.length := List.length_pos_iff.mpr nrs
          have anl : asc ("\n" : Str) := by intro c hc; revert c; decide +kernel
          have asp : asc (" " : Str) := by intro c hc; revert c; decide +kernel
          intro p5 n5
          walk_at "w"
          refine ⟨b, l, ns4, s4, ((rs.map V.str).length : Int), rfl, B4.keep (kp_new Kp.refl n5), nbl, by rw [List.length_map]; omega, by rw [List.length_map]; omega, fun H5 ns5 s5 k k5 B5 k0 kl => ?_⟩
          have h5 : H5 p5 = some (.lst (rs.map V.str)) := k5.k _ _ upd_same (B4.not n5)
          have kk5 : Kp [b, l] H H5 := kp_app2 k5 (kp_new' n5 kk)
          obtain ⟨kn, rfl⟩ : ∃ kn : Nat, k = kn := ⟨k.toNat, by omega⟩
          have hk : kn < rs.length := by rw [List.length_map] at kl; omega
          have wc := wt_cut rs kn hk
          have mk : rs[kn] ∈ rs := List.getElem_mem hk
          walk_at "w"
          by_cases h6 : d < 6
          · rcases (show d = 4 ∨ d = 5 by omega) with rfl | rfl
            · walk_at "w"
              rw [cm_to]
              intro p6 n6
              walk_at "w"
              rw [cm_mid rs kn hk]
              intro p7 n7
              walk_at "w"
              intro p8 n8
              walk_at "w"
              refine w_rep (by walk_at "hg") (by decide) (by decide) (sz rfl) ?_
              rw [show (List.replicate (0 : Int).toNat [V.str rs[kn]]).flatten = ([] : List Str).map V.str from rfl]
              intro p9 n9
              refine w_cat (xs := (rs.take kn).map V.str) (zs := ([] : List Str).map V.str) (by walk_at "hg") (by walk_at "hg") (szb (by rw [List.length_map, List.length_map]; have := List.length_take_le' kn rs; have := (show wt ([] : List Str) = 0 from rfl); simp only [List.length_cons, List.length_nil]; omega)) ?_
              intro p10 n10
              walk_at "w"
              rw [cm_from]
              intro p11 n11
              walk_at "w"
              refine w_cat (xs := (rs.take kn).map V.str ++ ([] : List Str).map V.str) (zs := (rs.drop (kn + 1)).map V.str) (by walk_at "hg") (by walk_at "hg") (szb (by rw [List.length_append, List.length_map, List.length_map, List.length_map, List.length_drop]; have := List.length_take_le' kn rs; simp only [List.length_cons, List.length_nil]; omega)) ?_
              intro p12 n12
              rw [show (rs.take kn).map V.str ++ ([] : List Str).map V.str ++ (rs.drop (kn + 1)).map V.str = (rs.take kn ++ ([] : List Str) ++ rs.drop (kn + 1)).map V.str by rw [List.map_append, List.map_append]]
              have wj : wt (rs.take kn ++ ([] : List Str) ++ rs.drop (kn + 1)) ≤ 3 * z.length + 20 := by
                rw [wt_app, wt_app]
                have := (show wt ([] : List Str) = 0 from rfl)
                have := srs _ mk
                omega
              refine w_join (ys := rs.take kn ++ ([] : List Str) ++ rs.drop (kn + 1)) (sq_l upd_same) ?_ ?_
              · have l1 : ("\n" : Str).length = 1 := rfl
                rw [l1, Nat.mul_one]
                exact Nat.le_trans wj (by omega)
              · refine q _ ns5 s5 _ (by walk_at "kp") (B5.keep (by walk_at "kp")) (join_asc anl fun x hx => ?_) (Nat.le_trans (join_wt rfl _) wj)
                rcases List.mem_append.mp hx with hx | hx
                · rcases List.mem_append.mp hx with hx | hx
                  · exact ars x (List.mem_of_mem_take hx)
                  · exact by cases hx
                · exact ars x (List.mem_of_mem_drop hx)
              
            · walk_at "w"
              rw [cm_to]
              intro p6 n6
              walk_at "w"
              rw [cm_mid rs kn hk]
              intro p7 n7
              walk_at "w"
              intro p8 n8
              walk_at "w"
              refine w_rep (by walk_at "hg") (by decide) (by decide) (sz rfl) ?_
              rw [show (List.replicate (2 : Int).toNat [V.str rs[kn]]).flatten = ([rs[kn], rs[kn]]).map V.str from rfl]
              intro p9 n9
              refine w_cat (xs := (rs.take kn).map V.str) (zs := ([rs[kn], rs[kn]]).map V.str) (by walk_at "hg") (by walk_at "hg") (szb (by rw [List.length_map, List.length_map]; have := List.length_take_le' kn rs; have := (show wt [rs[kn], rs[kn]] = rs[kn].length + 1 + (rs[kn].length + 1) by rw [wt_cons, wt_cons, wt_nil]); simp only [List.length_cons, List.length_nil]; omega)) ?_
              intro p10 n10
              walk_at "w"
              rw [cm_from]
              intro p11 n11
              walk_at "w"
              refine w_cat (xs := (rs.take kn).map V.str ++ ([rs[kn], rs[kn]]).map V.str) (zs := (rs.drop (kn + 1)).map V.str) (by walk_at "hg") (by walk_at "hg") (szb (by rw [List.length_append, List.length_map, List.length_map, List.length_map, List.length_drop]; have := List.length_take_le' kn rs; simp only [List.length_cons, List.length_nil]; omega)) ?_
              intro p12 n12
              rw [show (rs.take kn).map V.str ++ ([rs[kn], rs[kn]]).map V.str ++ (rs.drop (kn + 1)).map V.str = (rs.take kn ++ ([rs[kn], rs[kn]]) ++ rs.drop (kn + 1)).map V.str by rw [List.map_append, List.map_append]]
              have wj : wt (rs.take kn ++ ([rs[kn], rs[kn]]) ++ rs.drop (kn + 1)) ≤ 3 * z.length + 20 := by
                rw [wt_app, wt_app]
                have := (show wt [rs[kn], rs[kn]] = rs[kn].length + 1 + (rs[kn].length + 1) by rw [wt_cons, wt_cons, wt_nil])
                have := srs _ mk
                omega
              refine w_join (ys := rs.take kn ++ ([rs[kn], rs[kn]]) ++ rs.drop (kn + 1)) (sq_l upd_same) ?_ ?_
              · have l1 : ("\n" : Str).length = 1 := rfl
                rw [l1, Nat.mul_one]
                exact Nat.le_trans wj (by omega)
              · refine q _ ns5 s5 _ (by walk_at "kp") (B5.keep (by walk_at "kp")) (join_asc anl fun x hx => ?_) (Nat.le_trans (join_wt rfl _) wj)
                rcases List.mem_append.mp hx with hx | hx
                · rcases List.mem_append.mp hx with hx | hx
                  · exact ars x (List.mem_of_mem_take hx)
                  · exact ars x (by rcases List.mem_cons.mp hx with rfl | hx; exact mk; rcases List.mem_cons.mp hx with rfl | hx; exact mk; cases hx)
                · exact ars x (List.mem_of_mem_drop hx)
              
          · walk_at "w"
            have ek : atI (rs.map V.str) (kn : Int) = some (.str rs[kn]) := atI_nat (by rw [List.getElem?_map, List.getElem?_eq_getElem hk]; rfl)
            refine w_ixL (sq_l h5) ek ?_
            have lr : rs[kn].length ≤ 10000 := Nat.le_trans (srs _ mk) hz
            have arr := ars _ mk
            have srk := srs _ mk
            walk_at "w"
            have C2 := cuts (z := rs[kn]) (y := " ") (by decide +kernel) (by decide +kernel)
            have Ww := split_wt (z := rs[kn]) (y := " ") (by decide +kernel) (by decide +kernel)
            have aws := C2.asc arr
            have sws := C2.short
            have nws := C2.ne
            have few2 := C2.few
            generalize Txt.split rs[kn] " " = ws at *
            have lws : ws.length ≤ 10001 := Nat.le_trans few2 (by omega)
            have pws : 0 < ws.length := List.length_pos_iff.mpr nws
            intro p6 n6
            walk_at "w"
            refine ⟨b, l, ns5, s5, ((ws.map V.str).length : Int), rfl, B5.keep (kp_new Kp.refl n6), nbl, by rw [List.length_map]; omega, by rw [List.length_map]; omega, fun H6 ns6 s6 j k6 B6 j0 jl => ?_⟩
            have h56 : H6 p5 = some (.lst (rs.map V.str)) := k6.k _ _ (upd_old n6 h5) (B4.not n5)
            have h66 : H6 p6 = some (.lst (ws.map V.str)) := k6.k _ _ upd_same (B5.not n6)
            have kk6 : Kp [b, l] H H6 := kp_app2 k6 (kp_new' n6 kk5)
            obtain ⟨jn, rfl⟩ : ∃ jn : Nat, j = jn := ⟨j.toNat, by omega⟩
            have hj : jn < ws.length := by rw [List.length_map] at jl; omega
            have wcj := wt_cut ws jn hj
            have mj : ws[jn] ∈ ws := List.getElem_mem hj
            have ej : atI (ws.map V.str) (jn : Int) = some (.str ws[jn]) := atI_nat (by rw [List.getElem?_map, List.getElem?_eq_getElem hj]; rfl)
            walk_at "w"
            intro p7 n7
            walk_at "w"
            rw [cm_to]
            intro p8 n8
            walk_at "w"
            intro p9 n9
            walk_at "w"
            intro p10 n10
            walk_at "w"
            refine w_rep (by walk_at "hg") (by decide) (by decide) (sz rfl) ?_
            rw [show (List.replicate (2 : Int).toNat [V.str ws[jn]]).flatten = ([ws[jn], ws[jn]] : List Str).map V.str from rfl]
            intro p11 n11
            walk_at "w"
            refine ⟨b, l, ns6, s6, 15, rfl, B6.keep (by walk_at "kp"), nbl, by decide, by decide, fun H7 ns7 s7 o k7 B7 o0 o15 => ?_⟩
            have g5 : H7 p5 = some (.lst (rs.map V.str)) := k7.k _ _ (by walk_at "hg") (B4.not n5)
            have g6 : H7 p6 = some (.lst (ws.map V.str)) := k7.k _ _ (by walk_at "hg") (B5.not n6)
            have g7 : H7 p7 = some (.lst (oddL.map V.str)) := k7.k _ _ (by walk_at "hg") (B6.not n7)
            have g8 : H7 p8 = some (.lst ((ws.take jn).map V.str)) := k7.k _ _ (by walk_at "hg") (B6.not2 (by walk_at "kp") n8)
            have g9 : H7 p9 = some (.lst (([] : List Str).map V.str)) := k7.k _ _ (by walk_at "hg") (B6.not2 (by walk_at "kp") n9)
            have g11 : H7 p11 = some (.lst (([ws[jn], ws[jn]] : List Str).map V.str)) := k7.k _ _ upd_same (B6.not2 (by walk_at "kp") n11)
            have kk7 : Kp [b, l] H H7 := kp_app2 k7 (by walk_at "kp")
            clear n7 n8 n9 n10 n11
            obtain ⟨on, rfl⟩ : ∃ on : Nat, o = on := ⟨o.toNat, by omega⟩
            have ho : on < oddL.length := by rw [oddL_ok.1]; omega
            have mo : oddL[on] ∈ oddL := List.getElem_mem ho
            obtain ⟨lo, ao⟩ := oddL_ok.2 _ mo
            refine w_ixL (xs := oddL.map V.str) (sq_l g7) (atI_nat (by rw [List.getElem?_map, List.getElem?_eq_getElem ho]; rfl)) ?_
            walk_at "w"
            intro p12 n12
            walk_at "w"
            intro p13 n13
            have hX : ∃ (X : List Str) (px : Addr), atI [V.ref p9, V.ref p11, V.ref p12] (d - 6) = some (.ref px) ∧ (upd (upd H7 p12 (.lst [V.str oddL[on]])) p13 (.lst [V.ref p9, V.ref p11, V.ref p12])) px = some (.lst (X.map V.str)) ∧ X.length ≤ 2 ∧ wt X ≤ 2 * ws[jn].length + 8 ∧ ∀ x ∈ X, asc x := by
              rcases (show d = 6 ∨ d = 7 ∨ d = 8 by omega) with rfl | rfl | rfl
              · exact ⟨[], p9, rfl, by walk_at "hg", by decide, by rw [wt_nil]; omega, fun x hx => by cases hx⟩
              · refine ⟨[ws[jn], ws[jn]], p11, rfl, by walk_at "hg", Nat.le_refl _, by rw [wt_cons, wt_cons, wt_nil]; omega, fun x hx => ?_⟩
                rcases List.mem_cons.mp hx with rfl | hx
                · exact aws _ mj
                · rcases List.mem_cons.mp hx with rfl | hx
                  · exact aws _ mj
                  · cases hx
              · refine ⟨[oddL[on]], p12, rfl, by walk_at "hg", (by show 1 ≤ 2; decide), by rw [wt_cons, wt_nil]; omega, fun x hx => ?_⟩
                rcases List.mem_cons.mp hx with rfl | hx
                · exact ao
                · cases hx
            obtain ⟨X, px, aX, hX, lX, wX, asX⟩ := hX
            walk_at "w"
            refine w_cat (xs := (ws.take jn).map V.str) (zs := X.map V.str) (by walk_at "hg") (by walk_at "hg") (szb (by rw [List.length_map, List.length_map]; have := List.length_take_le' jn ws; omega)) ?_
            intro p14 n14
            walk_at "w"
            rw [cm_from]
            intro p15 n15
            walk_at "w"
            refine w_cat (xs := (ws.take jn).map V.str ++ X.map V.str) (zs := (ws.drop (jn + 1)).map V.str) (by walk_at "hg") (by walk_at "hg") (szb (by rw [List.length_append, List.length_map, List.length_map, List.length_map, List.length_drop]; have := List.length_take_le' jn ws; omega)) ?_
            rw [show (ws.take jn).map V.str ++ X.map V.str ++ (ws.drop (jn + 1)).map V.str = (ws.take jn ++ X ++ ws.drop (jn + 1)).map V.str by rw [List.map_append, List.map_append]]
            have wW : wt (ws.take jn ++ X ++ ws.drop (jn + 1)) ≤ 2 * rs[kn].length + 8 := by
              rw [wt_app, wt_app]
              have := sws _ mj
              omega
            have aW : ∀ x ∈ ws.take jn ++ X ++ ws.drop (jn + 1), asc x := fun x hx => by
              rcases List.mem_append.mp hx with hx | hx
              · rcases List.mem_append.mp hx with hx | hx
                · exact aws x (List.mem_of_mem_take hx)
                · exact asX x hx
              · exact aws x (List.mem_of_mem_drop hx)
            generalize ws.take jn ++ X ++ ws.drop (jn + 1) = us at *
            intro p16 n16
            walk_at "w"
            rw [cm_to]
            intro p17 n17
            walk_at "w"
            refine w_join (ys := us) (sq_l (by walk_at "hg")) ?_ ?_
            · have l1 : (" " : Str).length = 1 := rfl
              rw [l1, Nat.mul_one]
              exact Nat.le_trans wW (by omega)
            walk_at "w"
            have lj : (Txt.join " " us).length ≤ 2 * rs[kn].length + 8 := Nat.le_trans (join_wt rfl _) wW
            have aj : asc (Txt.join " " us) := join_asc asp aW
            generalize Txt.join " " us = nr at *
            intro p18 n18
            walk_at "w"
            refine w_cat (xs := (rs.take kn).map V.str) (zs := ([nr] : List Str).map V.str) (by walk_at "hg") (by walk_at "hg") (szb (by rw [List.length_map, List.length_map]; have := List.length_take_le' kn rs; have := (show wt [nr] = nr.length + 1 by rw [wt_cons, wt_nil]); simp only [List.length_cons, List.length_nil]; omega)) ?_
            intro p20 n20
            walk_at "w"
            rw [cm_from]
            intro p21 n21
            walk_at "w"
            refine w_cat (xs := (rs.take kn).map V.str ++ ([nr] : List Str).map V.str) (zs := (rs.drop (kn + 1)).map V.str) (by walk_at "hg") (by walk_at "hg") (szb (by rw [List.length_append, List.length_map, List.length_map, List.length_map, List.length_drop]; have := List.length_take_le' kn rs; simp only [List.length_cons, List.length_nil]; omega)) ?_
            intro p22 n22
            rw [show (rs.take kn).map V.str ++ ([nr] : List Str).map V.str ++ (rs.drop (kn + 1)).map V.str = (rs.take kn ++ ([nr] : List Str) ++ rs.drop (kn + 1)).map V.str by rw [List.map_append, List.map_append]]
            have wj : wt (rs.take kn ++ ([nr] : List Str) ++ rs.drop (kn + 1)) ≤ 3 * z.length + 20 := by
              rw [wt_app, wt_app]
              have := (show wt [nr] = nr.length + 1 by rw [wt_cons, wt_nil])
              have := srs _ mk
              omega
            refine w_join (ys := rs.take kn ++ ([nr] : List Str) ++ rs.drop (kn + 1)) (sq_l upd_same) ?_ ?_
            · have l1 : ("\n" : Str).length = 1 := rfl
              rw [l1, Nat.mul_one]
              exact Nat.le_trans wj (by omega)
            · refine q _ ns7 s7 _ (by walk_at "kp") (B7.keep (by walk_at "kp")) (join_asc anl fun x hx => ?_) (Nat.le_trans (join_wt rfl _) wj)
              rcases List.mem_append.mp hx with hx | hx
              · rcases List.mem_append.mp hx with hx | hx
                · exact ars x (List.mem_of_mem_take hx)
                · exact (by rcases List.mem_cons.mp hx with rfl | hx; exact aj; cases hx)
              · exact ars x (List.mem_of_mem_drop hx)
            
end
end VH

namespace VH
open PySem L2
/-! ### the ten classes, as they stand behind the top -/
structure ClsF (K : PySem.W.Frag) (C CV : Addr) : Prop where
  cls : ∃ cd, PySem.W.clsIn K C = some cd ∧ cd.mro = [.ref C, .ref CV, .type "ValueError", .type "Exception", .type "BaseException", .type "object"] ∧ cd.hasDict = true
  ty : PySem.W.typeIn K (.ref C) = some (.type "type")
  ga : PySem.W.findIn K (.ref C) "__getattribute__" = some (some (.builtin "BaseException.__getattribute__"))
  gg : PySem.W.findIn K (.ref C) "__getattr__" = some none
  cl : PySem.W.findIn K (.ref C) "__class__" = some (some (.builtin "object.__class__"))
section
variable {K : PySem.W.Frag} {C D CV : Addr}
theorem ClsF.sub (c : ClsF K C CV) {b : Value} {r : Bool} (h : ([.ref C, .ref CV, .type "ValueError", .type "Exception", .type "BaseException", .type "object"] : List Value).contains b = r) : PySem.W.subIn K (.ref C) b = some r := by
  obtain ⟨cd, h1, h2, _⟩ := c.cls
  show PySem.W.mroIn K C b = _
  unfold PySem.W.mroIn
  rw [h1, Option.bind_some, h2, h]
  rfl
theorem ClsF.exc (c : ClsF K C CV) (hn : PySem.W.specialIn K (.builtin "object.__class__") "__get__" = some (some (.builtin "getset_descriptor.__get__"))) (ht : PySem.W.takesIn K (.builtin "object.__class__") = some true) : ExcC K C := by
  obtain ⟨cd, h1, h2, h3⟩ := c.cls
  refine ⟨c.ga, c.gg, c.sub ?_, ?_, c.cl, hn, ht, c.sub ?_⟩
  · simp
  · unfold PySem.W.hasDictIn
    rw [h1]
    exact h3
  · simp
theorem ClsF.kit (c : ClsF K C CV) (d : ClsF K D CV) (hv : D ≠ CV) : PySem.W.kitOne K (.ref C) (.ref D) = some (decide (C = D)) := by
  unfold PySem.W.kitOne
  by_cases h : C = D
  · rw [h, decide_eq_true rfl, if_pos (by simp)]
  · have hne : ¬ (Value.ref C == Value.ref D) = true := fun q => h (Value.ref.inj (beq_iff_eq.mp q))
    rw [decide_eq_false h, if_neg hne]
    obtain ⟨cd, h1, _⟩ := d.cls
    show (if ((PySem.W.clsIn K D).isSome && PySem.W.typeIn K (.ref D) == some (.type "type")) = true then PySem.W.subIn K (.ref C) (.ref D) else none) = some false
    rw [if_pos (by rw [h1, d.ty]; rfl)]
    refine c.sub ?_
    simp
    exact ⟨fun q => h q.symm, hv⟩
theorem ClsF.kitV (c : ClsF K C CV) : PySem.W.kitOne K (.ref C) (.type "ValueError") = some true := by
  unfold PySem.W.kitOne
  rw [if_neg (fun q => nomatch (beq_iff_eq.mp q : Value.ref C = Value.type "ValueError"))]
  show (if PySem.W.kitMeta "ValueError" = true then PySem.W.subIn K (.ref C) (.type "ValueError") else none) = some true
  rw [if_pos (by decide +kernel)]
  exact c.sub (by simp)
theorem ClsF.exm (c : ClsF K C CV) (e1 : PySem.W.subIn K (.ref CV) (.type "BaseException") = some true) (e2 : PySem.W.isClsIn K CV = true) (e3 : PySem.W.typeIn K (.ref CV) = some (.type "type")) : PySem.W.exmOne K (.ref C) (.ref CV) = some true := by
  unfold PySem.W.exmOne
  rw [if_pos (by rw [e1]; rfl)]
  show (if ((PySem.W.clsIn K CV).isSome && PySem.W.typeIn K (.ref CV) == some (.type "type")) = true then PySem.W.subIn K (.ref C) (.ref CV) else none) = some true
  rw [if_pos (by have e2 : (PySem.W.clsIn K CV).isSome = true := e2; rw [e2, e3]; rfl)]
  exact c.sub (by simp)
end
abbrev cAt (l : List Addr) (i : Nat) : Addr := l.getD i 0
theorem toldK_mk {K : PySem.W.Frag} {mg : Str → Option Value} {l : List Addr} {CV : Addr} (hl : l.length = 10) (nd : (l ++ [CV]).Nodup) (hc : ∀ C ∈ l, ClsF K C CV)
    (hn : PySem.W.specialIn K (.builtin "object.__class__") "__get__" = some (some (.builtin "getset_descriptor.__get__"))) (ht : PySem.W.takesIn K (.builtin "object.__class__") = some true)
    (e1 : PySem.W.subIn K (.ref CV) (.type "BaseException") = some true) (e2 : PySem.W.isClsIn K CV = true) (e3 : PySem.W.typeIn K (.ref CV) = some (.type "type"))
    (g : ∀ i < 10, ∃ n, clsNames[i]? = some n ∧ mg n = some (.ref (cAt l i))) (gVE : mg "VolumeError" = some (.ref CV)) (nVE : mg "ValueError" = none) (nf : PySem.W.findIn K (.ref (cAt l 2)) "row" = some none) : ToldK K mg (cAt l) CV := by
  have at_ : ∀ i < 10, cAt l i ∈ l ∧ l[i]? = some (cAt l i) := fun i hi => by
    have h : i < l.length := by omega
    have e : l[i]? = some l[i] := List.getElem?_eq_getElem h
    have e2 : cAt l i = l[i] := by unfold cAt; rw [List.getD_eq_getElem?_getD, e]; rfl
    rw [e2]
    exact ⟨List.getElem_mem h, e⟩
  have nd1 := (List.nodup_append.mp nd)
  have inj : ∀ i < 10, ∀ j < 10, (cAt l i = cAt l j) ↔ i = j := fun i hi j hj => by
    refine ⟨fun h => ?_, fun h => by rw [h]⟩
    have a := (at_ i hi).2
    have b := (at_ j hj).2
    rw [← h, ← a] at b
    exact (List.getElem?_inj (by omega) nd1.1).mp b.symm
  have nv : ∀ i < 10, cAt l i ≠ CV := fun i hi => nd1.2.2 _ (at_ i hi).1 CV List.mem_cons_self
  have G : ∀ i < 10, ∀ n, clsNames[i]? = some n → mg n = some (.ref (cAt l i)) := fun i hi n hn => by
    obtain ⟨m, h1, h2⟩ := g i hi
    rw [hn] at h1
    cases h1
    exact h2
  have F2 := hc _ (at_ 2 (by decide)).1
  obtain ⟨cd, h1, h2, h3⟩ := F2.cls
  exact ⟨G 0 (by decide) _ rfl, G 1 (by decide) _ rfl, G 2 (by decide) _ rfl, G 3 (by decide) _ rfl, G 4 (by decide) _ rfl, G 5 (by decide) _ rfl, G 6 (by decide) _ rfl, G 7 (by decide) _ rfl, G 8 (by decide) _ rfl, G 9 (by decide) _ rfl, nVE, gVE,
    fun i hi => (hc _ (at_ i hi).1).exc hn ht, fun i hi => (hc _ (at_ i hi).1).exm e1 e2 e3,
    fun i hi j hj => by rw [(hc _ (at_ i hi).1).kit (hc _ (at_ j hj).1) (nv j hj)]; congr 1; exact decide_eq_decide.mpr (inj i hi j hj),
    fun i hi => (hc _ (at_ i hi).1).kitV, ⟨F2.ga, F2.gg, F2.sub (by simp), by unfold PySem.W.hasDictIn; rw [h1]; exact h3⟩, nf⟩

end VH

namespace VH
open PySem L2 TL LamX
local macro_rules | `(tactic| walk_at "dT") => `(tactic| first
  | ((with_reducible apply iT); (first | assumption | omega))
  | ((with_reducible apply niT); (first | assumption | omega))
  | ((with_reducible apply sT); (first | assumption | rfl))
  | ((with_reducible apply nsT); (first | assumption | decide))
  | ((with_reducible apply nbT); (first | assumption | omega))
  | ((with_reducible apply decide_eq_true); (first | assumption | omega)))
local macro_rules | `(tactic| walk_at "dF") => `(tactic| first
  | ((with_reducible apply iF); (first | assumption | omega))
  | ((with_reducible apply niF); (first | assumption | omega))
  | ((with_reducible apply sF); (first | assumption | decide))
  | ((with_reducible apply nsF); (first | assumption | rfl))
  | ((with_reducible apply nbF); (first | assumption | omega))
  | ((with_reducible apply decide_eq_false); (first | assumption | omega)))
local macro_rules | `(tactic| walk_at "ne") => `(tactic| first | assumption | (apply Ne.symm; assumption) | (apply ne_of_none <;> assumption) | (apply Ne.symm; apply ne_of_none <;> assumption) | (apply ne_new; assumption; walk_at "hg") | (apply Ne.symm; apply ne_new; assumption; walk_at "hg"))
local macro_rules | `(tactic| walk_at "ni") => `(tactic| first | exact ni_nil | (apply ni_cons; walk_at "ne"; walk_at "ni") | assumption)
local macro_rules | `(tactic| walk_at "hg") => `(tactic| first
  | assumption
  | exact upd_same
  | (apply upd_old; assumption; walk_at "hg")
  | (apply upd_oth; walk_at "ne"; walk_at "hg")
  | (apply kp_get; assumption; walk_at "hg"; walk_at "ni"))
local macro_rules | `(tactic| walk_at "mem") => `(tactic| first | exact List.mem_cons_self | (apply List.mem_cons_of_mem; walk_at "mem") | assumption)
local macro_rules | `(tactic| walk_at "no") => `(tactic| first | assumption | (apply none_of_kp2; assumption; walk_at "kp"))
local macro_rules | `(tactic| walk_at "kp") => `(tactic| first
  | assumption
  | exact Kp.refl
  | (apply kp_new'; assumption; walk_at "kp")
  | (apply kp_setn; assumption; walk_at "kp")
  | (apply kp_set'; walk_at "mem"; walk_at "kp")
  | (apply kp_app; assumption; walk_at "kp")
  | (apply kp_app2; assumption; walk_at "kp"))
local macro_rules | `(tactic| walk_at "sz") => `(tactic| first | assumption | exact sz rfl | (apply szb; omega) | (apply szbl; omega) | (apply szb; simp only [List.length_map, List.length_cons, List.length_nil, List.length_append, List.length_set]; omega) | (apply szbl; simp only [List.length_map, List.length_cons, List.length_nil, List.length_append, List.length_set]; omega))
local macro_rules | `(tactic| walk_at "sq") => `(tactic| first
  | assumption
  | (apply sq_l; walk_at "hg")
  | (apply sq_t; walk_at "hg")
  | (apply sqL_new; assumption; walk_at "sq")
  | (apply sqT_new; assumption; walk_at "sq"))
local macro_rules | `(tactic| walk_at "w1") => `(tactic| first
  | with_reducible refine w_seq ?_
  | ((with_reducible apply w_var); exact rfl)
  | with_reducible refine w_c ?_
  | with_reducible refine w_op ?_
  | with_reducible refine w_I0 ?_
  | ((with_reducible apply w_I); (first | assumption | exact Or.inr ⟨by decide, by decide⟩ | exact Or.inl ⟨by decide, by decide⟩ | exact (by show (0 : Int) < _; decide) | exact ⟨by decide, by decide⟩ | exact Or.inl ⟨by omega, by omega⟩ | exact Or.inr ⟨by omega, by omega⟩ | exact ⟨by omega, by omega⟩ | exact (by show (0 : Int) < _; omega)))
  | with_reducible refine w_cons ?_
  | with_reducible refine w_nil ?_
  | with_reducible refine w_asg ?_
  | with_reducible refine w_gName ?_
  | with_reducible refine w_gSub ?_
  | with_reducible refine w_test ?_
  | with_reducible refine w_B ?_
  | with_reducible refine w_ret ?_
  | with_reducible refine w_drop ?_
  | with_reducible refine w_ifS ?_
  | with_reducible refine w_if ?_
  | with_reducible refine w_un ?_
  | with_reducible refine w_U ?_
  | with_reducible refine w_call ?_
  | with_reducible refine w_cb ?_
  | with_reducible refine w_lst ?_
  | with_reducible refine w_tup ?_
  | with_reducible refine w_bm ?_
  | with_reducible refine w_bm0 ?_
  | with_reducible refine w_m1 ?_
  | with_reducible refine w_for ?_
  | with_reducible refine w_iList ?_
  | with_reducible refine w_iTup ?_
  | with_reducible refine w_iStr ?_
  | with_reducible refine w_iR1 ?_
  | with_reducible refine w_iEnum ?_
  | with_reducible refine w_and ?_
  | with_reducible refine w_or ?_
  | with_reducible refine w_not ?_
  | with_reducible refine w_yes ?_
  | with_reducible refine w_isN ?_
  | ((with_reducible apply w_eq); exact rfl)
  | ((with_reducible apply w_ne); exact rfl)
  | with_reducible refine w_chain ?_
  | with_reducible refine w_andV ?_
  | with_reducible refine w_orV ?_
  | with_reducible refine w_notV ?_
  | with_reducible refine w_bl ?_
  | with_reducible refine w_fld ?_
  | with_reducible refine w_sfld ?_
  | with_reducible refine w_next ?_
  | with_reducible refine w_isZ ?_
  | with_reducible refine w_notZ ?_
  | with_reducible refine w_inS ?_
  | with_reducible refine w_notInS ?_
  | ((with_reducible apply w_ifT); exact rfl)
  | ((with_reducible apply w_ifF); exact rfl)
  | ((with_reducible apply w_ifT); walk_at "dT")
  | ((with_reducible apply w_ifF); walk_at "dF")
  | with_reducible refine w_lc ?_
  | with_reducible refine w_aStr ?_
  | ((with_reducible apply w_itL); walk_at "sq")
  | ((with_reducible apply w_itT); walk_at "sq")
  | ((with_reducible apply w_rng); (first | omega | assumption); (first | omega | assumption))
  | ((with_reducible apply w_enum); walk_at "sq")
  | ((with_reducible apply w_lenS); walk_at "sz")
  | ((with_reducible apply w_split); (first | exact rfl | assumption); walk_at "sz")
  | with_reducible refine w_slice ?_
  | with_reducible refine w_part ?_
  | with_reducible refine w_noPart ?_
  | with_reducible refine w_anInt ?_
  | ((with_reducible apply w_slL); walk_at "sq")
  | ((with_reducible apply w_cat); walk_at "hg"; walk_at "hg"; walk_at "sz")
  | ((with_reducible apply w_newSz); walk_at "sz")
  | ((with_reducible apply w_append); walk_at "hg"; walk_at "sz")
  | ((with_reducible apply w_tyD); walk_at "hg")
  | ((with_reducible apply w_gTup); walk_at "sq"; exact rfl)
  | with_reducible refine w_gCons ?_
  | with_reducible refine w_gNil ?_
  | with_reducible refine w_kget2 ?_
  | with_reducible refine w_same ?_
  | ((with_reducible apply w_kat); assumption)
  | ((with_reducible apply w_in); walk_at "sq"; (first | exact rfl | assumption); (first | assumption | exact rfl))
  | ((with_reducible apply w_strI); assumption)
  | with_reducible refine w_disp ?_
  | with_reducible refine w_pcons ?_
  | with_reducible refine w_pnil ?_
  | with_reducible refine w_dget2 ?_
  | ((with_reducible apply w_isD); walk_at "hg")
  | ((with_reducible apply w_dgS); walk_at "hg")
  | ((with_reducible apply w_dupd); walk_at "ne"; walk_at "hg"; walk_at "hg"; (first | decide | walk_at "sz"))
  | ((with_reducible apply w_catS); walk_at "sz")
  | ((with_reducible apply w_slT); walk_at "sq"; assumption)
  | ((with_reducible apply w_ixS); walk_at "sz"; (first | assumption | exact rfl))
  | ((with_reducible apply w_intS); assumption; (first | assumption | omega))
  | ((with_reducible apply w_isi); (first | exact tx_N | exact tx_B | exact tx_I | exact tx_S | (apply tx_L; walk_at "sq") | (apply tx_T; walk_at "sq")); (first | (refine (?_ : _ = some true); decide +kernel) | (refine (?_ : _ = some false); decide +kernel)))
  | ((with_reducible apply w_lenL); walk_at "sq")
  | ((with_reducible apply w_lenT); walk_at "sq")
  | ((with_reducible apply w_listL); walk_at "sq")
  | ((with_reducible apply w_listT); walk_at "sq")
  | ((with_reducible apply w_tupL); walk_at "sq")
  | with_reducible refine w_intI ?_
  | with_reducible refine w_intB ?_
  | with_reducible refine w_strS ?_
  | ((with_reducible apply w_ixXL); walk_at "sq"; (first | exact rfl | exact atI_0 | assumption))
  | ((with_reducible apply w_ixXT); walk_at "sq"; (first | exact rfl | exact atI_0 | assumption))
  | ((with_reducible apply w_tyL); walk_at "sq")
  | with_reducible refine w_tyS ?_
  | ((with_reducible apply w_popAt0); walk_at "hg")
  | ((with_reducible apply w_ixL); walk_at "sq"; (first | exact rfl | exact atI_0 | assumption))
  | ((with_reducible apply w_ixT); walk_at "sq"; (first | exact rfl | exact atI_0 | assumption))
  | ((with_reducible apply w_setL); walk_at "hg"; (first | exact rfl | exact ixN_0)))
local macro_rules | `(tactic| walk_at "w") => `(tactic| repeat walk_at "w1")

section
variable {P : Program} {w : World} {K : PySem.W.Frag} {mg : Str → Option Value} {base : Heap}
def stepD (s : Stp) : PyData := .tuple (.str s.1 :: s.2.map PyData.int)
theorem dpAll_ints {H : Hp} : ∀ (ns : List Int), DpAll K H (ns.map V.int) (ns.map PyData.int)
  | [] => .nil
  | n :: r => .cons (.int n) (dpAll_ints r)
theorem dp_step {H : Hp} {p : Addr} {s : Stp} (h : H p = some (.tup (stepVs s))) : Dp K H (.ref p) (stepD s) := .tup (sq_t h) (.cons (.str _) (dpAll_ints _))
theorem dpAll_steps {H : Hp} : ∀ {xs : List V} {ss : List Stp}, StepsIn H xs ss → DpAll K H xs (ss.map stepD)
  | [], [], _ => .nil
  | [], _ :: _, S => by have := S.1; simp at this
  | _ :: _, [], S => by have := S.1; simp at this
  | x :: xs, s :: ss, S => by
    obtain ⟨p, rfl, h⟩ := S.2 0 x s rfl rfl
    exact .cons (dp_step h) (dpAll_steps ⟨by have := S.1; simpa using this, fun i y t a b => S.2 (i + 1) y t a b⟩)
theorem dp_steps {H : Hp} {a : Addr} {xs : List V} {ss : List Stp} (s : SqL K H a xs) (S : StepsIn H xs ss) : Dp K H (.ref a) (.list (ss.map stepD)) := .lst s (dpAll_steps S)
theorem okD_ints (n : Nat) : ∀ (ns : List Int), (ns.map PyData.int).all (okD n) = true
  | [] => rfl
  | i :: r => by
    show (okD n (.int i) && (r.map PyData.int).all (okD n)) = true
    rw [okD_ints n r]
    cases n <;> rfl
theorem okD_str (n : Nat) (z : Str) : okD n (.str z) = true := by cases n <;> rfl
theorem okD_step {s : Stp} (h : StpOk s) : okD 1 (stepD s) = true := by
  show (decide ((PyData.str s.1 :: s.2.map PyData.int).length ≤ 100000) && (PyData.str s.1 :: s.2.map PyData.int).all (okD 0)) = true
  have f := few h
  rw [decide_eq_true (by rw [List.length_cons, List.length_map]; omega)]
  show (okD 0 (.str s.1) && (s.2.map PyData.int).all (okD 0)) = true
  rw [okD_ints, okD_str]
  rfl
theorem okD_steps {ss : List Stp} (h : ∀ s ∈ ss, StpOk s) (hl : ss.length ≤ 60000) : okD 2 (.list (ss.map stepD)) = true := by
  show (decide ((ss.map stepD).length ≤ 100000) && (ss.map stepD).all (okD 1)) = true
  rw [decide_eq_true (by rw [List.length_map]; omega), Bool.true_and, List.all_eq_true]
  intro d hd
  obtain ⟨s, hs, rfl⟩ := List.mem_map.mp hd
  exact okD_step (h s hs)
theorem lay_ints : ∀ (ns : List Int), PyData.canLayAll0 (ns.map PyData.int) = true ∧ PyData.depthAll (ns.map PyData.int) = 0
  | [] => ⟨rfl, rfl⟩
  | n :: r => ⟨by show (true && PyData.canLayAll0 (r.map PyData.int)) = true; rw [(lay_ints r).1]; rfl, by show max 0 (PyData.depthAll (r.map PyData.int)) = 0; rw [(lay_ints r).2]; rfl⟩
theorem lay_step {s : Stp} (h : StpOk s) : (stepD s).canLay0 = true ∧ (stepD s).depth ≤ 8 := by
  have hw : ∀ p ∈ shapes, PyData.strOk p.1 = true := by decide +kernel
  refine ⟨?_, ?_⟩
  · show (PyData.strOk s.1 && PyData.canLayAll0 (s.2.map PyData.int)) = true
    rw [hw (s.1, s.2.length) (lookup_mem h.1), (lay_ints s.2).1]
    rfl
  · show max 0 (PyData.depthAll (s.2.map PyData.int)) + 1 ≤ 8
    rw [(lay_ints s.2).2]
    decide
theorem shaped_steps {ss : List Stp} (h : ∀ s ∈ ss, StpOk s) : SeqAt.shaped (.list (ss.map stepD)) = true := shaped_list fun d hd => by
  obtain ⟨s, hs, rfl⟩ := List.mem_map.mp hd
  exact lay_step (h s hs)
theorem eqv_steps {ss : List Stp} (h : ∀ s ∈ ss, StpOk s) : PyData.eqv (.list (ss.map stepD)) (.list (ss.map stepD)) = true := SeqAt.eqv_refl _ (SeqAt.canLay_of_shaped (shaped_steps h))
theorem StepsIn.box {H H' : Hp} {xs : List V} {ss : List Stp} {b l : Addr} {ns : List Int} {s : Int} (S : StepsIn H xs ss) (B : Box H b l ns s) (k : Kp [b, l] H H') : StepsIn H' xs ss :=
  ⟨S.1, fun i x t a c => let ⟨p, e, h⟩ := S.2 i x t a c; ⟨p, e, k.k _ _ h (ni_cons (ne_of h B.b (by intro z; cases z)) (ni_cons (ne_of h B.l (by intro z; cases z)) ni_nil))⟩⟩

/-- the steps that rows write, one or none each -/
def stepDo : Option Stp → PyData
  | none => .none
  | some s => stepD s
def StepsO (H : Hp) (vs : List V) (os : List (Option Stp)) : Prop := vs.length = os.length ∧ ∀ (i : Nat) (x : V) (o : Option Stp), vs[i]? = some x → os[i]? = some o → match o with
  | none => x = .non
  | some s => ∃ p, x = V.ref p ∧ H p = some (.tup (stepVs s))
theorem StepsO.keep {H H' : Hp} {vs : List V} {os : List (Option Stp)} (S : StepsO H vs os) (k : Kp [] H H') : StepsO H' vs os :=
  ⟨S.1, fun i x o a b => by
    have h := S.2 i x o a b
    cases o with
    | none => exact h
    | some s => exact let ⟨p, e, h⟩ := h; ⟨p, e, k.k _ _ h ni_nil⟩⟩
theorem StepsO.ext {H H' : Hp} {vs : List V} {os : List (Option Stp)} (S : StepsO H vs os) (k : ExtN H H') : StepsO H' vs os :=
  ⟨S.1, fun i x o a b => by
    have h := S.2 i x o a b
    cases o with
    | none => exact h
    | some s => exact let ⟨p, e, h⟩ := h; ⟨p, e, ext_t k h⟩⟩
theorem StepsO.set {H : Hp} {vs ys : List V} {os : List (Option Stp)} {o : Addr} {u : HO} (S : StepsO H vs os) (ho : H o = some (.lst ys)) : StepsO (upd H o u) vs os :=
  ⟨S.1, fun i x t a b => by
    have h := S.2 i x t a b
    cases t with
    | none => exact h
    | some s => exact let ⟨p, e, h⟩ := h; ⟨p, e, by rw [upd_ne (ne_of h ho (by intro z; cases z))]; exact h⟩⟩
theorem StepsO.snoc {H : Hp} {vs : List V} {os : List (Option Stp)} {x : V} {o : Option Stp} (S : StepsO H vs os) (h : match o with
  | none => x = .non
  | some s => ∃ p, x = V.ref p ∧ H p = some (.tup (stepVs s))) : StepsO H (vs ++ [x]) (os ++ [o]) := by
  refine ⟨by rw [List.length_append, List.length_append, S.1]; rfl, fun i y t a b => ?_⟩
  by_cases hi : i < vs.length
  · rw [List.getElem?_append_left hi] at a
    rw [List.getElem?_append_left (by rw [← S.1]; exact hi)] at b
    exact S.2 i y t a b
  · rw [List.getElem?_append_right (by omega)] at a
    rw [List.getElem?_append_right (by rw [← S.1]; omega), ← S.1] at b
    cases e : i - vs.length with
    | zero =>
      rw [e] at a b
      have a : x = y := Option.some.inj a
      have b : o = t := Option.some.inj b
      subst a b
      exact h
    | succ k =>
      rw [e] at a
      simp at a
theorem StepsO.all {H : Hp} {vs : List V} {ss : List Stp} (S : StepsO H vs (ss.map some)) : StepsIn H vs ss :=
  ⟨by rw [S.1, List.length_map], fun i x s a b => S.2 i x (some s) a (by rw [List.getElem?_map, b]; rfl)⟩
theorem dpAll_stepsO {H : Hp} : ∀ {xs : List V} {os : List (Option Stp)}, StepsO H xs os → DpAll K H xs (os.map stepDo)
  | [], [], _ => .nil
  | [], _ :: _, S => by have := S.1; simp at this
  | _ :: _, [], S => by have := S.1; simp at this
  | x :: xs, o :: os, S => by
    have h := S.2 0 x o rfl rfl
    have r := dpAll_stepsO (H := H) (xs := xs) (os := os) ⟨by have := S.1; simpa using this, fun i y t a b => S.2 (i + 1) y t a b⟩
    cases o with
    | none =>
      have h : x = .non := h
      subst h
      exact .cons .non r
    | some s =>
      obtain ⟨p, rfl, hp⟩ := (show ∃ p, x = V.ref p ∧ H p = some (.tup (stepVs s)) from h)
      exact .cons (dp_step hp) r
theorem number_rng {z : Str} {n : Int} (h : numberOf z = some n) : 0 ≤ n ∧ n < 10000 := by
  unfold numberOf at h
  split at h
  · rename_i c
    split at h
    · cases h
      have := digs_small c.2 c.1.2
      omega
    · cases h
  · cases h
theorem allSome_mem : ∀ {os : List (Option Int)} {ns : List Int}, allSome os = some ns → os = ns.map some
  | [], ns, h => by
    have h : some [] = some ns := h
    cases h
    rfl
  | none :: r, ns, h => by cases h
  | some n :: r, ns, h => by
    have h : (allSome r).map (n :: ·) = some ns := h
    cases e : allSome r with
    | none => rw [e] at h; cases h
    | some m =>
      rw [e] at h
      cases h
      rw [allSome_mem e]
      rfl
theorem step_ok {z : Str} {s : Stp} (h : stepOf z = some s) : StpOk s := by
  unfold stepOf at h
  cases e : Txt.split z " " with
  | nil => rw [e] at h; cases h
  | cons w r =>
    rw [e] at h
    have h : (if shapeOf w = some r.length then (allSome (r.map numberOf)).map (fun ns => (w, ns)) else none) = some s := h
    split at h
    · rename_i hs
      cases e2 : allSome (r.map numberOf) with
      | none => rw [e2] at h; cases h
      | some ns =>
        rw [e2] at h
        cases h
        have e3 := allSome_mem e2
        have l := congrArg List.length e3
        rw [List.length_map, List.length_map] at l
        refine ⟨by show shapeOf w = some ns.length; rw [hs, l], fun n hn => ?_⟩
        have m : some n ∈ r.map numberOf := by rw [e3]; exact List.mem_map.mpr ⟨n, hn, rfl⟩
        obtain ⟨x, _, hx⟩ := List.mem_map.mp m
        exact number_rng hx
    · cases h
theorem res_ok {z : Str} : ∀ s, some s ∈ resOf z → StpOk s := fun s hs => by
  obtain ⟨r, _, hr⟩ := List.mem_map.mp hs
  exact step_ok hr
theorem shaped_stepsO {os : List (Option Stp)} (h : ∀ s, some s ∈ os → StpOk s) : SeqAt.shaped (.list (os.map stepDo)) = true := shaped_list fun d hd => by
  obtain ⟨o, ho, rfl⟩ := List.mem_map.mp hd
  cases o with
  | none => exact ⟨rfl, by decide⟩
  | some s => exact lay_step (h s ho)
theorem eqv_non (o : Option Stp) : PyData.eqv (stepDo o) .none = o.isNone := by
  cases o with
  | none => decide +kernel
  | some s => rfl
theorem os_cases : ∀ (os : List (Option Stp)), (∃ ss : List Stp, os = ss.map some) ∨ ∃ i : Nat, os[i]? = some none ∧ ∀ j < i, ∃ s, os[j]? = some (some s)
  | [] => .inl ⟨[], rfl⟩
  | none :: r => .inr ⟨0, rfl, fun j h => absurd h (Nat.not_lt_zero _)⟩
  | some s :: r => by
    rcases os_cases r with ⟨ss, h⟩ | ⟨i, h1, h2⟩
    · exact .inl ⟨s :: ss, by rw [h]; rfl⟩
    · refine .inr ⟨i + 1, h1, fun j hj => ?_⟩
      cases j with
      | zero => exact ⟨s, rfl⟩
      | succ j => exact h2 j (by omega)
theorem room65 {k : Nat} {A : Around} (r : Room k A) : A.units + 65 < cLine := by have := r.un; omega
theorem Tabs.box {T : List (Addr × Str)} {H H' : Hp} {b l : Addr} {ns : List Int} {s : Int} (t : Tabs T H) (B : Box H b l ns s) (k : Kp [b, l] H H') : Tabs T H' := Tabs.kp t k fun a ha => by
  rcases List.mem_cons.mp ha with rfl | ha
  · exact ⟨_, B.b⟩
  · rw [List.mem_singleton.mp ha]
    exact ⟨_, B.l⟩
theorem Box.ext {H H' : Hp} {b l : Addr} {ns : List Int} {s : Int} (B : Box H b l ns s) (k : ExtN H H') : Box H' b l ns s := ⟨ext_l k B.b, ext_l k B.l, B.s0, B.s1⟩
theorem Tabs.setl {T : List (Addr × Str)} {H : Hp} {r : Addr} {xs : List V} {o : HO} (t : Tabs T H) (e : H r = some (.lst xs)) : Tabs T (upd H r o) := Tabs.kp (F := [r]) t (kp_set' List.mem_cons_self Kp.refl) fun a ha => by
  rw [List.mem_singleton.mp ha]
  exact ⟨_, e⟩
theorem Box.setl {H : Hp} {b l r : Addr} {ns : List Int} {s : Int} {o : HO} (B : Box H b l ns s) (n : r ∉ [b, l]) : Box (upd H r o) b l ns s :=
  ⟨by rw [upd_ne (fun e => n (by rw [e]; exact List.mem_cons_self))]; exact B.b, by rw [upd_ne (fun e => n (by rw [e]; exact List.mem_cons_of_mem _ List.mem_cons_self))]; exact B.l, B.s0, B.s1⟩
theorem words_sum {s : Stp} (h : StpOk s) : ((wordsOf s).map (·.length)).sum + (wordsOf s).length * (" " : Str).length ≤ 16777216 := by
  have a : ((wordsOf s).map (·.length)).sum ≤ (wordsOf s).length * 7 := sum_le fun x hx => words_len h x hx
  have b : (wordsOf s).length ≤ 4 := by
    show (s.2.map numT).length + 1 ≤ 4
    rw [List.length_map]
    have := few h
    omega
  have c : (" " : Str).length = 1 := by decide +kernel
  rw [c]
  omega
theorem row_asc {s : Stp} (h : StpOk s) : asc (rowOf s) := by
  intro c hc
  unfold rowOf at hc
  rw [join_eq, tl_join] at hc
  have hw : ∀ p ∈ shapes, ∀ c ∈ tl p.1, c < 1114112 := by decide +kernel
  have hb : ∀ c ∈ tl (" " : Str), c < 1114112 := by decide +kernel
  rcases mem_joinL hc with m | ⟨p, hp, m⟩
  · exact hb c m
  · obtain ⟨x, hx, rfl⟩ := List.mem_map.mp hp
    rcases List.mem_cons.mp hx with rfl | hx
    · exact hw (s.1, s.2.length) (lookup_mem h.1) c m
    · obtain ⟨n, hn, rfl⟩ := List.mem_map.mp hx
      rw [tl_numT (h.2 n hn).1] at m
      have r := numL_digits _ c m
      omega
theorem w_lam {T : List (Addr × Str)} {TT : (XK → Hp → VK → Prop) → Hp → VK → Prop} {t : XK → TE} {σ : L2.St} {H : Hp} {Q : VK} (hT : Tabs T H) (h : ∀ H1, ExtN H H1 → Tabs T H1 → TT (fun E H' Q' => t E σ H' Q') H1 Q) : tLam T TT t σ H Q := ⟨hT, h⟩
theorem w_toldV {c : Nat → Addr} {tl : XK → Hp → VK → Prop} {H : Hp} {Q : VK} (h : tl (fun cls d H' => ∃ w v, TEx c cls d H' w v ∧ ∀ p H'', Kp [] H' H'' → H' p = none → H'' p = some (.tup [.str w, v]) → Q (.ref p) H'') H Q) : TToldV c tl H Q := h
theorem any_non (os : List (Option Stp)) : ((os.map stepDo).any fun z => PyData.eqv z .none) = os.any Option.isNone := by
  rw [List.any_map]
  congr 1
  funext o
  exact eqv_non o
theorem map_some_inj {a b : List Stp} (h : a.map some = b.map some) : a = b := by
  induction a generalizing b with
  | nil => cases b with
    | nil => rfl
    | cons x y => cases h
  | cons x r ih =>
    cases b with
    | nil => cases h
    | cons y s =>
      injection h with h1 h2
      rw [Option.some.inj h1, ih h2]
theorem dp_bad {H : Hp} {p : Addr} {w : Str} {n : Int} (h : H p = some (.tup [.str w, .int n])) : Dp K H (.ref p) (.tuple [.str w, .int n]) := .tup (sq_t h) (.cons (.str _) (.cons (.int _) .nil))
def oddT : List Str := ["", " ", "\n", "make 1 2", "step ", " step", "read 1", "again\n", "\nagain", "arm -1", "room 07", "lose"]
theorem oddT_ok : oddT.length = 12 ∧ ∀ x ∈ oddT, x.length ≤ 10 ∧ ∀ c ∈ tl x, c < 1114112 := by decide +kernel
theorem wt_rows : ∀ (ss : List Stp), (∀ s ∈ ss, StpOk s) → wt (ss.map rowOf) ≤ 33 * ss.length
  | [], _ => by show 0 ≤ _; omega
  | s :: r, h => by
    have a := row_len (h s List.mem_cons_self)
    have b := wt_rows r fun x hx => h x (List.mem_cons_of_mem _ hx)
    rw [List.map_cons, wt_cons, List.length_cons]
    omega
/-- the table of the law's code object, of the lambda that it makes -/
def LT (PL : Addr) : List (Addr × Str) := [(PL, "law.<locals>.<lambda>")]
def spLaw (K : PySem.W.Frag) (PL : Addr) : Sp := fun vs H Q _ => ∃ (a : Addr) (ns : List Int), vs = [.ref a] ∧ SqL K H a (ns.map V.int) ∧ ns.length ≤ 63 ∧ Tabs (LT PL) H ∧ ∀ H', Q (.bl true) H'
theorem scLaw : FnScope ["_law_script", "_law_box", "_law_odd", "_law_turn", "_law_rows", "_law_k", "_law_part", "_law_text", "_law_change", "_law_found", "_law_row", "_law_due", "_law_again"] ["_law_script"] (defScope sLaw) := ⟨rfl, rfl, rfl, by decide +kernel, rfl, by decide +kernel, by decide +kernel⟩
theorem ok_law {f fB fT fA fY fS fP fR fTo cL PL CV : Addr} {c : Nat → Addr} {fd fdB fdT fdA fdY fdS fdP fdR fdTo : FuncData} (F : FunC K "law" "law" sLaw f (.ref cL) fd) (T : Txt K mg) (TK : ToldK K mg c CV) (TB : TabB base mg cL PL)
    (FB : Fun K "_law_begun" "_law_begun" sBegun fB fdB) (bB : Binds K fdB ["_law_script"] []) (gB : mg "_law_begun" = some (.ref fB)) (GB : FnOk P w K mg base CX0 1 fB fdB ["_law_script"] (spBegun K))
    (FT : Fun K "_law_take" "_law_take" sTake fT fdT) (bT : Binds K fdT ["_law_box", "_law_many"] []) (gT : mg "_law_take" = some (.ref fT)) (GT : FnOk P w K mg base CX0 1 fT fdT ["_law_box", "_law_many"] spTake)
    (FA : Fun K "_law_alike" "_law_alike" sAlike fA fdA) (bA : Binds K fdA ["_law_found", "_law_due"] []) (gA : mg "_law_alike" = some (.ref fA)) (GA : FnOk P w K mg base CX0 3 fA fdA ["_law_found", "_law_due"] (spAlike K 3))
    (FY : Fun K "_law_anystep" "_law_anystep" sAny fY fdY) (bY : Binds K fdY ["_law_box"] []) (gY : mg "_law_anystep" = some (.ref fY)) (GY : FnOk P w K mg base CX0 2 fY fdY ["_law_box"] spAny)
    (FS : Fun K "_law_step" "_law_step" sLStep fS fdS) (bS : Binds K fdS ["_law_row"] []) (gS : mg "_law_step" = some (.ref fS)) (GS : FnOk P w K mg base CX0 2 fS fdS ["_law_row"] spStepOf)
    (FP : Fun K "_law_spoilt" "_law_spoilt" sSpoilt fP fdP) (bP : Binds K fdP ["_law_box", "_law_text"] []) (gP : mg "_law_spoilt" = some (.ref fP)) (GP : FnOk P w K mg base CX0 2 fP fdP ["_law_box", "_law_text"] spSpoilt)
    (FTo : Fun K "_law_told" "_law_told" sTold fTo fdTo) (bTo : Binds K fdTo ["_law_work"] []) (gTo : mg "_law_told" = some (.ref fTo))
    (FR : Fun K "read" "read" sRead fR fdR) (bR : Binds K fdR ["text"] []) (gR : mg "read" = some (.ref fR)) (GR : FnOk P w K mg base (L2.CX P w) 3 fR fdR ["text"] (spRead K (c 2))) : FnOk P w K mg base CX0 6 f fd ["_law_script"] (spLaw K PL) := by
  obtain ⟨ocT, odT, kVT, docT, pmT, anT, cdT, ctT, oslT, rfl, lkT, hcT⟩ := FTo.ex
  refine F.ok scLaw (fun vs H Q E h => ?_) (fun A outer s H vs Q E hr h => ?_)
  · obtain ⟨a, ns, rfl, _⟩ := h
    rfl
  · obtain ⟨a, ns, rfl, hS, hl, TT, q⟩ := h
    have hu := hu_of hr
    refine ⟨_, (pss_cons (ps_set (i := 1) scLaw.nd rfl (by first | exact Or.inl rfl | exact Or.inr rfl) (pe_call GB (hr.mono (by decide)) (by rfl) gB FB.kp bB .nil pass0 (pa_cons (pv 0) pa_nil)))
    (pss_cons (ps_set (i := 2) scLaw.nd rfl (by first | exact Or.inl rfl | exact Or.inr rfl) (pe_lst (pa_cons pe_str (pa_cons pe_str (pa_cons pe_str (pa_cons pe_str (pa_cons pe_str (pa_cons pe_str (pa_cons pe_str (pa_cons pe_str (pa_cons pe_str (pa_cons pe_str (pa_cons pe_str (pa_cons pe_str pa_nil))))))))))))))
    (pss_cons (ps_for PassesOwn.never rfl (pi_range1 (by rfl) T.range (pa_cons pe_int pa_nil)) (pg_name (i := 3) scLaw.nd rfl (by first | exact Or.inl rfl | exact Or.inr rfl))
      (pss_cons (ps_set (i := 4) scLaw.nd rfl (by first | exact Or.inl rfl | exact Or.inr rfl) (pe_lst pa_nil))
      (pss_cons (ps_for PassesOwn.never rfl (pi_range1 (by rfl) T.range (pa_cons (pe_call GT (hr.mono (by decide)) (by rfl) gT FT.kp bT .nil pass0 (pa_cons (pv 1) (pa_cons pe_int pa_nil))) pa_nil)) (pg_name (i := 5) scLaw.nd rfl (by first | exact Or.inl rfl | exact Or.inr rfl))
        (pss_one (ps_expr (pe_bm PySem.F.plainAttrs_list PySem.F.slot_list_append PySem.F.type_list_append mt_append (pv 4) (pa_cons (pe_joinN pe_str (pe_lcD (own := [("_law_part", 6)]) rfl scLaw.nd (pi_tup (pe_call GY (hr.mono (by decide)) (by rfl) gY FY.kp bY .nil pass0 (pa_cons (pv 1) pa_nil))) (blkOk_by (N := ["_law_script", "_law_box", "_law_odd", "_law_turn", "_law_rows", "_law_k", "_law_part", "_law_text", "_law_change", "_law_found", "_law_row", "_law_due", "_law_again"]) (sc := defScope sLaw) (by decide +kernel)) (fun _ _ _ _ _ => (pg_name (i := 6) scLaw.nd rfl (by first | exact Or.inl rfl | exact Or.inr rfl))) (fun _ _ _ _ _ => pts_nil) (fun _ _ _ _ _ => (pe_callTy cr_strX (by rfl) T.str (by decide +kernel) (pa_cons (pv 6) pa_nil))))) pa_nil)))))
      (pss_cons (ps_set (i := 7) scLaw.nd rfl (by first | exact Or.inl rfl | exact Or.inr rfl) (pe_joinN pe_str (pv 4)))
      (pss_cons (ps_if (pt_cmpR op_eq (pe_call GT (hr.mono (by decide)) (by rfl) gT FT.kp bT .nil pass0 (pa_cons (pv 1) (pa_cons pe_int pa_nil))) pe_int (nomark _)) (pss_one (ps_set (i := 7) scLaw.nd rfl (by first | exact Or.inl rfl | exact Or.inr rfl) (pe_ix ix_list (pv 2) (pe_call GT (hr.mono (by decide)) (by rfl) gT FT.kp bT .nil pass0 (pa_cons (pv 1) (pa_cons pe_int pa_nil))) (fun _ _ => rfl)))) pss_nil)
      (pss_cons (ps_for PassesOwn.never rfl (pi_range1 (by rfl) T.range (pa_cons (pe_call GT (hr.mono (by decide)) (by rfl) gT FT.kp bT .nil pass0 (pa_cons (pv 1) (pa_cons pe_int pa_nil))) pa_nil)) (pg_name (i := 8) scLaw.nd rfl (by first | exact Or.inl rfl | exact Or.inr rfl))
        (pss_one (ps_set (i := 7) scLaw.nd rfl (by first | exact Or.inl rfl | exact Or.inr rfl) (pe_call GP (hr.mono (by decide)) (by rfl) gP FP.kp bP .nil pass0 (pa_cons (pv 1) (pa_cons (pv 7) pa_nil))))))
      (pss_cons (ps_set (i := 9) scLaw.nd rfl (by first | exact Or.inl rfl | exact Or.inr rfl) (pe_ifExp (pt_cmpR op_ne (pv 7) pe_str (nomark _)) (pe_lcD (own := [("_law_row", 10)]) rfl scLaw.nd (pi_list (pe_splitN (pv 7) pe_str)) (blkOk_by (N := ["_law_script", "_law_box", "_law_odd", "_law_turn", "_law_rows", "_law_k", "_law_part", "_law_text", "_law_change", "_law_found", "_law_row", "_law_due", "_law_again"]) (sc := defScope sLaw) (by decide +kernel)) (fun _ _ _ _ _ => (pg_name (i := 10) scLaw.nd rfl (by first | exact Or.inl rfl | exact Or.inr rfl))) (fun _ _ _ _ _ => pts_nil) (fun _ _ _ _ _ => (pe_call GS (hr.mono (by decide)) (by rfl) gS FS.kp bS .nil pass0 (pa_cons (pv 10) pa_nil)))) (pe_lst pa_nil)))
      (pss_cons (ps_set (i := 11) scLaw.nd rfl (by first | exact Or.inl rfl | exact Or.inr rfl) (pe_ifExp (pt_cmpR (op_inD (room65 hr)) pe_non (pv 9) (by rfl)) (pe_tup (pa_cons pe_str (pa_cons (pe_bm PySem.F.plainAttrs_list PySem.F.slot_list_index PySem.F.type_list_index (mt_indexD (room65 hr)) (pv 9) (pa_cons pe_non pa_nil)) pa_nil))) (pv 9)))
      (pss_one (ps_for PassesOwn.never rfl (pi_range1 (by rfl) T.range (pa_cons pe_int pa_nil)) (pg_name (i := 12) scLaw.nd rfl (by first | exact Or.inl rfl | exact Or.inr rfl))
        (pss_one (ps_if (pt_not (pt_val (pe_call GA (hr.mono (by decide)) (by rfl) gA FA.kp bA .nil pass0 (pa_cons (pe_lamcall (T := LT PL) (by rfl) gTo FTo.kp lkT hcT bTo scTold rfl (Or.inl rfl) (told_gives2 T TK) TB rfl List.mem_cons_self (fun p hp _ => by rw [List.mem_singleton.mp hp]; rfl) hr (lamS_by (by show lamSB (defScope sLaw) _ = true; decide +kernel)) (by rfl) (fun _ _ _ _ _ => by rfl) (fun A' outer' s' H' E' f' c'' hr2 => (pe_call GR (hr2.mono (by decide)) (by rfl) gR FR.kp bR .nil pass_lam (pa_cons (pv 7) pa_nil)))) (pa_cons (pv 11) pa_nil))))) (pss_one (ps_ret pe_bl)) pss_nil))))))))))))
    (pss_one (ps_ret pe_bl))))), ?_⟩
    simp only [cxK, cxK']
    walk_at "w"
    refine ⟨a, ns, rfl, hS, hl, fun H1 b l s1 k1 nb nl nbl B1 => ?_⟩
    have T1 := Tabs.kp0 TT k1
    walk_at "w"
    intro o no
    walk_at "w"
    have fo : o ∉ [b, l] := B1.not no
    refine for_range (fun i σ H' => ∃ (ns : List Int) (s : Int) (y3 y4 y5 y6 y7 y8 y9 y10 y11 y12 : Option V), σ = [some (.ref a), some (.ref b), some (.ref o), y3, y4, y5, y6, y7, y8, y9, y10, y11, y12] ∧ Box H' b l ns s ∧ H' o = some (.lst (oddT.map V.str)) ∧ Tabs (LT PL) H')
      ⟨ns, s1, none, none, none, none, none, none, none, none, none, none, rfl, B1.keep (kp_new Kp.refl no), upd_same, Tabs.kp0 T1 (kp_new Kp.refl no)⟩ (fun i σ H2 hi h => ?_) (fun σ H2 h => ?_)
    · obtain ⟨ns2, s2, y3, y4, y5, y6, y7, y8, y9, y10, y11, y12, rfl, B2, eo2, T2⟩ := h
      walk_at "w"
      intro r nr
      have fr : r ∉ [b, l] := B2.not nr
      walk_at "w"
      refine ⟨b, l, ns2, s2, 8, rfl, B2.keep (kp_new Kp.refl nr), nbl, by decide, by decide, fun H3 ns3 s3 m k3 B3 m0 m1 => ?_⟩
      have er3 : H3 r = some (.lst []) := k3.k _ _ upd_same fr
      have eo3 : H3 o = some (.lst (oddT.map V.str)) := k3.k _ _ (upd_old nr eo2) fo
      have fro : r ≠ o := Ne.symm (ne_of_none eo2 nr)
      have T3 := Tabs.box (Tabs.kp0 T2 (kp_new Kp.refl nr)) (B2.keep (kp_new Kp.refl nr)) k3
      walk_at "w"
      refine for_range (n := m.toNat) (fun j σ H' => ∃ (ns : List Int) (s : Int) (ss : List Stp) (y5 y6 y7 y8 y9 y10 y11 y12 : Option V), σ = [some (.ref a), some (.ref b), some (.ref o), some (.int (0 + (i : Int))), some (.ref r), y5, y6, y7, y8, y9, y10, y11, y12] ∧ Box H' b l ns s ∧ H' o = some (.lst (oddT.map V.str)) ∧ Tabs (LT PL) H' ∧ H' r = some (.lst ((ss.map rowOf).map V.str)) ∧ ss.length = j ∧ ∀ s ∈ ss, StpOk s)
        ⟨ns3, s3, [], _, _, _, _, _, _, _, _, rfl, B3, eo3, T3, er3, rfl, fun _ h => by cases h⟩ (fun j σ H4 hj h => ?_) (fun σ H4 h => ?_)
      · obtain ⟨ns4, s4, ss, y5, y6, y7, y8, y9, y10, y11, y12, rfl, B4, eo4, T4, er4, hl4, ok⟩ := h
        walk_at "w"
        refine ⟨b, l, ns4, s4, rfl, B4, nbl, fun H5 ns5 s5 p st k5 B5 np hp os => ?_⟩
        have eo5 := k5.k _ _ eo4 fo
        have er5 := k5.k _ _ er4 fr
        have T5 := Tabs.box T4 B4 k5
        walk_at "w"
        intro D2 nD2
        refine lc_tup (xs := stepVs st) (fun t H' => Kp [] H5 H' ∧ H' D2 = some (.lst (((wordsOf st).take t).map V.str))) ⟨kp_new Kp.refl nD2, upd_same⟩ (fun t H' _ h => sq_t (h.1.k _ _ hp ni_nil)) (fun t y H' hy h => ?_) (fun H' h => ?_)
        · obtain ⟨k2, hD2⟩ := h
          have fin : ∀ z : Str, (wordsOf st)[t]? = some z → ∃ acc, H' D2 = some (.lst acc) ∧ acc.length < sizeLine ∧ Kp [] H5 (upd H' D2 (.lst (acc ++ [V.str z]))) ∧ upd H' D2 (.lst (acc ++ [V.str z])) D2 = some (.lst (((wordsOf st).take (t + 1)).map V.str)) := by
            intro z hz
            refine ⟨_, hD2, ?_, kp_setn nD2 k2, ?_⟩
            · have a : (wordsOf st).length ≤ 4 := by
                show (st.2.map numT).length + 1 ≤ 4
                rw [List.length_map]
                have := few os
                omega
              rw [List.length_map]
              have b := List.length_take_le' t (wordsOf st)
              walk_at "sz"
            · rw [upd_same, List.take_add_one, hz]
              simp
          cases t with
          | zero =>
            have ey : V.str st.1 = y := Option.some.inj hy
            subst ey
            walk_at "w"
            refine ⟨rfl, ?_⟩
            walk_at "w"
            exact fin _ rfl
          | succ t =>
            have hy2 : (st.2.map V.int)[t]? = some y := hy
            rw [List.getElem?_map] at hy2
            cases e : st.2[t]? with
            | none => rw [e] at hy2; cases hy2
            | some n =>
              rw [e] at hy2
              have ey : V.int n = y := Option.some.inj hy2
              subst ey
              have bn := os.2 n (List.mem_of_getElem? e)
              have lg := log2_small bn.1 bn.2
              walk_at "w"
              refine ⟨rfl, ?_⟩
              walk_at "w"
              refine fin _ ?_
              show (st.2.map numT)[t]? = _
              rw [List.getElem?_map, e]
              rfl
        · obtain ⟨k2, hD2⟩ := h
          have hD2 : H' D2 = some (.lst ((wordsOf st).map V.str)) := by
            have el : (stepVs st).length = (wordsOf st).length := by
              show (st.2.map V.int).length + 1 = (st.2.map numT).length + 1
              rw [List.length_map, List.length_map]
            rw [hD2, el, List.take_length]
          refine w_join (sq_l hD2) (words_sum os) ?_
          have er6 := k2.k _ _ er5 ni_nil
          have lr : ((ss.map rowOf).map V.str).length ≤ 10 := by rw [List.length_map, List.length_map]; omega
          walk_at "w"
          refine ⟨ns5, s5, ss ++ [st], _, _, _, _, _, _, _, _, rfl, (B5.keep k2).setl fr, ?_, Tabs.setl (Tabs.kp0 T5 k2) er6, ?_, by rw [List.length_append, hl4]; rfl, fun x hx => ?_⟩
          · rw [upd_ne (Ne.symm fro)]
            exact k2.k _ _ eo5 ni_nil
          · rw [upd_same, List.map_append, List.map_append]
            rfl
          · rcases List.mem_append.mp hx with hx | hx
            · exact ok x hx
            · rw [List.mem_singleton.mp hx]
              exact os
      · obtain ⟨ns4, s4, ss, y5, y6, y7, y8, y9, y10, y11, y12, rfl, B4, eo4, T4, er4, hl4, ok⟩ := h
        have anl : asc ("\n" : Str) := by intro c hc; revert c; decide +kernel
        have wr : wt (ss.map rowOf) ≤ 231 := Nat.le_trans (wt_rows ss ok) (by omega)
        walk_at "w"
        refine w_join (sq_l er4) ?_ ?_
        · have l1 : ("\n" : Str).length = 1 := rfl
          rw [l1, Nat.mul_one]
          exact Nat.le_trans wr (by decide)
        have lt : (Txt.join "\n" (ss.map rowOf)).length ≤ 231 := Nat.le_trans (join_wt rfl _) wr
        have at_ : asc (Txt.join "\n" (ss.map rowOf)) := join_asc anl fun x hx => by
          obtain ⟨s, hs, rfl⟩ := List.mem_map.mp hx
          exact row_asc (ok s hs)
        generalize Txt.join "\n" (ss.map rowOf) = z0 at *
        iterate 2 (walk_at "w1")
        refine w_joinI (fun σ' H' => ∃ (ns : List Int) (s : Int) (z : Str) (y5 y6 y8 y9 y10 y11 y12 : Option V), σ' = [some (.ref a), some (.ref b), some (.ref o), some (.int (0 + (i : Int))), some (.ref r), y5, y6, some (.str z), y8, y9, y10, y11, y12] ∧ Box H' b l ns s ∧ H' o = some (.lst (oddT.map V.str)) ∧ Tabs (LT PL) H' ∧ asc z ∧ z.length ≤ 231) (fun σ' H' hP => ?_) (fun G hG => ?_)
        rotate_left
        · walk_at "w"
          refine ⟨b, l, ns4, s4, 5, rfl, B4, nbl, by decide, by decide, fun H5 ns5 s5 v k5 B5 v0 v1 => ?_⟩
          have eo5 := k5.k _ _ eo4 fo
          have T5 := Tabs.box T4 B4 k5
          by_cases hv : v = 0
          · walk_at "w"
            refine ⟨b, l, ns5, s5, 12, rfl, B5, nbl, by decide, by decide, fun H6 ns6 s6 u k6 B6 u0 u1 => ?_⟩
            have eo6 := k6.k _ _ eo5 fo
            obtain ⟨un, rfl⟩ : ∃ un : Nat, u = un := ⟨u.toNat, by omega⟩
            have hun : un < oddT.length := by rw [oddT_ok.1]; omega
            obtain ⟨lu, au⟩ := oddT_ok.2 _ (List.getElem_mem hun)
            refine w_ixL (xs := oddT.map V.str) (sq_l eo6) (atI_nat (by rw [List.getElem?_map, List.getElem?_eq_getElem hun]; rfl)) ?_
            walk_at "w"
            exact hG _ _ ⟨ns6, s6, oddT[un], _, _, _, _, _, _, _, rfl, B6, eo6, Tabs.box T5 B5 k6, au, by omega⟩
          · walk_at "w"
            exact hG _ _ ⟨ns5, s5, z0, _, _, _, _, _, _, _, rfl, B5, eo5, T5, at_, lt⟩
        clear er4 hl4 ok wr lt at_ z0 T4 eo4 B4 er3 eo3 T3 B3 B2 eo2 T2 k3
        obtain ⟨ns5, s5, z, y5, y6, y8, y9, y10, y11, y12, rfl, B5, eo5, T5, az, lz⟩ := hP
        walk_at "w"
        refine ⟨b, l, ns5, s5, 4, rfl, B5, nbl, by decide, by decide, fun H6 ns6 s6 m2 k6 B6 m20 m21 => ?_⟩
        have eo6 := k6.k _ _ eo5 fo
        have T6 := Tabs.box T5 B5 k6
        walk_at "w"
        refine for_range (n := m2.toNat) (fun j σ H' => ∃ (ns : List Int) (s : Int) (z : Str) (y5 y6 y8 y9 y10 y11 y12 : Option V), σ = [some (.ref a), some (.ref b), some (.ref o), some (.int (0 + (i : Int))), some (.ref r), y5, y6, some (.str z), y8, y9, y10, y11, y12] ∧ Box H' b l ns s ∧ H' o = some (.lst (oddT.map V.str)) ∧ Tabs (LT PL) H' ∧ asc z ∧ z.length + 10 ≤ 241 * 3 ^ j)
          ⟨ns6, s6, z, _, _, _, _, _, _, _, rfl, B6, eo6, T6, az, by omega⟩ (fun j σ H4 hj h => ?_) (fun σ H4 h => ?_)
        · obtain ⟨ns7, s7, z, y5, y6, y8, y9, y10, y11, y12, rfl, B7, eo7, T7, az, lz⟩ := h
          have p3 : 3 ^ j ≤ 9 := Nat.le_trans (Nat.pow_le_pow_right (by decide) (show j ≤ 2 by omega)) (by decide)
          walk_at "w"
          refine ⟨b, l, ns7, s7, z, rfl, B7, nbl, az, by omega, fun H8 ns8 s8 z8 k8 B8 az8 lz8 => ?_⟩
          walk_at "w"
          exact ⟨ns8, s8, z8, _, _, _, _, _, _, _, rfl, B8, k8.k _ _ eo7 fo, Tabs.box T7 B7 k8, az8, by rw [Nat.pow_succ]; omega⟩
        · obtain ⟨ns7, s7, z, y5, y6, y8, y9, y10, y11, y12, rfl, B7, eo7, T7, az, lz⟩ := h
          have p3 : 3 ^ m2.toNat ≤ 27 := Nat.le_trans (Nat.pow_le_pow_right (by decide) (show m2.toNat ≤ 3 by omega)) (by decide)
          have lz : z.length ≤ 6497 := by omega
          have rf := rows_few (z := z) (by omega)
          have ro := rows_ok (z := z) (by omega) az
          iterate 1 (walk_at "w1")
          refine w_joinS (t := tAsg _ _) (fun σ' H' => ∃ (D : Addr) (vs : List V) (y5 y6 y8 y10 y11 y12 : Option V), σ' = [some (.ref a), some (.ref b), some (.ref o), some (.int (0 + (i : Int))), some (.ref r), y5, y6, some (.str z), y8, some (.ref D), y10, y11, y12] ∧ Box H' b l ns7 s7 ∧ H' o = some (.lst (oddT.map V.str)) ∧ Tabs (LT PL) H' ∧ H' D = some (.lst vs) ∧ StepsO H' vs (resOf z)) (fun σ' H' hP => ?_) (fun G hG => ?_)
          rotate_left
          · by_cases h0 : z = ""
            · walk_at "w"
              intro D nD
              walk_at "w"
              refine hG _ _ ⟨D, [], _, _, _, _, _, _, rfl, B7.keep (kp_new Kp.refl nD), upd_old nD eo7, Tabs.kp0 T7 (kp_new Kp.refl nD), upd_same, ?_⟩
              rw [show resOf z = [] by unfold resOf rowsOf; rw [if_pos h0]; rfl]
              exact ⟨rfl, fun i x o hx _ => by simp at hx⟩
            · have hz2 : z.length + 2 ≤ sizeLine := Nat.le_trans (show z.length + 2 ≤ 6500 by omega) (by decide)
              have er : Txt.split z "\n" = rowsOf z := by unfold rowsOf; rw [if_neg h0]
              walk_at "w"
              rw [er]
              intro p np
              walk_at "w"
              intro D nD
              have ep : (upd H4 p (.lst ((rowsOf z).map V.str))) p = some (.lst ((rowsOf z).map V.str)) := upd_same
              refine lc_list (xs := (rowsOf z).map V.str) (fun t H' => Kp [] (upd H4 p (.lst ((rowsOf z).map V.str))) H' ∧ ∃ vs, H' D = some (.lst vs) ∧ StepsO H' vs ((resOf z).take t)) ⟨kp_new Kp.refl nD, [], upd_same, rfl, fun i x o hx _ => by simp at hx⟩ (fun t H' _ h => sq_l (h.1.k _ _ ep ni_nil)) (fun t x H' hx h => ?_) (fun H' h => ?_)
              · obtain ⟨k, vs, hD, S⟩ := h
                obtain ⟨rw_, hs, rfl⟩ : ∃ r, (rowsOf z)[t]? = some r ∧ V.str r = x := by
                  rw [List.getElem?_map] at hx
                  cases e : (rowsOf z)[t]? with
                  | none => rw [e] at hx; cases hx
                  | some s => rw [e] at hx; exact ⟨s, rfl, Option.some.inj hx⟩
                have os := ro rw_ (List.mem_of_getElem? hs)
                have hro : (resOf z)[t]? = some (stepOf rw_) := by
                  show ((rowsOf z).map stepOf)[t]? = _
                  rw [List.getElem?_map, hs]
                  rfl
                have lvs : vs.length ≤ 6500 := by
                  rw [S.1]
                  have := List.length_take_le' t (resOf z)
                  have e : (resOf z).length = (rowsOf z).length := List.length_map _
                  have f : (rowsOf z).length ≤ 6498 := by
                    have C := cuts (z := z) (y := "\n") (by decide +kernel) (by decide +kernel)
                    have := C.few
                    rw [er] at this
                    omega
                  omega
                walk_at "w"
                refine ⟨rfl, ?_⟩
                walk_at "w"
                refine ⟨rw_, rfl, by have := os.1; omega, os.2, fun H2 k2 => ?_⟩
                cases es : stepOf rw_ with
                | none =>
                  refine ⟨vs, k2.k _ _ hD ni_nil, by walk_at "sz", kp_setn nD (kp_app k2 k), vs ++ [.non], upd_same, ?_⟩
                  rw [List.take_add_one, hro, es]
                  exact ((S.keep k2).snoc (o := none) rfl).set (k2.k _ _ hD ni_nil)
                | some s =>
                  intro u nu hu2
                  refine ⟨vs, k2.k _ _ hD ni_nil, by walk_at "sz", kp_setn nD (kp_app k2 k), vs ++ [.ref u], upd_same, ?_⟩
                  rw [List.take_add_one, hro, es]
                  exact ((S.keep k2).snoc (o := some s) ⟨u, rfl, hu2⟩).set (k2.k _ _ hD ni_nil)
              · obtain ⟨k, vs, hD, S⟩ := h
                rw [List.take_of_length_le (by show ((rowsOf z).map stepOf).length ≤ _; rw [List.length_map, List.length_map]; exact Nat.le_refl _)] at S
                have k0 : Kp [] H4 H' := kp_app k (kp_new Kp.refl np)
                walk_at "w"
                exact hG _ _ ⟨D, vs, _, _, _, _, _, _, rfl, B7.keep k0, k0.k _ _ eo7 ni_nil, Tabs.kp0 T7 k0, hD, S⟩
          obtain ⟨D, vs, z5, z6, z8, z10, z11, z12, rfl, B9, eo9, T9, eD, S9⟩ := hP
          clear eo7 T7 B7
          walk_at "w"
          have lvs := S9.1
          refine ⟨.none, (resOf z).map stepDo, .non, .lst (sq_l eD) (dpAll_stepsO S9), rfl, shaped_stepsO res_ok, ?_⟩
          rw [any_non]
          rcases os_cases (resOf z) with ⟨ss, ess⟩ | ⟨bi, hb1, hb2⟩
          · have ea : (resOf z).any Option.isNone = false := by
              rw [ess]
              simp
            have oks : ∀ s ∈ ss, StpOk s := fun s hs => res_ok s (by rw [ess]; exact List.mem_map.mpr ⟨s, hs, rfl⟩)
            have lss : ss.length ≤ 50001 := by
              have e := congrArg List.length ess
              rw [List.length_map, List.length_map] at e
              omega
            refine ⟨false, by rw [ea], iteF ?_⟩
            walk_at "w"
            refine for_range (n := 2) (fun j σ H' => ∃ (z12 : Option V), σ = [some (.ref a), some (.ref b), some (.ref o), some (.int (0 + (i : Int))), some (.ref r), z5, z6, some (.str z), z8, some (.ref D), z10, some (.ref D), z12] ∧ Box H' b l ns7 s7 ∧ H' o = some (.lst (oddT.map V.str)) ∧ Tabs (LT PL) H' ∧ H' D = some (.lst vs) ∧ StepsO H' vs (resOf z)) ⟨_, rfl, B9, eo9, T9, eD, S9⟩ (fun j σ H5 hj h => ?_) (fun σ H5 h => ?_)
            · obtain ⟨x12, rfl, B10, eo10, T10, eD10, S10⟩ := h
              walk_at "w"
              refine w_lam T10 (fun Hx ext Tx => w_toldV ?_)
              have Bx := B10.ext ext
              have eox := ext_l ext eo10
              have eDx := ext_l ext eD10
              have Sx := S10.ext ext
              walk_at "w"
              refine ⟨z, rfl, by omega, az, fun ss2 hss Hy p xs ky np hp S => ?_, fun i hi hno Hy dd ky ndd hdd => ?_⟩
              · have e2 : ss2 = ss := map_some_inj (hss.symm.trans ess)
                subst e2
                have Sy := Sx.keep ky
                rw [ess] at Sy
                have eDy := ky.k _ _ eDx ni_nil
                walk_at "w"
                refine ⟨_, _, .list (ss2.map stepD), rfl, dp_steps (sq_l hp) S, dp_steps (sq_l eDy) Sy.all, okD_steps oks (by omega), ?_⟩
                walk_at "w"
                exact ⟨_, rfl, Bx.keep ky, ky.k _ _ eox ni_nil, Tabs.kp0 Tx ky, eDy, Sx.keep ky⟩
              · rw [ess, List.getElem?_map] at hi
                cases e : ss[i]? with
                | none => rw [e] at hi; cases hi
                | some s => rw [e] at hi; cases hi
            · obtain ⟨x12, rfl, B10, eo10, T10, eD10, S10⟩ := h
              walk_at "w"
              exact ⟨ns7, s7, _, _, _, _, _, _, _, _, _, _, rfl, B10, eo10, T10⟩
          · have ea : (resOf z).any Option.isNone = true := List.any_eq_true.mpr ⟨none, List.mem_of_getElem? hb1, rfl⟩
            refine ⟨true, by rw [ea], iteT ?_⟩
            walk_at "w"
            refine ⟨D, .non, .none, (resOf z).map stepDo, bi, stepDo none, rfl, rfl, .lst (sq_l eD) (dpAll_stepsO S9), .non, shaped_stepsO res_ok, rfl, by rw [List.getElem?_map, hb1]; rfl, by rw [eqv_non]; rfl, fun m z' hm hz' => ?_, ?_⟩
            · obtain ⟨s, hs⟩ := hb2 m hm
              rw [List.getElem?_map, hs] at hz'
              have hz' : stepDo (some s) = z' := Option.some.inj hz'
              rw [← hz', eqv_non]
              rfl
            walk_at "w"
            intro q2 nq2
            walk_at "w"
            refine for_range (n := 2) (fun j σ H' => ∃ (z12 : Option V), σ = [some (.ref a), some (.ref b), some (.ref o), some (.int (0 + (i : Int))), some (.ref r), z5, z6, some (.str z), z8, some (.ref D), z10, some (.ref q2), z12] ∧ Box H' b l ns7 s7 ∧ H' o = some (.lst (oddT.map V.str)) ∧ Tabs (LT PL) H' ∧ H' q2 = some (.tup [.str "BadText", .int (bi : Int)])) ⟨_, rfl, B9.keep (kp_new Kp.refl nq2), upd_old nq2 eo9, Tabs.kp0 T9 (kp_new Kp.refl nq2), upd_same⟩ (fun j σ H5 hj h => ?_) (fun σ H5 h => ?_)
            · obtain ⟨x12, rfl, B10, eo10, T10, eq10⟩ := h
              walk_at "w"
              refine w_lam T10 (fun Hx ext Tx => w_toldV ?_)
              have Bx := B10.ext ext
              have eox := ext_l ext eo10
              have eqx := ext_t ext eq10
              walk_at "w"
              refine ⟨z, rfl, by omega, az, fun ss2 hss Hy p xs ky np hp S => ?_, fun i2 hi hno Hy dd ky ndd hdd => ?_⟩
              · rw [hss, List.getElem?_map] at hb1
                cases e : ss2[bi]? with
                | none => rw [e] at hb1; cases hb1
                | some s => rw [e] at hb1; cases hb1
              · have e2 : i2 = bi := by
                  rcases Nat.lt_trichotomy i2 bi with h | h | h
                  · obtain ⟨s, hs⟩ := hb2 i2 h
                    rw [hs] at hi
                    cases hi
                  · exact h
                  · exact absurd hb1 (hno bi h)
                subst e2
                refine ⟨"BadText", .int (i2 : Int), ⟨2, by decide, rfl, rfl, .inr ⟨rfl, dd, _, rfl, hdd, rfl⟩⟩, fun p Hz kz np hp => ?_⟩
                have eqz := kz.k _ _ (ky.k _ _ eqx ni_nil) ni_nil
                have kxz : Kp [] Hx Hz := kp_app kz ky
                walk_at "w"
                refine ⟨_, _, .tuple [.str "BadText", .int (i2 : Int)], rfl, dp_bad hp, dp_bad eqz, rfl, ?_⟩
                walk_at "w"
                exact ⟨_, rfl, Bx.keep kxz, kxz.k _ _ eox ni_nil, Tabs.kp0 Tx kxz, eqz⟩
            · obtain ⟨x12, rfl, B10, eo10, T10, eq10⟩ := h
              walk_at "w"
              exact ⟨ns7, s7, _, _, _, _, _, _, _, _, _, _, rfl, B10, eo10, T10⟩
    · walk_at "w"
      exact q _
end
end VH

namespace VH
open PySem L2 TL LamX
/-! ### what the top has written -/
theorem kat_of : ∀ {l : List (Str × Nat)} {es : List DictEntry}, Paired (fun (p : Str × Nat) (e : DictEntry) => (∃ t, e.key = .str p.1 t) ∧ ∃ t, e.val = .int (p.2 : Int) t) l es → ∀ z, RelO (match l.lookup z with | none => none | some n => some (V.int (n : Int))) ((es.find? fun e => Value.isStrOf z e.key).map (·.val))
  | _, _, .nil, z => True.intro
  | p :: l, e :: es, .cons ⟨⟨t, h1⟩, ⟨u, h2⟩⟩ r, z => by
    have ih := kat_of r z
    rw [List.lookup_cons, List.find?_cons]
    by_cases hz : z = p.1
    · have e1 : (z == p.1) = true := by simpa using hz
      have e2 : Value.isStrOf z e.key = true := by rw [h1, hz]; simp [Value.isStrOf]
      rw [e1, e2]
      exact ⟨u, h2⟩
    · have e1 : (z == p.1) = false := by simpa using hz
      have e2 : Value.isStrOf z e.key = false := by
        rw [h1]
        cases q : Value.isStrOf z (.str p.1 t) with
        | false => rfl
        | true =>
          obtain ⟨t2, q2⟩ := Value.isStrOf_shape (x := z) (v := .str p.1 t) q
          injection q2 with q3 _
          exact absurd q3.symm hz
      rw [e1, e2]
      exact ih
theorem kat_shape {es : Array DictEntry} (h : Paired (fun (p : Str × Nat) (e : DictEntry) => (∃ t, e.key = .str p.1 t) ∧ ∃ t, e.val = .int (p.2 : Int) t) shapes es.toList) (z : Str) : KAt es z (shapeV z) := by
  have a := kat_of h z
  unfold KAt findBy shapeV shapeOf
  obtain ⟨l⟩ := es
  rw [List.find?_toArray]
  exact a
theorem all_mk {l : PySem.W.OpenLaw} {w : World} {K : PySem.W.Frag} {h : Heap} {mg : Str → Option Value} {fa : Addr} (X : K.In h) (G : h.Ns mainGlobals mg) (hfa : mg "law" = some (.ref fa)) (own : LamX.OwnTab K fa h)
    {fB : Addr} {odB anB : Option Addr} {slB : Array (Option Value)} {ocB kVB dcB pmB cdB ctB : Value}
    {fT : Addr} {odT anT : Option Addr} {slT : Array (Option Value)} {ocT kVT dcT pmT cdT ctT : Value}
    {fA : Addr} {odA anA : Option Addr} {slA : Array (Option Value)} {ocA kVA dcA pmA cdA ctA : Value}
    {fY : Addr} {odY anY : Option Addr} {slY : Array (Option Value)} {ocY kVY dcY pmY cdY ctY : Value}
    {fL : Addr} {odL anL : Option Addr} {slL : Array (Option Value)} {ocL kVL dcL pmL cdL ctL : Value}
    {fN : Addr} {odN anN : Option Addr} {slN : Array (Option Value)} {ocN kVN dcN pmN cdN ctN : Value}
    {fS : Addr} {odS anS : Option Addr} {slS : Array (Option Value)} {ocS kVS dcS pmS cdS ctS : Value}
    {fR : Addr} {odR anR : Option Addr} {slR : Array (Option Value)} {ocR kVR dcR pmR cdR ctR : Value}
    {fQ : Addr} {odQ anQ : Option Addr} {slQ : Array (Option Value)} {ocQ kVQ dcQ pmQ cdQ ctQ : Value}
    {fP : Addr} {odP anP : Option Addr} {slP : Array (Option Value)} {ocP kVP dcP pmP cdP ctP : Value}
    {fD : Addr} {odD anD : Option Addr} {slD : Array (Option Value)} {ocD kVD dcD pmD cdD ctD : Value}
    {dS CV cL PL fI : Addr} {es : Array DictEntry} {n : Nat} {u1 u2 : Tok} {C0 : Addr} {d0 : ClassData} {C1 : Addr} {d1 : ClassData} {C2 : Addr} {d2 : ClassData} {C3 : Addr} {d3 : ClassData} {C4 : Addr} {d4 : ClassData} {C5 : Addr} {d5 : ClassData} {C6 : Addr} {d6 : ClassData} {C7 : Addr} {d7 : ClassData} {C8 : Addr} {d8 : ClassData} {C9 : Addr} {d9 : ClassData}
    {odI anI odC ddB : Option Addr} {slI slC : Array (Option Value)} {ocI kVI dcI pmI cdI ctI eC : Value} {vsC : Array Value}
    {nm q : Str} {N : Addr} {bs bm : List Value} {sn : List Str} {sub : List Value} {ab : Bool} {col : Option Bool} {m0 m1 m2 m3 m5 : Option Value}
    (aB : PySem.W.nsIn K mainGlobals "_law_begun" = some (some (.ref fB))) (lB : K.lookup fB = some ⟨ocB, odB, .func (PySem.W.fnOf "_law_begun" "_law_begun" (defArgs sBegun) (defBody sBegun) (defScope sBegun) .none kVB dcB pmB anB cdB ctB), slB⟩) (cB : PySem.W.codeIn K cdB "_law_begun" = true) (kB : PySem.W.keepIn K (.ref fB) = true)
    (aT : PySem.W.nsIn K mainGlobals "_law_take" = some (some (.ref fT))) (lT : K.lookup fT = some ⟨ocT, odT, .func (PySem.W.fnOf "_law_take" "_law_take" (defArgs sTake) (defBody sTake) (defScope sTake) .none kVT dcT pmT anT cdT ctT), slT⟩) (cT : PySem.W.codeIn K cdT "_law_take" = true) (kT : PySem.W.keepIn K (.ref fT) = true)
    (aA : PySem.W.nsIn K mainGlobals "_law_alike" = some (some (.ref fA))) (lA : K.lookup fA = some ⟨ocA, odA, .func (PySem.W.fnOf "_law_alike" "_law_alike" (defArgs sAlike) (defBody sAlike) (defScope sAlike) .none kVA dcA pmA anA cdA ctA), slA⟩) (cA : PySem.W.codeIn K cdA "_law_alike" = true) (kA : PySem.W.keepIn K (.ref fA) = true)
    (aY : PySem.W.nsIn K mainGlobals "_law_anystep" = some (some (.ref fY))) (lY : K.lookup fY = some ⟨ocY, odY, .func (PySem.W.fnOf "_law_anystep" "_law_anystep" (defArgs sAny) (defBody sAny) (defScope sAny) .none kVY dcY pmY anY cdY ctY), slY⟩) (cY : PySem.W.codeIn K cdY "_law_anystep" = true) (kY : PySem.W.keepIn K (.ref fY) = true)
    (aL : PySem.W.nsIn K mainGlobals "law" = some (some (.ref fL))) (lL : K.lookup fL = some ⟨ocL, odL, .func (PySem.W.fnOf "law" "law" (defArgs sLaw) (defBody sLaw) (defScope sLaw) .none kVL dcL pmL anL cdL ctL), slL⟩) (cL_ : PySem.W.codeIn K cdL "law" = true) (kL : PySem.W.keepIn K (.ref fL) = true)
    (aN : PySem.W.nsIn K mainGlobals "number_of" = some (some (.ref fN))) (lN : K.lookup fN = some ⟨ocN, odN, .func (PySem.W.fnOf "number_of" "number_of" (defArgs sNumber) (defBody sNumber) (defScope sNumber) .none kVN dcN pmN anN cdN ctN), slN⟩) (cN : PySem.W.codeIn K cdN "number_of" = true) (kN : PySem.W.keepIn K (.ref fN) = true)
    (aS : PySem.W.nsIn K mainGlobals "step_of" = some (some (.ref fS))) (lS : K.lookup fS = some ⟨ocS, odS, .func (PySem.W.fnOf "step_of" "step_of" (defArgs sStep) (defBody sStep) (defScope sStep) .none kVS dcS pmS anS cdS ctS), slS⟩) (cS : PySem.W.codeIn K cdS "step_of" = true) (kS : PySem.W.keepIn K (.ref fS) = true)
    (aR : PySem.W.nsIn K mainGlobals "read" = some (some (.ref fR))) (lR : K.lookup fR = some ⟨ocR, odR, .func (PySem.W.fnOf "read" "read" (defArgs sRead) (defBody sRead) (defScope sRead) .none kVR dcR pmR anR cdR ctR), slR⟩) (cR : PySem.W.codeIn K cdR "read" = true) (kR : PySem.W.keepIn K (.ref fR) = true)
    (aQ : PySem.W.nsIn K mainGlobals "_law_step" = some (some (.ref fQ))) (lQ : K.lookup fQ = some ⟨ocQ, odQ, .func (PySem.W.fnOf "_law_step" "_law_step" (defArgs sLStep) (defBody sLStep) (defScope sLStep) .none kVQ dcQ pmQ anQ cdQ ctQ), slQ⟩) (cQ : PySem.W.codeIn K cdQ "_law_step" = true) (kQ : PySem.W.keepIn K (.ref fQ) = true)
    (aP : PySem.W.nsIn K mainGlobals "_law_spoilt" = some (some (.ref fP))) (lP : K.lookup fP = some ⟨ocP, odP, .func (PySem.W.fnOf "_law_spoilt" "_law_spoilt" (defArgs sSpoilt) (defBody sSpoilt) (defScope sSpoilt) .none kVP dcP pmP anP cdP ctP), slP⟩) (cP : PySem.W.codeIn K cdP "_law_spoilt" = true) (kP : PySem.W.keepIn K (.ref fP) = true)
    (aD : PySem.W.nsIn K mainGlobals "_law_told" = some (some (.ref fD))) (lD : K.lookup fD = some ⟨ocD, odD, .func (PySem.W.fnOf "_law_told" "_law_told" (defArgs sTold) (defBody sTold) (defScope sTold) .none kVD dcD pmD anD cdD ctD), slD⟩) (cD : PySem.W.codeIn K cdD "_law_told" = true) (kD : PySem.W.keepIn K (.ref fD) = true)
    (zlist : PySem.W.nsIn K mainGlobals "list" = some none) (zint : PySem.W.nsIn K mainGlobals "int" = some none) (zlen : PySem.W.nsIn K mainGlobals "len" = some none) (zisinstance : PySem.W.nsIn K mainGlobals "isinstance" = some none) (zbool : PySem.W.nsIn K mainGlobals "bool" = some none) (zstr : PySem.W.nsIn K mainGlobals "str" = some none) (ztuple : PySem.W.nsIn K mainGlobals "tuple" = some none) (zrange : PySem.W.nsIn K mainGlobals "range" = some none) (zenumerate : PySem.W.nsIn K mainGlobals "enumerate" = some none) (zValueError : PySem.W.nsIn K mainGlobals "ValueError" = some none)
    (m1' : PySem.W.nsIn K mainGlobals "MOST_FIGURES" = some (some (.int 4 u1))) (m2' : PySem.W.nsIn K mainGlobals "FIGURES" = some (some (.str "0123456789" u2))) (m3' : PySem.W.nsIn K mainGlobals "SHAPES" = some (some (.ref dS)))
    (s1 : K.lookup dS = some ⟨.type "dict", none, .dict es n, #[]⟩) (s2 : PySem.W.KeysLit w.params es.toList) (s3 : (dS == sysModules) = false)
    (s4 : Paired (fun (p : Str × Nat) (e : DictEntry) => (∃ t, e.key = .str p.1 t) ∧ ∃ t, e.val = .int (p.2 : Int) t) shapes es.toList)
    (gV : PySem.W.nsIn K mainGlobals "VolumeError" = some (some (.ref CV)))
    (g0 : PySem.W.nsIn K mainGlobals "BadNumber" = some (some (.ref C0))) (x0 : PySem.W.clsIn K C0 = some d0) (y0 : d0.mro = [.ref C0, .ref CV, .type "ValueError", .type "Exception", .type "BaseException", .type "object"] ∧ d0.hasDict = true) (t0 : PySem.W.typeIn K (.ref C0) = some (.type "type")) (ga0 : PySem.W.findIn K (.ref C0) "__getattribute__" = some (some (.builtin "BaseException.__getattribute__"))) (gg0 : PySem.W.findIn K (.ref C0) "__getattr__" = some none) (cl0 : PySem.W.findIn K (.ref C0) "__class__" = some (some (.builtin "object.__class__")))
    (g1 : PySem.W.nsIn K mainGlobals "BadSizes" = some (some (.ref C1))) (x1 : PySem.W.clsIn K C1 = some d1) (y1 : d1.mro = [.ref C1, .ref CV, .type "ValueError", .type "Exception", .type "BaseException", .type "object"] ∧ d1.hasDict = true) (t1 : PySem.W.typeIn K (.ref C1) = some (.type "type")) (ga1 : PySem.W.findIn K (.ref C1) "__getattribute__" = some (some (.builtin "BaseException.__getattribute__"))) (gg1 : PySem.W.findIn K (.ref C1) "__getattr__" = some none) (cl1 : PySem.W.findIn K (.ref C1) "__class__" = some (some (.builtin "object.__class__")))
    (g2 : PySem.W.nsIn K mainGlobals "BadText" = some (some (.ref C2))) (x2 : PySem.W.clsIn K C2 = some d2) (y2 : d2.mro = [.ref C2, .ref CV, .type "ValueError", .type "Exception", .type "BaseException", .type "object"] ∧ d2.hasDict = true) (t2 : PySem.W.typeIn K (.ref C2) = some (.type "type")) (ga2 : PySem.W.findIn K (.ref C2) "__getattribute__" = some (some (.builtin "BaseException.__getattribute__"))) (gg2 : PySem.W.findIn K (.ref C2) "__getattr__" = some none) (cl2 : PySem.W.findIn K (.ref C2) "__class__" = some (some (.builtin "object.__class__")))
    (g3 : PySem.W.nsIn K mainGlobals "BadVolume" = some (some (.ref C3))) (x3 : PySem.W.clsIn K C3 = some d3) (y3 : d3.mro = [.ref C3, .ref CV, .type "ValueError", .type "Exception", .type "BaseException", .type "object"] ∧ d3.hasDict = true) (t3 : PySem.W.typeIn K (.ref C3) = some (.type "type")) (ga3 : PySem.W.findIn K (.ref C3) "__getattribute__" = some (some (.builtin "BaseException.__getattribute__"))) (gg3 : PySem.W.findIn K (.ref C3) "__getattr__" = some none) (cl3 : PySem.W.findIn K (.ref C3) "__class__" = some (some (.builtin "object.__class__")))
    (g4 : PySem.W.nsIn K mainGlobals "Full" = some (some (.ref C4))) (x4 : PySem.W.clsIn K C4 = some d4) (y4 : d4.mro = [.ref C4, .ref CV, .type "ValueError", .type "Exception", .type "BaseException", .type "object"] ∧ d4.hasDict = true) (t4 : PySem.W.typeIn K (.ref C4) = some (.type "type")) (ga4 : PySem.W.findIn K (.ref C4) "__getattribute__" = some (some (.builtin "BaseException.__getattribute__"))) (gg4 : PySem.W.findIn K (.ref C4) "__getattr__" = some none) (cl4 : PySem.W.findIn K (.ref C4) "__class__" = some (some (.builtin "object.__class__")))
    (g5 : PySem.W.nsIn K mainGlobals "Lost" = some (some (.ref C5))) (x5 : PySem.W.clsIn K C5 = some d5) (y5 : d5.mro = [.ref C5, .ref CV, .type "ValueError", .type "Exception", .type "BaseException", .type "object"] ∧ d5.hasDict = true) (t5 : PySem.W.typeIn K (.ref C5) = some (.type "type")) (ga5 : PySem.W.findIn K (.ref C5) "__getattribute__" = some (some (.builtin "BaseException.__getattribute__"))) (gg5 : PySem.W.findIn K (.ref C5) "__getattr__" = some none) (cl5 : PySem.W.findIn K (.ref C5) "__class__" = some (some (.builtin "object.__class__")))
    (g6 : PySem.W.nsIn K mainGlobals "NoBlock" = some (some (.ref C6))) (x6 : PySem.W.clsIn K C6 = some d6) (y6 : d6.mro = [.ref C6, .ref CV, .type "ValueError", .type "Exception", .type "BaseException", .type "object"] ∧ d6.hasDict = true) (t6 : PySem.W.typeIn K (.ref C6) = some (.type "type")) (ga6 : PySem.W.findIn K (.ref C6) "__getattribute__" = some (some (.builtin "BaseException.__getattribute__"))) (gg6 : PySem.W.findIn K (.ref C6) "__getattr__" = some none) (cl6 : PySem.W.findIn K (.ref C6) "__class__" = some (some (.builtin "object.__class__")))
    (g7 : PySem.W.nsIn K mainGlobals "NoDisk" = some (some (.ref C7))) (x7 : PySem.W.clsIn K C7 = some d7) (y7 : d7.mro = [.ref C7, .ref CV, .type "ValueError", .type "Exception", .type "BaseException", .type "object"] ∧ d7.hasDict = true) (t7 : PySem.W.typeIn K (.ref C7) = some (.type "type")) (ga7 : PySem.W.findIn K (.ref C7) "__getattribute__" = some (some (.builtin "BaseException.__getattribute__"))) (gg7 : PySem.W.findIn K (.ref C7) "__getattr__" = some none) (cl7 : PySem.W.findIn K (.ref C7) "__class__" = some (some (.builtin "object.__class__")))
    (g8 : PySem.W.nsIn K mainGlobals "NoVolume" = some (some (.ref C8))) (x8 : PySem.W.clsIn K C8 = some d8) (y8 : d8.mro = [.ref C8, .ref CV, .type "ValueError", .type "Exception", .type "BaseException", .type "object"] ∧ d8.hasDict = true) (t8 : PySem.W.typeIn K (.ref C8) = some (.type "type")) (ga8 : PySem.W.findIn K (.ref C8) "__getattribute__" = some (some (.builtin "BaseException.__getattribute__"))) (gg8 : PySem.W.findIn K (.ref C8) "__getattr__" = some none) (cl8 : PySem.W.findIn K (.ref C8) "__class__" = some (some (.builtin "object.__class__")))
    (g9 : PySem.W.nsIn K mainGlobals "Stopped" = some (some (.ref C9))) (x9 : PySem.W.clsIn K C9 = some d9) (y9 : d9.mro = [.ref C9, .ref CV, .type "ValueError", .type "Exception", .type "BaseException", .type "object"] ∧ d9.hasDict = true) (t9 : PySem.W.typeIn K (.ref C9) = some (.type "type")) (ga9 : PySem.W.findIn K (.ref C9) "__getattribute__" = some (some (.builtin "BaseException.__getattribute__"))) (gg9 : PySem.W.findIn K (.ref C9) "__getattr__" = some none) (cl9 : PySem.W.findIn K (.ref C9) "__class__" = some (some (.builtin "object.__class__")))
    (nd : ([C0, C1, C2, C3, C4, C5, C6, C7, C8, C9] ++ [CV]).Nodup)
    (hn : PySem.W.specialIn K (.builtin "object.__class__") "__get__" = some (some (.builtin "getset_descriptor.__get__"))) (ht : PySem.W.takesIn K (.builtin "object.__class__") = some true)
    (e1 : PySem.W.subIn K (.ref CV) (.type "BaseException") = some true) (e2 : PySem.W.isClsIn K CV = true) (e3 : PySem.W.typeIn K (.ref CV) = some (.type "type"))
    (xB : K.lookup C2 = some (excClassObj nm q C2 N bs bm true sn sub ab col ddB m0 m1 m2 m3 m5 "ValueError.__new__")) (bmB : PySem.HandSPX.refsVE bm = true)
    (sa : PySem.W.findIn K (.ref C2) "__setattr__" = some (some (.builtin "object.__setattr__"))) (kC : PySem.W.keepIn K (.ref C2) = true) (nf : PySem.W.findIn K (.ref C2) "row" = some none)
    (iC : PySem.W.findIn K (.ref C2) "__init__" = some (some (.ref fI))) (tI : PySem.W.typeIn K (.ref fI) = some (.type "function"))
    (lI : K.lookup fI = some ⟨ocI, odI, .func (PySem.W.fnOf "__init__" "BadText.__init__" (defArgs sBTI) (defBody sBTI) (defScope sBTI) .none kVI dcI pmI anI cdI ctI), slI⟩) (cI : PySem.W.codeIn K cdI "BadText.__init__" = true) (kI : PySem.W.keepIn K (.ref fI) = true)
    (rdV : PySem.W.readsIn K CV (.type "type") = true) (gaV : PySem.W.specialIn K (.ref CV) "__getattribute__" = some (some (.builtin "type.__getattribute__")))
    (viV : PySem.W.findCls K (.ref CV) (.type "type") "__init__" = some (.val (.builtin "ValueError.__init__")))
    (eL : cdL = .ref cL) (kc : K.lookup cL = some ⟨eC, odC, .fields vsC, slC⟩) (v11 : vsC[11]? = some (.ref PL)) (nP : K.lookup PL = none) (chd : PySem.W.codeHdIn K cL PL = true) :
    LamX.LawAtS l w K CX0 6 63 "_law_script" mg fa h := by
  have e := hfa.symm.trans (PySem.W.mg_of X G aL)
  cases e
  subst eL
  have T : Txt K mg := ⟨PySem.W.mg_none_of X G zlist, PySem.W.mg_none_of X G zint, PySem.W.mg_none_of X G zlen, PySem.W.mg_none_of X G zisinstance, PySem.W.mg_none_of X G zbool, PySem.W.mg_none_of X G zstr, PySem.W.mg_none_of X G ztuple, PySem.W.mg_none_of X G zrange, PySem.W.mg_none_of X G zenumerate⟩
  have TK : ToldK K mg (cAt [C0, C1, C2, C3, C4, C5, C6, C7, C8, C9]) CV := toldK_mk rfl nd (fun C hC => by
      simp only [List.mem_cons, List.not_mem_nil, or_false] at hC
      rcases hC with rfl | rfl | rfl | rfl | rfl | rfl | rfl | rfl | rfl | rfl
      · exact ⟨⟨d0, x0, y0.1, y0.2⟩, t0, ga0, gg0, cl0⟩
      · exact ⟨⟨d1, x1, y1.1, y1.2⟩, t1, ga1, gg1, cl1⟩
      · exact ⟨⟨d2, x2, y2.1, y2.2⟩, t2, ga2, gg2, cl2⟩
      · exact ⟨⟨d3, x3, y3.1, y3.2⟩, t3, ga3, gg3, cl3⟩
      · exact ⟨⟨d4, x4, y4.1, y4.2⟩, t4, ga4, gg4, cl4⟩
      · exact ⟨⟨d5, x5, y5.1, y5.2⟩, t5, ga5, gg5, cl5⟩
      · exact ⟨⟨d6, x6, y6.1, y6.2⟩, t6, ga6, gg6, cl6⟩
      · exact ⟨⟨d7, x7, y7.1, y7.2⟩, t7, ga7, gg7, cl7⟩
      · exact ⟨⟨d8, x8, y8.1, y8.2⟩, t8, ga8, gg8, cl8⟩
      · exact ⟨⟨d9, x9, y9.1, y9.2⟩, t9, ga9, gg9, cl9⟩) hn ht e1 e2 e3 (fun i hi => by
      match i, hi with
      | 0, _ => exact ⟨_, rfl, PySem.W.mg_of X G g0⟩
      | 1, _ => exact ⟨_, rfl, PySem.W.mg_of X G g1⟩
      | 2, _ => exact ⟨_, rfl, PySem.W.mg_of X G g2⟩
      | 3, _ => exact ⟨_, rfl, PySem.W.mg_of X G g3⟩
      | 4, _ => exact ⟨_, rfl, PySem.W.mg_of X G g4⟩
      | 5, _ => exact ⟨_, rfl, PySem.W.mg_of X G g5⟩
      | 6, _ => exact ⟨_, rfl, PySem.W.mg_of X G g6⟩
      | 7, _ => exact ⟨_, rfl, PySem.W.mg_of X G g7⟩
      | 8, _ => exact ⟨_, rfl, PySem.W.mg_of X G g8⟩
      | 9, _ => exact ⟨_, rfl, PySem.W.mg_of X G g9⟩) (PySem.W.mg_of X G gV) (PySem.W.mg_none_of X G zValueError) nf
  have FB := fun_mk (st := sBegun) lB cB kB
  have FT := fun_mk (st := sTake) lT cT kT
  have FA := fun_mk (st := sAlike) lA cA kA
  have FY := fun_mk (st := sAny) lY cY kY
  have FN := fun_mk (st := sNumber) lN cN kN
  have FS := fun_mk (st := sStep) lS cS kS
  have FR := fun_mk (st := sRead) lR cR kR
  have FQ := fun_mk (st := sLStep) lQ cQ kQ
  have FP := fun_mk (st := sSpoilt) lP cP kP
  have FD := fun_mk (st := sTold) lD cD kD
  have FL := funC_mk (st := sLaw) lL cL_ kL
  have FI := fun_mk (st := sBTI) lI cI kI
  have bB := FB.binds (ps := ["_law_script"]) fun _ _ _ _ _ _ us hl => match us, hl with | [_], _ => rfl
  have bT := FT.binds (ps := ["_law_box", "_law_many"]) fun _ _ _ _ _ _ us hl => match us, hl with | [_, _], _ => rfl
  have bA := FA.binds (ps := ["_law_found", "_law_due"]) fun _ _ _ _ _ _ us hl => match us, hl with | [_, _], _ => rfl
  have bY := FY.binds (ps := ["_law_box"]) fun _ _ _ _ _ _ us hl => match us, hl with | [_], _ => rfl
  have bN := FN.binds (ps := ["word"]) fun _ _ _ _ _ _ us hl => match us, hl with | [_], _ => rfl
  have bS := FS.binds (ps := ["row"]) fun _ _ _ _ _ _ us hl => match us, hl with | [_], _ => rfl
  have bR := FR.binds (ps := ["text"]) fun _ _ _ _ _ _ us hl => match us, hl with | [_], _ => rfl
  have bQ := FQ.binds (ps := ["_law_row"]) fun _ _ _ _ _ _ us hl => match us, hl with | [_], _ => rfl
  have bP := FP.binds (ps := ["_law_box", "_law_text"]) fun _ _ _ _ _ _ us hl => match us, hl with | [_, _], _ => rfl
  have bD := FD.binds (ps := ["_law_work"]) fun _ _ _ _ _ _ us hl => match us, hl with | [_], _ => rfl
  have bI := FI.binds (ps := ["self", "row"]) fun _ _ _ _ _ _ us hl => match us, hl with | [_, _], _ => rfl
  have gB := PySem.W.mg_of X G aB
  have gT := PySem.W.mg_of X G aT
  have gA := PySem.W.mg_of X G aA
  have gY := PySem.W.mg_of X G aY
  have gN := PySem.W.mg_of X G aN
  have gS := PySem.W.mg_of X G aS
  have gR := PySem.W.mg_of X G aR
  have gQ := PySem.W.mg_of X G aQ
  have gP := PySem.W.mg_of X G aP
  have gD := PySem.W.mg_of X G aD
  have gMF := PySem.W.mg_of X G m1'
  have gF := PySem.W.mg_of X G m2'
  have gSh := PySem.W.mg_of X G m3'
  have oexB : OexC K C2 := ⟨⟨nm, q, N, bs, bm, sn, sub, ab, col, ddB, m0, m1, m2, m3, m5, xB, bmB⟩, sa, (ClsF.mk (CV := CV) ⟨d2, x2, y2.1, y2.2⟩ t2 ga2 gg2 cl2).sub (by simp), t2, kC⟩
  refine ⟨PySem.W.fnOf "law" "law" (defArgs sLaw) (defBody sLaw) (defScope sLaw) .none kVL dcL pmL anL (.ref cL) ctL, [(cL, PL)], spLaw K PL, fun p hp => ?_, fun p hp => ?_, fun p hp => ?_, fun s v => .of_eq rfl, fun H a ns hl hb hT hS => ⟨a, ns, rfl, hS, hl, fun p hp => ?_, fun _ => rfl⟩, fun base _ _ hTB => ?_⟩
  · rw [List.mem_singleton.mp hp]
    exact own cL PL _ _ _ _ _ _ lL rfl rfl kc v11
  · rw [List.mem_singleton.mp hp]
    exact nP
  · rw [List.mem_singleton.mp hp]
    exact PySem.W.codeHd_of_K X chd
  · rw [List.mem_singleton.mp hp]
    exact TabS.nil (hT (cL, PL) List.mem_cons_self)
  · have GT := ok_take (P := l.prog) (w := w) (mg := mg) (base := base) FT
    have GN := ok_number (P := l.prog) (w := w) (base := base) FN T gMF gF
    have GS := ok_step (P := l.prog) (w := w) (base := base) FS T gSh ⟨s1, s2, s3⟩ (kat_shape s4) FN bN gN GN
    have GI := ok_bti (P := l.prog) (w := w) (base := base) FI (PySem.W.mg_of X G gV) ⟨rdV, gaV⟩ viV
    have GR := ok_read (P := l.prog) (w := w) (base := base) FR T (PySem.W.mg_of X G g2) oexB iC tI nf bI GI FS bS gS GS
    exact ok_law FL T TK (hTB (cL, PL) List.mem_cons_self) FB bB gB (ok_begun FB T) FT bT gT GT FA bA gA (ok_alike FA T gA bA 3) FY bY gY (ok_any FY T FT bT gT GT) FQ bQ gQ (ok_lstep FQ T) FP bP gP (ok_spoilt FP T FT bT gT GT) FD bD gD FR bR gR GR

end VH
open PySem PySem.W PyProof.Rows
set_option maxRecDepth 100000 in
set_option maxHeartbeats 0 in
theorem PySem.Challenge.cw_volumehall_k15_texts_of_no_steps_holds : PySem.Challenge.rw_volumehall_k15_texts_of_no_steps.Holds := by
  w_on; o_law; k_head; (case hw => w_witness2)
  k_fill
  refine LamX.walk_ofOwn (l := PySem.Challenge.rw_volumehall_k15_texts_of_no_steps) (n := 63) (k := 6) (x := "_law_script") (CX := fun _ => L2.CX0) rfl (by decide) rfl ⟨rfl, by decide, by decide⟩ ?R (fun w h Y => PySem.W.km_in_of Y) ?F (fun _ _ _ _ _ z => z)
  case R => decide +kernel
  case F =>
    intro w mg fa h Y KX G hmg own
    refine' VH.all_mk KX G hmg own ?u_aB ?u_lB ?u_cB ?u_kB ?u_aT ?u_lT ?u_cT ?u_kT ?u_aA ?u_lA ?u_cA ?u_kA ?u_aY ?u_lY ?u_cY ?u_kY ?u_aL ?u_lL ?u_cL_ ?u_kL ?u_aN ?u_lN ?u_cN ?u_kN ?u_aS ?u_lS ?u_cS ?u_kS ?u_aR ?u_lR ?u_cR ?u_kR ?u_aQ ?u_lQ ?u_cQ ?u_kQ ?u_aP ?u_lP ?u_cP ?u_kP ?u_aD ?u_lD ?u_cD ?u_kD ?u_zlist ?u_zint ?u_zlen ?u_zisinstance ?u_zbool ?u_zstr ?u_ztuple ?u_zrange ?u_zenumerate ?u_zValueError ?u_m1 ?u_m2 ?u_m3 ?u_s1 ?u_s2 ?u_s3 ?u_s4 ?u_gV ?u_g0 ?u_x0 ?u_y0 ?u_t0 ?u_ga0 ?u_gg0 ?u_cl0 ?u_g1 ?u_x1 ?u_y1 ?u_t1 ?u_ga1 ?u_gg1 ?u_cl1 ?u_g2 ?u_x2 ?u_y2 ?u_t2 ?u_ga2 ?u_gg2 ?u_cl2 ?u_g3 ?u_x3 ?u_y3 ?u_t3 ?u_ga3 ?u_gg3 ?u_cl3 ?u_g4 ?u_x4 ?u_y4 ?u_t4 ?u_ga4 ?u_gg4 ?u_cl4 ?u_g5 ?u_x5 ?u_y5 ?u_t5 ?u_ga5 ?u_gg5 ?u_cl5 ?u_g6 ?u_x6 ?u_y6 ?u_t6 ?u_ga6 ?u_gg6 ?u_cl6 ?u_g7 ?u_x7 ?u_y7 ?u_t7 ?u_ga7 ?u_gg7 ?u_cl7 ?u_g8 ?u_x8 ?u_y8 ?u_t8 ?u_ga8 ?u_gg8 ?u_cl8 ?u_g9 ?u_x9 ?u_y9 ?u_t9 ?u_ga9 ?u_gg9 ?u_cl9 ?u_nd ?u_hn ?u_ht ?u_e1 ?u_e2 ?u_e3 ?u_xB ?u_bmB ?u_sa ?u_kC ?u_nf ?u_iC ?u_tI ?u_lI ?u_cI ?u_kI ?u_rdV ?u_gaV ?u_viV ?u_eL ?u_kc ?u_v11 ?u_nP ?u_chd
    (case u_aB => k_is)
    (case u_lB => k_is)
    (case u_cB => k_is)
    (case u_kB => k_is)
    (case u_aT => k_is)
    (case u_lT => k_is)
    (case u_cT => k_is)
    (case u_kT => k_is)
    (case u_aA => k_is)
    (case u_lA => k_is)
    (case u_cA => k_is)
    (case u_kA => k_is)
    (case u_aY => k_is)
    (case u_lY => k_is)
    (case u_cY => k_is)
    (case u_kY => k_is)
    (case u_aL => k_is)
    (case u_lL => k_is)
    (case u_cL_ => k_is)
    (case u_kL => k_is)
    (case u_aN => k_is)
    (case u_lN => k_is)
    (case u_cN => k_is)
    (case u_kN => k_is)
    (case u_aS => k_is)
    (case u_lS => k_is)
    (case u_cS => k_is)
    (case u_kS => k_is)
    (case u_aR => k_is)
    (case u_lR => k_is)
    (case u_cR => k_is)
    (case u_kR => k_is)
    (case u_aQ => k_is)
    (case u_lQ => k_is)
    (case u_cQ => k_is)
    (case u_kQ => k_is)
    (case u_aP => k_is)
    (case u_lP => k_is)
    (case u_cP => k_is)
    (case u_kP => k_is)
    (case u_aD => k_is)
    (case u_lD => k_is)
    (case u_cD => k_is)
    (case u_kD => k_is)
    (case u_zlist => k_is)
    (case u_zint => k_is)
    (case u_zlen => k_is)
    (case u_zisinstance => k_is)
    (case u_zbool => k_is)
    (case u_zstr => k_is)
    (case u_ztuple => k_is)
    (case u_zrange => k_is)
    (case u_zenumerate => k_is)
    (case u_zValueError => k_is)
    (case u_m1 => k_is)
    (case u_m2 => k_is)
    (case u_m3 => k_is)
    (case u_s1 => k_is)
    (case u_s2 => (repeat first | exact True.intro | refine ⟨⟨_, _, rfl, rfl⟩, ?_⟩))
    (case u_s3 => rfl)
    (case u_s4 => (repeat first | exact .nil | refine .cons ⟨⟨_, rfl⟩, ⟨_, rfl⟩⟩ ?_))
    (case u_gV => k_is)
    (case u_g0 => k_is)
    (case u_x0 => k_is)
    (case u_y0 => exact ⟨rfl, rfl⟩)
    (case u_t0 => k_is)
    (case u_ga0 => k_is)
    (case u_gg0 => k_is)
    (case u_cl0 => k_is)
    (case u_g1 => k_is)
    (case u_x1 => k_is)
    (case u_y1 => exact ⟨rfl, rfl⟩)
    (case u_t1 => k_is)
    (case u_ga1 => k_is)
    (case u_gg1 => k_is)
    (case u_cl1 => k_is)
    (case u_g2 => k_is)
    (case u_x2 => k_is)
    (case u_y2 => exact ⟨rfl, rfl⟩)
    (case u_t2 => k_is)
    (case u_ga2 => k_is)
    (case u_gg2 => k_is)
    (case u_cl2 => k_is)
    (case u_g3 => k_is)
    (case u_x3 => k_is)
    (case u_y3 => exact ⟨rfl, rfl⟩)
    (case u_t3 => k_is)
    (case u_ga3 => k_is)
    (case u_gg3 => k_is)
    (case u_cl3 => k_is)
    (case u_g4 => k_is)
    (case u_x4 => k_is)
    (case u_y4 => exact ⟨rfl, rfl⟩)
    (case u_t4 => k_is)
    (case u_ga4 => k_is)
    (case u_gg4 => k_is)
    (case u_cl4 => k_is)
    (case u_g5 => k_is)
    (case u_x5 => k_is)
    (case u_y5 => exact ⟨rfl, rfl⟩)
    (case u_t5 => k_is)
    (case u_ga5 => k_is)
    (case u_gg5 => k_is)
    (case u_cl5 => k_is)
    (case u_g6 => k_is)
    (case u_x6 => k_is)
    (case u_y6 => exact ⟨rfl, rfl⟩)
    (case u_t6 => k_is)
    (case u_ga6 => k_is)
    (case u_gg6 => k_is)
    (case u_cl6 => k_is)
    (case u_g7 => k_is)
    (case u_x7 => k_is)
    (case u_y7 => exact ⟨rfl, rfl⟩)
    (case u_t7 => k_is)
    (case u_ga7 => k_is)
    (case u_gg7 => k_is)
    (case u_cl7 => k_is)
    (case u_g8 => k_is)
    (case u_x8 => k_is)
    (case u_y8 => exact ⟨rfl, rfl⟩)
    (case u_t8 => k_is)
    (case u_ga8 => k_is)
    (case u_gg8 => k_is)
    (case u_cl8 => k_is)
    (case u_g9 => k_is)
    (case u_x9 => k_is)
    (case u_y9 => exact ⟨rfl, rfl⟩)
    (case u_t9 => k_is)
    (case u_ga9 => k_is)
    (case u_gg9 => k_is)
    (case u_cl9 => k_is)
    (case u_nd => decide)
    (case u_hn => k_is)
    (case u_ht => k_is)
    (case u_e1 => k_is)
    (case u_e2 => k_is)
    (case u_e3 => k_is)
    (case u_xB => k_is)
    (case u_bmB => decide +kernel)
    (case u_sa => k_is)
    (case u_kC => k_is)
    (case u_nf => k_is)
    (case u_iC => k_is)
    (case u_tI => k_is)
    (case u_lI => k_is)
    (case u_cI => k_is)
    (case u_kI => k_is)
    (case u_rdV => k_is)
    (case u_gaV => k_is)
    (case u_viV => k_is)
    (case u_eL => rfl)
    (case u_kc => k_is)
    (case u_v11 => rfl)
    (case u_nP => rfl)
    (case u_chd => rfl)

#print axioms PySem.Challenge.cw_volumehall_k15_texts_of_no_steps_holds
