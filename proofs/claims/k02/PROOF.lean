import PyProof.Rows.All
import Wide.All
import OpenK.AllK
import Wide.FinOn
import HandS.ForMost
import HandS.IsInst
import HandS.Wide
import HandS.Flow
import HandS.TupAny
import HandS.Small
import HandS.RaiseMore
import HandS.Steps
import HandS.More
import HandS.Lambda
import HandS.ExcField
import HandS.ExcIs
import HandS.ExcInit
import HandS.ClsMeth
import HandS.WordsExc
import HandS.Deep
import HandS.EndTab
import HandS.Style
import KE.KRevSl
import KE.KExcIs
import HandS.Nested
import PySem.Challenge.RW_volumehall_k02_benches
import HandS.EndOwn
import KE.KNestM
set_option Elab.async false
set_option linter.all false
set_option maxRecDepth 100000
set_option maxHeartbeats 4000000
/-! Stepping lemmas: what a reading asks, one construct at a time. -/
namespace VH
open PySem L2
section
variable {σ : St} {H : Hp} {Q : VK} {v x y : V} {K : PySem.W.Frag}
theorem w_var {i : Nat} (h : σ[i]? = some (some v)) (q : Q v H) : tVar i σ H Q := ⟨v, h, q⟩
theorem w_c (q : Q v H) : tC v σ H Q := q
theorem w_op {r : R2} {ta tb : TE} (h : ta σ H fun x H1 => tb σ H1 fun y H2 => r x y H2 Q) : tOp r ta tb σ H Q := h
theorem w_un {r : V → Hp → VK → Prop} {ta : TE} (h : ta σ H fun x H1 => r x H1 Q) : tUn r ta σ H Q := h
theorem w_I0 {g : Int → Int → V} {i j : Int} (q : Q (g i j) H) : rI0 g (.int i) (.int j) H Q := ⟨i, j, rfl, rfl, q⟩
theorem w_I {C : Int → Int → Prop} {g : Int → Int → V} {i j : Int} (c : C i j) (q : Q (g i j) H) : rI C g (.int i) (.int j) H Q := ⟨i, j, rfl, rfl, c, q⟩
theorem w_U {g : Int → V} {i : Int} (q : Q (g i) H) : rU g (.int i) H Q := ⟨i, rfl, q⟩
theorem w_eq (h : scal x y = true) (q : Q (.bl (decide (x = y))) H) : rEq x y H Q := ⟨h, q⟩
theorem w_ne (h : scal x y = true) (q : Q (.bl (!decide (x = y))) H) : rNe x y H Q := ⟨h, q⟩
theorem w_isN {t : TE} (h : t σ H fun x H1 => Q (.bl (decide (x = .non))) H1) : tIsN t σ H Q := h
theorem w_tup {t : TA} (h : t σ H fun xs H1 => xs.length ≤ sizeLine ∧ ∀ p, H1 p = none → Q (.ref p) (upd H1 p (.tup xs))) : tTup t σ H Q := h
theorem w_lst {t : TA} (h : t σ H fun xs H1 => xs.length ≤ sizeLine ∧ ∀ p, H1 p = none → Q (.ref p) (upd H1 p (.lst xs))) : tLst t σ H Q := h
theorem w_call {sp : Sp} {dvs : List V} {E : XK} {t : TA} (h : t σ H fun vs H1 => sp (vs ++ dvs) H1 Q E) : tCall sp dvs E t σ H Q := h
theorem w_cb {r : List V → Hp → VK → Prop} {t : TA} (h : t σ H fun vs H1 => r vs H1 Q) : tCB r t σ H Q := h
theorem w_fld {ta : TE} {f : Str} (h : ta σ H fun x H1 => ∃ a C dx fs v, x = .ref a ∧ H1 a = some (.ins C dx fs) ∧ Cls K C ∧ NoAttr K C f ∧ fs.lookup f = some v ∧ Q v H1) : tFld K ta f σ H Q := h
theorem w_if {t : TT} {ta tb : TE} (h : t σ H fun c H1 => if c = true then ta σ H1 Q else tb σ H1 Q) : tIf t ta tb σ H Q := h
theorem w_bm {T : String} {r : V → List V → Hp → VK → Prop} {to : TE} {t : TA} (h : to σ H fun x H1 => tyV K T x H1 ∧ t σ H1 fun xs H2 => r x xs H2 Q) : tBM K T r to t σ H Q := h
theorem w_bm0 {T : String} {r : V → List V → Hp → VK → Prop} {to : TE} (h : to σ H fun x H1 => tyV K T x H1 ∧ r x [] H1 Q) : tBM0 K T r to σ H Q := h
theorem w_m1 {r : V → List V → Hp → VK → Prop} {to te : TE} (h : to σ H fun x H1 => (∃ a, x = .str a) ∧ te σ H1 fun y H2 => r x [y] H2 Q) : tM1 r to te σ H Q := h
theorem w_andV {ta tb : TE} (h : ta σ H fun x H1 => ∃ c, x = .bl c ∧ if c = true then tb σ H1 Q else Q (.bl false) H1) : tAndV ta tb σ H Q := h
theorem w_orV {ta tb : TE} (h : ta σ H fun x H1 => ∃ c, x = .bl c ∧ if c = true then Q (.bl true) H1 else tb σ H1 Q) : tOrV ta tb σ H Q := h
theorem w_notV {ta : TE} (h : ta σ H fun x H1 => ∃ c, x = .bl c ∧ Q (.bl (!c)) H1) : tNotV ta σ H Q := h
theorem w_dget {td ty : TE} (h : td σ H fun x H1 => ty σ H1 fun y H2 => ∃ a v, x = .ref a ∧ DGet H2 a y (some v) ∧ Q v H2) : tDGet td ty σ H Q := h
theorem w_chain {r r' : R2} {ta tb tc : TE} (h : ta σ H fun x H1 => tb σ H1 fun y H2 => r x y H2 fun z H3 => ∃ k, z = .bl k ∧ (if k = true then tc σ H3 fun w' H4 => r' y w' H4 Q else Q (.bl false) H3)) : tChain r r' ta tb tc σ H Q := h
/-- a known truth value -/
theorem w_bl {c : Bool} {P : Bool → Prop} (h : P c) : ∃ c', (V.bl c = V.bl c') ∧ P c' := ⟨c, rfl, h⟩
section
variable {QA : List V → Hp → Prop}
theorem w_nil (q : QA [] H) : tNil σ H QA := q
theorem w_cons {te : TE} {t : TA} (h : te σ H fun x H1 => t σ H1 fun xs H2 => QA (x :: xs) H2) : tCons te t σ H QA := h
end
section
variable {QB : Bool → Hp → Prop}
theorem w_test {t : TE} (h : t σ H fun x H' => ∃ k, x = .bl k ∧ QB k H') : tTest t σ H QB := h
theorem w_B {t : TE} (h : t σ H fun x H' => ∃ k, x = .bl k ∧ QB k H') : tB t σ H QB := h
theorem w_and {t u : TT} (h : t σ H fun c H1 => if c = true then u σ H1 QB else QB false H1) : tAnd t u σ H QB := h
theorem w_or {t u : TT} (h : t σ H fun c H1 => if c = true then QB true H1 else u σ H1 QB) : tOr t u σ H QB := h
theorem w_not {t : TT} (h : t σ H fun c H1 => QB (!c) H1) : tNot t σ H QB := h
theorem w_yes (q : QB true H) : tYes σ H QB := q
end
section
variable {D : Ends}
theorem w_seq {t u : TS} (h : t { D with nx := u D } σ H) : tSeq t u D σ H := h
theorem w_next (q : D.nx σ H) : tNext D σ H := q
theorem w_drop {te : TE} (h : te σ H fun _ H1 => D.nx σ H1) : tDrop te D σ H := h
theorem w_ret {te : TE} (h : te σ H D.rt) : tRet te D σ H := h
theorem w_retN (h : D.rt .non H) : tRetN D σ H := h
theorem w_ifS {c : TT} {t u : TS} (h : c σ H fun b H1 => if b = true then t D σ H1 else u D σ H1) : tIfS c t u D σ H := h
theorem w_asg {te : TE} {g : TG} (h : te σ H fun x H1 => g x σ H1 D.nx) : tAsg te g D σ H := h
theorem w_sfld {ta tv : TE} {f : Str} (h : tv σ H fun y H1 => ta σ H1 fun x H2 => ∃ a C dx fs, x = .ref a ∧ H2 a = some (.ins C dx fs) ∧ Cls K C ∧ NoAttr K C f ∧ fs.length < 1000 ∧ D.nx σ (upd H2 a (.ins C dx (putF f y fs)))) : sFld K ta tv f D σ H := h
theorem w_for {wi : TI} {g : TG} {tb : TS} (h : wi σ H fun J H1 => ∃ W : Nat → Nat → St → Hp → Prop, (∃ m, W 0 m σ H1) ∧ ∀ i m σ H, W i m σ H →
  (J.stop i H ∧ D.nx σ H) ∨ (J.go i H ∧ ∃ N : St → Hp → Prop, (∀ σ' H', N σ' H' → ∃ m', m' < m ∧ W (i + 1) m' σ' H') ∧ ∀ x H', J.yld i H x H' → g x σ H' fun σ2 H2 => tb { D with nx := N, ct := N, bk := D.nx } σ2 H2)) : tFor wi g tb D σ H := h
end
section
variable {QG : St → Hp → Prop}
theorem w_gName {i : Nat} (q : QG (σ.set i (some v)) H) : gName i v σ H QG := q
theorem w_gSub {to ti : TE} {t : TSet} (h : to σ H fun o H1 => ti σ H1 fun i H2 => t o i v H2 fun H3 => QG σ H3) : gSub to ti t v σ H QG := h
end
section
variable {R : It → Hp → Prop}
theorem w_iList {tl : TE} (h : tl σ H fun x H1 => ∃ a, x = .ref a ∧ (∃ xs, SqL K H1 a xs) ∧ R (Itl K a) H1) : iList K tl σ H R := h
theorem w_iTup {tl : TE} (h : tl σ H fun x H1 => ∃ a, x = .ref a ∧ (∃ xs, SqT K H1 a xs) ∧ R (Itt K a) H1) : iTup K tl σ H R := h
theorem w_iStr {te : TE} (h : te σ H fun v H1 => ∃ x, v = .str x ∧ R (Its x) H1) : iStr te σ H R := h
theorem w_iR1 {ta : TA} (h : ta σ H fun vs H1 => ∃ j : Int, vs = [.int j] ∧ -(2 ^ 62) ≤ j ∧ j < 2 ^ 62 ∧ R (Itr 0 j.toNat) H1) : iRng1 ta σ H R := h
theorem w_iEnum {ta : TA} (h : ta σ H fun vs H1 => ∃ a xs, vs = [.ref a] ∧ SqL K H1 a xs ∧ R (Ite K a) H1) : iEnum K ta σ H R := h
end
theorem w_ixL {p : Addr} {xs : List V} {i : Int} (s : SqL K H p xs) (a : atI xs i = some v) (q : Q v H) : rIxL K (.ref p) (.int i) H Q := ⟨p, xs, i, v, rfl, rfl, s, a, q⟩
theorem w_setL {p : Addr} {xs : List V} {i : Int} {j : Nat} {QH : Hp → Prop} (h : H p = some (.lst xs)) (n : ixN xs.length i = some j) (q : QH (upd H p (.lst (xs.set j v)))) : rSetL (.ref p) (.int i) v H QH := ⟨p, xs, i, j, rfl, rfl, h, n, q⟩
theorem w_ixT {p : Addr} {xs : List V} {i : Int} (s : SqT K H p xs) (a : atI xs i = some v) (q : Q v H) : rIxT K (.ref p) (.int i) H Q := ⟨p, xs, i, v, rfl, rfl, s, a, q⟩
theorem cxK {CX : CXT} {P : Program} {w : World} {mg : Str → Option Value} {base : Heap} {N : List Str} {qual : Str} {scope : Scope} {f : Addr} {cd : Value} {A : Around} {outer : List Env} {s : Shared} {H : Hp} {E : XK} :
    (cxOf CX P w K mg base N qual scope f cd A outer s H E).nox.K = K := rfl
theorem cxK' {CX : CXT} {P : Program} {w : World} {mg : Str → Option Value} {base : Heap} {N : List Str} {qual : Str} {scope : Scope} {f : Addr} {cd : Value} {A : Around} {outer : List Env} {s : Shared} {H : Hp} {E : XK} :
    (cxOf CX P w K mg base N qual scope f cd A outer s H E).K = K := rfl
theorem sz {n : Nat} (h : Nat.ble n 1000 = true) : n ≤ sizeLine := Nat.le_of_lt (small1000 (Nat.le_of_ble_eq_true h))
theorem szl {n : Nat} (h : n ≤ 1000) : n ≤ sizeLine := Nat.le_of_lt (small1000 h)
theorem szb {n : Nat} (h : n ≤ 1000000) : n ≤ sizeLine := Nat.le_trans h (by decide)
theorem szbl {n : Nat} (h : n ≤ 1000000) : n < sizeLine := Nat.lt_of_le_of_lt h (by decide)
theorem w_newSz {n : Nat} {R : Prop} (h : n ≤ sizeLine) (q : R) : n ≤ sizeLine ∧ R := ⟨h, q⟩
theorem ixN_0 {n : Nat} : ixN (n + 1) 0 = some 0 := by
  unfold ixN
  rw [if_pos (by decide), if_pos (by omega)]
  rfl
theorem atI_0 {α : Type} {x : α} {xs : List α} : atI (x :: xs) 0 = some x := by
  unfold atI
  rw [List.length_cons, ixN_0]
  rfl
theorem w_tyL {p : Addr} {xs : List V} {P : Prop} (s : SqL K H p xs) (h : P) : tyV K "list" (.ref p) H ∧ P := ⟨Or.inl ⟨rfl, _, s⟩, h⟩
theorem w_tyS {z : Str} {P : Prop} (h : P) : (∃ a, V.str z = .str a) ∧ P := ⟨⟨_, rfl⟩, h⟩
theorem w_popAt0 {p : Addr} {xs : List V} (e : H p = some (.lst (x :: xs))) (q : Q x (upd H p (.lst xs))) : rPopAt (.ref p) [.int 0] H Q :=
  ⟨p, x :: xs, 0, 0, x, rfl, rfl, e, by decide, by decide, by
    unfold seqIndex?
    simp, rfl, q⟩
theorem w_append {p : Addr} {xs : List V} (e : H p = some (.lst xs)) (l : xs.length < sizeLine) (q : Q .non (upd H p (.lst (xs ++ [y])))) : rAppend (.ref p) [y] H Q := ⟨p, xs, y, rfl, rfl, e, l, q⟩
theorem decI {a b : Int} : decide (V.int a = V.int b) = decide (a = b) := by
  by_cases e : a = b
  · rw [e, decide_eq_true rfl, decide_eq_true rfl]
  · rw [decide_eq_false e, decide_eq_false fun z => e (V.int.inj z)]
theorem decS {a b : Str} : decide (V.str a = V.str b) = decide (a = b) := by
  by_cases e : a = b
  · rw [e, decide_eq_true rfl, decide_eq_true rfl]
  · rw [decide_eq_false e, decide_eq_false fun z => e (V.str.inj z)]
theorem w_ifT {c : Bool} {A B : Prop} (h : c = true) (q : A) : if c = true then A else B := by rw [h]; exact iteT q
theorem w_ifF {c : Bool} {A B : Prop} (h : c = false) (q : B) : if c = true then A else B := by rw [h]; exact iteF q
theorem w_isZ (q : Q (.bl (decide (x = .non))) H) : rIsN x .non H Q := ⟨rfl, q⟩
theorem w_notZ (q : Q (.bl (!decide (x = .non))) H) : rNotN x .non H Q := ⟨rfl, q⟩
theorem w_inS {c : Nat} {z : Str} (q : Q (.bl (decide (c ∈ z.cps.toList))) H) : rInS (.str ⟨#[c]⟩) (.str z) H Q := ⟨c, z, rfl, rfl, q⟩
theorem w_notInS {c : Nat} {z : Str} (q : Q (.bl (!decide (c ∈ z.cps.toList))) H) : rNotInS (.str ⟨#[c]⟩) (.str z) H Q := ⟨c, z, rfl, rfl, q⟩
/-! built-in functions, their readings by name -/
def rLenL (K : PySem.W.Frag) : List V → Hp → VK → Prop := fun xs H Q => ∃ p ys, xs = [.ref p] ∧ (SqL K H p ys ∨ SqT K H p ys) ∧ Q (.int ys.length) H
theorem cr_lenL {X : Cx} : CallR X (.builtin "len") (rLenL X.K) := call_len_seq
theorem w_lenL {p : Addr} {ys : List V} (s : SqL K H p ys) (q : Q (.int ys.length) H) : rLenL K [.ref p] H Q := ⟨p, ys, rfl, .inl s, q⟩
theorem w_lenT {p : Addr} {ys : List V} (s : SqT K H p ys) (q : Q (.int ys.length) H) : rLenL K [.ref p] H Q := ⟨p, ys, rfl, .inr s, q⟩
def rLenS : List V → Hp → VK → Prop := fun xs H Q => ∃ z, xs = [.str z] ∧ z.length ≤ sizeLine ∧ Q (.int z.length) H
theorem cr_lenS {X : Cx} : CallR X (.builtin "len") rLenS := call_len_str
theorem w_lenS {z : Str} (l : z.length ≤ sizeLine) (q : Q (.int z.length) H) : rLenS [.str z] H Q := ⟨z, rfl, l, q⟩
def rListOf (K : PySem.W.Frag) : List V → Hp → VK → Prop := fun xs H Q => ∃ p ys, xs = [.ref p] ∧ (SqL K H p ys ∨ SqT K H p ys) ∧ ∀ l, H l = none → Q (.ref l) (upd H l (.lst ys))
theorem cr_listOf {X : Cx} : CallR X (.type "list") (rListOf X.K) := call_list_of
theorem w_listL {p : Addr} {ys : List V} (s : SqL K H p ys) (q : ∀ l, H l = none → Q (.ref l) (upd H l (.lst ys))) : rListOf K [.ref p] H Q := ⟨p, ys, rfl, .inl s, q⟩
theorem w_listT {p : Addr} {ys : List V} (s : SqT K H p ys) (q : ∀ l, H l = none → Q (.ref l) (upd H l (.lst ys))) : rListOf K [.ref p] H Q := ⟨p, ys, rfl, .inr s, q⟩
def rTupOf (K : PySem.W.Frag) : List V → Hp → VK → Prop := fun xs H Q => ∃ p ys, xs = [.ref p] ∧ ((SqL K H p ys ∧ ∀ l, H l = none → Q (.ref l) (upd H l (.tup ys))) ∨ (SqT K H p ys ∧ Q (.ref p) H))
theorem cr_tupOf {X : Cx} : CallR X (.type "tuple") (rTupOf X.K) := call_tuple_of
theorem w_tupL {p : Addr} {ys : List V} (s : SqL K H p ys) (q : ∀ l, H l = none → Q (.ref l) (upd H l (.tup ys))) : rTupOf K [.ref p] H Q := ⟨p, ys, rfl, .inl ⟨s, q⟩⟩
def rInt1 : List V → Hp → VK → Prop := fun xs H Q => (∃ i, xs = [.int i] ∧ Q (.int i) H) ∨ ∃ k, xs = [.bl k] ∧ Q (.int (if k then 1 else 0)) H
theorem cr_int1 {X : Cx} : CallR X (.type "int") rInt1 := call_int1
theorem w_intI {i : Int} (q : Q (.int i) H) : rInt1 [.int i] H Q := .inl ⟨i, rfl, q⟩
theorem w_intB {k : Bool} (q : Q (.int (if k then 1 else 0)) H) : rInt1 [.bl k] H Q := .inr ⟨k, rfl, q⟩
def rStrI : List V → Hp → VK → Prop := fun xs H Q => ∃ i, xs = [.int i] ∧ i.natAbs.log2 < 1920 ∧ Q (.str (toString i)) H
def rStrX : List V → Hp → VK → Prop := fun xs H Q => rStrI xs H Q ∨ ∃ a, xs = [.str a] ∧ Q (.str a) H
theorem cr_strX {X : Cx} : CallR X (.type "str") rStrX := CallR.or call_str_int SkE.call_str_str
theorem w_strI {i : Int} (l : i.natAbs.log2 < 1920) (q : Q (.str (Str.ofString (toString i))) H) : rStrX [.int i] H Q := .inl ⟨i, rfl, l, q⟩
theorem w_strS {z : Str} (q : Q (.str z) H) : rStrX [.str z] H Q := .inr ⟨z, rfl, q⟩
def rIntS : List V → Hp → VK → Prop := fun xs H Q => ∃ a n, xs = [.str a] ∧ PySem.intText? a = some n ∧ a.length ≤ 640 ∧ Q (.int n) H
theorem cr_intS {X : Cx} : CallR X (.type "int") rIntS := call_int_str
theorem w_isi {a b : String} {r : Bool} (t : TyX K H x (.type a)) (h : kitB a b = some r) (q : Q (.bl r) H) : rIsi K [x, .ty b] H Q := ⟨x, .ty b, .type a, .type b, r, rfl, .ty b, t, kit_ty h, q⟩
theorem tx_L {p : Addr} {xs : List V} (s : SqL K H p xs) : TyX K H (.ref p) (.type "list") := by
  rcases s with (s | ⟨o, s⟩) | ⟨o, its, n, s, c, _⟩
  · exact .base (.lst s)
  · exact .base (.frz s)
  · exact .kList s c
theorem tx_T {p : Addr} {xs : List V} (s : SqT K H p xs) : TyX K H (.ref p) (.type "tuple") := by
  rcases s with (s | ⟨o, s⟩) | ⟨o, its, n, s, c, _⟩
  · exact .base (.tup s)
  · exact .fTuple s
  · exact .kTuple s c
theorem tx_N : TyX K H .non (.type "NoneType") := .base .non
theorem tx_B {b : Bool} : TyX K H (.bl b) (.type "bool") := .base (.bl b)
theorem tx_I {i : Int} : TyX K H (.int i) (.type "int") := .base (.int i)
theorem tx_S {z : Str} : TyX K H (.str z) (.type "str") := .base (.str z)
theorem w_ixXL {p : Addr} {xs : List V} {i : Int} (s : SqL K H p xs) (a : atI xs i = some v) (q : Q v H) : rIx K (.ref p) (.int i) H Q := .inl (w_ixL s a q)
theorem w_ixXT {p : Addr} {xs : List V} {i : Int} (s : SqT K H p xs) (a : atI xs i = some v) (q : Q v H) : rIx K (.ref p) (.int i) H Q := .inr (.inl (w_ixT s a q))
theorem dpAll_get : ∀ {xs : List V} {ds : List PyData} {i : Nat} {x : V}, DpAll K H xs ds → xs[i]? = some x → ∃ d, ds[i]? = some d ∧ Dp K H x d
  | _, _, _, _, .nil, e => by simp at e
  | _, _, 0, _, .cons h _, e => by
    simp at e
    subst e
    exact ⟨_, rfl, h⟩
  | _, _, i + 1, _, .cons _ t, e => by
    obtain ⟨d, h1, h2⟩ := dpAll_get (i := i) t (by simpa using e)
    exact ⟨d, by simpa using h1, h2⟩
theorem dpAll_len : ∀ {xs : List V} {ds : List PyData}, DpAll K H xs ds → xs.length = ds.length
  | _, _, .nil => rfl
  | _, _, .cons _ t => by rw [List.length_cons, List.length_cons, dpAll_len t]
/-! ### heaps: H' keeps what H holds, but at F -/
structure Kp (F : List Addr) (H H' : Hp) : Prop where
  k : ∀ a o, H a = some o → a ∉ F → H' a = some o
theorem ni_nil {a : Addr} : a ∉ ([] : List Addr) := by simp
theorem ni_cons {a b : Addr} {F : List Addr} (h : a ≠ b) (t : a ∉ F) : a ∉ b :: F := by
  intro z
  rcases List.mem_cons.mp z with z | z
  · exact h z
  · exact t z
theorem Kp.refl {F : List Addr} {H : Hp} : Kp F H H := ⟨fun _ _ h _ => h⟩
theorem kp_new {F : List Addr} {H H' : Hp} {p : Addr} {o : HO} (k : Kp F H H') (n : H' p = none) : Kp F H (upd H' p o) := ⟨fun a u e ne => by
  have z := k.k a u e ne
  rw [upd_ne (ne_of_none z n)]
  exact z⟩
theorem kp_set {F : List Addr} {H H' : Hp} {p : Addr} {o : HO} (k : Kp F H H') (m : p ∈ F) : Kp F H (upd H' p o) := ⟨fun a u e ne => by
  have z := k.k a u e ne
  rw [upd_ne (fun q : a = p => ne (by rw [q]; exact m))]
  exact z⟩
theorem kp_new' {F : List Addr} {H H' : Hp} {p : Addr} {o : HO} (n : H' p = none) (k : Kp F H H') : Kp F H (upd H' p o) := kp_new k n
theorem kp_set' {F : List Addr} {H H' : Hp} {p : Addr} {o : HO} (m : p ∈ F) (k : Kp F H H') : Kp F H (upd H' p o) := kp_set k m
theorem kp_setn {F : List Addr} {H H' : Hp} {p : Addr} {o : HO} (n : H p = none) (k : Kp F H H') : Kp F H (upd H' p o) := ⟨fun a u e ne => by
  have z := k.k a u e ne
  rw [upd_ne (ne_of_none e n)]
  exact z⟩
theorem kp_app {F : List Addr} {H H1 H2 : Hp} (l : Kp [] H1 H2) (k : Kp F H H1) : Kp F H H2 := ⟨fun a o e ne => l.k a o (k.k a o e ne) ni_nil⟩
theorem kp_app2 {F : List Addr} {H H1 H2 : Hp} (l : Kp F H1 H2) (k : Kp F H H1) : Kp F H H2 := ⟨fun a o e ne => l.k a o (k.k a o e ne) ne⟩
theorem ne_new {H : Hp} {a b : Addr} {o : HO} (n : H b = none) (e : H a = some o) : a ≠ b := ne_of_none e n
theorem w_gen {sp : Sp} {vs : List V} {Q : VK} {E : XK} {H : Hp} (P : Hp → Prop) (hP : P H) (h : ∀ H', P H' → sp vs H' Q E) : sp vs H Q E := h H hP
theorem none_of_kp {F : List Addr} {H H' : Hp} {p : Addr} (k : Kp F H H') (m : p ∉ F) (n : H' p = none) : H p = none := by
  cases e : H p with
  | none => rfl
  | some o =>
    have z := k.k p o e m
    rw [n] at z
    cases z
theorem none_of_kp2 {H H' : Hp} {p : Addr} (n : H' p = none) (k : Kp [] H H') : H p = none := none_of_kp k ni_nil n
theorem none_of_upd {H : Hp} {p q : Addr} {o : HO} (n : upd H q o p = none) : H p = none := by
  by_cases e : p = q
  · rw [e, upd_same] at n
    cases n
  · rw [upd_ne e] at n
    exact n
theorem Kp.trans {F G : List Addr} {H H1 H2 : Hp} (k : Kp F H H1) (l : Kp G H1 H2) (s : ∀ a o, H a = some o → a ∈ G → a ∈ F) : Kp F H H2 := ⟨fun a o e ne => l.k a o (k.k a o e ne) (fun z => ne (s a o e z))⟩
theorem Kp.same {H H' : Hp} (k : Kp [] H H') : Same H H' := fun a o e => k.k a o e ni_nil
theorem Kp.of {H H' : Hp} (k : Same H H') : Kp [] H H' := ⟨fun a o e _ => k a o e⟩
theorem upd_old {H : Hp} {p a : Addr} {o u : HO} (n : H p = none) (e : H a = some u) : upd H p o a = some u := by
  rw [upd_ne (ne_of_none e n)]
  exact e
theorem upd_oth {H : Hp} {p a : Addr} {o u : HO} (n : a ≠ p) (e : H a = some u) : upd H p o a = some u := by
  rw [upd_ne n]
  exact e
theorem kp_get {F : List Addr} {H H' : Hp} {a : Addr} {o : HO} (k : Kp F H H') (e : H a = some o) (n : a ∉ F) : H' a = some o := k.k a o e n
theorem sq_l {a : Addr} {xs : List V} (e : H a = some (.lst xs)) : SqL K H a xs := .inl (.inl e)
theorem sq_t {a : Addr} {xs : List V} (e : H a = some (.tup xs)) : SqT K H a xs := .inl (.inl e)
theorem sqL_new {a p : Addr} {xs : List V} {o : HO} (n : H p = none) (s : SqL K H a xs) : SqL K (upd H p o) a xs := by
  rcases s with (s | ⟨b, s⟩) | s
  · exact .inl (.inl (upd_old n s))
  · exact .inl (.inr ⟨b, upd_old n s⟩)
  · exact .inr s
theorem sqT_new {a p : Addr} {xs : List V} {o : HO} (n : H p = none) (s : SqT K H a xs) : SqT K (upd H p o) a xs := by
  rcases s with (s | ⟨b, s⟩) | s
  · exact .inl (.inl (upd_old n s))
  · exact .inl (.inr ⟨b, upd_old n s⟩)
  · exact .inr s
end
end VH

namespace VH
open PySem PySem.Spec L2
open PyProof.Rows hiding St
/-! ### d.update(e) -/
def rDUpd : V → List V → Hp → VK → Prop := fun x xs H Q => ∃ a b kvs more, x = .ref a ∧ xs = [.ref b] ∧ a ≠ b ∧ H a = some (.dK kvs) ∧ H b = some (.dK more) ∧ kvs.length + more.length ≤ sizeLine ∧ Q .non (upd H a (.dK (mergeK kvs more)))
theorem mt_dupdate {X : Cx} : MtR X "dict.update" rDUpd := by
  intro pins s σ H x xs v us Q I rx rv h
  obtain ⟨a, b, kvs, more, rfl, rfl, ne, ha, hb, hz, q⟩ := h
  cases rx
  obtain ⟨u, rfl, ru⟩ := vals1 rv
  cases ru
  obtain ⟨_, lo, vs, r1, d1⟩ := dk_of I.hok ha
  obtain ⟨_, lo2, ws, r2, d2⟩ := dk_of I.hok hb
  refine call_meetsIn PySem.F.slot_dict_update d1.typeIs PySem.F.entry_dict_update (PySem.F.args_dict_update_2 _ _) (meets_dict_update (mixKind X.prog X.w) a b ne lo2) ⟨vs, ws, d1, d2, (by rw [← r1.length, ← r2.length]; exact hz), fun h' hm _ hs => ?_⟩
  have he : ∃ q, h'.get? a = some q := let ⟨q, _, _, hq, _⟩ := hm; ⟨q, hq⟩
  refine ⟨.non, _, d_write I (by rw [ha]; exact True.intro) hs he (dk_new ?_ lo (r2.merge r1) hm), rfl, q⟩
  exact Nat.le_trans (length_mergeK _ _) hz
section
variable {σ : St} {H : Hp} {Q : VK} {v x y : V} {K : PySem.W.Frag}
theorem w_tyD {p : Addr} {kvs : List (Key × V)} {P : Prop} (e : H p = some (.dK kvs)) (h : P) : tyV K "dict" (.ref p) H ∧ P := ⟨Or.inr (Or.inr (Or.inl ⟨rfl, Or.inl ⟨kvs, e⟩⟩)), h⟩
theorem w_dupd {a b : Addr} {kvs more : List (Key × V)} (ne : a ≠ b) (ha : H a = some (.dK kvs)) (hb : H b = some (.dK more)) (l : kvs.length + more.length ≤ sizeLine) (q : Q .non (upd H a (.dK (mergeK kvs more)))) : rDUpd (.ref a) [.ref b] H Q := ⟨a, b, kvs, more, rfl, rfl, ne, ha, hb, l, q⟩
end
/-! ### get of a dict of the top -/
/-- what a dict of the top holds at a text -/
def KAt (es : Array DictEntry) (z : Str) (o : Option V) : Prop := RelO o (findBy Value.isStrOf es z)
def tKGet2 (d : Addr) (es : Array DictEntry) (td ty tx : TE) : TE := fun σ H Q => td σ H fun x H1 => x = .ref d ∧ ty σ H1 fun y H2 => tx σ H2 fun z H3 => ∃ (k : Str) (o : Option V), y = .str k ∧ KAt es k o ∧ Q (o.getD z) H3
theorem pe_kget2 {X : Cx} {o e f : Expr} {apos cpos : Pos} {td ty tx : TE} {d : Addr} {es : Array DictEntry} {n : Nat} (D : KDict X.K X.w d es n) (ho : PE X o td) (he : PE X e ty) (hf : PE X f tx) (m : M2 X o "get" apos e f cpos) :
    PE X (.Call (.Attribute o "get" apos) [e, f] [] cpos) (tKGet2 d es td ty tx) := by
  refine ⟨fun pins s σ H Q I h => ?_⟩
  refine wpAny_Call_method m.base m.few m.line PySem.F.plainAttrs_dict PySem.F.slot_dict_get PySem.F.type_dict_get (thn (ho.run pins s σ H _ I h) fun u s1 ⟨x, H1, I1, rx, ex, q1⟩ => ?_)
  subst ex
  obtain rfl : u = Value.ref d := rx
  refine ⟨kd_type D I1, fun b e => ?_, ?_⟩
  · cases e
    exact ⟨_, I1.kIn _ _ D.at_, rfl⟩
  rw [m.trees]
  refine Calls.callWith_builtin rfl (Calls.evalArgs_plain (Calls.spliced_cons (thn (he.run pins s1 σ H1 _ I1 q1) fun iv s2 ⟨y, H2, I2, ry, q2⟩ =>
    Calls.spliced_cons (thn (hf.run pins s2 σ H2 _ I2 q2) fun fv s3 ⟨z, H3, I3, rz, k, ov, ey, g, q3⟩ => Calls.spliced_nil ?_))))
  subst ey
  obtain ⟨t, rfl⟩ := (show ∃ t, iv = Value.str k t from ry)
  have hm := PySem.W.mapOf_K (prog := X.prog) (w := X.w) I3.kIn D.at_ D.lit
  refine call_meetsIn PySem.F.slot_dict_get hm.typeIs PySem.F.entry_dict_get (PySem.F.args_dict_get_3 _ _ _) (meets_dict_get_default (strKind X.prog X.w) d (PySem.strKind_is X.prog X.w k t) D.low fv) ⟨_, hm, ⟨ov.getD z, H3, I3.tok _, ?_, q3⟩⟩
  exact RelO.getD g rz
/-! ### split, join by name -/
def rSplit : V → List V → Hp → VK → Prop := fun x xs H Q => ∃ a b, x = .str a ∧ xs = [.str b] ∧ (b.length == 0) = false ∧ a.length + 2 ≤ sizeLine ∧ rNewStrs (Txt.split a b) H Q
theorem pe_splitN {X : Cx} {o e : Expr} {to te : TE} {apos pos : Pos} (ho : PE X o to) (he : PE X e te) (hs : starEach [e] X.env = [(false, eval e X.env)] := by rfl) (hbase : attributeBase o "split" X.env (eval o X.env) = eval o X.env := by rfl) (hline : (apos.endLine == pos.line) = true := by rfl) :
    PE X (.Call (.Attribute o "split" apos) [e] [] pos) (tM1 rSplit to te) := pe_split ho he hs hbase hline
def rJoin (K : PySem.W.Frag) : V → List V → Hp → VK → Prop := fun x xs H Q => ∃ a p, ∃ ys : List Str, x = .str a ∧ xs = [.ref p] ∧ (SqL K H p (ys.map V.str) ∨ SqT K H p (ys.map V.str)) ∧ (ys.map (·.length)).sum + ys.length * a.length ≤ 16777216 ∧ Q (.str (Txt.join a ys)) H
theorem pe_joinN {X : Cx} {o e : Expr} {to te : TE} {apos pos : Pos} (ho : PE X o to) (he : PE X e te) (hs : starEach [e] X.env = [(false, eval e X.env)] := by rfl) (hbase : attributeBase o "join" X.env (eval o X.env) = eval o X.env := by rfl) (hline : (apos.endLine == pos.line) = true := by rfl) :
    PE X (.Call (.Attribute o "join" apos) [e] [] pos) (tM1 (rJoin X.K) to te) := pe_join ho he hs hbase hline
section
variable {σ : St} {H : Hp} {Q : VK} {v x y : V} {K : PySem.W.Frag}
theorem w_split {a b : Str} (hb : (b.length == 0) = false) (l : a.length + 2 ≤ sizeLine) (q : ∀ p, H p = none → Q (.ref p) (upd H p (.lst ((Txt.split a b).map V.str)))) : rSplit (.str a) [.str b] H Q := ⟨a, b, rfl, rfl, hb, l, q⟩
theorem w_join {a : Str} {p : Addr} {ys : List Str} (s : SqL K H p (ys.map V.str)) (l : (ys.map (·.length)).sum + ys.length * a.length ≤ 16777216) (q : Q (.str (Txt.join a ys)) H) : rJoin K (.str a) [.ref p] H Q := ⟨a, p, ys, rfl, rfl, .inl s, l, q⟩
def rCatS : R2 := fun x y H Q => ∃ i j, x = .str i ∧ y = .str j ∧ i.length + j.length ≤ sizeLine ∧ Q (.str (i ++ j)) H
theorem op_catS {X : Cx} : OpR X (binaryOp .Add) rCatS := op_add_str
theorem w_catS {a b : Str} (l : a.length + b.length ≤ sizeLine) (q : Q (.str (a ++ b)) H) : rCatS (.str a) (.str b) H Q := ⟨a, b, rfl, rfl, l, q⟩
theorem w_slT {p : Addr} {xs : List V} {lo hi : Option Int} (s : SqT K H p xs) (n : ¬ (HT.sIx xs.length 0 lo = 0 ∧ HT.sIx xs.length xs.length hi = xs.length)) (q : ∀ l, H l = none → Q (.ref l) (upd H l (.tup (cutV xs lo hi)))) : rSlT K (.ref p) lo hi H Q := ⟨p, xs, rfl, s, n, q⟩
theorem w_addS {a b : Str} (l : a.length + b.length ≤ sizeLine) (q : Q (.str (a ++ b)) H) : (∃ i j, V.str a = .str i ∧ V.str b = .str j ∧ i.length + j.length ≤ sizeLine ∧ Q (.str (i ++ j)) H) := ⟨a, b, rfl, rfl, l, q⟩
theorem w_cat {l b : Addr} {xs zs : List V} (hl : H l = some (.lst xs)) (hb : H b = some (.lst zs)) (z : xs.length + zs.length ≤ sizeLine) (q : ∀ p, H p = none → Q (.ref p) (upd H p (.lst (xs ++ zs)))) : rCat (.ref l) (.ref b) H Q := ⟨l, b, xs, zs, rfl, rfl, hl, hb, z, q⟩
theorem w_slice {r : V → Option Int → Option Int → Hp → VK → Prop} {te : TE} {tl th : St → Hp → (Option Int → Hp → Prop) → Prop} (h : te σ H fun x H1 => tl σ H1 fun lo H2 => th σ H2 fun hi H3 => r x lo hi H3 Q) : tSl r te tl th σ H Q := h
theorem w_part {te : TE} {QO : Option Int → Hp → Prop} (h : te σ H fun x H1 => ∃ i, x = .int i ∧ QO (some i) H1) : tPart te σ H QO := h
theorem w_noPart {QO : Option Int → Hp → Prop} (q : QO none H) : tNoPart σ H QO := q
theorem w_anInt {i : Int} {P : Int → Prop} (h : P i) : ∃ j, V.int i = V.int j ∧ P j := ⟨i, rfl, h⟩
theorem w_slL {p : Addr} {xs : List V} {lo hi : Option Int} (s : SqL K H p xs) (q : ∀ l, H l = none → Q (.ref l) (upd H l (.lst (cutV xs lo hi)))) : rSlL K (.ref p) lo hi H Q := ⟨p, xs, rfl, s, q⟩
theorem w_in {p : Addr} {xs : List V} (s : SqL K H p xs) (fx : flatV x = true) (fs : xs.all flatV = true) (q : Q (.bl (inV x xs)) H) : rIn K false x (.ref p) H Q := ⟨p, xs, rfl, .inl s, fx, fs, q⟩
end
section
variable {σ : St} {H : Hp} {Q : VK} {v x y : V} {K : PySem.W.Frag}
theorem w_disp {trs : List (TE × TE)} (h : ∀ p, H p = none → tPairs trs σ (upd H p (.dK [])) fun ps H2 => H2 p = some (.dK []) ∧ ∃ kvs : List (Key × V), ps = kvs.map (fun kv => (kV kv.1, kv.2)) ∧ kvs.length ≤ 15 ∧ Q (.ref p) (upd H2 p (.dK (mergeK [] kvs)))) : tDisp trs σ H Q := h
theorem w_pnil {QP : List (V × V) → Hp → Prop} (q : QP [] H) : tPairs [] σ H QP := q
theorem w_pcons {tk tv : TE} {r : List (TE × TE)} {QP : List (V × V) → Hp → Prop} (h : tk σ H fun x H1 => tv σ H1 fun y H2 => tPairs r σ H2 fun ps H3 => QP ((x, y) :: ps) H3) : tPairs ((tk, tv) :: r) σ H QP := h
theorem w_dget2 {td ty tx : TE} (h : td σ H fun x H1 => ∃ a, x = .ref a ∧ IsD H1 a ∧ ty σ H1 fun y H2 => tx σ H2 fun z H3 => ∃ o, DGet H3 a y o ∧ Q (o.getD z) H3) : tDGet2 td ty tx σ H Q := h
theorem w_isD {p : Addr} {kvs : List (Key × V)} {R : Addr → Prop} (e : H p = some (.dK kvs)) (h : R p) : ∃ a, V.ref p = .ref a ∧ IsD H a ∧ R a := ⟨p, rfl, .inl ⟨kvs, .inl e⟩, h⟩
theorem w_dgS {p : Addr} {kvs : List (Key × V)} {z : Str} {R : Option V → Prop} (e : H p = some (.dK kvs)) (h : R (valV kvs (Sum.inr z))) : ∃ o, DGet H p (.str z) o ∧ R o := ⟨_, DGet.k (k := Sum.inr z) e, h⟩
theorem w_ixS {z : Str} {i : Int} {c : Nat} (l : z.length ≤ sizeLine) (a : atI z.cps.toList i = some c) (q : Q (.str ⟨#[c]⟩) H) : rIxS (.str z) (.int i) H Q := ⟨z, i, c, rfl, rfl, l, a, q⟩
theorem w_intS {z : Str} {n : Int} (t : PySem.intText? z = some n) (l : z.length ≤ 640) (q : Q (.int n) H) : rIntS [.str z] H Q := ⟨z, n, rfl, t, l, q⟩
theorem w_lc {wi : TI} {g : TG} {tt : TT} {te : TE} {vs : List Nat} (h : wi σ H fun J H1 => ∀ D, H1 D = none → ∃ W : Nat → Nat → Hp → Prop, (∃ m, W 0 m (upd H1 D (.lst []))) ∧ ∀ i m H, W i m H →
  (J.stop i H ∧ Q (.ref D) H) ∨ (J.go i H ∧ ∃ Nx : Hp → Prop, (∀ H', Nx H' → ∃ m', m' < m ∧ W (i + 1) m' H') ∧ ∀ x H', J.yld i H x H' → g x (wipe σ vs) H' fun σ2 H2 => wipe σ2 vs = wipe σ vs ∧ tt σ2 H2 fun b H3 =>
    if b = true then te σ2 H3 fun y H4 => ∃ acc, H4 D = some (.lst acc) ∧ acc.length < sizeLine ∧ Nx (upd H4 D (.lst (acc ++ [y]))) else Nx H3)) : tLc wi g tt te vs σ H Q := h
theorem w_aStr {z : Str} {P : Str → Prop} (h : P z) : ∃ x, V.str z = .str x ∧ P x := ⟨z, rfl, h⟩
theorem w_itL {p : Addr} {xs : List V} {R : Addr → Prop} (s : SqL K H p xs) (h : R p) : ∃ a, V.ref p = .ref a ∧ (∃ xs, SqL K H a xs) ∧ R a := ⟨p, rfl, ⟨xs, s⟩, h⟩
theorem w_itT {p : Addr} {xs : List V} {R : Addr → Prop} (s : SqT K H p xs) (h : R p) : ∃ a, V.ref p = .ref a ∧ (∃ xs, SqT K H a xs) ∧ R a := ⟨p, rfl, ⟨xs, s⟩, h⟩
theorem w_rng {n : Int} {R : Int → Prop} (h0 : -(2 ^ 62) ≤ n) (h1 : n < 2 ^ 62) (h : R n) : ∃ j : Int, [V.int n] = [V.int j] ∧ -(2 ^ 62) ≤ j ∧ j < 2 ^ 62 ∧ R j := ⟨n, rfl, h0, h1, h⟩
theorem w_enum {p : Addr} {xs : List V} {R : Addr → Prop} (s : SqL K H p xs) (h : R p) : ∃ a ys, [V.ref p] = [V.ref a] ∧ SqL K H a ys ∧ R a := ⟨p, xs, rfl, s, h⟩
end
section
variable {a b : Int} {z t : Str} {p : Prop} [Decidable p]
theorem nbT (h : ¬ p) : (!decide p) = true := by rw [decide_eq_false h]; rfl
theorem nbF (h : p) : (!decide p) = false := by rw [decide_eq_true h]; rfl
theorem iT (h : a = b) : decide (V.int a = V.int b) = true := by rw [decI]; exact decide_eq_true h
theorem iF (h : ¬ a = b) : decide (V.int a = V.int b) = false := by rw [decI]; exact decide_eq_false h
theorem niT (h : ¬ a = b) : (!decide (V.int a = V.int b)) = true := by rw [iF h]; rfl
theorem niF (h : a = b) : (!decide (V.int a = V.int b)) = false := by rw [iT h]; rfl
theorem sT (h : z = t) : decide (V.str z = V.str t) = true := by rw [decS]; exact decide_eq_true h
theorem sF (h : ¬ z = t) : decide (V.str z = V.str t) = false := by rw [decS]; exact decide_eq_false h
theorem nsT (h : ¬ z = t) : (!decide (V.str z = V.str t)) = true := by rw [sF h]; rfl
theorem nsF (h : z = t) : (!decide (V.str z = V.str t)) = false := by rw [sT h]; rfl
end
theorem take_snoc {α β : Type} {l : List α} {i : Nat} {a : α} (h : l[i]? = some a) (f : α → β) : (l.take i).map f ++ [f a] = (l.take (i + 1)).map f := by
  rw [List.take_add_one, h]
  simp
theorem cutV_from (xs : List V) (k : Nat) : cutV xs (some (k : Int)) none = xs.drop k := by
  unfold cutV
  rw [HT.sIx_nat, HT.sIx_none]
  by_cases h : k ≤ xs.length
  · rw [Nat.min_eq_left h]
    exact List.take_of_length_le (by rw [List.length_drop]; omega)
  · rw [Nat.min_eq_right (by omega), List.drop_of_length_le (Nat.le_refl _), List.drop_of_length_le (by omega), List.take_nil]
section
variable {σ : St} {H : Hp} {Q : VK} {v x y : V} {K : PySem.W.Frag} {QG : St → Hp → Prop}
theorem w_gTup {n : Nat} {t : TGs} {p : Addr} {xs : List V} (s : SqT K H p xs) (l : xs.length = n) (h : t xs σ H QG) : gTup K n t (.ref p) σ H QG := ⟨p, xs, rfl, s, l, h⟩
theorem w_gCons {t : TG} {u : TGs} {r : List V} (h : t v σ H fun σ' H' => u r σ' H' QG) : gCons t u (v :: r) σ H QG := ⟨v, r, rfl, h⟩
theorem w_gNil (q : QG σ H) : gNil [] σ H QG := ⟨rfl, q⟩
theorem w_kget2 {d : Addr} {es : Array DictEntry} {td ty tx : TE} (h : td σ H fun x H1 => x = .ref d ∧ ty σ H1 fun y H2 => tx σ H2 fun z H3 => ∃ (k : Str) (o : Option V), y = .str k ∧ KAt es k o ∧ Q (o.getD z) H3) : tKGet2 d es td ty tx σ H Q := h
theorem w_same {P : Prop} (h : P) : v = v ∧ P := ⟨rfl, h⟩
theorem w_kat {es : Array DictEntry} {k : Str} {o : Option V} {P : Option V → Prop} (g : KAt es k o) (h : P o) : ∃ (k' : Str) (o : Option V), V.str k = .str k' ∧ KAt es k' o ∧ P o := ⟨k, o, rfl, g, h⟩
end
theorem for_enum {K : PySem.W.Frag} {a : Addr} {xs : List V} {g : TG} {tb : TS} {D : Ends} {σ : St} {H : Hp} (Pv : Nat → St → Hp → Prop) (h0 : Pv 0 σ H) (hl : ∀ i σ H, i ≤ xs.length → Pv i σ H → SqL K H a xs)
    (hs : ∀ i x T σ H, xs[i]? = some x → Pv i σ H → H T = none → g (.ref T) σ (upd H T (.tup [.int (i : Nat), x])) fun σ2 H2 => tb { D with nx := Pv (i + 1), ct := Pv (i + 1), bk := D.nx } σ2 H2) (hd : ∀ σ H, Pv xs.length σ H → D.nx σ H) :
    ∃ W : Nat → Nat → St → Hp → Prop, (∃ m, W 0 m σ H) ∧ ∀ i m σ H, W i m σ H →
      ((Ite K a).stop i H ∧ D.nx σ H) ∨ ((Ite K a).go i H ∧ ∃ N : St → Hp → Prop, (∀ σ' H', N σ' H' → ∃ m', m' < m ∧ W (i + 1) m' σ' H') ∧ ∀ x H', (Ite K a).yld i H x H' → g x σ H' fun σ2 H2 => tb { D with nx := N, ct := N, bk := D.nx } σ2 H2) := by
  refine ⟨fun i m σ H => m = xs.length - i ∧ i ≤ xs.length ∧ Pv i σ H, ⟨xs.length, by simp, Nat.zero_le _, h0⟩, ?_⟩
  rintro i m σ H ⟨rfl, hi, p⟩
  have q := hl i σ H hi p
  by_cases hlt : i < xs.length
  · refine .inr ⟨⟨xs, xs[i], q, by simp [hlt]⟩, Pv (i + 1), fun σ' H' p' => ⟨xs.length - (i + 1), by omega, rfl, hlt, p'⟩, fun v H' y => ?_⟩
    obtain ⟨T, x, rfl, nT, rfl, f⟩ := y
    exact hs i x T σ H (f xs q) p nT
  · have e : i = xs.length := by omega
    subst e
    exact .inl ⟨⟨xs, q, Nat.le_refl _⟩, hd σ H p⟩
theorem blkOk_free {N : List Str} {sc scope : Scope} {own : List (Str × Nat)} (h : blkC N scope scope own = true) (nf : (scope.names.all fun y => match y.2 with | .free => false | _ => true) = true) : BlkOk N sc scope own := by
  obtain ⟨a, b, c, d, e⟩ := blkOk_by h
  refine ⟨a, b, c, fun y hy hf => ?_, e⟩
  have z := List.all_eq_true.mp nf y hy
  rw [hf] at z
  cases z
section
variable {X : Cx} {elt tg iter : Expr} {ifs : List Expr} {scope : Scope} {own : List (Str × Nat)} {pos : Pos} {wi : TI}
  {g' : Shared → Hp → Addr → List (Str × Addr) → List Addr → TG} {tt' : Shared → Hp → Addr → List (Str × Addr) → List Addr → TT} {te' : Shared → Hp → Addr → List (Str × Addr) → List Addr → TE}
/-- a comprehension whose parts' readings may name the block's context -/
theorem pe_lcD (hc : X.calm = true) (hN : X.N.Nodup) (hi : PI X tg iter wi) (ok : BlkOk X.N X.env.scope scope own)
    (hg : ∀ (s : Shared) (H : Hp) (C : Addr) (cl : List (Str × Addr)) (fp : List Addr), PG (X.blk s H scope (compEnvC scope cl C X.env) fp) tg (g' s H C cl fp))
    (ht : ∀ (s : Shared) (H : Hp) (C : Addr) (cl : List (Str × Addr)) (fp : List Addr), PTs (X.blk s H scope (compEnvC scope cl C X.env) fp) ifs (tt' s H C cl fp))
    (he : ∀ (s : Shared) (H : Hp) (C : Addr) (cl : List (Str × Addr)) (fp : List Addr), PE (X.blk s H scope (compEnvC scope cl C X.env) fp) elt (te' s H C cl fp))
    (hs : ∀ x, foldedSetIterable iter X.env x = pure x := by intro _; rfl)
    (eg : ∀ s H C cl fp, g' s H C cl fp = g' X.s_0 X.H_0 0 [] [] := by intros; rfl) (et : ∀ s H C cl fp, tt' s H C cl fp = tt' X.s_0 X.H_0 0 [] [] := by intros; rfl) (ee : ∀ s H C cl fp, te' s H C cl fp = te' X.s_0 X.H_0 0 [] [] := by intros; rfl) :
    PE X (.ListComp elt [⟨tg, iter, ifs, 0⟩] scope pos) (tLc wi (g' X.s_0 X.H_0 0 [] []) (tt' X.s_0 X.H_0 0 [] []) (te' X.s_0 X.H_0 0 [] []) (own.map (·.2))) :=
  pe_lc hc hN hi ok (fun s H C cl fp => by rw [← eg s H C cl fp]; exact hg s H C cl fp) (fun s H C cl fp => by rw [← et s H C cl fp]; exact ht s H C cl fp) (fun s H C cl fp => by rw [← ee s H C cl fp]; exact he s H C cl fp) hs
theorem ps_setLcD {i : Nat} {y : Str} {py spos : Pos} (hc : X.calm = true) (hN : X.N.Nodup) (hy : X.N[i]? = some y) (hyl : X.env.scope.names.lookup y = some .local)
    (hsw : swapsWith (.ListComp elt [⟨tg, iter, ifs, 0⟩] scope pos) (some (.Name y py)) spos.line X.env = pure true) (hi : PI X tg iter wi) (ok : BlkOk X.N X.env.scope scope own)
    (hg : ∀ (s : Shared) (H : Hp) (C : Addr) (cl : List (Str × Addr)) (fp : List Addr), PG (X.blk s H scope (compEnvC scope cl C X.env) fp) tg (g' s H C cl fp))
    (ht : ∀ (s : Shared) (H : Hp) (C : Addr) (cl : List (Str × Addr)) (fp : List Addr), PTs (X.blk s H scope (compEnvC scope cl C X.env) fp) ifs (tt' s H C cl fp))
    (he : ∀ (s : Shared) (H : Hp) (C : Addr) (cl : List (Str × Addr)) (fp : List Addr), PE (X.blk s H scope (compEnvC scope cl C X.env) fp) elt (te' s H C cl fp))
    (hs : ∀ x, foldedSetIterable iter X.env x = pure x := by intro _; rfl)
    (eg : ∀ s H C cl fp, g' s H C cl fp = g' X.s_0 X.H_0 0 [] [] := by intros; rfl) (et : ∀ s H C cl fp, tt' s H C cl fp = tt' X.s_0 X.H_0 0 [] [] := by intros; rfl) (ee : ∀ s H C cl fp, te' s H C cl fp = te' X.s_0 X.H_0 0 [] [] := by intros; rfl) :
    PS X (.Assign [.Name y py] (.ListComp elt [⟨tg, iter, ifs, 0⟩] scope pos) spos) (tAsg (tLc wi (g' X.s_0 X.H_0 0 [] []) (tt' X.s_0 X.H_0 0 [] []) (te' X.s_0 X.H_0 0 [] []) (own.map (·.2))) (gName i)) :=
  ps_setLc hc hN hy hyl hsw hi ok (fun s H C cl fp => by rw [← eg s H C cl fp]; exact hg s H C cl fp) (fun s H C cl fp => by rw [← et s H C cl fp]; exact ht s H C cl fp) (fun s H C cl fp => by rw [← ee s H C cl fp]; exact he s H C cl fp) hs
end
/-! ### comprehensions over a text -/
theorem lc_str {x : Str} {g : TG} {tt : TT} {te : TE} {vs : List Nat} {σ : St} {H1 : Hp} {D : Addr} {Qd : Hp → Prop} (Pv : Nat → Hp → Prop) (h0 : Pv 0 (upd H1 D (.lst [])))
    (hs : ∀ i c H, x.cps[i]? = some c → Pv i H → g (.str ⟨#[c]⟩) (wipe σ vs) H fun σ2 H2 => wipe σ2 vs = wipe σ vs ∧ tt σ2 H2 fun b H3 =>
      if b = true then te σ2 H3 fun y H4 => ∃ acc, H4 D = some (.lst acc) ∧ acc.length < sizeLine ∧ Pv (i + 1) (upd H4 D (.lst (acc ++ [y]))) else Pv (i + 1) H3) (hd : ∀ H, Pv x.cps.size H → Qd H) :
    ∃ W : Nat → Nat → Hp → Prop, (∃ m, W 0 m (upd H1 D (.lst []))) ∧ ∀ i m H, W i m H →
      ((Its x).stop i H ∧ Qd H) ∨ ((Its x).go i H ∧ ∃ Nx : Hp → Prop, (∀ H', Nx H' → ∃ m', m' < m ∧ W (i + 1) m' H') ∧ ∀ z H', (Its x).yld i H z H' → g z (wipe σ vs) H' fun σ2 H2 => wipe σ2 vs = wipe σ vs ∧ tt σ2 H2 fun b H3 =>
        if b = true then te σ2 H3 fun y H4 => ∃ acc, H4 D = some (.lst acc) ∧ acc.length < sizeLine ∧ Nx (upd H4 D (.lst (acc ++ [y]))) else Nx H3) := by
  refine ⟨fun i m H => m = x.cps.size - i ∧ i ≤ x.cps.size ∧ Pv i H, ⟨x.cps.size, by simp, Nat.zero_le _, h0⟩, ?_⟩
  rintro i m H ⟨rfl, hi, p⟩
  by_cases hlt : i < x.cps.size
  · refine .inr ⟨hlt, Pv (i + 1), fun H' p' => ⟨x.cps.size - (i + 1), by omega, rfl, hlt, p'⟩, fun z H' y => ?_⟩
    obtain ⟨e, c, hc, rfl⟩ := y
    subst e
    exact hs i c _ hc p
  · have e : i = x.cps.size := by omega
    subst e
    exact .inl ⟨Nat.le_refl _, hd H p⟩
end VH

namespace VH
open PySem PySem.Spec L2 LamX
open PyProof.Rows hiding St
/-! ### isinstance(e, c), e the exception that a suite holds, with or without a dict -/
def rIsC (K : PySem.W.Frag) (a : Addr) (cls : Value) (d : Option Addr) : List V → Hp → VK → Prop := fun xs H Q => ∃ (D : Addr) (c : V) (cv : Value) (b : Bool), cls = .ref D ∧ ExcC K D ∧ (d = none ∨ ∃ dd fs, d = some dd ∧ H dd = some (.xd fs)) ∧
  xs = [.ref a, c] ∧ (∀ u, RelV c u → u = cv) ∧ PySem.W.kitOne K (.ref D) cv = some b ∧ Q (.bl b) H
theorem call_isC {X : Cx} {a : Addr} {oe : Obj} {cls : Value} {d : Option Addr} {pn : List (Addr × Obj)} (hz : Zc cls d oe) (hf : ∃ vs, oe.data = .fields vs) : CallR (X.suite a ((a, oe) :: pn)) (.builtin "isinstance") (rIsC X.K a cls d) := by
  intro pins s σ H xs us Q I r h
  obtain ⟨D, c, cv, b, rfl, C, hd, rfl, hcv, e, q⟩ := h
  cases r with
  | cons rx rr =>
    cases rr with
    | cons rt rr =>
      cases rr
      cases rx
      have ec := hcv _ rt
      subst ec
      obtain ⟨hget, _⟩ := I.pin (a, oe) (List.mem_append.mpr (.inl List.mem_cons_self))
      obtain ⟨vs, hv⟩ := hf
      obtain ⟨od, J⟩ : ∃ od, PySem.W.InstAt s.heap a oe D od := by
        rcases hd with rfl | ⟨dd, fs, rfl, ea⟩
        · refine ⟨none, hget, hz.1, by unfold PySem.W.notCls; rw [hv] <;> rfl, ?_⟩
          rw [hz.2]
          trivial
        · have hx : ObjOk X.prog X.w H s.heap dd (.xd fs) := I.hok dd _ ea
          obtain ⟨mA, hns, hr⟩ := hx
          obtain ⟨od, ho, hl⟩ := lookIn_ns hns
          exact ⟨some od, hget, hz.1, by unfold PySem.W.notCls; rw [hv] <;> rfl, by rw [hz.2]; exact ho⟩
      have hcl : (PySem.W.clsIn X.K D).isSome = true := by
        obtain ⟨cd, hc, _⟩ := PySem.W.any_some C.hd
        rw [hc]
        rfl
      exact PySem.W.kia_one (PySem.W.kitx_exc (gt := none) hcl C.hg C.hk C.hs C.ha C.hn C.ht C.hm) I.kIn J e (fun z => nomatch z) fun tk => ⟨.bl b, H, I.kept (t' := tk) fun _ _ z => z, rfl, q⟩
/-! ### list.count, flat items -/
def rCntF (K : PySem.W.Frag) : V → List V → Hp → VK → Prop := fun x xs H Q => ∃ (p : Addr) (ys : List V) (y : V), x = .ref p ∧ xs = [y] ∧ SqL K H p ys ∧ flatV y = true ∧ ys.all flatV = true ∧ Q (.int ((ys.countP fun z => eqV z y : Nat) : Int)) H
theorem cnt_eqU {y : V} : ∀ {ys : List V} {us : List Value}, Vals ys us → ys.all flatV = true → us.countP (eqU y) = ys.countP fun z => eqV z y
  | _, _, .nil, _ => rfl
  | _, _, .cons (a := x) (b := u) r t, h => by
    have h : (flatV x && _) = true := h
    rw [Bool.and_eq_true] at h
    rw [List.countP_cons, List.countP_cons, cnt_eqU t h.2, eqU_of r h.1]
theorem mt_countF {X : Cx} : MtR X "list.count" (rCntF X.K) := by
  intro pins s σ H x xs v us Q I rx rxs h
  obtain ⟨a, ys, y, rfl, rfl, hs, fy, fys, q⟩ := h
  cases rx
  cases rxs with
  | cons ry rt =>
    rename_i uy ut
    cases rt
    obtain ⟨its, rv, ⟨⟨cls, dd, data, sl⟩, n, ho, hc, hdn, hd⟩, hlen⟩ := I.list hs
    simp only at hc hd
    subst hc hd
    refine call_meets PySem.F.slot_list_count ⟨_, ho, rfl⟩ PySem.F.entry_list_count (PySem.F.args_list_count_2 _ _)
      (SeqAt.list_countAt a its.toArray n dd sl uy (eqU y)) ⟨ho, fun u' hu' => mem_eqAt ry fy rv fys u' (by simpa using hu'), ?_⟩
    refine ⟨.int ((ys.countP fun z => eqV z y : Nat) : Int), H, I.tok _, ⟨s.toks, ?_⟩, q⟩
    show Value.int ((its.toArray.toList.countP (eqU y) : Nat) : Int) s.toks = _
    rw [show its.toArray.toList = its from rfl, cnt_eqU rv fys]
/-! ### C.__init__(self, ..), C an own class that has ValueError's -/
theorem pe_vinit {X : Cx} {x : Str} {CV : Addr} {e : Expr} {es : List Expr} {ta : TA} {p1 p2 pos : Pos} {pl : Sem Bool} (hg : Gl X x) (hm : X.mg x = some (.ref CV)) (r : ClX.CRead X.K CV (.type "type"))
    (vV : PySem.W.findCls X.K (.ref CV) (.type "type") "__init__" = some (.val (.builtin "ValueError.__init__"))) (ha : PA X (e :: es) ta) (hdb : (x == ("__debug__" : Str)) = false := by decide)
    (hc : eval (.Call (.Attribute (.Name x p1) "__init__" p2) (e :: es) [] pos) X.env = (do
      let ov ← eval (.Name x p1) X.env
      standAt p2.atName
      let (f, first) ← holding [ov] (getMethod ov "__init__" pl)
      callWith pos f first (backTo pos (starEach (e :: es) X.env)) (backToKw pos (keywordEach [] X.env))) := by rfl)
    (he : starEach (e :: es) X.env = (false, eval e X.env) :: starEach es X.env := by rfl) (hpl : (backTo pos (starEach es X.env)).any (·.1) = false := by rfl) :
    PE X (.Call (.Attribute (.Name x p1) "__init__" p2) (e :: es) [] pos) (tVeI X.K ta) := by
  refine ⟨fun pins s σ H Q I h => ?_⟩
  refine PySem.W.methodCall_KW (ld_glob I hg hm ?_ hdb) hc
  refine PySem.W.method_cls I.kIn r.ga (PySem.W.cls_value I.kIn r.rd vV (by decide +kernel) ?_)
  show wpAny _ _ (callWith pos (Value.builtin "ValueError.__init__") [] (backTo pos (starEach (e :: es) X.env)) []) _ _ _
  refine PyProof.Rows.callWith_method1 (thn (ha.run pos pins _ σ H _ (I.tok _) h) fun us s1 ⟨vs, H1, I1, r1, a, C, ws, ev, hl, T, ea, q⟩ => ?_) he hpl
  subst ev
  cases r1 with
  | @cons _ u0 _ ur ra rw' =>
    obtain rfl : u0 = Value.ref a := ra
    have hlen : ur.length ≤ sizeLine := by
      rw [← Paired.length rw', sizeLine_eq]
      omega
    exact oinit_ok T I1 ea hlen fun s' J => ⟨.non, H1, J, rfl, q⟩
/-! ### the same rules in a suite: their readings may not name the caught exception -/
section
variable {X : Cx} {a : Addr} {pn : List (Addr × Obj)} {o e : Expr} {es : List Expr} {to : TE} {t : TA} {name : Str} {apos cpos : Pos} {T id : String} {r : V → List V → Hp → VK → Prop}
theorem pe_bmS (pa : PlainAttrs T) (slot : Slot T name id) (hty : typeOf (.builtin id) = pure (.type "method_descriptor")) (hm : MtR (X.suite a pn) id r) (ho : PE (X.suite a pn) o to) (ha : PA (X.suite a pn) (e :: es) t)
    (hbase : attributeBase o name X.env (eval o X.env) = eval o X.env := by rfl)
    (hfew : ((backTo cpos (starEach (e :: es) X.env)).all (fun x => !x.1) && (backToKw cpos (keywordEach [] X.env)).all (fun x => x.1.isSome)
      && decide ((e :: es).length + ([] : List Keyword).length + (if ([] : List Keyword).isEmpty then 0 else 1) < 30)) = true := by rfl)
    (hline : (apos.endLine == cpos.line) = true := by rfl) (hs : starEach (e :: es) X.env = (false, eval e X.env) :: starEach es X.env := by rfl) (hplain : (backTo cpos (starEach es X.env)).any (·.1) = false := by rfl) :
    PE (X.suite a pn) (.Call (.Attribute o name apos) (e :: es) [] cpos) (tBM X.K T r to t) := pe_bm (X := X.suite a pn) pa slot hty hm ho ha hbase hfew hline hs hplain
theorem mt_countS : MtR (X.suite a pn) "list.count" (rCntF X.K) := mt_countF (X := X.suite a pn)
theorem mt_indexS : MtR (X.suite a pn) "list.index" (rIndex X.K) := mt_index (X := X.suite a pn)
theorem ix_listS : IxR (X.suite a pn) (rIxL X.K) := ix_list (X := X.suite a pn)
end
section
variable {K : PySem.W.Frag} {σ : L2.St} {H : Hp} {Q : VK} {D : Ends}
theorem w_cntF {p : Addr} {ys : List V} {y : V} {n : Int} (s : SqL K H p ys) (fy : flatV y = true) (fys : ys.all flatV = true) (e : ((ys.countP fun z => eqV z y : Nat) : Int) = n) (q : Q (.int n) H) : rCntF K (.ref p) [y] H Q := ⟨p, ys, y, rfl, rfl, s, fy, fys, by rw [e]; exact q⟩
theorem w_indF {p : Addr} {ys : List V} {y : V} {j : Nat} {z : V} (s : SqL K H p ys) (fy : flatV y = true) (fys : ys.all flatV = true) (hz : ys[j]? = some z) (e : eqV z y = true) (no : ∀ (m : Nat) (z' : V), m < j → ys[m]? = some z' → eqV z' y = false) (q : Q (.int (j : Nat)) H) : rIndex K (.ref p) [y] H Q :=
  ⟨p, ys, y, j, z, rfl, rfl, s, fy, fys, hz, e, no, q⟩
theorem w_vei {ta : TA} (h : ta σ H fun vs H1 => ∃ (a C : Addr) (ws : List V), vs = .ref a :: ws ∧ ws.length ≤ 1000 ∧ OexC K C ∧ H1 a = some (exo a C none) ∧ Q .non H1) : tVeI K ta σ H Q := h
theorem w_ost {f : Str} {to te : TE} (h : te σ H fun y H1 => to σ H1 fun x H2 => ∃ a C : Addr, x = .ref a ∧ OexC K C ∧ PySem.W.findIn K (.ref C) f = some none ∧
  ((H2 a = some (exo a C none) ∧ ∀ dx, H2 dx = none → dx ≠ a → D.nx σ (upd (upd H2 dx (exd dx [(f, y)])) a (exo a C (some dx)))) ∨
    ∃ (dx : Addr) (fs : List (Str × V)), H2 a = some (exo a C (some dx)) ∧ H2 dx = some (exd dx fs) ∧ fs.length ≤ 900 ∧ D.nx σ (upd H2 dx (exd dx ((f, y) :: fs))))) : tOst K f to te D σ H := h
theorem w_mkO {C : Addr} {sp : Sp} {dvs : List V} {ta : TA} {QX : XK} (h : ta σ H fun vs H1 => vs.length ≤ 1000 ∧ ∀ a, H1 a = none → sp (.ref a :: (vs ++ dvs)) (upd H1 a (exo a C none))
  (fun v H2 => v = .non ∧ ∃ (d : Addr) (fs : List (Str × V)), H2 a = some (exo a C (some d)) ∧ H2 d = some (exd d fs) ∧ H1 d = none ∧ QX (.ref C) (some d) (upd (del H2 a) d (.xd fs))) (fun _ _ _ => False)) : tMkO C sp dvs ta σ H QX := h
/-- the heap behind such a raise -/
theorem kp_mkO {a d : Addr} {fs : List (Str × V)} {o1 o2 o3 : HO} (na : H a = none) (nd : H d = none) : Kp [] H (upd (del (upd (upd (upd H a o1) d o2) a o3) a) d (.xd fs)) := ⟨fun b o e _ => by
  have h1 : b ≠ a := ne_of_none e na
  have h2 : b ≠ d := ne_of_none e nd
  rw [upd_ne h2, del_ne h1, upd_ne h1, upd_ne h2, upd_ne h1]
  exact e⟩
end
/-! ### text[::-1] -/
def revS (z : Str) : Str := ⟨(((List.range z.length).map fun k => z.length - 1 - k).filterMap (z.cps[·]?)).toArray⟩
def tRevS (te : TE) : TE := fun σ H Q => te σ H fun x H1 => ∃ z, x = .str z ∧ z.length ≤ sizeLine ∧ Q (.str (revS z)) H1
theorem revS_len (z : Str) : (revS z).length ≤ z.length := by
  show (((List.range z.length).map fun k => z.length - 1 - k).filterMap (z.cps[·]?)).toArray.size ≤ _
  rw [List.size_toArray]
  refine Nat.le_trans (List.length_filterMap_le _ _) ?_
  rw [List.length_map, List.length_range]
  exact Nat.le_refl _
theorem revS_mem {z : Str} {c : Nat} (h : c ∈ TL.tl (revS z)) : c ∈ TL.tl z := by
  have h : c ∈ (((List.range z.length).map fun k => z.length - 1 - k).filterMap (z.cps[·]?)).toArray.toList := h
  have h : c ∈ (((List.range z.length).map fun k => z.length - 1 - k).filterMap (z.cps[·]?)) := h
  obtain ⟨i, _, hi⟩ := List.mem_filterMap.mp h
  show c ∈ z.cps.toList
  exact Array.mem_toList_iff.mpr (Array.mem_of_getElem? hi)
theorem pe_revS {X : Cx} {e : Expr} {te : TE} {k : Nat} {p1 p2 p3 pos : Pos} (he : PE X e te) : PE X (.Subscript e (.Slice none none (some (.UnaryOp .USub (.Constant (.int 1) k p1) p2)) p3) pos) (tRevS te) := by
  refine ⟨fun pins s σ H Q I h => ?_⟩
  refine Subscript_ (thn (he.run pins s σ H _ I h) fun v s1 ⟨x, H1, I1, r1, q1⟩ => ?_)
  obtain ⟨z, ex, hz, q⟩ := q1
  subst ex
  obtain ⟨t, rfl⟩ := r1
  have hst : PO X (some (.UnaryOp .USub (.Constant (.int 1) k p1) p2)) (tPart (tUn (rU fun i => .int (-i)) (tC (.int 1)))) := po_some (pe_un un_neg pe_int)
  refine wpAny_Slice (thn (po_none.run pins s1 σ H1 (fun o H2 => o = none ∧ H2 = H1) I1 ⟨rfl, rfl⟩) fun vl s2 ⟨l, H2, I2, pl, el, e2⟩ => ?_)
  subst el e2
  refine thn (po_none.run pins s2 σ H2 (fun o H3 => o = none ∧ H3 = H2) I2 ⟨rfl, rfl⟩) fun vu s3 ⟨u, H3, I3, pu, eu, e3⟩ => ?_
  subst eu e3
  refine thn (hst.run pins s3 σ H3 (fun o H4 => o = some (-1) ∧ H4 = H3) I3 ⟨1, rfl, -1, rfl, rfl, rfl⟩) fun vs s4 ⟨o, H4, I4, ps, eo, e4⟩ => ?_
  subst eo e4
  have I5 : Inv X pins σ H4 { s4 with heap := s4.heap.push { cls := .type "slice", data := .fields #[vl, vu, vs] } } := I4.kept (t' := s4.toks) fun b ob q => Heap.get?_push_of_some _ q
  show wpAny (model X.prog X.w) X.A (subscriptTail e (.Slice none none (some (.UnaryOp .USub (.Constant (.int 1) k p1) p2)) p3) (.str z t) (.ref s4.heap.objs.size)) (EP X pins σ Q) X.xe { s4 with heap := s4.heap.push { cls := .type "slice", data := .fields #[vl, vu, vs] } }
  obtain ⟨l, rfl, hl1⟩ := IsPart.raw pl
  obtain ⟨u, rfl, hu1⟩ := IsPart.raw pu
  obtain ⟨st, rfl, hs1⟩ := IsPart.raw ps
  refine tail_any (ops := [.str z t, .ref s4.heap.objs.size]) (typeIs_str _ _ _) F.slot_str_getitem.lookup ?_ (by with_unfolding_all rfl)
  refine wpAny_getItem_str_slice (l := l) (u := u) (st := st) ⟨_, Heap.get?_push_size _ rfl, rfl, rfl⟩ (by rw [hs1]; rfl) ?_
  have e : slicePicked z l u st = (List.range z.length).map fun k => z.length - 1 - k := by
    unfold slicePicked
    rw [hl1, hu1, hs1]
    exact PySem.W.krv_sliceRange z.length
  unfold sliceMade
  rw [hs1, e, if_neg (by simp)]
  refine ⟨Nat.le_trans (revS_len z) hz, .str _, H4, I5.tok _, ⟨_, rfl⟩, q⟩
/-- both branches of an if meet again: P holds there -/
theorem w_joinI {c : TT} {t u : TS} {D : Ends} {σ : L2.St} {H : Hp} (P : L2.St → Hp → Prop) (k : ∀ σ' H', P σ' H' → D.nx σ' H') (h : ∀ G : L2.St → Hp → Prop, (∀ σ' H', P σ' H' → G σ' H') → tIfS c t u { D with nx := G } σ H) : tIfS c t u D σ H := h D.nx k
theorem w_joinS {t : TS} {D : Ends} {σ : L2.St} {H : Hp} (P : L2.St → Hp → Prop) (k : ∀ σ' H', P σ' H' → D.nx σ' H') (h : ∀ G : L2.St → Hp → Prop, (∀ σ' H', P σ' H' → G σ' H') → t { D with nx := G } σ H) : t D σ H := h D.nx k
/-- a new object is named: the heap ahead of it is kept by what is known of it alone -/
theorem w_newN {Hx : Hp} {i : Nat} {σ : L2.St} {o : HO} {QG : L2.St → Hp → Prop} (P : Hp → Prop) (hP : P Hx) (h : ∀ HB, P HB → ∀ p, HB p = none → gName i (V.ref p) σ (upd HB p o) QG) : ∀ p, Hx p = none → gName i (V.ref p) σ (upd Hx p o) QG := h Hx hP
/-! ### tables -/
theorem Tabs.kp {T : List (Addr × Str)} {H H' : Hp} {F : List Addr} (t : Tabs T H) (k : Kp F H H') (l : ∀ a ∈ F, ∃ xs, H a = some (.lst xs)) : Tabs T H' := fun p hp => by
  obtain ⟨ps, h1, h2, h3⟩ := t p hp
  have no : ∀ a o, H a = some o → (∀ xs, o ≠ .lst xs) → a ∉ F := fun a o e n hm => by
    obtain ⟨xs, z⟩ := l a hm
    rw [e] at z
    exact n xs (Option.some.inj z)
  refine ⟨ps, k.k _ _ h1 (no _ _ h1 fun xs z => by cases z), h2, fun pos cv hc => ?_⟩
  obtain ⟨c, e1, e2⟩ := h3 pos cv hc
  exact ⟨c, e1, k.k _ _ e2 (no _ _ e2 fun xs z => by unfold CodeO at z; cases z)⟩
theorem Tabs.kp0 {T : List (Addr × Str)} {H H' : Hp} (t : Tabs T H) (k : Kp [] H H') : Tabs T H' := Tabs.kp t k fun a h => by cases h
theorem ext_l {H H' : Hp} {a : Addr} {xs : List V} (e : ExtN H H') (h : H a = some (.lst xs)) : H' a = some (.lst xs) := e a _ h fun ps z => by cases z
theorem ext_t {H H' : Hp} {a : Addr} {xs : List V} (e : ExtN H H') (h : H a = some (.tup xs)) : H' a = some (.tup xs) := e a _ h fun ps z => by cases z
theorem ext_d {H H' : Hp} {a : Addr} {xs : List (Key × V)} (e : ExtN H H') (h : H a = some (.dK xs)) : H' a = some (.dK xs) := e a _ h fun ps z => by cases z
/-! ### defs whose code object is known (they make lambdas) -/
structure FunC (K : PySem.W.Frag) (x qual : Str) (st : Stmt) (f : Addr) (cd : Value) (fd : FuncData) : Prop where
  ex : ∃ (oc : Value) (od : Option Addr) (kV doc pm : Value) (an : Option Addr) (ct : Value) (osl : Array (Option Value)),
    fd = PySem.W.fnOf x qual (defArgs st) (defBody st) (defScope st) .none kV doc pm an cd ct ∧ K.lookup f = some ⟨oc, od, .func fd, osl⟩ ∧ PySem.W.codeIn K cd qual = true
  kp : PySem.W.keepIn K (.ref f) = true
section
variable {P : Program} {w : World} {K : PySem.W.Frag} {mg : Str → Option Value} {base : Heap}
theorem FunC.ok {x qual : Str} {st : Stmt} {f : Addr} {cd : Value} {fd : FuncData} {N ps : List Str} {k : Nat} {sp : Sp} (F : FunC K x qual st f cd fd) (S : FnScope N ps (defScope st)) (len : ∀ vs H Q E, sp vs H Q E → vs.length = ps.length)
    (hbody : ∀ (A : Around) (outer : List Env) (s : Shared) (H : Hp) (vs : List V) (Q : VK) (E : XK), Room k (A.deeper (envOfC qual (defScope st) s.heap.objs.size f cd)) → sp vs H Q E →
      ∃ t, PSs (cxOf CX0 P w K mg base N qual (defScope st) f cd A outer s H E).nox (defBody st) t ∧ t { nx := fun _ H' => Q .non H', rt := Q } (L2.start N vs) H) : FnOk P w K mg base CX0 (k + 1) f fd ps sp := by
  obtain ⟨oc, od, kV, doc, pm, an, ct, osl, rfl, lk, hcd⟩ := F.ex
  refine fn_of lk hcd S len fun A outer s H vs Q E hr hsp => ?_
  obtain ⟨t, h, q⟩ := hbody A outer s H vs Q E hr hsp
  exact ⟨t, h.nox, q⟩
theorem funC_mk {x qual : Str} {st : Stmt} {f : Addr} {oc : Value} {od an : Option Addr} {osl : Array (Option Value)} {kV doc pm cdv ct : Value} (l : K.lookup f = some ⟨oc, od, .func (PySem.W.fnOf x qual (defArgs st) (defBody st) (defScope st) .none kV doc pm an cdv ct), osl⟩)
    (c : PySem.W.codeIn K cdv qual = true) (k : PySem.W.keepIn K (.ref f) = true) : FunC K x qual st f cdv (PySem.W.fnOf x qual (defArgs st) (defBody st) (defScope st) .none kV doc pm an cdv ct) := ⟨⟨oc, od, kV, doc, pm, an, ct, osl, rfl, l, c⟩, k⟩
end
/-- what a lambda's body may let out -/
theorem pass_lam {X : Cx} {A : Around} {outer : List Env} {s : Shared} {H : Hp} {E : XK} {scope : Scope} {f c' : Addr} : Passes (L2.CX X.prog X.w) (lamCx X A outer s H E scope f c') E :=
  passes_call (takes_of rfl rfl rfl rfl) fun _ _ _ _ h => h
end VH

namespace VH
open PySem PySem.Spec L2 LamX
open PyProof.Rows hiding St
/-! ### lambdas as values -/
structure LF where
  qual : Str
  params : Arguments
  body : Expr
  scope : Scope
  cl : List (Str × Addr)
  c : Addr
  dv : Value
abbrev LF.fd (F : LF) (pm ctv : Value) : FuncData := { PySem.W.kla_fn "<lambda>" F.qual F.params F.body F.scope F.cl pm (.ref F.c) ctv with defaults := F.dv }
def LamO (f : Addr) (F : LF) : HO := .ext fun h => ∃ (od : Option Addr) (sl : Array (Option Value)) (pm ctv : Value), h.get? f = some (⟨.type "function", od, .func (F.fd pm ctv), sl⟩ : Obj)
theorem lamO_at {P : Program} {w : World} {H : Hp} {h : Heap} {f : Addr} {F : LF} (hok : HOk P w H h) (e : H f = some (LamO f F)) : ∃ (od : Option Addr) (sl : Array (Option Value)) (pm ctv : Value), h.get? f = some (⟨.type "function", od, .func (F.fd pm ctv), sl⟩ : Obj) := by
  obtain ⟨z, _, _⟩ := hok f _ e
  exact z
/-- a lambda's names: its own ones (parameters, read by nobody) are no names of the maker; captured ones -/
structure LamP (N : List Str) (sc scope : Scope) (ps : List Str) : Prop where
  kind : scope.kind = .function
  co : scope.isCoroutine = false
  gen : scope.isGenerator = false
  own : ∀ y ∈ scope.names, y.2 ≠ .cell ∧ (y.2 = .local → y.1 ∉ N)
  loc : ∀ x ∈ ps, scope.names.lookup x = some .local
  free : ∀ y ∈ scope.names, y.2 = .free → sc.names.lookup y.1 = some .cell ∨ sc.names.lookup y.1 = some .free
def lamPB (N : List Str) (sc scope : Scope) (ps : List Str) : Bool :=
  decide (scope.kind = .function) && !scope.isCoroutine && !scope.isGenerator && (scope.names.all fun y => !decide (y.2 = .cell) && (!decide (y.2 = .local) || !decide (y.1 ∈ N)) && (!decide (y.2 = .free) || decide (sc.names.lookup y.1 = some .cell) || decide (sc.names.lookup y.1 = some .free))) && ps.all fun x => decide (scope.names.lookup x = some .local)
theorem lamP_by {N : List Str} {sc scope : Scope} {ps : List Str} (h : lamPB N sc scope ps = true) : LamP N sc scope ps := by
  unfold lamPB at h
  simp only [Bool.and_eq_true, Bool.or_eq_true, Bool.not_eq_true', decide_eq_true_eq, decide_eq_false_iff_not, List.all_eq_true] at h
  obtain ⟨⟨⟨⟨h1, h2⟩, h3⟩, h4⟩, h5⟩ := h
  refine ⟨h1, h2, h3, fun y hy => ⟨(h4 y hy).1.1, fun e => ?_⟩, h5, fun y hy e => ?_⟩
  · rcases (h4 y hy).1.2 with z | z
    · exact absurd e z
    · exact z
  · rcases (h4 y hy).2 with (z | z) | z
    · exact absurd e z
    · exact .inl z
    · exact .inr z
theorem LamP.has {X : Cx} {N : List Str} {scope : Scope} {ps : List Str} (L : LamP N X.env.scope scope ps) (ok : X.Ok) : ∀ y ∈ scope.names, y.2 = .free → ∃ c, X.env.cells.lookup y.1 = some c := fun y hy e => by
  rcases L.free y hy e with k | k
  · exact ok.has _ (.inl k)
  · exact ok.has _ (.inr k)
section
open PySem.W
variable {M : Model} {A : Around} {E : Value → Shared → Prop} {s : Shared} {name qual : Str} {params : Arguments} {body : Expr} {scope : Scope} {env : Env} {c P : Addr} {ps : Array Value} {pos : Pos} {firstLine : Nat} {mg : Str → Option Value}
  {clos : List (Str × Addr)} {dv : Value} {Q : Value → Shared → Prop}
theorem lam_tail (hcl : closureFor scope env = pure clos) (hge0 : env.globals = mainGlobals) (hg : s.heap.Ns mainGlobals mg) (hcode : env.code = .ref c) (C : CodeHd s.heap c P) (hP : s.heap.get? P = some (tabObj ps)) (ht : TriplesOk ps.toList)
    (hnf : codeAmong pos ps.toList = none) (hgP : mainGlobals ≠ P) (hb : s.heap.BuiltinsAt mg P)
    (h : ∀ c' ctv h' tk, Heap.ExtBut P s.heap h' → s.heap.objs.size ≤ c' → c' < h'.objs.size → h'.CodeRec (.ref c') qual → h'.get? P = some (tabObj (ps ++ #[rawInt pos.line, rawInt pos.col, .ref c'])) →
      Q (.ref h'.objs.size) { s with heap := h'.push { cls := .type "function", data := .func { kla_fn name qual params body scope clos ((mg "__name__").getD .none) (.ref c') ctv with defaults := dv } }, toks := tk }) :
    wpAny M A (makeTail name qual params (.expr body) scope env dv .none none pos firstLine) Q E s := by
  obtain ⟨bm, ob, hbm, hne0, _, hneP, hbo, hcls, hdict, hdata⟩ := hb
  unfold makeTail
  rw [hcl, hge0]
  refine wpAny_bind (wpAny_pure ?_)
  cases clos with
  | nil =>
    simp only [List.isEmpty_nil, if_true]
    refine wpAny_bind (wpAny_pure ?_)
    refine wpAny_bind (wpAny_functionCodeX hcode (C.code hP ht) (C.tab hP) hnf fun c' h' tk hx hge hlt _ hrec htb _ => ?_)
    have hg' := hg.extBut hx hgP
    refine wpAny_bind (wpAny_builtinsFor hg' hbm hne0 (hx _ _ hneP hbo) hcls hdict hdata ?_)
    refine wpAny_bind (wpAny_nsGet hg' ?_)
    exact wpAny_bind (wpAny_pure (wpAny_newObj_type (h c' .none h' tk hx hge hlt hrec htb.2) (by size_fits)))
  | cons q r =>
    simp only [List.isEmpty_cons, Bool.false_eq_true, if_false]
    refine wpAny_bind (wpAny_newTextTuple ?_)
    refine wpAny_bind (wpAny_functionCodeX hcode ((C.keeps fun b o e => Heap.get?_push_of_some _ e).code (Heap.get?_push_of_some _ hP) ht) ((C.keeps fun b o e => Heap.get?_push_of_some _ e).tab (Heap.get?_push_of_some _ hP)) hnf fun c' h' tk hx hge hlt _ hrec htb _ => ?_)
    have hg' := (hg.push _).extBut hx hgP
    have hx' : Heap.ExtBut P s.heap h' := fun b o hb' e => hx b o hb' (Heap.get?_push_of_some _ e)
    have hge' : s.heap.objs.size ≤ c' := Nat.le_trans (by rw [Heap.size_push]; omega) hge
    refine wpAny_bind (wpAny_builtinsFor hg' hbm hne0 (hx' _ _ hneP hbo) hcls hdict hdata ?_)
    refine wpAny_bind (wpAny_nsGet hg' ?_)
    exact wpAny_bind (wpAny_pure (wpAny_newObj_type (h c' _ h' tk hx' hge' hlt hrec htb.2) (by size_fits)))
theorem lam_tailHit {cv : Value} (hcl : closureFor scope env = pure clos) (hge0 : env.globals = mainGlobals) (hg : s.heap.Ns mainGlobals mg) (hcode : env.code = .ref c) (C : CodeHd s.heap c P) (hP : s.heap.get? P = some (tabObj ps)) (ht : TriplesOk ps.toList)
    (hf : codeAmong pos ps.toList = some cv) (hb : s.heap.BuiltinsAt mg P)
    (h : ∀ (ctv : Value) (h' : Heap) (tk : Tok), (∀ b o, s.heap.get? b = some o → h'.get? b = some o) → s.heap.objs.size ≤ h'.objs.size →
      Q (.ref h'.objs.size) { s with heap := h'.push { cls := .type "function", data := .func { kla_fn name qual params body scope clos ((mg "__name__").getD .none) cv ctv with defaults := dv } }, toks := tk }) :
    wpAny M A (makeTail name qual params (.expr body) scope env dv .none none pos firstLine) Q E s := by
  obtain ⟨bm, ob, hbm, hne0, _, hneP, hbo, hcls, hdict, hdata⟩ := hb
  unfold makeTail
  rw [hcl, hge0]
  refine wpAny_bind (wpAny_pure ?_)
  cases clos with
  | nil =>
    simp only [List.isEmpty_nil, if_true]
    refine wpAny_bind (wpAny_pure ?_)
    refine wpAny_bind (wpAny_functionCode_hit hcode (C.code hP ht) hf ?_)
    refine wpAny_bind (wpAny_builtinsFor hg hbm hne0 hbo hcls hdict hdata ?_)
    refine wpAny_bind (wpAny_nsGet hg ?_)
    exact wpAny_bind (wpAny_pure (wpAny_newObj_type (h .none s.heap s.toks (fun _ _ e => e) (Nat.le_refl _)) (by size_fits)))
  | cons q r =>
    simp only [List.isEmpty_cons, Bool.false_eq_true, if_false]
    refine wpAny_bind (wpAny_newTextTuple ?_)
    refine wpAny_bind (wpAny_functionCode_hit hcode ((C.keeps fun b o e => Heap.get?_push_of_some _ e).code (Heap.get?_push_of_some _ hP) ht) hf ?_)
    refine wpAny_bind (wpAny_builtinsFor (hg.push _) hbm hne0 (Heap.get?_push_of_some _ hbo) hcls hdict hdata ?_)
    refine wpAny_bind (wpAny_nsGet (hg.push _) ?_)
    have hsz : ∀ oT : Obj, s.heap.objs.size ≤ (s.heap.push oT).objs.size := fun oT => by rw [Heap.size_push]; omega
    exact wpAny_bind (wpAny_pure (wpAny_newObj_type (h _ _ s.toks (fun b o e => Heap.get?_push_of_some _ e) (hsz _)) (by size_fits)))
/-- evaluation of a lambda whose defaults are these trees -/
theorem lam_eval {env : Env} {ds : List (Sem Value)} (hdef : defaultsOf params env = (ds, [])) (h : wpAny M A (evalAll ds) (fun dvs s1 => wpAny M A (makeFunction "<lambda>" (env.qual ++ "<lambda>") params (.expr body) scope env dvs [] [] pos pos.line) Q E s1) E s) :
    wpAny M A (eval (.Lambda params body scope pos) env) Q E s := by
  rw [arm_eval_Lambda, hdef]
  show wpAny M A (do let dv ← evalAll ds; let kdv ← holding dv (evalAllOpt []); makeFunction "<lambda>" (env.qual ++ "<lambda>") params (.expr body) scope env dv kdv [] pos pos.line) Q E s
  exact wpAny_bind (wpAny_mono h (fun dvs s1 h1 => wpAny_bind (wpAny_holding (wpAny_pure h1))) fun _ _ z => z)
end
section
variable {X : Cx} {pins : List (Addr × Obj)} {σ : L2.St} {H : Hp} {s : Shared}
/-- a lambda's object just made is known from now on -/
theorem inv_lam {F : LF} {o : Obj} {t' : Nat} {pm ctv : Value} (I : Inv X pins σ H s) (ho : o = { cls := .type "function", data := .func (F.fd pm ctv) }) :
    Inv X pins σ (upd H s.heap.objs.size (LamO s.heap.objs.size F)) { s with heap := s.heap.push o, toks := t' } := by
  subst ho
  refine I.laid (a := s.heap.objs.size) (fun b u e => Heap.get?_push_of_some _ e) (Nat.le_refl _) ?_
  have e : (s.heap.push ({ cls := .type "function", data := .func (F.fd pm ctv) } : Obj)).get? s.heap.objs.size = some ({ cls := .type "function", data := .func (F.fd pm ctv) } : Obj) := Heap.get?_push_size _ rfl
  exact ⟨⟨_, _, pm, ctv, e⟩, ⟨_, e⟩, fun h1 h2 ⟨od, sl, p, t, z⟩ st => ⟨od, sl, p, t, st _ z⟩⟩
theorem lam_makeT {T : List (Addr × Str)} {c P : Addr} {params : Arguments} {body : Expr} {scope : Scope} {pos : Pos} {dv : Value} {E : Value → Shared → Prop} {Q : Value → Shared → Prop} (I : Inv X pins σ H s) (TB : TabB X.base X.mg c P) (hcode : X.env.code = .ref c)
    (hm : (P, X.env.qual ++ "<lambda>") ∈ T) (hu : ∀ p ∈ T, p.1 = P → p.2 = X.env.qual ++ "<lambda>") (hT : Tabs T H) (hfree : ∀ y ∈ scope.names, y.2 = .free → ∃ c, X.env.cells.lookup y.1 = some c)
    (h : ∀ (f c' : Addr) (H1 : Hp) (s' : Shared), Inv X pins σ H1 s' → ExtN H H1 → Tabs T H1 → H f = none → H1 f = some (LamO f ⟨X.env.qual ++ "<lambda>", params, body, scope, cloFrom X.env.cells scope.names [], c', dv⟩) → H1 c' = some (CodeO c' (X.env.qual ++ "<lambda>")) → Q (.ref f) s') :
    wpAny (model X.prog X.w) X.A (makeTail "<lambda>" (X.env.qual ++ "<lambda>") params (.expr body) scope X.env dv .none none pos pos.line) Q E s := by
  obtain ⟨ps, hP, ht, ha⟩ := hT _ hm
  have bP : s.heap.BuiltinsAt X.mg P := TB.bm.keeps I.bk
  have hP' : s.heap.get? P = some { cls := .none, data := .fields ps } := I.hok P _ hP
  cases hc : codeAmong pos ps.toList with
  | none =>
    refine lam_tail (mg := X.mg) (c := c) (P := P) (ps := ps) (closure_ok hfree) I.ok.glob (I.mod.glob.keeps I.bk) hcode (TB.code.keeps I.bk) hP' ht hc TB.gP bP fun c' ctv h' tk hx hge hlt hrec htb => ?_
    obtain ⟨c2, oc, vs, t, e2, hoc, hd, hv⟩ := hrec
    cases e2
    have nC : H c' = none := I.hok.fresh hge
    have I1 := inv_table (t' := tk) (more := #[rawInt pos.line, rawInt pos.col, .ref c']) (h' := h') I hP (fun b o hb e => hx b o hb e) htb hge ⟨oc, vs, t, hoc, hd, hv⟩
    have hE : ExtN H (upd (upd H P (.tbl (ps ++ #[rawInt pos.line, rawInt pos.col, .ref c']))) c' (CodeO c' (X.env.qual ++ "<lambda>"))) := fun b o e n => by
      rw [upd_ne (ne_of_none e nC), upd_ne (fun z => n ps (Option.some.inj (e.symm.trans (by rw [z]; exact hP))))]
      exact e
    have eL : (ps ++ #[rawInt pos.line, rawInt pos.col, .ref c']).toList = ps.toList ++ [rawInt pos.line, rawInt pos.col, .ref c'] := by simp
    have T1 : Tabs T (upd (upd H P (.tbl (ps ++ #[rawInt pos.line, rawInt pos.col, .ref c']))) c' (CodeO c' (X.env.qual ++ "<lambda>"))) := fun p hp => by
      by_cases hb : p.1 = P
      · rw [hu p hp hb, hb]
        refine ⟨_, by rw [upd_ne (ne_of_none hP nC), upd_same], by rw [eL]; exact PySem.TriplesOk_snoc _ _ _ _ ht, fun p' cv hcv => ?_⟩
        rw [eL] at hcv
        rcases among_app _ ht hcv with z | z
        · obtain ⟨c0, e1, e2⟩ := ha p' cv z
          exact ⟨c0, e1, hE _ _ e2 codeO_ne⟩
        · exact ⟨c', z, upd_same⟩
      · obtain ⟨ps', a1, a2, a3⟩ := hT p hp
        refine ⟨ps', by rw [upd_ne (ne_of_none a1 nC), upd_ne hb]; exact a1, a2, fun p' cv hcv => ?_⟩
        obtain ⟨c0, e1, e2⟩ := a3 p' cv hcv
        exact ⟨c0, e1, hE _ _ e2 codeO_ne⟩
    have nF := I1.hok.fresh (Nat.le_refl _)
    have I2 := inv_lam (F := ⟨X.env.qual ++ "<lambda>", params, body, scope, cloFrom X.env.cells scope.names [], c', dv⟩) (t' := tk) (pm := (X.mg "__name__").getD .none) (ctv := ctv) I1 rfl
    refine h h'.objs.size c' _ _ I2 (fun b o e n => ?_) (T1.ext fun b o e => ?_) (I.hok.fresh (Nat.le_trans hge (Nat.le_of_lt hlt))) upd_same ?_
    · have e1 := hE b o e n
      exact (upd_ne (ne_of_none e1 nF)).trans e1
    · exact (upd_ne (ne_of_none e nF)).trans e
    · exact (upd_ne (Nat.ne_of_lt hlt)).trans upd_same
  | some cv =>
    obtain ⟨c', e, hco⟩ := ha pos cv hc
    subst e
    refine lam_tailHit (mg := X.mg) (c := c) (P := P) (ps := ps) (closure_ok hfree) I.ok.glob (I.mod.glob.keeps I.bk) hcode (TB.code.keeps I.bk) hP' ht hc bP fun ctv h' tk hx hsz => ?_
    have I1 : Inv X pins σ H { s with heap := h', toks := tk } := I.kept hx
    have nF := I1.hok.fresh (Nat.le_refl _)
    have I2 := inv_lam (F := ⟨X.env.qual ++ "<lambda>", params, body, scope, cloFrom X.env.cells scope.names [], c', dv⟩) (t' := tk) (pm := (X.mg "__name__").getD .none) (ctv := ctv) I1 rfl
    have hk : ∀ b o, H b = some o → (upd H h'.objs.size (LamO h'.objs.size ⟨X.env.qual ++ "<lambda>", params, body, scope, cloFrom X.env.cells scope.names [], c', dv⟩)) b = some o := fun b o e => (upd_ne (ne_of_none e nF)).trans e
    exact h h'.objs.size c' _ _ I2 (ExtN.of hk) (Tabs.ext hT hk) (I.hok.fresh hsz) upd_same (hk _ _ hco)
/-- a lambda without parameters, as a value -/
def tLamV (T : List (Addr × Str)) (mk : Addr → LF) : TE := fun _ H Q => Tabs T H ∧ ∀ (f c' : Addr) (H1 : Hp), ExtN H H1 → Tabs T H1 → H f = none → H1 f = some (LamO f (mk c')) → H1 c' = some (CodeO c' (mk c').qual) → Q (.ref f) H1
theorem pe_lamV {T : List (Addr × Str)} {c P : Addr} {ps : List Str} {params : Arguments} {body : Expr} {scope : Scope} {pos : Pos} (TB : TabB X.base X.mg c P) (hcode : X.env.code = .ref c) (hm : (P, X.env.qual ++ "<lambda>") ∈ T) (hu : ∀ p ∈ T, p.1 = P → p.2 = X.env.qual ++ "<lambda>")
    (L : LamP X.N X.env.scope scope ps) (hdef : defaultsOf params X.env = ([], [])) : PE X (.Lambda params body scope pos) (tLamV T fun c' => ⟨X.env.qual ++ "<lambda>", params, body, scope, cloFrom X.env.cells scope.names [], c', .none⟩) := by
  refine ⟨fun pins s σ H Q I h => ?_⟩
  obtain ⟨hT, h⟩ := h
  refine lam_eval hdef (wpAny_pure ?_)
  rw [makeFunction_eq]
  simp only [List.zip_nil_right, List.filterMap_nil, List.isEmpty_nil, if_true, pure_bind]
  exact lam_makeT I TB hcode hm hu hT (L.has I.ok) fun f c' H1 s' I1 eN T1 f0 f1 c1 => ⟨.ref f, H1, I1, rfl, h f c' H1 eN T1 f0 f1 c1⟩
/-- a lambda with one default, as a value: the default's tuple stands at t -/
def tLamD (T : List (Addr × Str)) (td : TE) (mk : Addr → Addr → LF) : TE := fun σ H Q => td σ H fun x H0 => Tabs T H0 ∧ ∀ (t f c' : Addr) (H1 : Hp), H0 t = none → ExtN (upd H0 t (.tup [x])) H1 → Tabs T H1 → H0 f = none → f ≠ t → H1 f = some (LamO f (mk c' t)) → H1 c' = some (CodeO c' (mk c' t).qual) → Q (.ref f) H1
theorem pe_lamD {T : List (Addr × Str)} {c P : Addr} {ps : List Str} {params : Arguments} {body d : Expr} {scope : Scope} {pos : Pos} {td : TE} (TB : TabB X.base X.mg c P) (hcode : X.env.code = .ref c) (hm : (P, X.env.qual ++ "<lambda>") ∈ T) (hu : ∀ p ∈ T, p.1 = P → p.2 = X.env.qual ++ "<lambda>")
    (L : LamP X.N X.env.scope scope ps) (hd : PE X d td) (hdef : defaultsOf params X.env = ([eval d X.env], [])) : PE X (.Lambda params body scope pos) (tLamD T td fun c' t => ⟨X.env.qual ++ "<lambda>", params, body, scope, cloFrom X.env.cells scope.names [], c', .ref t⟩) := by
  refine ⟨fun pins s σ H Q I h => ?_⟩
  refine lam_eval hdef (wpAny_bind (thn (hd.run pins s σ H _ I h) fun u s1 hq => wpAny_bind (wpAny_holding (wpAny_pure (wpAny_pure ?_)))))
  obtain ⟨x, H0, I0, rx, hT, h⟩ := hq
  rw [makeFunction_eq]
  simp only [List.zip_nil_right, List.filterMap_nil, List.isEmpty_nil, List.isEmpty_cons, Bool.false_eq_true, if_false, if_true, pure_bind]
  refine wpAny_bind (wpAny_newTextTuple ?_)
  have hn := I0.hok.fresh (Nat.le_refl s1.heap.objs.size)
  have I1 := I0.laid (t' := s1.toks) (a := s1.heap.objs.size) (o := .tup [x]) (h' := s1.heap.push { cls := .type "tuple", data := .seq [u].toArray }) (fun b o e => Heap.get?_push_of_some _ e) (Nat.le_refl _) ⟨(by decide : 1 ≤ sizeLine), [u], .cons rx .nil, ?_⟩
  · have T1 : Tabs T (upd H0 s1.heap.objs.size (.tup [x])) := hT.ext fun b o e => (upd_ne (ne_of_none e hn)).trans e
    refine lam_makeT I1 TB hcode hm hu T1 (L.has I1.ok) fun f c' H1 s' I2 eN T2 f0 f1 c1 => ⟨.ref f, H1, I2, rfl, h _ f c' H1 hn eN T2 (none_of_upd f0) ?_ f1 c1⟩
    intro z
    rw [z, upd_same] at f0
    cases f0
  · have e : (s1.heap.push { cls := .type "tuple", data := .seq [u].toArray }).get? s1.heap.objs.size = some { cls := .type "tuple", data := .seq [u].toArray } := Heap.get?_push_size _ rfl
    first | exact ⟨_, e, rfl, rfl⟩ | exact ⟨_, _, e, rfl, rfl⟩ | exact ⟨_, e, rfl, _, rfl⟩ | exact e | exact ⟨_, _, e⟩ | exact ⟨_, e⟩ | exact ⟨_, 0, e, rfl, rfl⟩
end
end VH

namespace VH
open PySem PySem.Spec L2 LamX
open PyProof.Rows hiding St
/-! ### lambdas called, wherever they are -/
/-- what is tracked of a lambda -/
def LamIn (H : Hp) (f : Addr) (F : LF) : Prop := H f = some (LamO f F) ∧ H F.c = some (CodeO F.c F.qual) ∧ (F.dv = .none ∨ ∃ t x, F.dv = .ref t ∧ H t = some (.tup [x]))
/-- what f() binds -/
def LBind (F : LF) (ps : List Str) : Prop := ∀ (P : Program) (w : World) (H : Hp) (f : Addr) (s : Shared) (pm ctv : Value) (M : Model) (A : Around) (E : Value → Shared → Prop) (Q : List (Str × Value) → Shared → Prop), HOk P w H s.heap → LamIn H f F →
  (∀ us : List Value, us.length = ps.length → Q (ps.zip us) s) → wpAny M A (bindArgs (F.fd pm ctv) ⟨[], []⟩) Q E s
theorem lbind0 {F : LF} (hd : F.dv = .none) (h : ∀ (q : Str) (cl : List (Str × Addr)) (pm cv ctv : Value), bindArgs (PySem.W.kla_fn "<lambda>" q F.params F.body F.scope cl pm cv ctv) ⟨[], []⟩ = pure []) : LBind F [] := fun P w H f s pm ctv M A E Q _ _ q => by
  have e : F.fd pm ctv = PySem.W.kla_fn "<lambda>" F.qual F.params F.body F.scope F.cl pm (.ref F.c) ctv := by
    show ({ PySem.W.kla_fn "<lambda>" F.qual F.params F.body F.scope F.cl pm (.ref F.c) ctv with defaults := F.dv } : FuncData) = _
    rw [hd]
  rw [e, h]
  exact wpAny_pure (q [] rfl)
theorem lbind1 {F : LF} {p : Str} {t : Addr} (hd : F.dv = .ref t) (h : ∀ (q : Str) (cl : List (Str × Addr)) (pm cv ctv : Value), ∃ k, bindArgs { PySem.W.kla_fn "<lambda>" q F.params F.body F.scope cl pm cv ctv with defaults := .ref t } ⟨[], []⟩ = seqItems? (.ref t) >>= k ∧ ∀ u, k (some #[u]) = pure [(p, u)]) : LBind F [p] := fun P w H f s pm ctv M A E Q hok L q => by
  obtain ⟨_, _, z⟩ := L
  rcases z with z | ⟨t', x, z, ht⟩
  · rw [hd] at z
    cases z
  rw [hd] at z
  cases z
  obtain ⟨k, e1, e2⟩ := h F.qual F.cl pm (.ref F.c) ctv
  have e : F.fd pm ctv = { PySem.W.kla_fn "<lambda>" F.qual F.params F.body F.scope F.cl pm (.ref F.c) ctv with defaults := .ref t } := by
    show ({ PySem.W.kla_fn "<lambda>" F.qual F.params F.body F.scope F.cl pm (.ref F.c) ctv with defaults := F.dv } : FuncData) = _
    rw [hd]
  have ho := hok t _ ht
  obtain ⟨_, us, r, o, n, e3, e4⟩ : ∃ (_ : (1 : Nat) ≤ sizeLine) (us : List Value), Vals [x] us ∧ ∃ (o : Obj) (n : Nat), s.heap.get? t = some o ∧ o.data = .seq us.toArray n := by
    obtain ⟨h1, us, h2, h3⟩ := ho
    first
      | exact ⟨h1, us, h2, _, _, h3.1, rfl⟩
      | (obtain ⟨o, h4, h5, h6⟩ := h3; exact ⟨h1, us, h2, o, _, h4, h6⟩)
      | (obtain ⟨o, n, h4, h5⟩ := h3; exact ⟨h1, us, h2, o, n, h4, h5⟩)
      | (obtain ⟨o, h4, h5, n, h6⟩ := h3; exact ⟨h1, us, h2, o, n, h4, h6⟩)
      | (obtain ⟨o, n, h4, h5, h6⟩ := h3; exact ⟨h1, us, h2, o, n, h4, h6⟩)
      | exact ⟨h1, us, h2, _, _, h3, rfl⟩
  cases r with
  | cons rx rt =>
    cases rt
    rename_i u
    rw [e, e1]
    refine wpAny_bind (wpAny_seqItems e3 e4 ?_)
    rw [e2]
    exact wpAny_pure (q [u] rfl)
section
variable {X : Cx} {pins : List (Addr × Obj)} {σ : L2.St} {H HZ : Hp} {s s1 : Shared}
theorem lam_startP {A : Around} {outer : List Env} {E : XK} {scope : Scope} {ps : List Str} {us : List Value} {f c' : Addr} {h₁ : Heap} {tk : Nat} (I : Inv X pins σ H s) (L : LamP X.N X.env.scope scope ps) (e0 : Env0 X.prog X.w X.K X.mg X.base A outer s1 HZ) (hd : A.handled = none)
    (hc : ∀ y c, X.env.cells.lookup y = some c → HZ c = none ∧ ∀ v, s.heap.IsCell c v → s1.heap.IsCell c v) (hns : h₁.Ns s1.heap.objs.size fun y => (ps.zip us).reverse.lookup y) (kp : ∀ b o, s1.heap.get? b = some o → h₁.get? b = some o) :
    Inv (lamCx X A outer s1 HZ E scope f c') [] σ HZ { s1 with heap := h₁, toks := tk } := by
  have hfree := L.has I.ok
  have cm : ∀ {y c}, (cloFrom X.env.cells scope.names []).lookup y = some c → X.env.cells.lookup y = some c := fun {y c} e => by
    rcases cloFrom_mem (PySem.mem_of_lookup e) with hm | ⟨h1, h2⟩
    · cases hm
    · obtain ⟨c1, hc⟩ := hfree _ h1 rfl
      have hc : X.env.cells.lookup y = some c1 := hc
      have e2 : c = c1 := by
        rw [h2, hc] <;> rfl
      rw [e2]
      exact hc
  have look : ∀ {y}, scope.names.lookup y = some .free → ∃ c, (cloFrom X.env.cells scope.names []).lookup y = some c := fun {y} hl => by
    have hy : (y, NameKind.free) ∈ scope.names := PySem.mem_of_lookup hl
    exact mem_lookup (cloFrom_has (cells := X.env.cells) (acc := []) hy)
  have cellK : ∀ {y : Str} {c : Addr} {v : Option Value}, X.env.cells.lookup y = some c → s.heap.IsCell c v → h₁.IsCell c v := fun {y c v} n z => by
    obtain ⟨o, ho, hd⟩ := (hc y c n).2 v z
    exact ⟨o, kp _ _ ho, hd⟩
  have noA : ∀ b : Addr, b ∉ (lamCx X A outer s1 HZ E scope f c').ex := fun b z => absurd (show b ∈ ([] : List Addr) from z) (by simp)
  refine ⟨⟨e0.mod, L.kind, rfl, rfl, Nat.le_refl _, fun y z c e1 e2 => I.ok.inj y z c (cm e1) (cm e2), fun y hy => ?_, fun y c z _ => ?_, fun _ => hd, Around.frames_deeper e0.frames, .inr ⟨rfl, rfl⟩, fun b z => absurd z (noA b), e0.bs, e0.bsz, fun b _ _ => noA b,
      fun b z => absurd z (noA b), e0.funs, e0.frf⟩,
    rfl, e0.bare, Un.kept kp, ⟨_, hns, fun i y v e1 e2 e3 => ?_⟩, fun y c e => ?_, e0.hok.fresh (Nat.le_refl _), fun y c e => ?_, fun q hq => absurd (show q ∈ ([] : List (Addr × Obj)) ++ [] from hq) (by simp), e0.hok.kept kp, I.len⟩
  · have hy : scope.names.lookup y = some .cell ∨ scope.names.lookup y = some .free := hy
    rcases hy with hy | hy
    · exact absurd rfl (L.own _ (PySem.mem_of_lookup hy)).1
    · exact look hy
  · have z : false = true := z
    cases z
  · have e3 : Vis scope y := e3
    rcases e3 with k | k | k
    · exact absurd (List.mem_of_getElem? e1) ((L.own _ (PySem.mem_of_lookup k)).2 rfl)
    · exact absurd rfl (L.own _ (PySem.mem_of_lookup k)).1
    · obtain ⟨m, hn, hl⟩ := I.loc
      have hvis : Vis X.env.scope y := (L.free _ (PySem.mem_of_lookup k) rfl).elim (fun k => .inr (.inl k)) (fun k => .inr (.inr k))
      obtain ⟨w', r, q⟩ := hl i y v e1 e2 hvis
      obtain ⟨c2, h2⟩ := look k
      refine ⟨w', r, .inr ⟨.inr k, c2, h2, ?_⟩⟩
      have c1 := cm h2
      rcases q with ⟨k', _⟩ | ⟨_, c3, e', z⟩
      · have k' : X.env.scope.names.lookup y = some .local := k'
        rcases L.free _ (PySem.mem_of_lookup k) rfl with k2 | k2 <;> rw [show X.env.scope.names.lookup y = _ from k2] at k' <;> cases k'
      · rw [c1] at e'
        cases e'
        exact cellK c1 z
  · obtain ⟨w', z⟩ := I.cell y c (cm e)
    exact ⟨w', cellK (cm e) z⟩
  · exact (hc y c (cm e)).1
end
/-- f, called without arguments at any later state, does tl -/
def Thunk (P : Program) (w : World) (K : PySem.W.Frag) (mg : Str → Option Value) (base : Heap) (k : Nat) (s : Shared) (H : Hp) (f : Addr) (F : LF) (tl : XK → Hp → VK → Prop) : Prop :=
  ∀ (fs : List Addr) (A : Around) (outer : List Env) (s1 : Shared) (HZ : Hp) (Q : VK) (E : XK), Room k A → Env0 P w K mg base A outer s1 HZ → Un fs [] H HZ s.heap s1.heap → LamIn HZ f F → tl E HZ Q →
    codeAny (model P w) A (.call (.ref f) ⟨[], []⟩) (CR (L2.CX P w) outer P w HZ s1 Q E) s1
theorem Thunk.later {P : Program} {w : World} {K : PySem.W.Frag} {mg : Str → Option Value} {base : Heap} {k : Nat} {s s2 : Shared} {H H2 : Hp} {f : Addr} {F : LF} {tl : XK → Hp → VK → Prop} {fs : List Addr} (t : Thunk P w K mg base k s H f F tl) (un : Un fs [] H H2 s.heap s2.heap) : Thunk P w K mg base k s2 H2 f F tl :=
  fun fs2 A outer s1 HZ Q E hr e0 un2 L h => t (fs ++ fs2) A outer s1 HZ Q E hr e0 ((un.mono (fun b m => List.mem_append.mpr (.inl m)) fun b m => m).trans (un2.mono (fun b m => List.mem_append.mpr (.inr m)) fun b m => m)) L h
theorem Thunk.mono {P : Program} {w : World} {K : PySem.W.Frag} {mg : Str → Option Value} {base : Heap} {j k : Nat} {s : Shared} {H : Hp} {f : Addr} {F : LF} {tl : XK → Hp → VK → Prop} (t : Thunk P w K mg base j s H f F tl) (h : j ≤ k) : Thunk P w K mg base k s H f F tl :=
  fun fs A outer s1 HZ Q E hr => t fs A outer s1 HZ Q E (hr.mono h)
section
variable {X : Cx} {pins : List (Addr × Obj)} {σ : L2.St} {H HZ : Hp} {s s1 : Shared}
theorem cells_un {fs : List Addr} (I : Inv X pins σ H s) (un : Un fs [] H HZ s.heap s1.heap) : ∀ y c, X.env.cells.lookup y = some c → HZ c = none ∧ ∀ v, s.heap.IsCell c v → s1.heap.IsCell c v := fun y c e => by
  refine ⟨?_, fun v ⟨o, ho, hd⟩ => ?_⟩
  · obtain ⟨v, o, ho, hd⟩ := I.cell y c e
    exact un.free c o ho (I.freeC y c e) (by simp)
  · obtain ⟨sl, q⟩ := un.any ho (I.freeC y c e) (by simp)
    exact ⟨_, q, hd⟩
/-- the lambda's call, wherever its cells hold what they held -/
theorem run_lam {params : Arguments} {body : Expr} {scope : Scope} {ps : List Str} {c' f : Addr} {dv : Value} {k : Nat} {t : XK → TE} {A : Around} {outer : List Env} {Q : VK} {E : XK} (I : Inv X pins σ H s) (L : LamP X.N X.env.scope scope ps) (hb : LBind ⟨X.env.qual ++ "<lambda>", params, body, scope, cloFrom X.env.cells scope.names [], c', dv⟩ ps)
    (hbody : ∀ (A : Around) (outer : List Env) (s1 : Shared) (HZ : Hp) (E : XK), Room k (A.deeper (lamEnv X scope s1.heap.objs.size f c')) → PE (lamCx X A outer s1 HZ E scope f c') body (t E))
    (hr : Room (k + 1) A) (e0 : Env0 X.prog X.w X.K X.mg X.base A outer s1 HZ) (hc : ∀ y c, X.env.cells.lookup y = some c → HZ c = none ∧ ∀ v, s.heap.IsCell c v → s1.heap.IsCell c v)
    (LI : LamIn HZ f ⟨X.env.qual ++ "<lambda>", params, body, scope, cloFrom X.env.cells scope.names [], c', dv⟩) (ht : t E σ HZ Q) : codeAny (model X.prog X.w) A (.call (.ref f) ⟨[], []⟩) (CR (L2.CX X.prog X.w) outer X.prog X.w HZ s1 Q E) s1 := by
  obtain ⟨od, sl, pm, ctv, of1⟩ := lamO_at e0.hok LI.1
  obtain ⟨⟨oc, vs, tk, hoc, hdc, hvc⟩, _, _⟩ := e0.hok c' _ LI.2.1
  refine PySem.W.kla_callFunE hr.depth of1 rfl L.co L.gen rfl ⟨c', oc, vs, tk, rfl, hoc, hdc, hvc⟩ ?_
  refine hb _ _ _ f _ pm ctv _ _ _ _ e0.hok LI fun us hl => ?_
  have lim : s1.heap.NoLimit := e0.mod.nolimit.keeps fun b o e => (e0.bs b o e).1
  refine wpAny_newFunctionEnv (fun y hy => (L.own y hy).1) (fun ⟨n, _⟩ hy => L.loc n (List.of_mem_zip hy).1) (fun h₁ hns hsb => ⟨lim.fresh _ hsb, ?_⟩) L.kind
  show codeAny _ _ (.expr body (lamEnv X scope s1.heap.objs.size f c')) _ _
  have kp : ∀ b o, s1.heap.get? b = some o → h₁.get? b = some o := fun b o e => hsb.extBut b o (Nat.ne_of_lt (Heap.lt_size e)) (Heap.get?_push_of_some _ e)
  have J : Inv (lamCx X A outer s1 HZ E scope f c') [] σ HZ { s1 with heap := h₁, toks := s1.toks + (ps.zip us).length } := lam_startP I L e0 hr.hd hc hns kp
  refine PySem.W.kla_codeExpr (wpAny_mono ((hbody _ _ s1 HZ E (hr.deeper _)).run [] _ _ HZ Q J ht) (fun v s' hq => ?_) fun e s' hq => hq)
  obtain ⟨w', H', J', rv, q⟩ := hq
  exact ⟨w', H', J'.os, J'.bare, J'.base, J'.hok, rv, q⟩
theorem thunk_made {params : Arguments} {body : Expr} {scope : Scope} {ps : List Str} {c' f : Addr} {dv : Value} {k : Nat} {t : XK → TE} (I : Inv X pins σ H s) (L : LamP X.N X.env.scope scope ps) (hb : LBind ⟨X.env.qual ++ "<lambda>", params, body, scope, cloFrom X.env.cells scope.names [], c', dv⟩ ps)
    (hbody : ∀ (A : Around) (outer : List Env) (s1 : Shared) (HZ : Hp) (E : XK), Room k (A.deeper (lamEnv X scope s1.heap.objs.size f c')) → PE (lamCx X A outer s1 HZ E scope f c') body (t E)) :
    Thunk X.prog X.w X.K X.mg X.base (k + 1) s H f ⟨X.env.qual ++ "<lambda>", params, body, scope, cloFrom X.env.cells scope.names [], c', dv⟩ (fun E HZ Q => t E σ HZ Q) := by
  intro fs A outer s1 HZ Q E hr e0 un LI ht
  exact run_lam I L hb hbody hr e0 (cells_un I un) LI ht
end
/-! ### defs that are handed lambdas -/
abbrev TH := Addr → LF → (XK → Hp → VK → Prop) → Prop
/-- the promise of a def at f that may be handed lambdas: sp's th tells what is known of them -/
structure FnOkT (P : Program) (w : World) (K : PySem.W.Frag) (mg : Str → Option Value) (base : Heap) (CX : CXT) (kT k : Nat) (f : Addr) (fd : FuncData) (ps : List Str) (sp : TH → Sp) : Prop where
  len : ∀ th vs H Q E, sp th vs H Q E → vs.length = ps.length
  run : ∀ (A : Around) (outer : List Env) (s : Shared) (H : Hp) (args : Args) (us : List Value) (vs : List V) (Q : VK) (E : XK) (th : TH), Room k A → Env0 P w K mg base A outer s H → BindsTo s fd args (ps.zip us) → Vals vs us →
    (∀ f F tl, th f F tl → Thunk P w K mg base kT s H f F tl) → sp th vs H Q E → codeAny (model P w) A (.call (.ref f) args) (CR CX outer P w H s Q E) s
/-- the call of such a def -/
def tCallT (sp : TH → Sp) (mk : L2.St → TH) (E : XK) (t : TA) : TE := fun σ H Q => t σ H fun vs H1 => sp (mk σ) vs H1 Q E
section
variable {X : Cx} {CX : CXT} {kT k : Nat} {f : Addr} {fd : FuncData} {ps : List Str} {sp : TH → Sp} {E : XK} {x : Str} {p pos : Pos} {e : Expr} {es : List Expr} {t : TA} {mk : L2.St → TH}
theorem pe_callT (F : FnOkT X.prog X.w X.K X.mg X.base CX kT k f fd ps sp) (hr : Room k X.A) (hg : Gl X x) (hm : X.mg x = some (.ref f)) (hk : PySem.W.keepIn X.K (.ref f) = true) (hb : L2.Binds X.K fd ps []) (hx : Passes CX X E)
    (hmk : ∀ pins s σ H, Inv X pins σ H s → ∀ f F tl, mk σ f F tl → Thunk X.prog X.w X.K X.mg X.base kT s H f F tl)
    (ha : PA X (e :: es) t) (hdb : (x == ("__debug__" : Str)) = false := by decide) (he : starEach (e :: es) X.env = (false, eval e X.env) :: starEach es X.env := by rfl) (hpl : (backTo pos (starEach es X.env)).any (·.1) = false := by rfl) :
    PE X (.Call (.Name x p) (e :: es) [] pos) (tCallT sp mk E t) := by
  refine ⟨fun pins s σ H Q I h => ?_⟩
  refine wpAny_Call_Name_kw (ld_glob I hg hm ?_ hdb)
  refine PySem.W.callWith_K (h₀ := X.base) I.ok.mod.kin hk (thn (ha.run pos pins s σ H _ I h) fun us s1 ⟨vs, H1, I1, r, q⟩ => ⟨I1.kIn, ?_⟩) he hpl
  have hb' := hb s1 us I1.kIn (by rw [List.append_nil, ← r.length]; exact F.len _ _ _ _ _ q)
  rw [List.append_nil] at hb'
  refine wpAny_call (codeAny_mono (F.run X.A X.stack s1 H1 _ us vs Q E (mk σ) hr I1.env0 hb' r (hmk pins s1 σ H1 I1) q) fun r s' hq => ?_)
  cases r with
  | error e => exact hx pins σ H1 s1 e s' I1 hq
  | ok fl =>
    cases fl with
    | ret u => exact I1.after hq
    | next => exact False.elim hq
    | brk => exact False.elim hq
    | cont => exact False.elim hq
end
/-- the rule of such a def -/
theorem FnOkT.of {CX : CXT} {P : Program} {w : World} {K : PySem.W.Frag} {mg : Str → Option Value} {base : Heap} {kT k : Nat} {x qual : Str} {st : Stmt} {f : Addr} {fd : FuncData} {N ps : List Str} {sp : TH → Sp} (F : Fun K x qual st f fd) (S : FnScope N ps (defScope st)) (len : ∀ th vs H Q E, sp th vs H Q E → vs.length = ps.length)
    (hbody : ∀ (cdv : Value) (A : Around) (outer : List Env) (s : Shared) (H : Hp) (vs : List V) (Q : VK) (E : XK) (th : TH), Room k (A.deeper (envOfC qual (defScope st) s.heap.objs.size f cdv)) → (∀ f F tl, th f F tl → Thunk P w K mg base kT s H f F tl) → sp th vs H Q E →
      ∃ t, PSs (cxOf CX P w K mg base N qual (defScope st) f cdv A outer s H E) (defBody st) t ∧ t { nx := fun _ H' => Q .non H', rt := Q } (L2.start N vs) H) : FnOkT P w K mg base CX kT (k + 1) f fd ps sp := by
  obtain ⟨oc, od, kV, doc, pm, an, cdv, ct, osl, rfl, lk, hcd⟩ := F.ex
  exact ⟨len, fun A outer s H args us vs Q E th hr e0 hb r hth hsp => run_ofS lk hcd S hr e0 hb r (len _ _ _ _ _ hsp) fun hr' => hbody cdv A outer s H vs Q E th hr' hth hsp⟩
section
variable {X : Cx} {pins : List (Addr × Obj)} {σ : L2.St} {H : Hp} {s : Shared}
def tAct (i : Nat) (th : TH) (E : XK) : TE := fun σ H Q => ∃ f F tl, σ[i]? = some (some (.ref f)) ∧ th f F tl ∧ LamIn H f F ∧ tl E H Q
theorem pe_actT {kT i : Nat} {a : Str} {th : TH} {E : XK} {p1 p2 : Pos} (hth : ∀ pins s σ H, Inv X pins σ H s → ∀ f F tl, th f F tl → Thunk X.prog X.w X.K X.mg X.base kT s H f F tl) (hr : Room kT X.A) (hx : Passes (L2.CX X.prog X.w) X E)
    (hN : X.N[i]? = some a) (hv : Vis X.env.scope a) (hd : (a == ("__debug__" : Str)) = false := by decide) (hcd : (a == ("__classdict__" : Str)) = false := by decide) : PE X (.Call (.Name a p1) [] [] p2) (tAct i th E) := by
  refine ⟨fun pins s σ H Q I h => ?_⟩
  obtain ⟨f, F, tl, hs, ht, hl, q⟩ := h
  refine wpAny_Call_Name_kw (thn ((pe_var (pos := p1) (i := i) hN hv hd hcd).run pins s σ H (fun v H1 => v = .ref f ∧ H1 = H) I ⟨.ref f, hs, rfl, rfl⟩) fun u s1 ⟨v, H1, I1, r1, q1⟩ => ?_)
  obtain ⟨ev, eH⟩ := q1
  subst ev
  rw [eH] at I1
  obtain rfl : u = Value.ref f := r1
  obtain ⟨od, sl, pm, ctv, of1⟩ := lamO_at I1.hok hl.1
  refine PySem.W.callWith_F0 ⟨_, _, _, _, of1⟩ ?_
  refine wpAny_call (codeAny_mono ((hth pins s1 σ H I1 f F tl ht) [] X.A X.stack s1 H Q E hr I1.env0 Un.refl hl q) fun r s' hq => ?_)
  cases r with
  | error e => exact hx pins σ H s1 e s' I1 hq
  | ok fl =>
    cases fl with
    | ret u => exact I1.after hq
    | next => exact False.elim hq
    | brk => exact False.elim hq
    | cont => exact False.elim hq
end
/-! ### lambdas that are known all through a call: the cells are ground -/
def ThunkB (P : Program) (w : World) (K : PySem.W.Frag) (mg : Str → Option Value) (base : Heap) (k : Nat) (f : Addr) (F : LF) (tl : XK → Hp → VK → Prop) : Prop :=
  ∀ (A : Around) (outer : List Env) (s1 : Shared) (HZ : Hp) (Q : VK) (E : XK), Room k A → Env0 P w K mg base A outer s1 HZ → LamIn HZ f F → tl E HZ Q →
    codeAny (model P w) A (.call (.ref f) ⟨[], []⟩) (CR (L2.CX P w) outer P w HZ s1 Q E) s1
theorem ThunkB.at {P : Program} {w : World} {K : PySem.W.Frag} {mg : Str → Option Value} {base : Heap} {k : Nat} {f : Addr} {F : LF} {tl : XK → Hp → VK → Prop} (t : ThunkB P w K mg base k f F tl) (s : Shared) (H : Hp) : Thunk P w K mg base k s H f F tl :=
  fun fs A outer s1 HZ Q E hr e0 un L h => t A outer s1 HZ Q E hr e0 L h
/-- base2 holds what base holds -/
structure Grown (K : PySem.W.Frag) (mg : Str → Option Value) (base base2 : Heap) : Prop where
  mod : Mod K mg base2
  le : ∀ b o, base.get? b = some o → base2.get? b = some o
theorem Grown.env {P : Program} {w : World} {K : PySem.W.Frag} {mg : Str → Option Value} {base base2 : Heap} {A : Around} {outer : List Env} {s : Shared} {H : Hp} (g : Grown K mg base base2) (m : Mod K mg base) (hs : base.objs.size ≤ base2.objs.size) (e : Env0 P w K mg base2 A outer s H) : Env0 P w K mg base A outer s H :=
  ⟨e.frames, m, fun b o h => e.bs b o (g.le b o h), Nat.le_trans hs e.bsz, funFrames_none e.funs (fun L hL => by
    cases q : base.get? L with
    | none => rfl
    | some o =>
      have z := (e.funs.mem hL).1
      rw [g.le L o q] at z
      cases z), e.frf, e.hok, e.bare⟩
section
variable {X : Cx} {pins : List (Addr × Obj)} {σ : L2.St} {H : Hp} {s : Shared}
/-- the ground of now: all that is not tracked and no frame -/
def groundOf (X : Cx) (H : Hp) (s : Shared) : Heap := PySem.W.hideAll s.heap (trk s.heap H ++ frs X.stack)
theorem ground_get {b : Addr} {o : Obj} (e : s.heap.get? b = some o) (n : H b = none) (nf : b ∉ frs X.stack) : (groundOf X H s).get? b = some o :=
  PySem.W.hideAll_get _ e fun hm => by
    rcases List.mem_append.mp hm with hm | hm
    · have q : (H b).isSome = true := (List.mem_filter.mp hm).2
      rw [n] at q
      cases q
    · exact nf hm
theorem ground_of {b : Addr} {o : Obj} (e : (groundOf X H s).get? b = some o) : s.heap.get? b = some o ∧ H b = none ∧ b ∉ frs X.stack := by
  have e1 := PySem.W.of_hideAll _ e
  have nm : b ∉ trk s.heap H ++ frs X.stack := fun m => by
    have z := PySem.W.hideAll_none (h := s.heap) _ m
    unfold groundOf at e
    rw [z] at e
    cases e
  refine ⟨e1, ?_, fun m => nm (List.mem_append.mpr (.inr m))⟩
  cases q : H b with
  | none => rfl
  | some u =>
    refine absurd (List.mem_append.mpr (.inl (List.mem_filter.mpr ⟨List.mem_range.mpr (Heap.lt_size e1), ?_⟩))) nm
    rw [q]
    rfl
theorem ground_size : (groundOf X H s).objs.size = s.heap.objs.size := PySem.W.hideAll_size _ _
theorem ground_le (I : Inv X pins σ H s) : ∀ b o, X.base.get? b = some o → (groundOf X H s).get? b = some o := fun b o e => by
  obtain ⟨h1, h2⟩ := I.bs b o e
  refine ground_get h1 h2 fun m => ?_
  have z := (I.stack.mem m).1
  rw [e] at z
  cases z
theorem ground_grown (I : Inv X pins σ H s) : Grown X.K X.mg X.base (groundOf X H s) := by
  have le := ground_le I
  obtain ⟨mb, hb, hx⟩ := I.mod.blt
  exact ⟨⟨I.mod.kin.keeps le, I.mod.glob.keeps le, ⟨mb, hb.keeps le, hx⟩, I.mod.nolimit.keeps le⟩, le⟩
theorem ground_env (I : Inv X pins σ H s) : Env0 X.prog X.w X.K X.mg (groundOf X H s) X.A X.stack s H :=
  ⟨I.ok.frames, (ground_grown I).mod, fun b o e => ⟨(ground_of e).1, (ground_of e).2.1⟩, by rw [ground_size]; exact Nat.le_refl _, funFrames_none I.stack (fun b hb => by
    cases q : (groundOf X H s).get? b with
    | none => rfl
    | some o => exact absurd hb (ground_of q).2.2), I.stkFree, I.hok, I.bare⟩
/-- a lambda of this def, on that ground -/
theorem thunkB_made {params : Arguments} {body : Expr} {scope : Scope} {ps : List Str} {c' f : Addr} {dv : Value} {k : Nat} {t : XK → TE} (I : Inv X pins σ H s) (hfn : ∀ x, X.fn x = true) (L : LamP X.N X.env.scope scope ps) (hb : LBind ⟨X.env.qual ++ "<lambda>", params, body, scope, cloFrom X.env.cells scope.names [], c', dv⟩ ps)
    (hbody : ∀ (A : Around) (outer : List Env) (s1 : Shared) (HZ : Hp) (E : XK), Room k (A.deeper (lamEnv X scope s1.heap.objs.size f c')) → PE (lamCx X A outer s1 HZ E scope f c') body (t E)) :
    ThunkB X.prog X.w X.K X.mg (groundOf X H s) (k + 1) f ⟨X.env.qual ++ "<lambda>", params, body, scope, cloFrom X.env.cells scope.names [], c', dv⟩ (fun E HZ Q => t E σ HZ Q) := by
  intro A outer s1 HZ Q E hr e0 LI ht
  refine run_lam I L hb hbody hr ((ground_grown I).env I.mod (by rw [ground_size]; exact Nat.le_trans I.ok.bsz I.sz) e0) (fun y c e => ?_) LI ht
  have nf : c ∉ frs X.stack := fun m => by
    rcases List.mem_cons.mp (I.stkSub c m) with z | z
    · exact I.cne y c e z
    · obtain ⟨_, o, ho, _⟩ := I.ok.funs.mem z
      exact absurd (Nat.lt_of_lt_of_le (Heap.lt_size ho) (I.ok.cab y c (hfn y) e)) (Nat.lt_irrefl _)
  have gk : ∀ o, s.heap.get? c = some o → (groundOf X H s).get? c = some o := fun o ho => ground_get ho (I.freeC y c e) nf
  obtain ⟨v, o, ho, hd⟩ := I.cell y c e
  exact ⟨(e0.bs c o (gk o ho)).2, fun v ⟨o, ho, hd⟩ => ⟨o, (e0.bs c o (gk o ho)).1, hd⟩⟩
end
/-- the promise of a def that keeps lambdas through its own blocks -/
def FnOkB (P : Program) (w : World) (K : PySem.W.Frag) (mg : Str → Option Value) (base : Heap) (CX : CXT) (kT k : Nat) (f : Addr) (fd : FuncData) (ps : List Str) (sp : TH → Sp) : Prop :=
  ∀ (base2 : Heap) (th : TH), Grown K mg base base2 → (∀ f F tl, th f F tl → ThunkB P w K mg base2 kT f F tl) → FnOk P w K mg base2 CX k f fd ps (sp th)
section
variable {X : Cx} {CX : CXT} {kT k : Nat} {f : Addr} {fd : FuncData} {ps : List Str} {sp : TH → Sp} {E : XK} {x : Str} {p pos : Pos} {e : Expr} {es : List Expr} {t : TA} {mk : L2.St → TH}
theorem pe_callB2 (F : FnOkB X.prog X.w X.K X.mg X.base CX kT k f fd ps sp) (hr : Room k X.A) (hg : Gl X x) (hm : X.mg x = some (.ref f)) (hk : PySem.W.keepIn X.K (.ref f) = true) (hb : L2.Binds X.K fd ps []) (hx : Passes CX X E)
    (hmk : ∀ pins s σ H, Inv X pins σ H s → ∀ f F tl, mk σ f F tl → ThunkB X.prog X.w X.K X.mg (groundOf X H s) kT f F tl)
    (ha : PA X (e :: es) t) (hdb : (x == ("__debug__" : Str)) = false := by decide) (he : starEach (e :: es) X.env = (false, eval e X.env) :: starEach es X.env := by rfl) (hpl : (backTo pos (starEach es X.env)).any (·.1) = false := by rfl) :
    PE X (.Call (.Name x p) (e :: es) [] pos) (tCallT sp mk E t) := by
  refine ⟨fun pins s σ H Q I h => ?_⟩
  refine wpAny_Call_Name_kw (ld_glob I hg hm ?_ hdb)
  refine PySem.W.callWith_K (h₀ := X.base) I.ok.mod.kin hk (thn (ha.run pos pins s σ H _ I h) fun us s1 ⟨vs, H1, I1, r, q⟩ => ⟨I1.kIn, ?_⟩) he hpl
  have G := F (groundOf X H1 s1) (mk σ) (ground_grown I1) (hmk pins s1 σ H1 I1)
  have hb' := hb s1 us I1.kIn (by rw [List.append_nil, ← r.length]; exact G.len _ _ _ _ q)
  rw [List.append_nil] at hb'
  refine wpAny_call (codeAny_mono (G.run X.A X.stack s1 H1 _ us vs Q E hr (ground_env I1) hb' r q) fun r s' hq => ?_)
  cases r with
  | error e => exact hx pins σ H1 s1 e s' I1 hq
  | ok fl =>
    cases fl with
    | ret u => exact I1.after hq
    | next => exact False.elim hq
    | brk => exact False.elim hq
    | cont => exact False.elim hq
end
end VH

namespace VH
open PySem L2
/-! ### what is owned: trees of lists, dicts, instances -/
inductive Knd where
  | lst
  | dic (ks : List Key)
  | ins (C dx : Addr) (fs : List Str)
def Knd.obj : Knd → List V → HO
  | .lst, vs => .lst vs
  | .dic ks, vs => .dK (ks.zip vs)
  | .ins C dx fs, vs => .ins C dx (fs.zip vs)
/-- a value that owns nothing, or an object at a with its parts -/
inductive AT where
  | v (x : V)
  | n (a : Addr) (k : Knd) (ts : List AT)
def AT.val : AT → V
  | .v x => x
  | .n a _ _ => .ref a
mutual
def AT.cells : AT → List (Addr × HO)
  | .v _ => []
  | .n a k ts => (a, k.obj (ts.map AT.val)) :: cellsL ts
def cellsL : List AT → List (Addr × HO)
  | [] => []
  | t :: r => t.cells ++ cellsL r
end
def AT.fp (t : AT) : List Addr := t.cells.map (·.1)
def fpL (ts : List AT) : List Addr := (cellsL ts).map (·.1)
theorem fp_v {x : V} : (AT.v x).fp = [] := by unfold AT.fp AT.cells; rfl
theorem fp_n {a : Addr} {k : Knd} {ts : List AT} : (AT.n a k ts).fp = a :: fpL ts := by unfold AT.fp AT.cells; rfl
theorem fpL_nil : fpL [] = [] := by unfold fpL cellsL; rfl
theorem fpL_cons {t : AT} {r : List AT} : fpL (t :: r) = t.fp ++ fpL r := by
  unfold fpL AT.fp
  rw [cellsL, List.map_append]
theorem fpL_app {u : List AT} : ∀ {t : List AT}, fpL (t ++ u) = fpL t ++ fpL u
  | [] => by rw [fpL_nil]; rfl
  | x :: r => by rw [List.cons_append, fpL_cons, fpL_cons, fpL_app, List.append_assoc]
theorem fpL_mem {a : Addr} : ∀ {ts : List AT}, a ∈ fpL ts ↔ ∃ t ∈ ts, a ∈ t.fp
  | [] => by rw [fpL_nil]; simp
  | t :: r => by
    rw [fpL_cons, List.mem_append, fpL_mem]
    constructor
    · rintro (h | ⟨u, m, h⟩)
      · exact ⟨t, List.mem_cons_self, h⟩
      · exact ⟨u, List.mem_cons_of_mem _ m, h⟩
    · rintro ⟨u, m, h⟩
      rcases List.mem_cons.mp m with rfl | m
      · exact .inl h
      · exact .inr ⟨u, m, h⟩
theorem cellsL_mem {c : Addr × HO} : ∀ {ts : List AT}, c ∈ cellsL ts ↔ ∃ t ∈ ts, c ∈ t.cells
  | [] => by rw [cellsL]; simp
  | t :: r => by
    rw [cellsL, List.mem_append, cellsL_mem]
    constructor
    · rintro (h | ⟨u, m, h⟩)
      · exact ⟨t, List.mem_cons_self, h⟩
      · exact ⟨u, List.mem_cons_of_mem _ m, h⟩
    · rintro ⟨u, m, h⟩
      rcases List.mem_cons.mp m with rfl | m
      · exact .inl h
      · exact .inr ⟨u, m, h⟩
/-- they lie so in the heap, no object twice -/
structure Good (H : Hp) (t : AT) : Prop where
  c : ∀ p ∈ t.cells, H p.1 = some p.2
  nd : t.fp.Nodup
structure GoodL (H : Hp) (ts : List AT) : Prop where
  c : ∀ p ∈ cellsL ts, H p.1 = some p.2
  nd : (fpL ts).Nodup
section
variable {H H' H1 H2 : Hp} {t t' s s' u : AT} {ts ts' us : List AT} {a : Addr} {k k' : Knd}
theorem Good.v {x : V} : Good H (.v x) := ⟨fun p m => (by unfold AT.cells at m; cases m), by rw [fp_v]; exact List.nodup_nil⟩
theorem GoodL.nil : GoodL H [] := ⟨fun p m => (by unfold cellsL at m; cases m), by rw [fpL_nil]; exact List.nodup_nil⟩
theorem Good.root (g : Good H (.n a k ts)) : H a = some (k.obj (ts.map AT.val)) := g.c (a, k.obj (ts.map AT.val)) (by unfold AT.cells; exact List.mem_cons_self)
theorem Good.kids (g : Good H (.n a k ts)) : GoodL H ts := ⟨fun p m => g.c p (by unfold AT.cells; exact List.mem_cons_of_mem _ m), by
  have z := g.nd
  rw [fp_n] at z
  exact (List.nodup_cons.mp z).2⟩
theorem Good.no (g : Good H (.n a k ts)) : a ∉ fpL ts := by
  have z := g.nd
  rw [fp_n] at z
  exact (List.nodup_cons.mp z).1
theorem Good.node (e : H a = some (k.obj (ts.map AT.val))) (g : GoodL H ts) (n : a ∉ fpL ts) : Good H (.n a k ts) := ⟨fun p m => by
  unfold AT.cells at m
  rcases List.mem_cons.mp m with rfl | m
  · exact e
  · exact g.c p m, by rw [fp_n]; exact List.nodup_cons.mpr ⟨n, g.nd⟩⟩
theorem GoodL.mem (g : GoodL H ts) (m : t ∈ ts) : Good H t := ⟨fun p h => g.c p (cellsL_mem.mpr ⟨t, m, h⟩), by
  have z := g.nd
  clear g
  induction ts with
  | nil => cases m
  | cons x r ih =>
    rw [fpL_cons] at z
    obtain ⟨h1, h2, _⟩ := List.nodup_append.mp z
    rcases List.mem_cons.mp m with rfl | m
    · exact h1
    · exact ih m h2⟩
theorem Good.kid (g : Good H (.n a k ts)) {i : Nat} (e : ts[i]? = some s) : Good H s := g.kids.mem (List.mem_of_getElem? e)
theorem GoodL.cons (g : Good H t) (gs : GoodL H ts) (d : ∀ b ∈ t.fp, b ∉ fpL ts) : GoodL H (t :: ts) := ⟨fun p m => by
  rw [cellsL] at m
  rcases List.mem_append.mp m with m | m
  · exact g.c p m
  · exact gs.c p m, by rw [fpL_cons]; exact List.nodup_append.mpr ⟨g.nd, gs.nd, fun b m c m2 z => d b m (by rw [z]; exact m2)⟩⟩
theorem GoodL.app (g : GoodL H ts) (gs : GoodL H us) (d : ∀ b ∈ fpL ts, b ∉ fpL us) : GoodL H (ts ++ us) := ⟨fun p m => by
  obtain ⟨t, mt, h⟩ := cellsL_mem.mp m
  rcases List.mem_append.mp mt with mt | mt
  · exact g.c p (cellsL_mem.mpr ⟨t, mt, h⟩)
  · exact gs.c p (cellsL_mem.mpr ⟨t, mt, h⟩), by rw [fpL_app]; exact List.nodup_append.mpr ⟨g.nd, gs.nd, fun b m c m2 z => d b m (by rw [z]; exact m2)⟩⟩
theorem GoodL.vs {vs : List V} : GoodL H (vs.map AT.v) := ⟨fun p m => (by
  obtain ⟨t, mt, h⟩ := cellsL_mem.mp m
  obtain ⟨x, _, rfl⟩ := List.mem_map.mp mt
  unfold AT.cells at h
  cases h), by
  have e : fpL (vs.map AT.v) = [] := by
    induction vs with
    | nil => exact fpL_nil
    | cons x r ih => rw [List.map_cons, fpL_cons, fp_v, ih]; rfl
  rw [e]
  exact List.nodup_nil⟩
theorem fpL_vs {vs : List V} : fpL (vs.map AT.v) = [] := by
  induction vs with
  | nil => exact fpL_nil
  | cons x r ih => rw [List.map_cons, fpL_cons, fp_v, ih]; rfl
/-- a kid's objects stand in the tree -/
theorem fp_kid {i : Nat} (e : ts[i]? = some s) {b : Addr} (m : b ∈ s.fp) : b ∈ (AT.n a k ts).fp := by
  rw [fp_n]
  exact List.mem_cons_of_mem _ (fpL_mem.mpr ⟨s, List.mem_of_getElem? e, m⟩)
theorem Good.used (g : Good H t) : ∀ b ∈ t.fp, ∃ o, H b = some o := fun b m => by
  obtain ⟨p, hp, rfl⟩ := List.mem_map.mp m
  exact ⟨_, g.c p hp⟩
theorem GoodL.used (g : GoodL H ts) : ∀ b ∈ fpL ts, ∃ o, H b = some o := fun b m => by
  obtain ⟨p, hp, rfl⟩ := List.mem_map.mp m
  exact ⟨_, g.c p hp⟩
/-- objects that are written -/
def Mut : HO → Prop
  | .lst _ => True
  | .dK _ => True
  | .ins _ _ _ => True
  | _ => False
mutual
theorem cells_mut : ∀ (t : AT), ∀ p ∈ t.cells, Mut p.2
  | .v _, p, m => by unfold AT.cells at m; cases m
  | .n a k ts, p, m => by
    unfold AT.cells at m
    rcases List.mem_cons.mp m with rfl | m
    · cases k <;> exact True.intro
    · exact cellsL_mut ts p m
theorem cellsL_mut : ∀ (ts : List AT), ∀ p ∈ cellsL ts, Mut p.2
  | [], p, m => by unfold cellsL at m; cases m
  | t :: r, p, m => by
    unfold cellsL at m
    rcases List.mem_append.mp m with m | m
    · exact cells_mut t p m
    · exact cellsL_mut r p m
end
/-- what F holds is written -/
def Mu (H : Hp) (F : List Addr) : Prop := ∀ b ∈ F, ∃ o, H b = some o ∧ Mut o
theorem Good.mu (g : Good H t) : Mu H t.fp := fun b m => by
  obtain ⟨p, hp, rfl⟩ := List.mem_map.mp m
  exact ⟨_, g.c p hp, cells_mut t p hp⟩
theorem GoodL.mu (g : GoodL H ts) : Mu H (fpL ts) := fun b m => by
  obtain ⟨p, hp, rfl⟩ := List.mem_map.mp m
  exact ⟨_, g.c p hp, cellsL_mut ts p hp⟩
/-- what is never written is kept -/
def KI (H H' : Hp) : Prop := ∀ a o, H a = some o → ¬ Mut o → H' a = some o
theorem KI.refl : KI H H := fun _ _ e _ => e
theorem KI.trans (h : KI H H1) (g : KI H1 H2) : KI H H2 := fun a o e n => g a o (h a o e n) n
theorem KI.of {F : List Addr} (k : Kp F H H') (m : Mu H F) : KI H H' := fun a o e n => k.k a o e fun z => by
  obtain ⟨o', e', h⟩ := m a z
  rw [e] at e'
  cases e'
  exact n h
theorem KI.of0 (k : Kp [] H H') : KI H H' := fun a o e _ => k.k a o e ni_nil
theorem Good.keep (g : Good H t) (k : ∀ b ∈ t.fp, H' b = H b) : Good H' t := ⟨fun p m => (k p.1 (List.mem_map.mpr ⟨p, m, rfl⟩)).trans (g.c p m), g.nd⟩
theorem GoodL.keep (g : GoodL H ts) (k : ∀ b ∈ fpL ts, H' b = H b) : GoodL H' ts := ⟨fun p m => (k p.1 (List.mem_map.mpr ⟨p, m, rfl⟩)).trans (g.c p m), g.nd⟩
theorem Good.kp {F : List Addr} (g : Good H t) (k : Kp F H H') (d : ∀ b ∈ t.fp, b ∉ F) : Good H' t := g.keep fun b m => let ⟨o, e⟩ := g.used b m; (k.k b o e (d b m)).trans e.symm
theorem GoodL.kp {F : List Addr} (g : GoodL H ts) (k : Kp F H H') (d : ∀ b ∈ fpL ts, b ∉ F) : GoodL H' ts := g.keep fun b m => let ⟨o, e⟩ := g.used b m; (k.k b o e (d b m)).trans e.symm
theorem Good.kp0 (g : Good H t) (k : Kp [] H H') : Good H' t := g.kp k fun _ _ => ni_nil
theorem GoodL.kp0 (g : GoodL H ts) (k : Kp [] H H') : GoodL H' ts := g.kp k fun _ _ => ni_nil
/-- s became s', in its place; all else is kept, what is new is fresh -/
structure Step (H H' : Hp) (s s' : AT) : Prop where
  val : s'.val = s.val
  k : Kp s.fp H H'
  g : Good H' s'
  f : ∀ b ∈ s'.fp, b ∈ s.fp ∨ H b = none
theorem Step.refl (g : Good H s) (k : Kp [] H H') : Step H H' s s := ⟨rfl, ⟨fun a o e _ => k.k a o e ni_nil⟩, g.kp0 k, fun b m => .inl m⟩
theorem Step.trans (x : Step H H1 s s') (y : Step H1 H2 s' u) : Step H H2 s u := by
  have nn : ∀ b, H1 b = none → b ∈ s.fp ∨ H b = none := fun b e => by
    by_cases m : b ∈ s.fp
    · exact .inl m
    · cases q : H b with
      | none => exact .inr rfl
      | some o => rw [x.k.k b o q m] at e; cases e
  refine ⟨y.val.trans x.val, ⟨fun a o e n => y.k.k a o (x.k.k a o e n) fun m => ?_⟩, y.g, fun b m => ?_⟩
  · rcases x.f a m with z | z
    · exact n z
    · rw [e] at z
      cases z
  · rcases y.f b m with z | z
    · exact x.f b z
    · exact nn b z
/-- a step behind things that are new only -/
theorem Step.after (k : Kp [] H H1) (x : Step H1 H2 s s') : Step H H2 s s' := ⟨x.val, ⟨fun a o e n => x.k.k a o (k.k a o e ni_nil) n⟩, x.g, fun b m => by
  rcases x.f b m with z | z
  · exact .inl z
  · exact .inr (none_of_kp2 z k)⟩
theorem Step.more (x : Step H H1 s s') (k : Kp [] H1 H2) : Step H H2 s s' := ⟨x.val, ⟨fun a o e n => k.k a o (x.k.k a o e n) ni_nil⟩, x.g.kp0 k, x.f⟩
theorem Step.ki (x : Step H H' s s') (g : Good H s) : KI H H' := KI.of x.k g.mu
theorem set_val : ∀ {ts : List AT} {i : Nat}, ts[i]? = some s → s'.val = s.val → (ts.set i s').map AT.val = ts.map AT.val
  | [], _, h, _ => by cases h
  | x :: r, 0, h, e => by
    simp at h
    subst h
    rw [List.set_cons_zero, List.map_cons, List.map_cons, e]
  | x :: r, i + 1, h, e => by
    rw [List.set_cons_succ, List.map_cons, List.map_cons, set_val (by simpa using h) e]
theorem goodL_set : ∀ {ts : List AT} {i : Nat}, GoodL H ts → ts[i]? = some s → Kp s.fp H H' → Good H' s' → (∀ b ∈ s'.fp, b ∈ s.fp ∨ H b = none) → GoodL H' (ts.set i s')
  | [], _, _, h, _, _, _ => by cases h
  | x :: r, i, g, h, k, g', f => by
    have nd := g.nd
    rw [fpL_cons] at nd
    obtain ⟨n1, n2, n3⟩ := List.nodup_append.mp nd
    have gx := g.mem (t := x) List.mem_cons_self
    have gr : GoodL H r := ⟨fun p m => g.c p (by rw [cellsL]; exact List.mem_append.mpr (.inr m)), n2⟩
    cases i with
    | zero =>
      simp at h
      subst h
      rw [List.set_cons_zero]
      have gr' : GoodL H' r := gr.kp k fun b m z => n3 b z b m rfl
      refine .cons g' gr' fun b m z => ?_
      rcases f b m with q | q
      · exact n3 b q b z rfl
      · obtain ⟨o, e⟩ := gr.used b z
        rw [q] at e
        cases e
    | succ i =>
      have h : r[i]? = some s := by simpa using h
      have ms : ∀ b ∈ s.fp, b ∈ fpL r := fun b m => fpL_mem.mpr ⟨s, List.mem_of_getElem? h, m⟩
      rw [List.set_cons_succ]
      have gx' : Good H' x := gx.kp k fun b m z => n3 b m b (ms b z) rfl
      refine .cons gx' (goodL_set gr h k g' f) fun b m z => ?_
      obtain ⟨y, my, z2⟩ := fpL_mem.mp z
      rcases List.mem_or_eq_of_mem_set my with my | my
      · exact n3 b m b (fpL_mem.mpr ⟨y, my, z2⟩) rfl
      · rw [my] at z2
        rcases f b z2 with q | q
        · exact n3 b m b (ms b q) rfl
        · obtain ⟨o, e⟩ := gx.used b m
          rw [q] at e
          cases e
theorem fpL_set {i : Nat} {b : Addr} (m : b ∈ fpL (ts.set i s')) : b ∈ fpL ts ∨ b ∈ s'.fp := by
  obtain ⟨y, my, z⟩ := fpL_mem.mp m
  rcases List.mem_or_eq_of_mem_set my with my | my
  · exact .inl (fpL_mem.mpr ⟨y, my, z⟩)
  · rw [my] at z
    exact .inr z
/-- a part's step is the whole's -/
theorem Step.up (x : Step H H' s s') (g : Good H (.n a k ts)) {i : Nat} (h : ts[i]? = some s) : Step H H' (.n a k ts) (.n a k (ts.set i s')) := by
  have ms : ∀ b ∈ s.fp, b ∈ fpL ts := fun b m => fpL_mem.mpr ⟨s, List.mem_of_getElem? h, m⟩
  have fin : ∀ b ∈ fpL (ts.set i s'), b ∈ fpL ts ∨ H b = none := fun b m => by
    rcases fpL_set m with z | z
    · exact .inl z
    · rcases x.f b z with q | q
      · exact .inl (ms b q)
      · exact .inr q
  refine ⟨rfl, ⟨fun b o e n => x.k.k b o e fun m => n (fp_kid h m)⟩, .node ?_ (goodL_set g.kids h x.k x.g x.f) (fun m => ?_), fun b m => ?_⟩
  · rw [set_val h x.val]
    exact x.k.k a _ g.root fun m => g.no (ms a m)
  · rcases fin a m with z | z
    · exact g.no z
    · rw [g.root] at z
      cases z
  · rw [fp_n] at m ⊢
    rcases List.mem_cons.mp m with rfl | m
    · exact .inl List.mem_cons_self
    · rcases fin b m with z | z
      · exact .inl (List.mem_cons_of_mem _ z)
      · exact .inr z
/-- the object itself is written: other parts (old ones, new ones) -/
theorem Step.node (g : Good H0 (.n a k ts)) (kp : Kp [] H0 H) (gs : GoodL H us) (f : ∀ b ∈ fpL us, b ∈ fpL ts ∨ H0 b = none) : Step H0 (upd H a (k'.obj (us.map AT.val))) (.n a k ts) (.n a k' us) := by
  have na : a ∉ fpL us := fun m => by
    rcases f a m with z | z
    · exact g.no z
    · rw [g.root] at z
      cases z
  refine ⟨rfl, kp_set' (by rw [fp_n]; exact List.mem_cons_self) ⟨fun b o e _ => kp.k b o e ni_nil⟩, .node upd_same (gs.keep fun b m => upd_ne fun z => na (by rw [← z]; exact m)) na, fun b m => ?_⟩
  rw [fp_n] at m ⊢
  rcases List.mem_cons.mp m with rfl | m
  · exact .inl List.mem_cons_self
  · rcases f b m with z | z
    · exact .inl (List.mem_cons_of_mem _ z)
    · exact .inr z
/-- .. with values only -/
theorem Step.leaf {vs : List V} (g : Good H0 (.n a k ts)) (kp : Kp [] H0 H) : Step H0 (upd H a (k'.obj vs)) (.n a k ts) (.n a k' (vs.map AT.v)) := by
  have e : (vs.map AT.v).map AT.val = vs := by
    rw [List.map_map]
    exact List.map_id _
  have z := Step.node (k' := k') (us := vs.map AT.v) g kp GoodL.vs (fun b m => by rw [fpL_vs] at m; cases m)
  rw [e] at z
  exact z
/-- a new object -/
theorem Good.new (n : H a = none) (gs : GoodL H us) : Good (upd H a (k.obj (us.map AT.val))) (.n a k us) := by
  have na : a ∉ fpL us := fun m => by
    obtain ⟨o, e⟩ := gs.used a m
    rw [n] at e
    cases e
  exact .node upd_same (gs.keep fun b m => upd_ne fun z => na (by rw [← z]; exact m)) na
/-- what stands apart of it is kept -/
theorem Step.other (x : Step H H' s s') (g : Good H t) (d : ∀ b ∈ t.fp, b ∉ s.fp) : Good H' t := g.kp x.k d
theorem Step.apart (x : Step H H' s s') {F : List Addr} (u : ∀ b ∈ F, ∃ o, H b = some o) (d : ∀ b ∈ F, b ∉ s.fp) : ∀ b ∈ F, b ∉ s'.fp := fun b m z => by
  rcases x.f b z with q | q
  · exact d b m q
  · obtain ⟨o, e⟩ := u b m
    rw [q] at e
    cases e
end
/-! ### values that are never written: tuples of such, numbers, texts, truths, None -/
mutual
inductive Im (H : Hp) : V → PyData → Prop
  | non : Im H .non .none
  | bl (b : Bool) : Im H (.bl b) (.bool b)
  | int (i : Int) : Im H (.int i) (.int i)
  | str (x : Str) : Im H (.str x) (.str x)
  | tup {a : Addr} {xs : List V} {ds : List PyData} : H a = some (.tup xs) → ImL H xs ds → Im H (.ref a) (.tuple ds)
inductive ImL (H : Hp) : List V → List PyData → Prop
  | nil : ImL H [] []
  | cons {v : V} {vs : List V} {d : PyData} {ds : List PyData} : Im H v d → ImL H vs ds → ImL H (v :: vs) (d :: ds)
end
mutual
theorem Im.ki {H H' : Hp} (k : KI H H') : ∀ (d : PyData) {v : V}, Im H v d → Im H' v d
  | .none, _, h => by cases h; exact .non
  | .bool _, _, h => by cases h; exact .bl _
  | .int _, _, h => by cases h; exact .int _
  | .str _, _, h => by cases h; exact .str _
  | .list _, _, h => by cases h
  | .dict _, _, h => by cases h
  | .tuple ds, _, h => by
    cases h with
    | tup e r => exact .tup (k _ _ e fun z => z) (ImL.ki k ds r)
theorem ImL.ki {H H' : Hp} (k : KI H H') : ∀ (ds : List PyData) {vs : List V}, ImL H vs ds → ImL H' vs ds
  | [], _, h => by cases h; exact .nil
  | d :: ds, _, h => by
    cases h with
    | cons a r => exact .cons (Im.ki k d a) (ImL.ki k ds r)
end
mutual
theorem Im.dp {K : PySem.W.Frag} {H : Hp} : ∀ (d : PyData) {v : V}, Im H v d → Dp K H v d
  | .none, _, h => by cases h; exact .non
  | .bool _, _, h => by cases h; exact .bl _
  | .int _, _, h => by cases h; exact .int _
  | .str _, _, h => by cases h; exact .str _
  | .list _, _, h => by cases h
  | .dict _, _, h => by cases h
  | .tuple ds, _, h => by
    cases h with
    | tup e r => exact .tup (sq_t e) (ImL.dp ds r)
theorem ImL.dp {K : PySem.W.Frag} {H : Hp} : ∀ (ds : List PyData) {vs : List V}, ImL H vs ds → DpAll K H vs ds
  | [], _, h => by cases h; exact .nil
  | d :: ds, _, h => by
    cases h with
    | cons a r => exact .cons (Im.dp d a) (ImL.dp ds r)
end
/-- a block within a def whose scope is osc: for looks at scopes -/
def dEnv (osc : Scope) : Env := { scope := osc, locals := 0, globals := 0, cells := [], qual := "", func := none, code := .none, frame := none, builtins := 0 }
/-! ### dicts with texts as keys, by steps -/
section
variable {σ : L2.St} {H : Hp} {Q : VK} {D : Ends}
theorem w_dgK {p : Addr} {kvs : List (Key × V)} {z : Str} {v : V} {R : V → Prop} (e : H p = some (.dK kvs)) (l : valV kvs (Sum.inr z) = some v) (h : R v) : ∃ a v', V.ref p = .ref a ∧ DGet H a (.str z) (some v') ∧ R v' := ⟨p, v, rfl, by
  have q := DGet.k (k := Sum.inr z) e
  rw [l] at q
  exact q, h⟩
theorem w_dgI {p : Addr} {kvs : List (Key × V)} {z : Int} {v : V} {R : V → Prop} (e : H p = some (.dK kvs)) (l : valV kvs (Sum.inl z) = some v) (h : R v) : ∃ a v', V.ref p = .ref a ∧ DGet H a (.int z) (some v') ∧ R v' := ⟨p, v, rfl, by
  have q := DGet.k (k := Sum.inl z) e
  rw [l] at q
  exact q, h⟩
theorem w_dput {td ty tv : TE} (h : tv σ H fun v H1 => td σ H1 fun x H2 => ty σ H2 fun y H3 => ∃ a H4, x = .ref a ∧ DPut H3 a y v H4 ∧ D.nx σ H4) : sDPut td ty tv D σ H := h
theorem w_dpK {p : Addr} {kvs kvs' : List (Key × V)} {z : Str} {v : V} {R : Hp → Prop} (e : H p = some (.dK kvs)) (l : kvs.length < sizeLine) (q : putK kvs (Sum.inr z) v = kvs') (h : R (upd H p (.dK kvs'))) : ∃ a H4, V.ref p = .ref a ∧ DPut H a (.str z) v H4 ∧ R H4 := ⟨p, _, rfl, DPut.k (k := Sum.inr z) e l, by rw [q]; exact h⟩
theorem w_dpI {p : Addr} {kvs kvs' : List (Key × V)} {z : Int} {v : V} {R : Hp → Prop} (e : H p = some (.dK kvs)) (l : kvs.length < sizeLine) (q : putK kvs (Sum.inl z) v = kvs') (h : R (upd H p (.dK kvs'))) : ∃ a H4, V.ref p = .ref a ∧ DPut H a (.int z) v H4 ∧ R H4 := ⟨p, _, rfl, DPut.k (k := Sum.inl z) e l, by rw [q]; exact h⟩
theorem w_dpK1 {p : Addr} {kvs : List (Key × V)} {k0 : Key} {u0 : V} {z : Str} {v : V} {R : Hp → Prop} (e : H p = some (.dK kvs)) (l : kvs.length < sizeLine) (q : putK kvs (Sum.inr z) v = [(k0, u0)]) (h : R (upd H p (.dK [(k0, u0)]))) : ∃ a H4, V.ref p = .ref a ∧ DPut H a (.str z) v H4 ∧ R H4 := w_dpK e l q h
theorem w_dpI1 {p : Addr} {kvs : List (Key × V)} {k0 : Key} {u0 : V} {z : Int} {v : V} {R : Hp → Prop} (e : H p = some (.dK kvs)) (l : kvs.length < sizeLine) (q : putK kvs (Sum.inl z) v = [(k0, u0)]) (h : R (upd H p (.dK [(k0, u0)]))) : ∃ a H4, V.ref p = .ref a ∧ DPut H a (.int z) v H4 ∧ R H4 := w_dpI e l q h
theorem w_dpK2 {p : Addr} {kvs : List (Key × V)} {k0 k1 : Key} {u0 u1 : V} {z : Str} {v : V} {R : Hp → Prop} (e : H p = some (.dK kvs)) (l : kvs.length < sizeLine) (q : putK kvs (Sum.inr z) v = [(k0, u0), (k1, u1)]) (h : R (upd H p (.dK [(k0, u0), (k1, u1)]))) : ∃ a H4, V.ref p = .ref a ∧ DPut H a (.str z) v H4 ∧ R H4 := w_dpK e l q h
theorem w_dpI2 {p : Addr} {kvs : List (Key × V)} {k0 k1 : Key} {u0 u1 : V} {z : Int} {v : V} {R : Hp → Prop} (e : H p = some (.dK kvs)) (l : kvs.length < sizeLine) (q : putK kvs (Sum.inl z) v = [(k0, u0), (k1, u1)]) (h : R (upd H p (.dK [(k0, u0), (k1, u1)]))) : ∃ a H4, V.ref p = .ref a ∧ DPut H a (.int z) v H4 ∧ R H4 := w_dpI e l q h
theorem w_dpK3 {p : Addr} {kvs : List (Key × V)} {k0 k1 k2 : Key} {u0 u1 u2 : V} {z : Str} {v : V} {R : Hp → Prop} (e : H p = some (.dK kvs)) (l : kvs.length < sizeLine) (q : putK kvs (Sum.inr z) v = [(k0, u0), (k1, u1), (k2, u2)]) (h : R (upd H p (.dK [(k0, u0), (k1, u1), (k2, u2)]))) : ∃ a H4, V.ref p = .ref a ∧ DPut H a (.str z) v H4 ∧ R H4 := w_dpK e l q h
theorem w_dpI3 {p : Addr} {kvs : List (Key × V)} {k0 k1 k2 : Key} {u0 u1 u2 : V} {z : Int} {v : V} {R : Hp → Prop} (e : H p = some (.dK kvs)) (l : kvs.length < sizeLine) (q : putK kvs (Sum.inl z) v = [(k0, u0), (k1, u1), (k2, u2)]) (h : R (upd H p (.dK [(k0, u0), (k1, u1), (k2, u2)]))) : ∃ a H4, V.ref p = .ref a ∧ DPut H a (.int z) v H4 ∧ R H4 := w_dpI e l q h
theorem w_dpK4 {p : Addr} {kvs : List (Key × V)} {k0 k1 k2 k3 : Key} {u0 u1 u2 u3 : V} {z : Str} {v : V} {R : Hp → Prop} (e : H p = some (.dK kvs)) (l : kvs.length < sizeLine) (q : putK kvs (Sum.inr z) v = [(k0, u0), (k1, u1), (k2, u2), (k3, u3)]) (h : R (upd H p (.dK [(k0, u0), (k1, u1), (k2, u2), (k3, u3)]))) : ∃ a H4, V.ref p = .ref a ∧ DPut H a (.str z) v H4 ∧ R H4 := w_dpK e l q h
theorem w_dpI4 {p : Addr} {kvs : List (Key × V)} {k0 k1 k2 k3 : Key} {u0 u1 u2 u3 : V} {z : Int} {v : V} {R : Hp → Prop} (e : H p = some (.dK kvs)) (l : kvs.length < sizeLine) (q : putK kvs (Sum.inl z) v = [(k0, u0), (k1, u1), (k2, u2), (k3, u3)]) (h : R (upd H p (.dK [(k0, u0), (k1, u1), (k2, u2), (k3, u3)]))) : ∃ a H4, V.ref p = .ref a ∧ DPut H a (.int z) v H4 ∧ R H4 := w_dpI e l q h
theorem w_dpK5 {p : Addr} {kvs : List (Key × V)} {k0 k1 k2 k3 k4 : Key} {u0 u1 u2 u3 u4 : V} {z : Str} {v : V} {R : Hp → Prop} (e : H p = some (.dK kvs)) (l : kvs.length < sizeLine) (q : putK kvs (Sum.inr z) v = [(k0, u0), (k1, u1), (k2, u2), (k3, u3), (k4, u4)]) (h : R (upd H p (.dK [(k0, u0), (k1, u1), (k2, u2), (k3, u3), (k4, u4)]))) : ∃ a H4, V.ref p = .ref a ∧ DPut H a (.str z) v H4 ∧ R H4 := w_dpK e l q h
theorem w_dpI5 {p : Addr} {kvs : List (Key × V)} {k0 k1 k2 k3 k4 : Key} {u0 u1 u2 u3 u4 : V} {z : Int} {v : V} {R : Hp → Prop} (e : H p = some (.dK kvs)) (l : kvs.length < sizeLine) (q : putK kvs (Sum.inl z) v = [(k0, u0), (k1, u1), (k2, u2), (k3, u3), (k4, u4)]) (h : R (upd H p (.dK [(k0, u0), (k1, u1), (k2, u2), (k3, u3), (k4, u4)]))) : ∃ a H4, V.ref p = .ref a ∧ DPut H a (.int z) v H4 ∧ R H4 := w_dpI e l q h
theorem w_dpK6 {p : Addr} {kvs : List (Key × V)} {k0 k1 k2 k3 k4 k5 : Key} {u0 u1 u2 u3 u4 u5 : V} {z : Str} {v : V} {R : Hp → Prop} (e : H p = some (.dK kvs)) (l : kvs.length < sizeLine) (q : putK kvs (Sum.inr z) v = [(k0, u0), (k1, u1), (k2, u2), (k3, u3), (k4, u4), (k5, u5)]) (h : R (upd H p (.dK [(k0, u0), (k1, u1), (k2, u2), (k3, u3), (k4, u4), (k5, u5)]))) : ∃ a H4, V.ref p = .ref a ∧ DPut H a (.str z) v H4 ∧ R H4 := w_dpK e l q h
theorem w_dpI6 {p : Addr} {kvs : List (Key × V)} {k0 k1 k2 k3 k4 k5 : Key} {u0 u1 u2 u3 u4 u5 : V} {z : Int} {v : V} {R : Hp → Prop} (e : H p = some (.dK kvs)) (l : kvs.length < sizeLine) (q : putK kvs (Sum.inl z) v = [(k0, u0), (k1, u1), (k2, u2), (k3, u3), (k4, u4), (k5, u5)]) (h : R (upd H p (.dK [(k0, u0), (k1, u1), (k2, u2), (k3, u3), (k4, u4), (k5, u5)]))) : ∃ a H4, V.ref p = .ref a ∧ DPut H a (.int z) v H4 ∧ R H4 := w_dpI e l q h
theorem w_rsd {o i v : V} {QH : Hp → Prop} (h : ∃ a H', o = .ref a ∧ DPut H a i v H' ∧ QH H') : rSetD o i v H QH := h
end
end VH

/-! Steps as texts: plain law. -/
namespace VH
open PySem L2 TL
/-- a step: its word, its numbers -/
abbrev Stp := Str × List Int
def shapes : List (Str × Nat) := [("make", 3), ("grow", 2), ("drop", 1), ("mirror", 2), ("leave", 1), ("stay", 1), ("read", 2), ("write", 3), ("step", 0), ("lose", 1), ("bring", 2), ("arm", 1), ("again", 0), ("room", 1), ("lacks", 0), ("lost", 0), ("volumes", 0), ("places", 1), ("copying", 0)]
def shapeOf (w : Str) : Option Nat := shapes.lookup w
def numT (n : Int) : Str := Str.ofString (toString n)
def wordsOf (s : Stp) : List Str := s.1 :: s.2.map numT
def rowOf (s : Stp) : Str := Txt.join " " (wordsOf s)
def textOf (ss : List Stp) : Str := Txt.join "\n" (ss.map rowOf)
/-- the number that a word writes -/
def isFig (c : Nat) : Bool := decide (48 ≤ c ∧ c ≤ 57)
def numberOf (w : Str) : Option Int :=
  if (1 ≤ (tl w).length ∧ (tl w).length ≤ 4) ∧ (tl w).all isFig = true then
    (if (tl w).head? ≠ some 48 ∨ tl w = [48] then some ((NumText.digitsVal (tl w) : Nat) : Int) else none)
  else none
def allSome : List (Option Int) → Option (List Int)
  | [] => some []
  | none :: _ => none
  | some x :: r => (allSome r).map (x :: ·)
def stepOf (row : Str) : Option Stp :=
  match Txt.split row " " with
  | [] => none
  | w :: r => if shapeOf w = some r.length then (allSome (r.map numberOf)).map (fun ns => (w, ns)) else none
/-- a step whose word there is, with as many numbers as it has, of one to four figures -/
def StpOk (s : Stp) : Prop := shapeOf s.1 = some s.2.length ∧ ∀ n ∈ s.2, 0 ≤ n ∧ n < 10000
theorem shapes_plain : ∀ p ∈ shapes, tl p.1 ≠ [] ∧ 32 ∉ tl p.1 ∧ 10 ∉ tl p.1 ∧ (tl p.1).length ≤ 7 := by decide +kernel
theorem lookup_mem {α : Type} : ∀ {l : List (Str × α)} {k : Str} {v : α}, l.lookup k = some v → (k, v) ∈ l
  | [], _, _, h => by cases h
  | (a, b) :: r, k, v, h => by
    rw [List.lookup_cons] at h
    by_cases e : (k == a) = true
    · rw [e] at h
      have e2 : k = a := by simpa using e
      injection h with h
      rw [e2, h]
      exact List.mem_cons_self
    · rw [show (k == a) = false by simpa using e] at h
      exact List.mem_cons_of_mem _ (lookup_mem h)
theorem shape_plain {w : Str} {n : Nat} (h : shapeOf w = some n) : tl w ≠ [] ∧ 32 ∉ tl w ∧ 10 ∉ tl w ∧ (tl w).length ≤ 7 := shapes_plain (w, n) (lookup_mem h)
theorem tl_numT {n : Int} (h : 0 ≤ n) : tl (numT n) = numL n.toNat := by
  obtain ⟨k, rfl⟩ := Int.eq_ofNat_of_zero_le h
  exact tl_num k
theorem numT_free {n : Int} (h : 0 ≤ n) {s : Nat} (hs : s < 48 ∨ 57 < s) : s ∉ tl (numT n) := by
  rw [tl_numT h]
  exact numL_free hs
theorem numT_len {n : Int} (h : 0 ≤ n) (h1 : n < 10000) : 1 ≤ (tl (numT n)).length ∧ (tl (numT n)).length ≤ 4 := by
  rw [tl_numT h]
  refine ⟨?_, numL_len (k := 4) (by decide) (by have : n.toNat < 10000 := by omega
                                                exact this)⟩
  cases e : numL n.toNat with
  | nil => exact absurd e (numL_ne _)
  | cons a r => rw [List.length_cons]; omega
theorem numT_fig {n : Int} (h : 0 ≤ n) : (tl (numT n)).all isFig = true := by
  rw [tl_numT h, List.all_eq_true]
  intro c hc
  exact decide_eq_true (numL_digits _ c hc)
theorem numL_head (n : Nat) : (numL n).head? ≠ some 48 ∨ numL n = [48] := by
  induction n using Nat.strongRecOn with
  | _ n ih =>
    by_cases h : n < 10
    · rw [numL_lt h]
      by_cases z : n = 0
      · right; rw [z]
      · left
        intro e
        have e2 : 48 + n = 48 := Option.some.inj e
        omega
    · rw [numL_step (by omega)]
      rcases ih (n / 10) (by omega) with i | i
      · left
        cases e : numL (n / 10) with
        | nil => exact absurd e (numL_ne _)
        | cons a r =>
          rw [e] at i
          exact i
      · exfalso
        have v := numL_val (n / 10)
        rw [i] at v
        have v2 : NumText.digitsVal [48] = 0 := by decide
        omega
theorem numberOf_numT {n : Int} (h : 0 ≤ n) (h1 : n < 10000) : numberOf (numT n) = some n := by
  unfold numberOf
  rw [if_pos ⟨numT_len h h1, numT_fig h⟩, tl_numT h, if_pos (numL_head _), numL_val]
  congr 1
  omega
theorem allSome_numT : ∀ {ns : List Int}, (∀ n ∈ ns, 0 ≤ n ∧ n < 10000) → allSome ((ns.map numT).map numberOf) = some ns
  | [], _ => rfl
  | n :: r, h => by
    have hn := h n List.mem_cons_self
    rw [List.map_cons, List.map_cons, numberOf_numT hn.1 hn.2]
    show (allSome ((r.map numT).map numberOf)).map (n :: ·) = _
    rw [allSome_numT fun m hm => h m (List.mem_cons_of_mem _ hm)]
    rfl
theorem words_free {s : Stp} (h : StpOk s) {c : Nat} (hc : c = 32 ∨ c = 10) : ∀ p ∈ wordsOf s, c ∉ tl p := by
  intro p hp
  rcases List.mem_cons.mp hp with rfl | hp
  · have z := shape_plain h.1
    rcases hc with rfl | rfl
    · exact z.2.1
    · exact z.2.2.1
  · obtain ⟨n, hn, rfl⟩ := List.mem_map.mp hp
    exact numT_free (h.2 n hn).1 (by omega)
theorem split_row {s : Stp} (h : StpOk s) : Txt.split (rowOf s) " " = wordsOf s :=
  split_join (s := 32) (S := []) (by decide +kernel) (by decide +kernel) (List.cons_ne_nil _ _) (words_free h (.inl rfl))
theorem step_row {s : Stp} (h : StpOk s) : stepOf (rowOf s) = some s := by
  unfold stepOf
  rw [split_row h]
  show (if shapeOf s.1 = some (s.2.map numT).length then (allSome ((s.2.map numT).map numberOf)).map (fun ns => (s.1, ns)) else none) = some s
  rw [if_pos (by rw [List.length_map]; exact h.1), allSome_numT h.2]
  rfl
theorem mem_joinL {S : List Nat} {c : Nat} : ∀ {ps : List (List Nat)}, c ∈ joinL S ps → c ∈ S ∨ ∃ p ∈ ps, c ∈ p
  | [], h => by cases h
  | [p], h => .inr ⟨p, List.mem_singleton.mpr rfl, h⟩
  | p :: q :: r, h => by
    have h : c ∈ p ++ (S ++ joinL S (q :: r)) := h
    rcases List.mem_append.mp h with h | h
    · exact .inr ⟨p, List.mem_cons_self, h⟩
    · rcases List.mem_append.mp h with h | h
      · exact .inl h
      · rcases mem_joinL h with h | ⟨x, hx, h⟩
        · exact .inl h
        · exact .inr ⟨x, List.mem_cons_of_mem _ hx, h⟩
theorem row_free {s : Stp} (h : StpOk s) : 10 ∉ tl (rowOf s) := by
  intro m
  unfold rowOf at m
  rw [join_eq, tl_join] at m
  rcases mem_joinL m with m | ⟨p, hp, m⟩
  · revert m
    decide +kernel
  · obtain ⟨x, hx, rfl⟩ := List.mem_map.mp hp
    exact words_free h (.inr rfl) x hx m
theorem split_text {ss : List Stp} (h : ∀ s ∈ ss, StpOk s) (hne : ss ≠ []) : Txt.split (textOf ss) "\n" = ss.map rowOf :=
  split_join (s := 10) (S := []) (by decide +kernel) (by decide +kernel) (fun e => hne (List.map_eq_nil_iff.mp e)) (fun p hp => by
    obtain ⟨x, hx, rfl⟩ := List.mem_map.mp hp
    exact row_free (h x hx))
theorem joinL_ne {S p : List Nat} {ps : List (List Nat)} (h : p ≠ []) : joinL S (p :: ps) ≠ [] := by
  cases ps with
  | nil => exact h
  | cons q r =>
    intro e
    have e : p ++ (S ++ joinL S (q :: r)) = [] := e
    exact h (List.append_eq_nil_iff.mp e).1
theorem row_ne {s : Stp} (h : StpOk s) : tl (rowOf s) ≠ [] := by
  unfold rowOf
  rw [join_eq, tl_join]
  exact joinL_ne (shape_plain h.1).1
theorem text_ne {ss : List Stp} (h : ∀ s ∈ ss, StpOk s) (hne : ss ≠ []) : textOf ss ≠ "" := by
  intro e
  cases ss with
  | nil => exact hne rfl
  | cons s r =>
    have z : tl (textOf (s :: r)) = [] := by rw [e]; decide +kernel
    unfold textOf at z
    rw [join_eq, tl_join] at z
    exact joinL_ne (row_ne (h s List.mem_cons_self)) z
/-- the law's own row: word by word -/
def rowFold (r : Str) (ns : List Int) : Str := ns.foldl (fun r n => r ++ (" " : Str) ++ numT n) r
theorem rowFold_tl : ∀ (ns : List Int) (r : Str), tl (rowFold r ns) = joinL [32] (tl r :: (ns.map numT).map tl)
  | [], r => rfl
  | n :: ns, r => by
    show tl (rowFold (r ++ (" " : Str) ++ numT n) ns) = _
    rw [rowFold_tl ns]
    cases ns with
    | nil =>
      show tl (r ++ (" " : Str) ++ numT n) = tl r ++ ([32] ++ tl (numT n))
      rw [tl_append, tl_append, List.append_assoc]
      rfl
    | cons m k =>
      show tl (r ++ (" " : Str) ++ numT n) ++ ([32] ++ joinL [32] (tl (numT m) :: (k.map numT).map tl)) = tl r ++ ([32] ++ (tl (numT n) ++ ([32] ++ joinL [32] (tl (numT m) :: (k.map numT).map tl))))
      rw [tl_append, tl_append]
      simp only [List.append_assoc]
      rfl
theorem rowFold_row (s : Stp) : rowFold s.1 s.2 = rowOf s := by
  apply ext_tl
  rw [rowFold_tl]
  unfold rowOf
  rw [join_eq, tl_join]
  rfl
/-- sizes -/
theorem joinL_len (S : List Nat) : ∀ ps : List (List Nat), (joinL S ps).length ≤ (ps.map List.length).sum + ps.length * S.length
  | [] => by show 0 ≤ _; omega
  | [p] => by
    show p.length ≤ (p.length + 0) + 1 * S.length
    omega
  | p :: q :: r => by
    have ih := joinL_len S (q :: r)
    show (p ++ (S ++ joinL S (q :: r))).length ≤ (p.length + ((q :: r).map List.length).sum) + ((q :: r).length + 1) * S.length
    rw [List.length_append, List.length_append, Nat.add_mul]
    omega
theorem sum_le {α : Type} {f : α → Nat} {k : Nat} : ∀ {l : List α}, (∀ x ∈ l, f x ≤ k) → (l.map f).sum ≤ l.length * k
  | [], _ => by simp
  | x :: r, h => by
    have a := h x List.mem_cons_self
    have b := sum_le (f := f) (l := r) fun y hy => h y (List.mem_cons_of_mem _ hy)
    rw [List.map_cons, List.sum_cons, List.length_cons, Nat.add_mul]
    omega
theorem words_len {s : Stp} (h : StpOk s) : ∀ p ∈ wordsOf s, p.length ≤ 7 := by
  intro p hp
  rcases List.mem_cons.mp hp with rfl | hp
  · rw [len_tl]
    exact (shape_plain h.1).2.2.2
  · obtain ⟨n, hn, rfl⟩ := List.mem_map.mp hp
    rw [len_tl]
    have := numT_len (h.2 n hn).1 (h.2 n hn).2
    omega
theorem shapes_few : ∀ p ∈ shapes, p.2 ≤ 3 := by decide +kernel
theorem few {s : Stp} (h : StpOk s) : s.2.length ≤ 3 := shapes_few (s.1, s.2.length) (lookup_mem h.1)
theorem row_len {s : Stp} (h : StpOk s) : (rowOf s).length ≤ 32 := by
  unfold rowOf
  rw [len_tl, join_eq, tl_join]
  refine Nat.le_trans (joinL_len _ _) ?_
  have a : (((wordsOf s).map tl).map List.length).sum ≤ ((wordsOf s).map tl).length * 7 := sum_le (fun x hx => by
    obtain ⟨y, hy, rfl⟩ := List.mem_map.mp hx
    rw [← len_tl]
    exact words_len h y hy)
  have b : ((wordsOf s).map tl).length ≤ 4 := by
    rw [List.length_map]
    show (s.2.map numT).length + 1 ≤ 4
    rw [List.length_map]
    have := few h
    omega
  have c : (tl (" " : Str)).length = 1 := by decide +kernel
  rw [c]
  omega
theorem text_len {ss : List Stp} (h : ∀ s ∈ ss, StpOk s) (hl : ss.length ≤ 1000) : (textOf ss).length ≤ 40000 := by
  unfold textOf
  rw [len_tl, join_eq, tl_join]
  refine Nat.le_trans (joinL_len _ _) ?_
  have a : (((ss.map rowOf).map tl).map List.length).sum ≤ ((ss.map rowOf).map tl).length * 32 := sum_le (fun x hx => by
    obtain ⟨y, hy, rfl⟩ := List.mem_map.mp hx
    obtain ⟨z, hz, rfl⟩ := List.mem_map.mp hy
    rw [← len_tl]
    exact row_len (h z hz))
  have b : ((ss.map rowOf).map tl).length = ss.length := by rw [List.length_map, List.length_map]
  have c : (tl ("\n" : Str)).length = 1 := by decide +kernel
  rw [c]
  omega
end VH

/-! A bench, in plain Lean. -/
namespace VH
open PySem L2
/-- a number handed in, or what is none -/
def numOk (v : V) (lo hi : Int) : Bool := match v with
  | .int i => decide (lo ≤ i ∧ i ≤ hi)
  | _ => false
theorem numOk_int {v : V} {lo hi : Int} (h : numOk v lo hi = true) : ∃ i, v = .int i ∧ lo ≤ i ∧ i ≤ hi := by
  cases v with
  | int i =>
    have a := of_decide_eq_true (show decide (lo ≤ i ∧ i ≤ hi) = true from h)
    exact ⟨i, rfl, a.1, a.2⟩
  | _ => cases h
structure DiskS where
  pieces : List (List Int)
  paper : V
  here : Bool
structure BenchS where
  disks : List DiskS
  left : Option Int
  stands : Bool
  many : Int
/-- what comes of a deed: an error's place among the ten, or what is told -/
inductive Out (α : Type) where
  | bad (k : Nat)
  | ok (a : α)
/-- the disk of this number -/
def BenchS.disk (B : BenchS) (n : V) : Out Nat :=
  if B.stands then .bad 9 else
  match numOk n 0 ((B.disks.length : Int) - 1), n with
  | true, .int i => match B.disks[i.toNat]? with
    | some d => if d.here then .ok i.toNat else .bad 7
    | none => .bad 7
  | _, _ => .bad 7
/-- the place of the block -/
def BenchS.block (B : BenchS) (n p b : V) : Out (Nat × Nat × Nat) := match B.disk n with
  | .bad k => .bad k
  | .ok i => match B.disks[i]?, p, b with
    | some d, .int j, .int k => if numOk p 0 ((d.pieces.length : Int) - 1) && numOk b 0 3 then .ok (i, j.toNat, k.toNat) else .bad 6
    | _, _, _ => .bad 6
/-- one deed: none if the arm stops it -/
def BenchS.spend (B : BenchS) : Bool × BenchS :=
  if B.left = some 0 then (false, { B with stands := true })
  else (true, { B with left := B.left.map (· - 1), many := B.many + 1 })
def DiskS.put (d : DiskS) (j k : Nat) (w : Int) : DiskS := { d with pieces := d.pieces.modify j (fun r => r.set k w) }
def BenchS.setD (B : BenchS) (i : Nat) (f : DiskS → DiskS) : BenchS := { B with disks := B.disks.modify i f }
def newDisk (n : Nat) : DiskS := ⟨List.replicate n [0, 0, 0, 0], .non, true⟩
theorem disk_stands {B : BenchS} {v : V} (h : B.stands = true) : B.disk v = .bad 9 := by unfold BenchS.disk; rw [h]; rfl
theorem disk_none {B : BenchS} {v : V} (h : B.stands = false) (n : numOk v 0 ((B.disks.length : Int) - 1) = false) : B.disk v = .bad 7 := by
  unfold BenchS.disk
  rw [h, n]
  rfl
theorem disk_at {B : BenchS} {i : Nat} {D : DiskS} (h : B.stands = false) (hD : B.disks[i]? = some D) : B.disk (.int (i : Int)) = if D.here then .ok i else .bad 7 := by
  have li := (List.getElem?_eq_some_iff.mp hD).1
  have n : numOk (.int (i : Int)) 0 ((B.disks.length : Int) - 1) = true := decide_eq_true (by omega)
  unfold BenchS.disk
  rw [h, n]
  show (match B.disks[(i : Int).toNat]? with | some d => if d.here then Out.ok (i : Int).toNat else .bad 7 | none => .bad 7) = _
  rw [Int.toNat_natCast, hD]
theorem disk_ok {B : BenchS} {v : V} {i : Nat} (h : B.disk v = .ok i) : B.stands = false ∧ v = .int (i : Int) ∧ ∃ D, B.disks[i]? = some D ∧ D.here = true := by
  cases hs : B.stands with
  | true => rw [disk_stands hs] at h; cases h
  | false =>
    cases hn : numOk v 0 ((B.disks.length : Int) - 1) with
    | false => rw [disk_none hs hn] at h; cases h
    | true =>
      obtain ⟨x, rfl, h0, h1⟩ := numOk_int hn
      obtain ⟨j, rfl⟩ : ∃ j : Nat, x = j := ⟨x.toNat, by omega⟩
      have hD := List.getElem?_eq_getElem (show j < B.disks.length by omega)
      rw [disk_at hs hD] at h
      split at h
      · rename_i hh
        cases h
        exact ⟨rfl, rfl, _, hD, hh⟩
      · cases h
theorem block_bad {B : BenchS} {v p b : V} {k : Nat} (h : B.disk v = .bad k) : B.block v p b = .bad k := by unfold BenchS.block; rw [h]
theorem block_none {B : BenchS} {v p b : V} {i : Nat} {D : DiskS} (h : B.disk v = .ok i) (hD : B.disks[i]? = some D) (n : (numOk p 0 ((D.pieces.length : Int) - 1) && numOk b 0 3) = false) : B.block v p b = .bad 6 := by
  unfold BenchS.block
  rw [h]
  simp only [hD]
  cases p <;> cases b <;> first | rfl | (simp only [n]; rfl)
theorem block_at {B : BenchS} {v : V} {i j k : Nat} {D : DiskS} (h : B.disk v = .ok i) (hD : B.disks[i]? = some D) (hj : j < D.pieces.length) (hk : k < 4) : B.block v (.int (j : Int)) (.int (k : Int)) = .ok (i, j, k) := by
  unfold BenchS.block
  rw [h]
  simp only [hD]
  have a : numOk (.int (j : Int)) 0 ((D.pieces.length : Int) - 1) = true := decide_eq_true (by omega)
  have b : numOk (.int (k : Int)) 0 3 = true := decide_eq_true (by omega)
  rw [a, b]
  rfl
end VH


namespace VH
open PySem L2
local macro_rules | `(tactic| walk_at "dT") => `(tactic| first
  | ((with_reducible apply iT); (first | assumption | omega))
  | ((with_reducible apply niT); (first | assumption | omega))
  | ((with_reducible apply sT); (first | assumption | rfl))
  | ((with_reducible apply nsT); (first | assumption | decide))
  | ((with_reducible apply nbT); (first | assumption | omega))
  | ((with_reducible apply decide_eq_true); (first | assumption | omega)))
local macro_rules | `(tactic| walk_at "dF") => `(tactic| first
  | ((with_reducible apply iF); (first | assumption | omega))
  | ((with_reducible apply niF); (first | assumption | omega))
  | ((with_reducible apply sF); (first | assumption | decide))
  | ((with_reducible apply nsF); (first | assumption | rfl))
  | ((with_reducible apply nbF); (first | assumption | omega))
  | ((with_reducible apply decide_eq_false); (first | assumption | omega)))
local macro_rules | `(tactic| walk_at "ne") => `(tactic| first | assumption | (apply Ne.symm; assumption) | (apply ne_of_none <;> assumption) | (apply Ne.symm; apply ne_of_none <;> assumption) | (apply ne_new; assumption; walk_at "hg") | (apply Ne.symm; apply ne_new; assumption; walk_at "hg"))
local macro_rules | `(tactic| walk_at "ni") => `(tactic| first | exact ni_nil | (apply ni_cons; walk_at "ne"; walk_at "ni") | assumption)
local macro_rules | `(tactic| walk_at "hg") => `(tactic| first
  | assumption
  | exact upd_same
  | (apply upd_old; assumption; walk_at "hg")
  | (apply upd_oth; walk_at "ne"; walk_at "hg")
  | (apply kp_get; assumption; walk_at "hg"; walk_at "ni"))
local macro_rules | `(tactic| walk_at "mem") => `(tactic| first | exact List.mem_cons_self | (apply List.mem_cons_of_mem; walk_at "mem") | assumption)
local macro_rules | `(tactic| walk_at "no") => `(tactic| first | assumption | (apply none_of_kp2; assumption; walk_at "kp"))
local macro_rules | `(tactic| walk_at "kp") => `(tactic| first
  | assumption
  | exact Kp.refl
  | (apply kp_new'; assumption; walk_at "kp")
  | (apply kp_setn; assumption; walk_at "kp")
  | (apply kp_set'; walk_at "mem"; walk_at "kp")
  | (apply kp_app; assumption; walk_at "kp")
  | (apply kp_app2; assumption; walk_at "kp"))
local macro_rules | `(tactic| walk_at "sz") => `(tactic| first | assumption | exact sz rfl | (apply szb; omega) | (apply szbl; omega) | (apply szb; simp only [List.length_map, List.length_cons, List.length_nil, List.length_append, List.length_set]; omega) | (apply szbl; simp only [List.length_map, List.length_cons, List.length_nil, List.length_append, List.length_set]; omega))
local macro_rules | `(tactic| walk_at "sq") => `(tactic| first
  | assumption
  | (apply sq_l; walk_at "hg")
  | (apply sq_t; walk_at "hg")
  | (apply sqL_new; assumption; walk_at "sq")
  | (apply sqT_new; assumption; walk_at "sq"))
local macro_rules | `(tactic| walk_at "w1") => `(tactic| first
  | with_reducible refine w_seq ?_
  | ((with_reducible apply w_var); exact rfl)
  | with_reducible refine w_c ?_
  | with_reducible refine w_op ?_
  | with_reducible refine w_I0 ?_
  | ((with_reducible apply w_I); (first | assumption | exact Or.inr ⟨by decide, by decide⟩ | exact Or.inl ⟨by decide, by decide⟩ | exact (by show (0 : Int) < _; decide) | exact ⟨by decide, by decide⟩ | exact Or.inl ⟨by omega, by omega⟩ | exact Or.inr ⟨by omega, by omega⟩ | exact ⟨by omega, by omega⟩ | exact (by show (0 : Int) < _; omega)))
  | with_reducible refine w_cons ?_
  | with_reducible refine w_nil ?_
  | with_reducible refine w_asg ?_
  | with_reducible refine w_gName ?_
  | with_reducible refine w_gSub ?_
  | with_reducible refine w_test ?_
  | with_reducible refine w_B ?_
  | with_reducible refine w_ret ?_
  | with_reducible refine w_drop ?_
  | with_reducible refine w_ifS ?_
  | with_reducible refine w_if ?_
  | with_reducible refine w_un ?_
  | with_reducible refine w_U ?_
  | with_reducible refine w_call ?_
  | with_reducible refine w_cb ?_
  | with_reducible refine w_lst ?_
  | with_reducible refine w_tup ?_
  | with_reducible refine w_bm ?_
  | with_reducible refine w_bm0 ?_
  | with_reducible refine w_m1 ?_
  | with_reducible refine w_for ?_
  | with_reducible refine w_iList ?_
  | with_reducible refine w_iTup ?_
  | with_reducible refine w_iStr ?_
  | with_reducible refine w_iR1 ?_
  | with_reducible refine w_iEnum ?_
  | with_reducible refine w_and ?_
  | with_reducible refine w_or ?_
  | with_reducible refine w_not ?_
  | with_reducible refine w_yes ?_
  | with_reducible refine w_isN ?_
  | ((with_reducible apply w_eq); exact rfl)
  | ((with_reducible apply w_ne); exact rfl)
  | with_reducible refine w_chain ?_
  | with_reducible refine w_andV ?_
  | with_reducible refine w_orV ?_
  | with_reducible refine w_notV ?_
  | with_reducible refine w_bl ?_
  | with_reducible refine w_fld ?_
  | with_reducible refine w_sfld ?_
  | with_reducible refine w_next ?_
  | with_reducible refine w_isZ ?_
  | with_reducible refine w_notZ ?_
  | with_reducible refine w_inS ?_
  | with_reducible refine w_notInS ?_
  | ((with_reducible apply w_ifT); exact rfl)
  | ((with_reducible apply w_ifF); exact rfl)
  | ((with_reducible apply w_ifT); walk_at "dT")
  | ((with_reducible apply w_ifF); walk_at "dF")
  | with_reducible refine w_lc ?_
  | with_reducible refine w_aStr ?_
  | ((with_reducible apply w_itL); walk_at "sq")
  | ((with_reducible apply w_itT); walk_at "sq")
  | ((with_reducible apply w_rng); (first | omega | assumption); (first | omega | assumption))
  | ((with_reducible apply w_enum); walk_at "sq")
  | ((with_reducible apply w_lenS); walk_at "sz")
  | ((with_reducible apply w_split); (first | exact rfl | assumption); walk_at "sz")
  | with_reducible refine w_slice ?_
  | with_reducible refine w_part ?_
  | with_reducible refine w_noPart ?_
  | with_reducible refine w_anInt ?_
  | ((with_reducible apply w_slL); walk_at "sq")
  | ((with_reducible apply w_cat); walk_at "hg"; walk_at "hg"; walk_at "sz")
  | ((with_reducible apply w_newSz); walk_at "sz")
  | ((with_reducible apply w_append); walk_at "hg"; walk_at "sz")
  | ((with_reducible apply w_tyD); walk_at "hg")
  | ((with_reducible apply w_gTup); walk_at "sq"; exact rfl)
  | with_reducible refine w_gCons ?_
  | with_reducible refine w_gNil ?_
  | with_reducible refine w_kget2 ?_
  | with_reducible refine w_same ?_
  | ((with_reducible apply w_kat); assumption)
  | ((with_reducible apply w_in); walk_at "sq"; (first | exact rfl | assumption); (first | assumption | exact rfl))
  | ((with_reducible apply w_strI); assumption)
  | with_reducible refine w_disp ?_
  | with_reducible refine w_pcons ?_
  | with_reducible refine w_pnil ?_
  | with_reducible refine w_dget2 ?_
  | ((with_reducible apply w_isD); walk_at "hg")
  | ((with_reducible apply w_dgS); walk_at "hg")
  | ((with_reducible apply w_dupd); walk_at "ne"; walk_at "hg"; walk_at "hg"; (first | decide | walk_at "sz"))
  | ((with_reducible apply w_catS); walk_at "sz")
  | ((with_reducible apply w_slT); walk_at "sq"; assumption)
  | ((with_reducible apply w_ixS); walk_at "sz"; (first | assumption | exact rfl))
  | ((with_reducible apply w_intS); assumption; (first | assumption | omega))
  | ((with_reducible apply w_isi); (first | exact tx_N | exact tx_B | exact tx_I | exact tx_S | (apply tx_L; walk_at "sq") | (apply tx_T; walk_at "sq")); (first | (refine (?_ : _ = some true); decide +kernel) | (refine (?_ : _ = some false); decide +kernel)))
  | ((with_reducible apply w_lenL); walk_at "sq")
  | ((with_reducible apply w_lenT); walk_at "sq")
  | ((with_reducible apply w_listL); walk_at "sq")
  | ((with_reducible apply w_listT); walk_at "sq")
  | ((with_reducible apply w_tupL); walk_at "sq")
  | with_reducible refine w_intI ?_
  | with_reducible refine w_intB ?_
  | with_reducible refine w_strS ?_
  | ((with_reducible apply w_ixXL); walk_at "sq"; (first | exact rfl | exact atI_0 | assumption))
  | ((with_reducible apply w_ixXT); walk_at "sq"; (first | exact rfl | exact atI_0 | assumption))
  | ((with_reducible apply w_tyL); walk_at "sq")
  | with_reducible refine w_tyS ?_
  | ((with_reducible apply w_popAt0); walk_at "hg")
  | ((with_reducible apply w_ixL); walk_at "sq"; (first | exact rfl | exact atI_0 | assumption))
  | ((with_reducible apply w_ixT); walk_at "sq"; (first | exact rfl | exact atI_0 | assumption))
  | ((with_reducible apply w_setL); walk_at "hg"; (first | exact rfl | exact ixN_0)))
local macro_rules | `(tactic| walk_at "w") => `(tactic| repeat walk_at "w1")
def top (i : Nat) : Stmt := PySem.Challenge.pw_volumehall_k02_benches.main.body.getD i (.Pass ⟨0, 0, 0, 0⟩)
abbrev sBegun : Stmt := top 22
abbrev sTake : Stmt := top 23
abbrev sAlike : Stmt := top 24
abbrev sLaw : Stmt := top 32
abbrev sTold : Stmt := top 25
abbrev sAll : Stmt := top 26
abbrev sDeed : Stmt := top 27
abbrev sLDisk : Stmt := top 28
abbrev sComes : Stmt := top 29
abbrev sTurn : Stmt := top 30
abbrev sLong : Stmt := top 31
abbrev sIsNum : Stmt := top 18
abbrev sDInit : Stmt := inClass (top 19) 0
abbrev sBInit : Stmt := inClass (top 20) 0
abbrev sBDisk : Stmt := inClass (top 20) 1
abbrev sBBlocks : Stmt := inClass (top 20) 2
abbrev sBSpend : Stmt := inClass (top 20) 3
abbrev sBGet : Stmt := inClass (top 20) 4
abbrev sBPut : Stmt := inClass (top 20) 5
abbrev sBSheet : Stmt := inClass (top 20) 6
abbrev sBLay : Stmt := inClass (top 20) 7
abbrev sBLose : Stmt := inClass (top 20) 8
abbrev sBBring : Stmt := inClass (top 20) 9
abbrev sBSizes : Stmt := inClass (top 20) 10
abbrev sBArm : Stmt := inClass (top 20) 11
abbrev sBAgain : Stmt := inClass (top 20) 12
abbrev sBDeeds : Stmt := inClass (top 20) 13
/-- what the written part holds of the built-in names -/
structure Txt (K : PySem.W.Frag) (mg : Str → Option Value) : Prop where
  list : mg "list" = none
  int : mg "int" = none
  len : mg "len" = none
  isinstance : mg "isinstance" = none
  bool : mg "bool" = none
  str : mg "str" = none
  tuple : mg "tuple" = none
  range : mg "range" = none
  enumerate : mg "enumerate" = none
section
variable {P : Program} {w : World} {K : PySem.W.Frag} {mg : Str → Option Value} {base : Heap}
/-! ### the draws: a box [numbers, stirred] -/
structure Box (H : Hp) (b l : Addr) (ns : List Int) (s : Int) : Prop where
  b : H b = some (.lst [.ref l, .int s])
  l : H l = some (.lst (ns.map V.int))
  s0 : 0 ≤ s
  s1 : s < 2147483647
def spBegun (K : PySem.W.Frag) : Sp := fun vs H Q _ => ∃ (a : Addr) (ns : List Int), vs = [.ref a] ∧ SqL K H a (ns.map V.int) ∧ ns.length ≤ 63 ∧
  ∀ H' b l s, Kp [] H H' → H b = none → H l = none → b ≠ l → Box H' b l ns s → Q (.ref b) H'
theorem scBegun : FnScope ["_law_script", "_law_stirred", "_law_cell"] ["_law_script"] (defScope sBegun) := ⟨rfl, rfl, rfl, by decide +kernel, rfl, by decide +kernel, by decide +kernel⟩
theorem ok_begun {f : Addr} {fd : FuncData} (F : Fun K "_law_begun" "_law_begun" sBegun f fd) (T : Txt K mg) : FnOk P w K mg base CX0 1 f fd ["_law_script"] (spBegun K) := by
  refine F.ok scBegun (fun vs H Q E h => ?_) (fun cdv A outer s H vs Q E hr h => ?_)
  · obtain ⟨a, ns, rfl, _⟩ := h
    rfl
  · obtain ⟨a, ns, rfl, hS, hl, q⟩ := h
    have hu := hu_of hr
    refine ⟨_, (pss_cons (ps_set (i := 1) scBegun.nd rfl (by first | exact Or.inl rfl | exact Or.inr rfl) pe_int)
    (pss_cons (ps_for PassesOwn.never rfl (pi_list (pv 0)) (pg_name (i := 2) scBegun.nd rfl (by first | exact Or.inl rfl | exact Or.inr rfl))
      (pss_one (ps_set (i := 1) scBegun.nd rfl (by first | exact Or.inl rfl | exact Or.inr rfl) (pe_op op_mod (pe_op op_add (pe_op op_add (pe_op op_mul (pv 1) pe_int) (pe_op op_mul (pv 2) pe_int)) pe_int) pe_int))))
    (pss_one (ps_ret (pe_lst (pa_cons (pe_callTy cr_listOf (by rfl) T.list (by decide +kernel) (pa_cons (pv 0) pa_nil)) (pa_cons (pe_op op_mul (pv 1) (pe_callTy cr_int1 (by rfl) T.int (by decide +kernel) (pa_cons (pe_cmpR op_gt (pe_callB cr_lenL (by rfl) T.len (by decide +kernel) (pa_cons (pv 0) pa_nil)) pe_int (nomark _)) pa_nil))) pa_nil))))))), ?_⟩
    walk_at "w"
    refine for_list (xs := ns.map V.int) (fun i σ H' => ∃ (s : Int) (y : Option V), σ = [some (.ref a), some (.int s), y] ∧ H' = H ∧ 0 ≤ s ∧ s < 2147483647) ⟨0, none, rfl, rfl, by decide, by decide⟩ (fun i σ H' _ h => ?_) (fun i x σ H' hx h => ?_) (fun σ H' h => ?_)
    · obtain ⟨s, y, rfl, rfl, _⟩ := h
      exact hS
    · obtain ⟨s, y, rfl, rfl, h0, h1⟩ := h
      obtain ⟨n, hn, rfl⟩ : ∃ n, n ∈ ns ∧ V.int n = x := List.mem_map.mp (List.mem_of_getElem? hx)
      walk_at "w"
      exact ⟨_, _, rfl, rfl, Int.emod_nonneg _ (by decide), Int.emod_lt_of_pos _ (by decide)⟩
    · obtain ⟨s, y, rfl, rfl, h0, h1⟩ := h
      walk_at "w"
      refine fun l nl => ?_
      walk_at "w"
      have fin : ∀ k : Int, k = 0 ∨ k = 1 → ∀ b, (upd H' l (.lst (ns.map V.int))) b = none → Q (.ref b) (upd (upd H' l (.lst (ns.map V.int))) b (.lst [.ref l, .int (s * k)])) := by
        intro k hk b nb
        have ne : l ≠ b := ne_of_none upd_same nb
        have nb0 : H' b = none := by
          rw [upd_ne (Ne.symm ne)] at nb
          exact nb
        refine q _ b l (s * k) (kp_new (kp_new Kp.refl nl) nb) nb0 nl (Ne.symm ne) ⟨upd_same, upd_old nb upd_same, ?_, ?_⟩
        · rcases hk with rfl | rfl <;> omega
        · rcases hk with rfl | rfl <;> omega
      refine fin _ ?_
      split
      · exact .inr rfl
      · exact .inl rfl
theorem dp_ints {H : Hp} : ∀ (ns : List Int), DpAll K H (ns.map V.int) (ns.map PyData.int)
  | [] => .nil
  | n :: r => .cons (.int n) (dp_ints r)
theorem shaped_ints (ns : List Int) : SeqAt.shaped (.list (ns.map PyData.int)) = true := by
  have h1 : PyData.canLayAll0 (ns.map PyData.int) = true ∧ PyData.depthAll (ns.map PyData.int) ≤ 1 := by
    induction ns with
    | nil => exact ⟨rfl, by decide⟩
    | cons n r ih =>
      refine ⟨?_, ?_⟩
      · show (PyData.canLay0 (.int n) && PyData.canLayAll0 (r.map PyData.int)) = true
        rw [ih.1]
        rfl
      · show max (PyData.depth (.int n)) (PyData.depthAll (r.map PyData.int)) ≤ 1
        exact Nat.max_le.mpr ⟨by show 0 ≤ 1; decide, ih.2⟩
  show (PyData.canLayAll0 (ns.map PyData.int) && decide (PyData.depthAll (ns.map PyData.int) + 1 ≤ 64)) = true
  rw [h1.1, decide_eq_true (by have := h1.2; omega)]
  rfl
def spTake : Sp := fun vs H Q _ => ∃ (b l : Addr) (ns : List Int) (s m : Int), vs = [.ref b, .int m] ∧ Box H b l ns s ∧ b ≠ l ∧ 0 < m ∧ m < 18446744073709551616 ∧
  ∀ H' ns' s' r, Kp [b, l] H H' → Box H' b l ns' s' → 0 ≤ r → r < m → Q (.int r) H'
theorem scTake : FnScope ["_law_box", "_law_many", "_law_number"] ["_law_box", "_law_many"] (defScope sTake) := ⟨rfl, rfl, rfl, by decide +kernel, rfl, by decide +kernel, by decide +kernel⟩
theorem ok_take {f : Addr} {fd : FuncData} (F : Fun K "_law_take" "_law_take" sTake f fd) : FnOk P w K mg base CX0 1 f fd ["_law_box", "_law_many"] spTake := by
  refine F.ok scTake (fun vs H Q E h => ?_) (fun cdv A outer s H vs Q E hr h => ?_)
  · obtain ⟨b, l, ns, s, m, rfl, _⟩ := h
    rfl
  · obtain ⟨b, l, ns, s, m, rfl, B, nbl, m0, m1, q⟩ := h
    have hu := hu_of hr
    have hW : ∀ i : Int, CDivW i m := fun i => wide_div (b := 64) m0 (by omega) (by decide) (by decide)
    have eb := B.b
    have el := B.l
    refine ⟨_, (pss_cons (ps_if (pt_cmpR (op_eqD hr.units) (pe_ix ix_list (pv 0) pe_int (fun _ _ => rfl)) (pe_lst pa_nil) (nomark _)) (pss_cons (ps_asg (pe_op op_mod (pe_op op_mul (pe_ix ix_list (pv 0) pe_int (fun _ _ => rfl)) pe_int) pe_int) (pg_sub (pv 0) pe_int set_list))
      (pss_one (ps_ret (pe_op op_mod (pe_op op_fdivW (pe_ix ix_list (pv 0) pe_int (fun _ _ => rfl)) pe_int) (pv 1))))) pss_nil)
    (pss_cons (ps_set (i := 2) scTake.nd rfl (by first | exact Or.inl rfl | exact Or.inr rfl) (pe_ix ix_list (pe_ix ix_list (pv 0) pe_int (fun _ _ => rfl)) pe_int (fun _ _ => rfl)))
    (pss_cons (ps_asg (pe_op op_fdivW (pv 2) (pv 1)) (pg_sub (pe_ix ix_list (pv 0) pe_int (fun _ _ => rfl)) pe_int set_list))
    (pss_cons (ps_if (PW.pt (pw_or (pt_cmpR op_eq (pe_ix ix_list (pe_ix ix_list (pv 0) pe_int (fun _ _ => rfl)) pe_int (fun _ _ => rfl)) pe_int (nomark _)) (pw_or1 (pt_cmpR op_eq (pe_ix ix_list (pe_ix ix_list (pv 0) pe_int (fun _ _ => rfl)) pe_int (fun _ _ => rfl)) (pe_un un_neg pe_int) (nomark _))))) (pss_one (ps_expr (pe_bm PySem.F.plainAttrs_list PySem.F.slot_list_pop PySem.F.type_list_pop mt_popAt (pe_ix ix_list (pv 0) pe_int (fun _ _ => rfl)) (pa_cons pe_int pa_nil)))) pss_nil)
    (pss_one (ps_ret (pe_op op_mod (pv 2) (pv 1)))))))), ?_⟩
    simp only [cxK, cxK']
    walk_at "w"
    refine fun p np => ?_
    refine ⟨.list (ns.map PyData.int), .list [], .lst (sqL_new np (sq_l el)) (dp_ints ns), .lst (sq_l upd_same) .nil, shaped_ints ns, rfl, ?_⟩
    cases ns with
    | nil =>
      refine ⟨true, rfl, iteT ?_⟩
      walk_at "w"
      exact q _ [] _ _ (kp_set (kp_new Kp.refl np) List.mem_cons_self) ⟨upd_same, upd_oth (Ne.symm nbl) (upd_old np el), Int.emod_nonneg _ (by decide), Int.emod_lt_of_pos _ (by decide)⟩ (Int.emod_nonneg _ (by omega)) (Int.emod_lt_of_pos _ m0)
    | cons n r =>
      have el : H l = some (.lst (.int n :: r.map V.int)) := el
      have nlb : l ≠ b := Ne.symm nbl
      have hWn := hW n
      refine ⟨false, rfl, iteF ?_⟩
      have fin : ∀ H' ns' s', Kp [b, l] H H' → Box H' b l ns' s' → Q (.int (n % m)) H' := fun H' ns' s' k B' => q H' ns' s' _ k B' (Int.emod_nonneg _ (by omega)) (Int.emod_lt_of_pos _ m0)
      walk_at "w"
      rw [decI]
      refine ite2 (fun e => ?_) (fun e => ?_)
      · refine iteT ?_
        walk_at "w"
        exact fin _ r s (kp_set (kp_set (kp_new Kp.refl np) (List.mem_cons_of_mem _ List.mem_cons_self)) (List.mem_cons_of_mem _ List.mem_cons_self)) ⟨by walk_at "hg", upd_same, B.s0, B.s1⟩
      · walk_at "w"
        rw [decI]
        refine ite2 (fun e => ?_) (fun e => ?_)
        · walk_at "w"
          exact fin _ r s (kp_set (kp_set (kp_new Kp.refl np) (List.mem_cons_of_mem _ List.mem_cons_self)) (List.mem_cons_of_mem _ List.mem_cons_self)) ⟨by walk_at "hg", upd_same, B.s0, B.s1⟩
        · walk_at "w"
          exact fin _ (n / m :: r) s (kp_set (kp_new Kp.refl np) (List.mem_cons_of_mem _ List.mem_cons_self)) ⟨by walk_at "hg", upd_same, B.s0, B.s1⟩
end
end VH

namespace VH
open PySem L2
local macro_rules | `(tactic| walk_at "dT") => `(tactic| first
  | ((with_reducible apply iT); (first | assumption | omega))
  | ((with_reducible apply niT); (first | assumption | omega))
  | ((with_reducible apply sT); (first | assumption | rfl))
  | ((with_reducible apply nsT); (first | assumption | decide))
  | ((with_reducible apply nbT); (first | assumption | omega))
  | ((with_reducible apply decide_eq_true); (first | assumption | omega)))
local macro_rules | `(tactic| walk_at "dF") => `(tactic| first
  | ((with_reducible apply iF); (first | assumption | omega))
  | ((with_reducible apply niF); (first | assumption | omega))
  | ((with_reducible apply sF); (first | assumption | decide))
  | ((with_reducible apply nsF); (first | assumption | rfl))
  | ((with_reducible apply nbF); (first | assumption | omega))
  | ((with_reducible apply decide_eq_false); (first | assumption | omega)))
local macro_rules | `(tactic| walk_at "ne") => `(tactic| first | assumption | (apply Ne.symm; assumption) | (apply ne_of_none <;> assumption) | (apply Ne.symm; apply ne_of_none <;> assumption) | (apply ne_new; assumption; walk_at "hg") | (apply Ne.symm; apply ne_new; assumption; walk_at "hg"))
local macro_rules | `(tactic| walk_at "ni") => `(tactic| first | exact ni_nil | (apply ni_cons; walk_at "ne"; walk_at "ni") | assumption)
local macro_rules | `(tactic| walk_at "hg") => `(tactic| first
  | assumption
  | exact upd_same
  | (apply upd_old; assumption; walk_at "hg")
  | (apply upd_oth; walk_at "ne"; walk_at "hg")
  | (apply kp_get; assumption; walk_at "hg"; walk_at "ni"))
local macro_rules | `(tactic| walk_at "mem") => `(tactic| first | exact List.mem_cons_self | (apply List.mem_cons_of_mem; walk_at "mem") | assumption)
local macro_rules | `(tactic| walk_at "no") => `(tactic| first | assumption | (apply none_of_kp2; assumption; walk_at "kp"))
local macro_rules | `(tactic| walk_at "kp") => `(tactic| first
  | assumption
  | exact Kp.refl
  | (apply kp_new'; assumption; walk_at "kp")
  | (apply kp_setn; assumption; walk_at "kp")
  | (apply kp_set'; walk_at "mem"; walk_at "kp")
  | (apply kp_app; assumption; walk_at "kp")
  | (apply kp_app2; assumption; walk_at "kp"))
local macro_rules | `(tactic| walk_at "sz") => `(tactic| first | assumption | exact sz rfl | (apply szb; omega) | (apply szbl; omega) | (apply szb; simp only [List.length_map, List.length_cons, List.length_nil, List.length_append, List.length_set]; omega) | (apply szbl; simp only [List.length_map, List.length_cons, List.length_nil, List.length_append, List.length_set]; omega))
local macro_rules | `(tactic| walk_at "sq") => `(tactic| first
  | assumption
  | (apply sq_l; walk_at "hg")
  | (apply sq_t; walk_at "hg")
  | (apply sqL_new; assumption; walk_at "sq")
  | (apply sqT_new; assumption; walk_at "sq"))
local macro_rules | `(tactic| walk_at "w1") => `(tactic| first
  | with_reducible refine w_seq ?_
  | ((with_reducible apply w_var); exact rfl)
  | with_reducible refine w_c ?_
  | with_reducible refine w_op ?_
  | with_reducible refine w_I0 ?_
  | ((with_reducible apply w_I); (first | assumption | exact Or.inr ⟨by decide, by decide⟩ | exact Or.inl ⟨by decide, by decide⟩ | exact (by show (0 : Int) < _; decide) | exact ⟨by decide, by decide⟩ | exact Or.inl ⟨by omega, by omega⟩ | exact Or.inr ⟨by omega, by omega⟩ | exact ⟨by omega, by omega⟩ | exact (by show (0 : Int) < _; omega)))
  | with_reducible refine w_cons ?_
  | with_reducible refine w_nil ?_
  | with_reducible refine w_asg ?_
  | with_reducible refine w_gName ?_
  | with_reducible refine w_gSub ?_
  | with_reducible refine w_test ?_
  | with_reducible refine w_B ?_
  | with_reducible refine w_ret ?_
  | with_reducible refine w_drop ?_
  | with_reducible refine w_ifS ?_
  | with_reducible refine w_if ?_
  | with_reducible refine w_un ?_
  | with_reducible refine w_U ?_
  | with_reducible refine w_call ?_
  | with_reducible refine w_cb ?_
  | with_reducible refine w_lst ?_
  | with_reducible refine w_tup ?_
  | with_reducible refine w_bm ?_
  | with_reducible refine w_bm0 ?_
  | with_reducible refine w_m1 ?_
  | with_reducible refine w_for ?_
  | with_reducible refine w_iList ?_
  | with_reducible refine w_iTup ?_
  | with_reducible refine w_iStr ?_
  | with_reducible refine w_iR1 ?_
  | with_reducible refine w_iEnum ?_
  | with_reducible refine w_and ?_
  | with_reducible refine w_or ?_
  | with_reducible refine w_not ?_
  | with_reducible refine w_yes ?_
  | with_reducible refine w_isN ?_
  | ((with_reducible apply w_eq); exact rfl)
  | ((with_reducible apply w_ne); exact rfl)
  | with_reducible refine w_chain ?_
  | with_reducible refine w_andV ?_
  | with_reducible refine w_orV ?_
  | with_reducible refine w_notV ?_
  | with_reducible refine w_bl ?_
  | with_reducible refine w_fld ?_
  | with_reducible refine w_sfld ?_
  | with_reducible refine w_next ?_
  | with_reducible refine w_isZ ?_
  | with_reducible refine w_notZ ?_
  | with_reducible refine w_inS ?_
  | with_reducible refine w_notInS ?_
  | ((with_reducible apply w_ifT); exact rfl)
  | ((with_reducible apply w_ifF); exact rfl)
  | ((with_reducible apply w_ifT); walk_at "dT")
  | ((with_reducible apply w_ifF); walk_at "dF")
  | with_reducible refine w_lc ?_
  | with_reducible refine w_aStr ?_
  | ((with_reducible apply w_itL); walk_at "sq")
  | ((with_reducible apply w_itT); walk_at "sq")
  | ((with_reducible apply w_rng); (first | omega | assumption); (first | omega | assumption))
  | ((with_reducible apply w_enum); walk_at "sq")
  | ((with_reducible apply w_lenS); walk_at "sz")
  | ((with_reducible apply w_split); (first | exact rfl | assumption); walk_at "sz")
  | with_reducible refine w_slice ?_
  | with_reducible refine w_part ?_
  | with_reducible refine w_noPart ?_
  | with_reducible refine w_anInt ?_
  | ((with_reducible apply w_slL); walk_at "sq")
  | ((with_reducible apply w_cat); walk_at "hg"; walk_at "hg"; walk_at "sz")
  | ((with_reducible apply w_newSz); walk_at "sz")
  | ((with_reducible apply w_append); walk_at "hg"; walk_at "sz")
  | ((with_reducible apply w_tyD); walk_at "hg")
  | ((with_reducible apply w_gTup); walk_at "sq"; exact rfl)
  | with_reducible refine w_gCons ?_
  | with_reducible refine w_gNil ?_
  | with_reducible refine w_kget2 ?_
  | with_reducible refine w_same ?_
  | ((with_reducible apply w_kat); assumption)
  | ((with_reducible apply w_in); walk_at "sq"; (first | exact rfl | assumption); (first | assumption | exact rfl))
  | ((with_reducible apply w_strI); assumption)
  | with_reducible refine w_disp ?_
  | with_reducible refine w_pcons ?_
  | with_reducible refine w_pnil ?_
  | with_reducible refine w_dget2 ?_
  | ((with_reducible apply w_isD); walk_at "hg")
  | ((with_reducible apply w_dgS); walk_at "hg")
  | ((with_reducible apply w_dupd); walk_at "ne"; walk_at "hg"; walk_at "hg"; (first | decide | walk_at "sz"))
  | ((with_reducible apply w_catS); walk_at "sz")
  | ((with_reducible apply w_slT); walk_at "sq"; assumption)
  | ((with_reducible apply w_ixS); walk_at "sz"; (first | assumption | exact rfl))
  | ((with_reducible apply w_intS); assumption; (first | assumption | omega))
  | ((with_reducible apply w_isi); (first | exact tx_N | exact tx_B | exact tx_I | exact tx_S | (apply tx_L; walk_at "sq") | (apply tx_T; walk_at "sq")); (first | (refine (?_ : _ = some true); decide +kernel) | (refine (?_ : _ = some false); decide +kernel)))
  | ((with_reducible apply w_lenL); walk_at "sq")
  | ((with_reducible apply w_lenT); walk_at "sq")
  | ((with_reducible apply w_listL); walk_at "sq")
  | ((with_reducible apply w_listT); walk_at "sq")
  | ((with_reducible apply w_tupL); walk_at "sq")
  | with_reducible refine w_intI ?_
  | with_reducible refine w_intB ?_
  | with_reducible refine w_strS ?_
  | ((with_reducible apply w_ixXL); walk_at "sq"; (first | exact rfl | exact atI_0 | assumption))
  | ((with_reducible apply w_ixXT); walk_at "sq"; (first | exact rfl | exact atI_0 | assumption))
  | ((with_reducible apply w_tyL); walk_at "sq")
  | with_reducible refine w_tyS ?_
  | ((with_reducible apply w_popAt0); walk_at "hg")
  | ((with_reducible apply w_ixL); walk_at "sq"; (first | exact rfl | exact atI_0 | assumption))
  | ((with_reducible apply w_ixT); walk_at "sq"; (first | exact rfl | exact atI_0 | assumption))
  | ((with_reducible apply w_setL); walk_at "hg"; (first | exact rfl | exact ixN_0)))
local macro_rules | `(tactic| walk_at "w") => `(tactic| repeat walk_at "w1")

section
variable {P : Program} {w : World} {K : PySem.W.Frag} {mg : Str → Option Value} {base : Heap}
/-! ### data that are alike -/
/-- data of so many levels at most, none of them long -/
def okD : Nat → PyData → Bool
  | _, .none => true
  | _, .bool _ => true
  | _, .int _ => true
  | _, .str _ => true
  | _, .dict _ => false
  | 0, _ => false
  | n + 1, .list ds => decide (ds.length ≤ 100000) && ds.all (okD n)
  | n + 1, .tuple ds => decide (ds.length ≤ 100000) && ds.all (okD n)
def spAlike (K : PySem.W.Frag) : Nat → Sp
  | 0 => fun _ _ _ _ => False
  | n + 1 => fun vs H Q _ => ∃ (x y : V) (d : PyData), vs = [x, y] ∧ Dp K H x d ∧ Dp K H y d ∧ okD n d = true ∧ Q (.bl true) H
theorem scAlike : FnScope ["_law_found", "_law_due", "_law_k"] ["_law_found", "_law_due"] (defScope sAlike) := ⟨rfl, rfl, rfl, by decide +kernel, rfl, by decide +kernel, by decide +kernel⟩
theorem ok_alike {f : Addr} {fd : FuncData} (F : Fun K "_law_alike" "_law_alike" sAlike f fd) (T : Txt K mg) (gf : mg "_law_alike" = some (.ref f)) (bA : Binds K fd ["_law_found", "_law_due"] []) : ∀ n, FnOk P w K mg base CX0 n f fd ["_law_found", "_law_due"] (spAlike K n) := by
  intro n
  induction n with
  | zero => exact ⟨fun _ _ _ _ h => h.elim, fun _ _ _ _ _ _ _ _ _ _ _ _ _ h => h.elim⟩
  | succ n ih =>
    refine F.ok scAlike (fun vs H Q E h => ?_) (fun cdv A outer s H vs Q E hr h => ?_)
    · obtain ⟨x, y, d, rfl, _⟩ := h
      rfl
    · obtain ⟨x, y, d, rfl, hx, hy, ok, q⟩ := h
      have hu := hu_of hr
      refine ⟨_, (pss_cons (ps_if (pt_cmpR op_isN1 (pv 1) pe_non (nomark _)) (pss_one (ps_ret (pe_cmpR op_isN1 (pv 0) pe_non (nomark _)))) pss_nil)
    (pss_cons (ps_if (pt_val (pe_callB call_isi (by rfl) T.isinstance (by decide +kernel) (pa_cons (pv 1) (pa_cons (pe_bltn (v := .ty "bool") (by rfl) T.bool (by decide +kernel) rfl) pa_nil)))) (pss_one (ps_ret (pe_and (pe_callB call_isi (by rfl) T.isinstance (by decide +kernel) (pa_cons (pv 0) (pa_cons (pe_bltn (v := .ty "bool") (by rfl) T.bool (by decide +kernel) rfl) pa_nil))) (pe_one (pe_cmpR op_eq (pv 0) (pv 1) (nomark _)))))) pss_nil)
    (pss_cons (ps_if (pt_val (pe_callB call_isi (by rfl) T.isinstance (by decide +kernel) (pa_cons (pv 1) (pa_cons (pe_bltn (v := .ty "int") (by rfl) T.int (by decide +kernel) rfl) pa_nil)))) (pss_one (ps_ret (pe_and (pe_callB call_isi (by rfl) T.isinstance (by decide +kernel) (pa_cons (pv 0) (pa_cons (pe_bltn (v := .ty "int") (by rfl) T.int (by decide +kernel) rfl) pa_nil))) (pe_and (pe_not (pe_callB call_isi (by rfl) T.isinstance (by decide +kernel) (pa_cons (pv 0) (pa_cons (pe_bltn (v := .ty "bool") (by rfl) T.bool (by decide +kernel) rfl) pa_nil)))) (pe_one (pe_cmpR op_eq (pv 0) (pv 1) (nomark _))))))) pss_nil)
    (pss_cons (ps_if (pt_val (pe_callB call_isi (by rfl) T.isinstance (by decide +kernel) (pa_cons (pv 1) (pa_cons (pe_bltn (v := .ty "str") (by rfl) T.str (by decide +kernel) rfl) pa_nil)))) (pss_one (ps_ret (pe_and (pe_callB call_isi (by rfl) T.isinstance (by decide +kernel) (pa_cons (pv 0) (pa_cons (pe_bltn (v := .ty "str") (by rfl) T.str (by decide +kernel) rfl) pa_nil))) (pe_one (pe_cmpR op_eq (pv 0) (pv 1) (nomark _)))))) pss_nil)
    (pss_cons (ps_if (PW.pt (pw_or (pt_cmpR op_ne (pe_callB call_isi (by rfl) T.isinstance (by decide +kernel) (pa_cons (pv 1) (pa_cons (pe_bltn (v := .ty "tuple") (by rfl) T.tuple (by decide +kernel) rfl) pa_nil))) (pe_callB call_isi (by rfl) T.isinstance (by decide +kernel) (pa_cons (pv 0) (pa_cons (pe_bltn (v := .ty "tuple") (by rfl) T.tuple (by decide +kernel) rfl) pa_nil))) (nomark _)) (pw_or1 (pt_cmpR op_ne (pe_callB call_isi (by rfl) T.isinstance (by decide +kernel) (pa_cons (pv 1) (pa_cons (pe_bltn (v := .ty "list") (by rfl) T.list (by decide +kernel) rfl) pa_nil))) (pe_callB call_isi (by rfl) T.isinstance (by decide +kernel) (pa_cons (pv 0) (pa_cons (pe_bltn (v := .ty "list") (by rfl) T.list (by decide +kernel) rfl) pa_nil))) (nomark _))))) (pss_one (ps_ret pe_bl)) pss_nil)
    (pss_cons (ps_if (pt_cmpR op_ne (pe_callB cr_lenL (by rfl) T.len (by decide +kernel) (pa_cons (pv 0) pa_nil)) (pe_callB cr_lenL (by rfl) T.len (by decide +kernel) (pa_cons (pv 1) pa_nil)) (nomark _)) (pss_one (ps_ret pe_bl)) pss_nil)
    (pss_cons (ps_for PassesOwn.never rfl (pi_range1 (by rfl) T.range (pa_cons (pe_callB cr_lenL (by rfl) T.len (by decide +kernel) (pa_cons (pv 1) pa_nil)) pa_nil)) (pg_name (i := 2) scAlike.nd rfl (by first | exact Or.inl rfl | exact Or.inr rfl))
      (pss_one (ps_if (pt_not (pt_val (pe_call ih hr (by rfl) gf F.kp bA .nil pass0 (pa_cons (pe_ix ix_seq (pv 0) (pv 2) (fun _ _ => rfl)) (pa_cons (pe_ix ix_seq (pv 1) (pv 2) (fun _ _ => rfl)) pa_nil))))) (pss_one (ps_ret pe_bl)) pss_nil)))
    (pss_one (ps_ret pe_bl))))))))), ?_⟩
      simp only [cxK, cxK']
      cases d with
      | none =>
        cases hx
        cases hy
        walk_at "w"
        exact q
      | bool b =>
        cases hx
        cases hy
        walk_at "w"
        rw [decide_eq_true rfl]
        exact q
      | int i =>
        cases hx
        cases hy
        walk_at "w"
        rw [decide_eq_true rfl]
        exact q
      | str z =>
        cases hx
        cases hy
        walk_at "w"
        rw [decide_eq_true rfl]
        exact q
      | dict kvs => cases hx
      | list ds =>
        cases hx
        cases hy
        rename_i a xs hsx hax b ys hsy hay
        have el := dpAll_len hax
        have el2 := dpAll_len hay
        cases n with
        | zero => cases ok
        | succ n =>
        have ok : (decide (ds.length ≤ 100000) && ds.all (okD n)) = true := ok
        rw [Bool.and_eq_true, decide_eq_true_eq, List.all_eq_true] at ok
        walk_at "w"
        refine for_range (fun i σ H' => H' = H ∧ ∃ y, σ = [some (.ref a), some (.ref b), y]) ⟨rfl, none, rfl⟩ (fun i σ H' hi h => ?_) (fun σ H' h => ?_)
        · obtain ⟨rfl, y, rfl⟩ := h
          have hi : i < ys.length := by omega
          have ex : xs[i]? = some xs[i] := List.getElem?_eq_getElem (by omega)
          have ey : ys[i]? = some ys[i] := List.getElem?_eq_getElem hi
          obtain ⟨d, hd, dx⟩ := dpAll_get hax ex
          obtain ⟨d2, hd2, dy⟩ := dpAll_get hay ey
          have e2 : d2 = d := Option.some.inj (hd2.symm.trans hd)
          subst e2
          have ax : atI xs (0 + (i : Int)) = some xs[i] := at_of (by omega) ex
          have ay : atI ys (0 + (i : Int)) = some ys[i] := at_of (by omega) ey
          walk_at "w"
          refine ⟨_, _, d2, rfl, dx, dy, ok.2 _ (List.mem_of_getElem? hd), ?_⟩
          walk_at "w"
          exact ⟨rfl, _, rfl⟩
        · obtain ⟨rfl, y, rfl⟩ := h
          walk_at "w"
          exact q
      | tuple ds =>
        cases hx
        cases hy
        rename_i a xs hsx hax b ys hsy hay
        have el := dpAll_len hax
        have el2 := dpAll_len hay
        cases n with
        | zero => cases ok
        | succ n =>
        have ok : (decide (ds.length ≤ 100000) && ds.all (okD n)) = true := ok
        rw [Bool.and_eq_true, decide_eq_true_eq, List.all_eq_true] at ok
        walk_at "w"
        refine for_range (fun i σ H' => H' = H ∧ ∃ y, σ = [some (.ref a), some (.ref b), y]) ⟨rfl, none, rfl⟩ (fun i σ H' hi h => ?_) (fun σ H' h => ?_)
        · obtain ⟨rfl, y, rfl⟩ := h
          have hi : i < ys.length := by omega
          have ex : xs[i]? = some xs[i] := List.getElem?_eq_getElem (by omega)
          have ey : ys[i]? = some ys[i] := List.getElem?_eq_getElem hi
          obtain ⟨d, hd, dx⟩ := dpAll_get hax ex
          obtain ⟨d2, hd2, dy⟩ := dpAll_get hay ey
          have e2 : d2 = d := Option.some.inj (hd2.symm.trans hd)
          subst e2
          have ax : atI xs (0 + (i : Int)) = some xs[i] := at_of (by omega) ex
          have ay : atI ys (0 + (i : Int)) = some ys[i] := at_of (by omega) ey
          walk_at "w"
          refine ⟨_, _, d2, rfl, dx, dy, ok.2 _ (List.mem_of_getElem? hd), ?_⟩
          walk_at "w"
          exact ⟨rfl, _, rfl⟩
        · obtain ⟨rfl, y, rfl⟩ := h
          walk_at "w"
          exact q
end
end VH

namespace VH
open PySem L2 TL LamX
local macro_rules | `(tactic| walk_at "dT") => `(tactic| first
  | ((with_reducible apply iT); (first | assumption | omega))
  | ((with_reducible apply niT); (first | assumption | omega))
  | ((with_reducible apply sT); (first | assumption | rfl))
  | ((with_reducible apply nsT); (first | assumption | decide))
  | ((with_reducible apply nbT); (first | assumption | omega))
  | ((with_reducible apply decide_eq_true); (first | assumption | omega)))
local macro_rules | `(tactic| walk_at "dF") => `(tactic| first
  | ((with_reducible apply iF); (first | assumption | omega))
  | ((with_reducible apply niF); (first | assumption | omega))
  | ((with_reducible apply sF); (first | assumption | decide))
  | ((with_reducible apply nsF); (first | assumption | rfl))
  | ((with_reducible apply nbF); (first | assumption | omega))
  | ((with_reducible apply decide_eq_false); (first | assumption | omega)))
local macro_rules | `(tactic| walk_at "ne") => `(tactic| first | assumption | (apply Ne.symm; assumption) | (apply ne_of_none <;> assumption) | (apply Ne.symm; apply ne_of_none <;> assumption) | (apply ne_new; assumption; walk_at "hg") | (apply Ne.symm; apply ne_new; assumption; walk_at "hg"))
local macro_rules | `(tactic| walk_at "ni") => `(tactic| first | exact ni_nil | (apply ni_cons; walk_at "ne"; walk_at "ni") | assumption)
local macro_rules | `(tactic| walk_at "hg") => `(tactic| first
  | assumption
  | exact upd_same
  | (apply upd_old; assumption; walk_at "hg")
  | (apply upd_oth; walk_at "ne"; walk_at "hg")
  | (apply kp_get; assumption; walk_at "hg"; walk_at "ni"))
local macro_rules | `(tactic| walk_at "mem") => `(tactic| first | exact List.mem_cons_self | (apply List.mem_cons_of_mem; walk_at "mem") | assumption)
local macro_rules | `(tactic| walk_at "no") => `(tactic| first | assumption | (apply none_of_kp2; assumption; walk_at "kp"))
local macro_rules | `(tactic| walk_at "kp") => `(tactic| first
  | assumption
  | exact Kp.refl
  | (apply kp_new'; assumption; walk_at "kp")
  | (apply kp_setn; assumption; walk_at "kp")
  | (apply kp_set'; walk_at "mem"; walk_at "kp")
  | (apply kp_app; assumption; walk_at "kp")
  | (apply kp_app2; assumption; walk_at "kp"))
local macro_rules | `(tactic| walk_at "sz") => `(tactic| first | assumption | exact sz rfl | (apply szb; omega) | (apply szbl; omega) | (apply szb; simp only [List.length_map, List.length_cons, List.length_nil, List.length_append, List.length_set]; omega) | (apply szbl; simp only [List.length_map, List.length_cons, List.length_nil, List.length_append, List.length_set]; omega))
local macro_rules | `(tactic| walk_at "sq") => `(tactic| first
  | assumption
  | (apply sq_l; walk_at "hg")
  | (apply sq_t; walk_at "hg")
  | (apply sqL_new; assumption; walk_at "sq")
  | (apply sqT_new; assumption; walk_at "sq"))
local macro_rules | `(tactic| walk_at "w1") => `(tactic| first
  | with_reducible refine w_seq ?_
  | ((with_reducible apply w_var); exact rfl)
  | with_reducible refine w_c ?_
  | with_reducible refine w_op ?_
  | with_reducible refine w_I0 ?_
  | ((with_reducible apply w_I); (first | assumption | exact Or.inr ⟨by decide, by decide⟩ | exact Or.inl ⟨by decide, by decide⟩ | exact (by show (0 : Int) < _; decide) | exact ⟨by decide, by decide⟩ | exact Or.inl ⟨by omega, by omega⟩ | exact Or.inr ⟨by omega, by omega⟩ | exact ⟨by omega, by omega⟩ | exact (by show (0 : Int) < _; omega)))
  | with_reducible refine w_cons ?_
  | with_reducible refine w_nil ?_
  | with_reducible refine w_asg ?_
  | with_reducible refine w_gName ?_
  | with_reducible refine w_gSub ?_
  | with_reducible refine w_test ?_
  | with_reducible refine w_B ?_
  | with_reducible refine w_ret ?_
  | with_reducible refine w_drop ?_
  | with_reducible refine w_ifS ?_
  | with_reducible refine w_if ?_
  | with_reducible refine w_un ?_
  | with_reducible refine w_U ?_
  | with_reducible refine w_call ?_
  | with_reducible refine w_cb ?_
  | with_reducible refine w_lst ?_
  | with_reducible refine w_tup ?_
  | with_reducible refine w_bm ?_
  | with_reducible refine w_bm0 ?_
  | with_reducible refine w_m1 ?_
  | with_reducible refine w_for ?_
  | with_reducible refine w_iList ?_
  | with_reducible refine w_iTup ?_
  | with_reducible refine w_iStr ?_
  | with_reducible refine w_iR1 ?_
  | with_reducible refine w_iEnum ?_
  | with_reducible refine w_and ?_
  | with_reducible refine w_or ?_
  | with_reducible refine w_not ?_
  | with_reducible refine w_yes ?_
  | with_reducible refine w_isN ?_
  | ((with_reducible apply w_eq); exact rfl)
  | ((with_reducible apply w_ne); exact rfl)
  | with_reducible refine w_chain ?_
  | with_reducible refine w_andV ?_
  | with_reducible refine w_orV ?_
  | with_reducible refine w_notV ?_
  | with_reducible refine w_bl ?_
  | with_reducible refine w_fld ?_
  | with_reducible refine w_sfld ?_
  | with_reducible refine w_next ?_
  | with_reducible refine w_isZ ?_
  | with_reducible refine w_notZ ?_
  | with_reducible refine w_inS ?_
  | with_reducible refine w_notInS ?_
  | ((with_reducible apply w_ifT); exact rfl)
  | ((with_reducible apply w_ifF); exact rfl)
  | ((with_reducible apply w_ifT); walk_at "dT")
  | ((with_reducible apply w_ifF); walk_at "dF")
  | with_reducible refine w_lc ?_
  | with_reducible refine w_aStr ?_
  | ((with_reducible apply w_itL); walk_at "sq")
  | ((with_reducible apply w_itT); walk_at "sq")
  | ((with_reducible apply w_rng); (first | omega | assumption); (first | omega | assumption))
  | ((with_reducible apply w_enum); walk_at "sq")
  | ((with_reducible apply w_lenS); walk_at "sz")
  | ((with_reducible apply w_split); (first | exact rfl | assumption); walk_at "sz")
  | with_reducible refine w_slice ?_
  | with_reducible refine w_part ?_
  | with_reducible refine w_noPart ?_
  | with_reducible refine w_anInt ?_
  | ((with_reducible apply w_slL); walk_at "sq")
  | ((with_reducible apply w_cat); walk_at "hg"; walk_at "hg"; walk_at "sz")
  | ((with_reducible apply w_newSz); walk_at "sz")
  | ((with_reducible apply w_append); walk_at "hg"; walk_at "sz")
  | ((with_reducible apply w_tyD); walk_at "hg")
  | ((with_reducible apply w_gTup); walk_at "sq"; exact rfl)
  | with_reducible refine w_gCons ?_
  | with_reducible refine w_gNil ?_
  | with_reducible refine w_kget2 ?_
  | with_reducible refine w_same ?_
  | ((with_reducible apply w_kat); assumption)
  | ((with_reducible apply w_in); walk_at "sq"; (first | exact rfl | assumption); (first | assumption | exact rfl))
  | ((with_reducible apply w_strI); assumption)
  | with_reducible refine w_disp ?_
  | with_reducible refine w_pcons ?_
  | with_reducible refine w_pnil ?_
  | with_reducible refine w_dget2 ?_
  | ((with_reducible apply w_isD); walk_at "hg")
  | ((with_reducible apply w_dgS); walk_at "hg")
  | ((with_reducible apply w_dupd); walk_at "ne"; walk_at "hg"; walk_at "hg"; (first | decide | walk_at "sz"))
  | ((with_reducible apply w_catS); walk_at "sz")
  | ((with_reducible apply w_slT); walk_at "sq"; assumption)
  | ((with_reducible apply w_ixS); walk_at "sz"; (first | assumption | exact rfl))
  | ((with_reducible apply w_intS); assumption; (first | assumption | omega))
  | ((with_reducible apply w_isi); (first | exact tx_N | exact tx_B | exact tx_I | exact tx_S | (apply tx_L; walk_at "sq") | (apply tx_T; walk_at "sq")); (first | (refine (?_ : _ = some true); decide +kernel) | (refine (?_ : _ = some false); decide +kernel)))
  | ((with_reducible apply w_lenL); walk_at "sq")
  | ((with_reducible apply w_lenT); walk_at "sq")
  | ((with_reducible apply w_listL); walk_at "sq")
  | ((with_reducible apply w_listT); walk_at "sq")
  | ((with_reducible apply w_tupL); walk_at "sq")
  | with_reducible refine w_intI ?_
  | with_reducible refine w_intB ?_
  | with_reducible refine w_strS ?_
  | ((with_reducible apply w_ixXL); walk_at "sq"; (first | exact rfl | exact atI_0 | assumption))
  | ((with_reducible apply w_ixXT); walk_at "sq"; (first | exact rfl | exact atI_0 | assumption))
  | ((with_reducible apply w_tyL); walk_at "sq")
  | with_reducible refine w_tyS ?_
  | ((with_reducible apply w_popAt0); walk_at "hg")
  | ((with_reducible apply w_ixL); walk_at "sq"; (first | exact rfl | exact atI_0 | assumption))
  | ((with_reducible apply w_ixT); walk_at "sq"; (first | exact rfl | exact atI_0 | assumption))
  | ((with_reducible apply w_setL); walk_at "hg"; (first | exact rfl | exact ixN_0)))
local macro_rules | `(tactic| walk_at "w") => `(tactic| repeat walk_at "w1")

def clsNames : List Str := ["BadNumber", "BadSizes", "BadText", "BadVolume", "Full", "Lost", "NoBlock", "NoDisk", "NoVolume", "Stopped"]
/-- what the text says of the ten classes -/
structure ToldK (K : PySem.W.Frag) (mg : Str → Option Value) (c : Nat → Addr) (CV : Addr) : Prop where
  gBadNumber : mg "BadNumber" = some (.ref (c 0))
  gBadSizes : mg "BadSizes" = some (.ref (c 1))
  gBadText : mg "BadText" = some (.ref (c 2))
  gBadVolume : mg "BadVolume" = some (.ref (c 3))
  gFull : mg "Full" = some (.ref (c 4))
  gLost : mg "Lost" = some (.ref (c 5))
  gNoBlock : mg "NoBlock" = some (.ref (c 6))
  gNoDisk : mg "NoDisk" = some (.ref (c 7))
  gNoVolume : mg "NoVolume" = some (.ref (c 8))
  gStopped : mg "Stopped" = some (.ref (c 9))
  ValueError : mg "ValueError" = none
  gVE : mg "VolumeError" = some (.ref CV)
  exc : ∀ i < 10, ExcC K (c i)
  exm : ∀ i < 10, PySem.W.exmOne K (.ref (c i)) (.ref CV) = some true
  kit : ∀ i < 10, ∀ j < 10, PySem.W.kitOne K (.ref (c i)) (.ref (c j)) = some (decide (i = j))
  kitV : ∀ i < 10, PySem.W.kitOne K (.ref (c i)) (.type "ValueError") = some true
  xf : XfC K (c 2)
  nf : PySem.W.findIn K (.ref (c 2)) "row" = some none
/-- what told tells of an exception -/
def TEx (c : Nat → Addr) (cls : Value) (d : Option Addr) (H : Hp) (w : Str) (v : V) : Prop :=
  ∃ i, i < 10 ∧ clsNames[i]? = some w ∧ cls = .ref (c i) ∧ ((i ≠ 2 ∧ d = none ∧ v = .int 0) ∨ (i = 2 ∧ ∃ dd fs, d = some dd ∧ H dd = some (.xd fs) ∧ fs.lookup ("row" : Str) = some v))
def TToldV (c : Nat → Addr) : (XK → Hp → VK → Prop) → Hp → VK → Prop := fun tl H Q =>
  tl (fun cls d H' => ∃ w v, TEx c cls d H' w v ∧ ∀ p H'', Kp [] H' H'' → H' p = none → H'' p = some (.tup [.str w, v]) → Q (.ref p) H'') H Q
theorem w_isC {K : PySem.W.Frag} {mg : Str → Option Value} {c : Nat → Addr} {CV a : Addr} {d : Option Addr} {H : Hp} {Q : VK} {i j : Nat} (TK : ToldK K mg c CV) (hi : i < 10) (hj : j < 10) (hd : d = none ∨ ∃ dd fs, d = some dd ∧ H dd = some (.xd fs)) (q : Q (.bl (decide (i = j))) H) : rIsC K a (.ref (c i)) d [.ref a, .ref (c j)] H Q :=
  ⟨c i, .ref (c j), .ref (c j), _, rfl, TK.exc i hi, hd, rfl, fun u h => h, TK.kit i hi j hj, q⟩
theorem w_isCV {K : PySem.W.Frag} {mg : Str → Option Value} {c : Nat → Addr} {CV a : Addr} {d : Option Addr} {H : Hp} {Q : VK} {i : Nat} (TK : ToldK K mg c CV) (hi : i < 10) (hd : d = none ∨ ∃ dd fs, d = some dd ∧ H dd = some (.xd fs)) (q : Q (.bl true) H) : rIsC K a (.ref (c i)) d [.ref a, .ty "ValueError"] H Q :=
  ⟨c i, .ty "ValueError", .type "ValueError", _, rfl, TK.exc i hi, hd, rfl, fun u h => h, TK.kitV i hi, q⟩
theorem hd_new {d : Option Addr} {H : Hp} {p : Addr} {o : HO} (n : H p = none) (hd : d = none ∨ ∃ dd fs, d = some dd ∧ H dd = some (.xd fs)) : d = none ∨ ∃ dd fs, d = some dd ∧ (upd H p o) dd = some (.xd fs) := by
  rcases hd with h | ⟨dd, fs, h, e⟩
  · exact .inl h
  · exact .inr ⟨dd, fs, h, upd_old n e⟩
local macro_rules | `(tactic| walk_at "hd") => `(tactic| first | assumption | (apply hd_new; assumption; walk_at "hd"))
local macro_rules | `(tactic| walk_at "w1") => `(tactic| first
  | ((with_reducible apply w_isC); assumption; assumption; decide; walk_at "hd")
  | ((with_reducible apply w_isCV); assumption; assumption; walk_at "hd"))
def bits (i : Nat) : List V := ([V.bl (decide (i = 0)), V.bl (decide (i = 1)), V.bl (decide (i = 2)), V.bl (decide (i = 3))] ++ [V.bl (decide (i = 4)), V.bl (decide (i = 5)), V.bl (decide (i = 6)), V.bl (decide (i = 7))]) ++ [V.bl (decide (i = 8)), V.bl (decide (i = 9))]
theorem told_bits : ∀ i < 10, ((bits i).countP fun z => eqV z (.bl true)) = 1 ∧ (bits i).all flatV = true ∧ (bits i)[i]? = some (.bl true) ∧ ∀ m < i, (bits i)[m]? = some (.bl false) := by decide +kernel
def nmL : List V := [V.str "BadNumber", V.str "BadSizes", V.str "BadText", V.str "BadVolume", V.str "Full", V.str "Lost", V.str "NoBlock", V.str "NoDisk", V.str "NoVolume"] ++ [V.str "Stopped"]
theorem nmL_eq : nmL = clsNames.map V.str := rfl
theorem clsAt : ∀ i < 10, (clsNames[i]? = some ("BadText" : Str)) ↔ i = 2 := by decide +kernel
theorem takes_len {X : Cx} {W : WX} (tk : Takes X W) : Takes X (fun cls d σ H => σ.length = X.N.length → W cls d σ H) := fun u s' x => by
  obtain ⟨a, B, sI, pins, σ, H, cls, d, e, I, nb, up, sky, na, os, ag, w⟩ := x
  exact tk u s' ⟨a, B, sI, pins, σ, H, cls, d, e, I, nb, up, sky, na, os, ag, w I.len⟩
theorem scTold : FnScope ["_law_work", "e", "_law_kinds", "_law_words", "_law_word"] ["_law_work"] (defScope sTold) := ⟨rfl, rfl, rfl, by decide +kernel, rfl, by decide +kernel, by decide +kernel⟩
section
variable {P : Program} {w : World} {K : PySem.W.Frag} {mg : Str → Option Value} {base : Heap}
def spTold (c : Nat → Addr) : TH → Sp := fun th vs H Q _ => ∃ f F tl, vs = [.ref f] ∧ th f F tl ∧ LamIn H f F ∧ TToldV c tl H Q
theorem ok_told {f CV : Addr} {c : Nat → Addr} {fd : FuncData} {kT : Nat} (FT : Fun K "_law_told" "_law_told" sTold f fd) (T : Txt K mg) (TK : ToldK K mg c CV) : FnOkT P w K mg base CX0 kT (kT + 1) f fd ["_law_work"] (spTold c) := by
  refine FnOkT.of FT scTold (fun th vs H Q E h => ?_) (fun cdv A outer s H vs Q E th hr hth h => ?_)
  · obtain ⟨f, F, tl, rfl, _⟩ := h
    rfl
  obtain ⟨g, F, tl, rfl, ht, hl, h⟩ := h
  have hu := hu_of hr
  refine ⟨_, pss_one (ps_try_as (c := .ref CV) (i := 1) (n := "e")
      (tb := fun W D σ H' => ∃ Ech : XK, (∀ cls d σ' H', σ'.length = 5 → Ech cls d H' → W cls d σ' H') ∧ σ[0]? = some (some (.ref g)) ∧ LamIn H' g F ∧ tl Ech H' D.rt)
      rfl rfl scTold.nd rfl rfl ⟨by rfl, by decide, .inl TK.gVE⟩ LamX.takes0 (fun W pn xe tk _ => ?_) (fun a oe cls d pn hzE hfE => (pss_cons (ps_set (i := 2) scTold.nd rfl (by first | exact Or.inl rfl | exact Or.inr rfl) (pe_lst (pa_cons (pe_callB (call_isC hzE hfE) (by rfl) T.isinstance (by decide +kernel) (pa_cons (pv 1) (pa_cons (pe_glob (v := .ref _) (by rfl) TK.gBadNumber rfl) pa_nil))) (pa_cons (pe_callB (call_isC hzE hfE) (by rfl) T.isinstance (by decide +kernel) (pa_cons (pv 1) (pa_cons (pe_glob (v := .ref _) (by rfl) TK.gBadSizes rfl) pa_nil))) (pa_cons (pe_callB (call_isC hzE hfE) (by rfl) T.isinstance (by decide +kernel) (pa_cons (pv 1) (pa_cons (pe_glob (v := .ref _) (by rfl) TK.gBadText rfl) pa_nil))) (pa_cons (pe_callB (call_isC hzE hfE) (by rfl) T.isinstance (by decide +kernel) (pa_cons (pv 1) (pa_cons (pe_glob (v := .ref _) (by rfl) TK.gBadVolume rfl) pa_nil))) pa_nil))))))
    (pss_cons (ps_set (i := 2) scTold.nd rfl (by first | exact Or.inl rfl | exact Or.inr rfl) (pe_op op_cat (pv 2) (pe_lst (pa_cons (pe_callB (call_isC hzE hfE) (by rfl) T.isinstance (by decide +kernel) (pa_cons (pv 1) (pa_cons (pe_glob (v := .ref _) (by rfl) TK.gFull rfl) pa_nil))) (pa_cons (pe_callB (call_isC hzE hfE) (by rfl) T.isinstance (by decide +kernel) (pa_cons (pv 1) (pa_cons (pe_glob (v := .ref _) (by rfl) TK.gLost rfl) pa_nil))) (pa_cons (pe_callB (call_isC hzE hfE) (by rfl) T.isinstance (by decide +kernel) (pa_cons (pv 1) (pa_cons (pe_glob (v := .ref _) (by rfl) TK.gNoBlock rfl) pa_nil))) (pa_cons (pe_callB (call_isC hzE hfE) (by rfl) T.isinstance (by decide +kernel) (pa_cons (pv 1) (pa_cons (pe_glob (v := .ref _) (by rfl) TK.gNoDisk rfl) pa_nil))) pa_nil)))))))
    (pss_cons (ps_set (i := 2) scTold.nd rfl (by first | exact Or.inl rfl | exact Or.inr rfl) (pe_op op_cat (pv 2) (pe_lst (pa_cons (pe_callB (call_isC hzE hfE) (by rfl) T.isinstance (by decide +kernel) (pa_cons (pv 1) (pa_cons (pe_glob (v := .ref _) (by rfl) TK.gNoVolume rfl) pa_nil))) (pa_cons (pe_callB (call_isC hzE hfE) (by rfl) T.isinstance (by decide +kernel) (pa_cons (pv 1) (pa_cons (pe_glob (v := .ref _) (by rfl) TK.gStopped rfl) pa_nil))) pa_nil)))))
    (pss_cons (ps_if (PW.pt (pw_or (pt_cmpR op_ne (pe_bmS PySem.F.plainAttrs_list PySem.F.slot_list_count PySem.F.type_list_count mt_countS (pv 2) (pa_cons pe_bl pa_nil)) pe_int (nomark _)) (pw_or1 (pt_not (pt_val (pe_callB (call_isC hzE hfE) (by rfl) T.isinstance (by decide +kernel) (pa_cons (pv 1) (pa_cons (pe_bltn (v := .ty "ValueError") (by rfl) TK.ValueError (by decide +kernel) rfl) pa_nil)))))))) (pss_one (ps_ret (pe_tup (pa_cons pe_str (pa_cons pe_int pa_nil))))) pss_nil)
    (pss_cons (ps_set (i := 3) scTold.nd rfl (by first | exact Or.inl rfl | exact Or.inr rfl) (pe_lst (pa_cons pe_str (pa_cons pe_str (pa_cons pe_str (pa_cons pe_str (pa_cons pe_str (pa_cons pe_str (pa_cons pe_str (pa_cons pe_str (pa_cons pe_str pa_nil)))))))))))
    (pss_cons (ps_set (i := 4) scTold.nd rfl (by first | exact Or.inl rfl | exact Or.inr rfl) (pe_ix ix_listS (pe_op op_cat (pv 3) (pe_lst (pa_cons pe_str pa_nil))) (pe_bmS PySem.F.plainAttrs_list PySem.F.slot_list_index PySem.F.type_list_index mt_indexS (pv 2) (pa_cons pe_bl pa_nil)) (fun _ _ => rfl)))
    (pss_one (ps_ret (pe_tup (pa_cons (pv 4) (pa_cons (pe_ifExp (pt_cmpR op_eq (pv 4) pe_str (nomark _)) (pe_xf TK.xf TK.nf hzE hfE (pv 1)) pe_int) pa_nil))))))))))))), ?_⟩
  · refine ⟨fun pins s' σ H' D I h' => ?_⟩
    obtain ⟨Ech, hW, h1, h2, h3⟩ := h'
    refine (pss_one (ps_ret (pe_actT (i := 0) (E := Ech) (th := th) (kT := kT) (fun pins s σ H I f F tl z => (hth f F tl z).later I.base) hr (passes_call (takes_len tk) (fun cls d σ' H' e l => hW cls d σ' H' l e)) rfl (.inl (by rfl))))).run pins s' σ H' D I ?_
    exact ⟨g, F, tl, h1, ht, h2, h3⟩
  · refine ⟨_, fun cls d σ' H' hl he => ?_, rfl, hl, h⟩
    obtain ⟨w, v, ⟨i, hi, hw, rfl, hd⟩, fin⟩ := he
    refine ⟨true, TK.exm i hi, fun _ a na => ?_, fun z => by cases z⟩
    have hd0 : d = none ∨ ∃ dd fs, d = some dd ∧ H' dd = some (.xd fs) := by
      rcases hd with ⟨_, h, _⟩ | ⟨_, dd, fs, h, e, _⟩
      · exact .inl h
      · exact .inr ⟨dd, fs, h, e⟩
    match σ', hl with
    | [x0, x1, x2, x3, x4], _ =>
    simp only [cxK, cxK']
    walk_at "w"
    intro p1 n1
    walk_at "w"
    intro p2 n2
    walk_at "w"
    intro p3 n3
    walk_at "w"
    intro p4 n4
    walk_at "w"
    intro p5 n5
    walk_at "w"
    obtain ⟨b1, b2, b3, b4⟩ := told_bits i hi
    have k5 : ∀ o, Kp [] H' (upd (upd (upd (upd (upd H' p1 (.lst [V.bl (decide (i = 0)), V.bl (decide (i = 1)), V.bl (decide (i = 2)), V.bl (decide (i = 3))])) p2 (.lst [V.bl (decide (i = 4)), V.bl (decide (i = 5)), V.bl (decide (i = 6)), V.bl (decide (i = 7))])) p3 (.lst ([V.bl (decide (i = 0)), V.bl (decide (i = 1)), V.bl (decide (i = 2)), V.bl (decide (i = 3))] ++ [V.bl (decide (i = 4)), V.bl (decide (i = 5)), V.bl (decide (i = 6)), V.bl (decide (i = 7))])))
      p4 (.lst [V.bl (decide (i = 8)), V.bl (decide (i = 9))])) p5 o) := fun o => by walk_at "kp"
    refine w_cntF (n := 1) (ys := bits i) (sq_l upd_same) rfl b2 (by rw [b1]; rfl) ?_
    walk_at "w"
    intro p6 n6
    walk_at "w"
    intro p7 n7
    walk_at "w"
    intro p8 n8
    walk_at "w"
    refine w_indF (j := i) (z := .bl true) (ys := bits i) (sq_l (by walk_at "hg")) rfl b2 b3 rfl (fun m z' hm hz => ?_) ?_
    · rw [b4 m hm] at hz
      rw [← Option.some.inj hz]
      rfl
    have aw : atI nmL ((i : Nat) : Int) = some (.str w) := by
      refine atI_nat ?_
      rw [nmL_eq, List.getElem?_map, hw]
      rfl
    refine w_ixL (sq_l upd_same) aw ?_
    walk_at "w"
    by_cases ew : w = "BadText"
    · have e2 : i = 2 := (clsAt i hi).mp (by rw [hw, ew])
      rcases hd with ⟨ne, _⟩ | ⟨_, dd, fs, rfl, ed, lr⟩
      · exact absurd e2 ne
      · subst e2
        walk_at "w"
        refine ⟨V.ref a, rfl, rfl, rfl, dd, fs, v, rfl, by walk_at "hg", lr, ?_⟩
        walk_at "w"
        intro p9 n9
        exact fin p9 _ (by walk_at "kp") (by walk_at "no") upd_same
    · rcases hd with ⟨_, rfl, rfl⟩ | ⟨e2, _⟩
      · walk_at "w"
        intro p9 n9
        exact fin p9 _ (by walk_at "kp") (by walk_at "no") upd_same
      · exact absurd (by rw [(clsAt i hi).mpr e2] at hw; exact (Option.some.inj hw).symm) ew
end
end VH

namespace VH
open PySem L2 LamX
local macro_rules | `(tactic| walk_at "dT") => `(tactic| first
  | ((with_reducible apply iT); (first | assumption | omega))
  | ((with_reducible apply niT); (first | assumption | omega))
  | ((with_reducible apply sT); (first | assumption | rfl))
  | ((with_reducible apply nsT); (first | assumption | decide))
  | ((with_reducible apply nbT); (first | assumption | omega))
  | ((with_reducible apply decide_eq_true); (first | assumption | omega)))
local macro_rules | `(tactic| walk_at "dF") => `(tactic| first
  | ((with_reducible apply iF); (first | assumption | omega))
  | ((with_reducible apply niF); (first | assumption | omega))
  | ((with_reducible apply sF); (first | assumption | decide))
  | ((with_reducible apply nsF); (first | assumption | rfl))
  | ((with_reducible apply nbF); (first | assumption | omega))
  | ((with_reducible apply decide_eq_false); (first | assumption | omega)))
local macro_rules | `(tactic| walk_at "ne") => `(tactic| first | assumption | (apply Ne.symm; assumption) | (apply ne_of_none <;> assumption) | (apply Ne.symm; apply ne_of_none <;> assumption) | (apply ne_new; assumption; walk_at "hg") | (apply Ne.symm; apply ne_new; assumption; walk_at "hg"))
local macro_rules | `(tactic| walk_at "ni") => `(tactic| first | exact ni_nil | (apply ni_cons; walk_at "ne"; walk_at "ni") | assumption)
local macro_rules | `(tactic| walk_at "hg") => `(tactic| first
  | assumption
  | exact upd_same
  | (apply upd_old; assumption; walk_at "hg")
  | (apply upd_oth; walk_at "ne"; walk_at "hg")
  | (apply kp_get; assumption; walk_at "hg"; walk_at "ni"))
local macro_rules | `(tactic| walk_at "mem") => `(tactic| first | exact List.mem_cons_self | (apply List.mem_cons_of_mem; walk_at "mem") | assumption)
local macro_rules | `(tactic| walk_at "no") => `(tactic| first | assumption | (apply none_of_kp2; assumption; walk_at "kp"))
local macro_rules | `(tactic| walk_at "kp") => `(tactic| first
  | assumption
  | exact Kp.refl
  | (apply kp_new'; assumption; walk_at "kp")
  | (apply kp_setn; assumption; walk_at "kp")
  | (apply kp_set'; walk_at "mem"; walk_at "kp")
  | (apply kp_app; assumption; walk_at "kp")
  | (apply kp_app2; assumption; walk_at "kp"))
local macro_rules | `(tactic| walk_at "sz") => `(tactic| first | assumption | exact sz rfl | (apply szb; omega) | (apply szbl; omega) | (apply szb; simp only [List.length_map, List.length_cons, List.length_nil, List.length_append, List.length_set]; omega) | (apply szbl; simp only [List.length_map, List.length_cons, List.length_nil, List.length_append, List.length_set]; omega))
local macro_rules | `(tactic| walk_at "sq") => `(tactic| first
  | assumption
  | (apply sq_l; walk_at "hg")
  | (apply sq_t; walk_at "hg")
  | (apply sqL_new; assumption; walk_at "sq")
  | (apply sqT_new; assumption; walk_at "sq"))
local macro_rules | `(tactic| walk_at "w1") => `(tactic| first
  | with_reducible refine w_seq ?_
  | ((with_reducible apply w_var); exact rfl)
  | with_reducible refine w_c ?_
  | with_reducible refine w_op ?_
  | with_reducible refine w_I0 ?_
  | ((with_reducible apply w_I); (first | assumption | exact Or.inr ⟨by decide, by decide⟩ | exact Or.inl ⟨by decide, by decide⟩ | exact (by show (0 : Int) < _; decide) | exact ⟨by decide, by decide⟩ | exact Or.inl ⟨by omega, by omega⟩ | exact Or.inr ⟨by omega, by omega⟩ | exact ⟨by omega, by omega⟩ | exact (by show (0 : Int) < _; omega)))
  | with_reducible refine w_cons ?_
  | with_reducible refine w_nil ?_
  | with_reducible refine w_asg ?_
  | with_reducible refine w_gName ?_
  | with_reducible refine w_gSub ?_
  | with_reducible refine w_test ?_
  | with_reducible refine w_B ?_
  | with_reducible refine w_ret ?_
  | with_reducible refine w_drop ?_
  | with_reducible refine w_ifS ?_
  | with_reducible refine w_if ?_
  | with_reducible refine w_un ?_
  | with_reducible refine w_U ?_
  | with_reducible refine w_call ?_
  | with_reducible refine w_cb ?_
  | with_reducible refine w_lst ?_
  | with_reducible refine w_tup ?_
  | with_reducible refine w_bm ?_
  | with_reducible refine w_bm0 ?_
  | with_reducible refine w_m1 ?_
  | with_reducible refine w_for ?_
  | with_reducible refine w_iList ?_
  | with_reducible refine w_iTup ?_
  | with_reducible refine w_iStr ?_
  | with_reducible refine w_iR1 ?_
  | with_reducible refine w_iEnum ?_
  | with_reducible refine w_and ?_
  | with_reducible refine w_or ?_
  | with_reducible refine w_not ?_
  | with_reducible refine w_yes ?_
  | with_reducible refine w_isN ?_
  | ((with_reducible apply w_eq); exact rfl)
  | ((with_reducible apply w_ne); exact rfl)
  | with_reducible refine w_chain ?_
  | with_reducible refine w_andV ?_
  | with_reducible refine w_orV ?_
  | with_reducible refine w_notV ?_
  | with_reducible refine w_bl ?_
  | with_reducible refine w_fld ?_
  | with_reducible refine w_sfld ?_
  | with_reducible refine w_next ?_
  | with_reducible refine w_isZ ?_
  | with_reducible refine w_notZ ?_
  | with_reducible refine w_inS ?_
  | with_reducible refine w_notInS ?_
  | ((with_reducible apply w_ifT); exact rfl)
  | ((with_reducible apply w_ifF); exact rfl)
  | ((with_reducible apply w_ifT); walk_at "dT")
  | ((with_reducible apply w_ifF); walk_at "dF")
  | with_reducible refine w_lc ?_
  | with_reducible refine w_aStr ?_
  | ((with_reducible apply w_itL); walk_at "sq")
  | ((with_reducible apply w_itT); walk_at "sq")
  | ((with_reducible apply w_rng); (first | omega | assumption); (first | omega | assumption))
  | ((with_reducible apply w_enum); walk_at "sq")
  | ((with_reducible apply w_lenS); walk_at "sz")
  | ((with_reducible apply w_split); (first | exact rfl | assumption); walk_at "sz")
  | with_reducible refine w_slice ?_
  | with_reducible refine w_part ?_
  | with_reducible refine w_noPart ?_
  | with_reducible refine w_anInt ?_
  | ((with_reducible apply w_slL); walk_at "sq")
  | ((with_reducible apply w_cat); walk_at "hg"; walk_at "hg"; walk_at "sz")
  | ((with_reducible apply w_newSz); walk_at "sz")
  | ((with_reducible apply w_append); walk_at "hg"; walk_at "sz")
  | ((with_reducible apply w_tyD); walk_at "hg")
  | ((with_reducible apply w_gTup); walk_at "sq"; exact rfl)
  | with_reducible refine w_gCons ?_
  | with_reducible refine w_gNil ?_
  | with_reducible refine w_kget2 ?_
  | with_reducible refine w_same ?_
  | ((with_reducible apply w_kat); assumption)
  | ((with_reducible apply w_in); walk_at "sq"; (first | exact rfl | assumption); (first | assumption | exact rfl))
  | ((with_reducible apply w_strI); assumption)
  | with_reducible refine w_disp ?_
  | with_reducible refine w_pcons ?_
  | with_reducible refine w_pnil ?_
  | with_reducible refine w_dget2 ?_
  | ((with_reducible apply w_isD); walk_at "hg")
  | ((with_reducible apply w_dgS); walk_at "hg")
  | ((with_reducible apply w_dupd); walk_at "ne"; walk_at "hg"; walk_at "hg"; (first | decide | walk_at "sz"))
  | ((with_reducible apply w_catS); walk_at "sz")
  | ((with_reducible apply w_slT); walk_at "sq"; assumption)
  | ((with_reducible apply w_ixS); walk_at "sz"; (first | assumption | exact rfl))
  | ((with_reducible apply w_intS); assumption; (first | assumption | omega))
  | ((with_reducible apply w_isi); (first | exact tx_N | exact tx_B | exact tx_I | exact tx_S | (apply tx_L; walk_at "sq") | (apply tx_T; walk_at "sq")); (first | (refine (?_ : _ = some true); decide +kernel) | (refine (?_ : _ = some false); decide +kernel)))
  | ((with_reducible apply w_lenL); walk_at "sq")
  | ((with_reducible apply w_lenT); walk_at "sq")
  | ((with_reducible apply w_listL); walk_at "sq")
  | ((with_reducible apply w_listT); walk_at "sq")
  | ((with_reducible apply w_tupL); walk_at "sq")
  | with_reducible refine w_intI ?_
  | with_reducible refine w_intB ?_
  | with_reducible refine w_strS ?_
  | ((with_reducible apply w_ixXL); walk_at "sq"; (first | exact rfl | exact atI_0 | assumption))
  | ((with_reducible apply w_ixXT); walk_at "sq"; (first | exact rfl | exact atI_0 | assumption))
  | ((with_reducible apply w_tyL); walk_at "sq")
  | with_reducible refine w_tyS ?_
  | ((with_reducible apply w_popAt0); walk_at "hg")
  | ((with_reducible apply w_ixL); walk_at "sq"; (first | exact rfl | exact atI_0 | assumption))
  | ((with_reducible apply w_ixT); walk_at "sq"; (first | exact rfl | exact atI_0 | assumption))
  | ((with_reducible apply w_setL); walk_at "hg"; (first | exact rfl | exact ixN_0)))
local macro_rules | `(tactic| walk_at "w") => `(tactic| repeat walk_at "w1")

section
variable {P : Program} {w : World} {K : PySem.W.Frag} {mg : Str → Option Value} {base : Heap}
theorem w_callT {sp : TH → Sp} {mk : L2.St → TH} {E : XK} {t : TA} {σ : L2.St} {H : Hp} {Q : VK} (h : t σ H fun vs H1 => sp (mk σ) vs H1 Q E) : tCallT sp mk E t σ H Q := h
/-- each of these lambdas tells d -/
def AllR (K : PySem.W.Frag) (c : Nat → Addr) (th : TH) (due : V) (d : PyData) (l D : Addr) (all : List Addr) : List Addr → Hp → (Hp → Prop) → Prop
  | [], H, R => R H
  | f :: fs, H, R => ∃ F tl, th f F tl ∧ LamIn H f F ∧ ∀ Q' : VK, (∀ v H', Dp K H' v d → Dp K H' due d → H' D = some (.lst []) → H' l = some (.lst (all.map V.ref)) → AllR K c th due d l D all fs H' R → Q' v H') → TToldV c tl H Q'
def spAll (K : PySem.W.Frag) (c : Nat → Addr) : TH → Sp := fun th vs H Q _ => ∃ (l : Addr) (fs : List Addr) (due : V) (d : PyData), vs = [.ref l, due] ∧ okD 19 d = true ∧ fs.length ≤ 1000 ∧ H l = some (.lst (fs.map V.ref)) ∧ ∀ D, H D = none → AllR K c th due d l D fs fs (upd H D (.lst [])) fun H' => ∀ H'', Kp [] H' H'' → Q (.bl true) H''
theorem scAll : FnScope ["_law_works", "_law_due", "_law_work"] ["_law_works", "_law_due"] (defScope sAll) := ⟨rfl, rfl, rfl, by decide +kernel, rfl, by decide +kernel, by decide +kernel⟩
theorem ok_all {f fT fA : Addr} {c : Nat → Addr} {fd fdT fdA : FuncData} (F : Fun K "_law_all" "_law_all" sAll f fd) (T : Txt K mg)
    (FT : Fun K "_law_told" "_law_told" sTold fT fdT) (gT : mg "_law_told" = some (.ref fT)) (bT : Binds K fdT ["_law_work"] []) (GT : ∀ base, FnOkT P w K mg base CX0 30 31 fT fdT ["_law_work"] (spTold c))
    (FA : Fun K "_law_alike" "_law_alike" sAlike fA fdA) (gA : mg "_law_alike" = some (.ref fA)) (bA : Binds K fdA ["_law_found", "_law_due"] []) (GA : ∀ base n, FnOk P w K mg base CX0 n fA fdA ["_law_found", "_law_due"] (spAlike K n)) :
    FnOkB P w K mg base CX0 30 32 f fd ["_law_works", "_law_due"] (spAll K c) := by
  intro base2 th gr hth
  refine F.ok scAll (fun vs H Q E h => ?_) (fun cdv A outer s H vs Q E hr h => ?_)
  · obtain ⟨l, fs, due, d, rfl, _⟩ := h
    rfl
  obtain ⟨l, fs, due, d, rfl, ok, few, hl, q⟩ := h
  have hu := hu_of hr
  refine ⟨_, (pss_one (ps_ret (pe_cmpR (op_eqD hr.units) (pe_lcD (own := [("_law_work", 2)]) rfl scAll.nd (pi_list (pv 0)) (blkOk_by (N := ["_law_works", "_law_due", "_law_work"]) (sc := defScope sAll) (by decide +kernel)) (fun _ _ _ _ _ => (pg_name (i := 2) scAll.nd rfl (by first | exact Or.inl rfl | exact Or.inr rfl))) (fun _ _ _ _ _ => (pts_one (pt_not (pt_val (pe_call (GA base2 20) (hr.mono (by decide)) (by rfl) gA FA.kp bA .nil pass0 (pa_cons (pe_callT (mk := fun _ => th) (GT base2) (hr.mono (by decide)) (by rfl) gT FT.kp bT pass0 (fun pins s σ H I f F tl z => (hth f F tl z).at s H) (pa_cons (pv 2) pa_nil)) (pa_cons (pv 1) pa_nil))))))) (fun _ _ _ _ _ => (pv 2))) (pe_lst pa_nil) (nomark _)))), ?_⟩
  simp only [cxK, cxK']
  walk_at "w"
  intro D nD
  have q := q D nD
  refine lc_list (xs := fs.map V.ref) (fun i H' => AllR K c th due d l D fs (fs.drop i) H' (fun H' => ∀ H'', Kp [] H' H'' → Q (.bl true) H'') ∧ H' D = some (.lst []) ∧ H' l = some (.lst (fs.map V.ref))) ⟨q, upd_same, upd_old nD hl⟩ (fun i H' _ h => sq_l h.2.2) (fun i x H' hi h => ?_) (fun H' h => ?_)
  · obtain ⟨h, hD, hl'⟩ := h
    rw [List.getElem?_map] at hi
    cases e : fs[i]? with
    | none => rw [e] at hi; cases hi
    | some g =>
      rw [e] at hi
      cases hi
      have li := (List.getElem?_eq_some_iff.mp e).1
      have ed : fs.drop i = g :: fs.drop (i + 1) := by
        rw [List.drop_eq_getElem_cons li, (List.getElem?_eq_some_iff.mp e).2]
      rw [ed] at h
      obtain ⟨F', tl, h1, h2, h3⟩ := h
      walk_at "w"
      refine ⟨rfl, ?_⟩
      walk_at "w"
      refine w_callT ?_
      walk_at "w"
      refine ⟨g, F', tl, rfl, h1, h2, ?_⟩
      refine h3 _ fun v H2 d1 d2 hD2 hl2 h4 => ?_
      walk_at "w"
      refine ⟨v, due, d, rfl, d1, d2, ok, ?_⟩
      walk_at "w"
      exact ⟨h4, hD2, hl2⟩
  · obtain ⟨h, hD, hl'⟩ := h
    rw [List.drop_of_length_le (by simp)] at h
    walk_at "w"
    intro p np
    refine ⟨.list [], .list [], .lst (sq_l (upd_old np hD)) .nil, .lst (sq_l upd_same) .nil, rfl, rfl, ?_⟩
    exact h _ (kp_new Kp.refl np)
end
end VH

namespace VH
open PySem L2
local macro_rules | `(tactic| walk_at "dT") => `(tactic| first
  | ((with_reducible apply iT); (first | assumption | omega))
  | ((with_reducible apply niT); (first | assumption | omega))
  | ((with_reducible apply sT); (first | assumption | rfl))
  | ((with_reducible apply nsT); (first | assumption | decide))
  | ((with_reducible apply nbT); (first | assumption | omega))
  | ((with_reducible apply decide_eq_true); (first | assumption | omega)))
local macro_rules | `(tactic| walk_at "dF") => `(tactic| first
  | ((with_reducible apply iF); (first | assumption | omega))
  | ((with_reducible apply niF); (first | assumption | omega))
  | ((with_reducible apply sF); (first | assumption | decide))
  | ((with_reducible apply nsF); (first | assumption | rfl))
  | ((with_reducible apply nbF); (first | assumption | omega))
  | ((with_reducible apply decide_eq_false); (first | assumption | omega)))
local macro_rules | `(tactic| walk_at "ne") => `(tactic| first | assumption | (apply Ne.symm; assumption) | (apply ne_of_none <;> assumption) | (apply Ne.symm; apply ne_of_none <;> assumption) | (apply ne_new; assumption; walk_at "hg") | (apply Ne.symm; apply ne_new; assumption; walk_at "hg"))
local macro_rules | `(tactic| walk_at "ni") => `(tactic| first | exact ni_nil | (apply ni_cons; walk_at "ne"; walk_at "ni") | assumption)
local macro_rules | `(tactic| walk_at "hg") => `(tactic| first
  | assumption
  | exact upd_same
  | (apply upd_old; assumption; walk_at "hg")
  | (apply upd_oth; walk_at "ne"; walk_at "hg")
  | (apply kp_get; assumption; walk_at "hg"; walk_at "ni"))
local macro_rules | `(tactic| walk_at "mem") => `(tactic| first | exact List.mem_cons_self | (apply List.mem_cons_of_mem; walk_at "mem") | assumption)
local macro_rules | `(tactic| walk_at "no") => `(tactic| first | assumption | (apply none_of_kp2; assumption; walk_at "kp"))
local macro_rules | `(tactic| walk_at "kp") => `(tactic| first
  | assumption
  | exact Kp.refl
  | (apply kp_new'; assumption; walk_at "kp")
  | (apply kp_setn; assumption; walk_at "kp")
  | (apply kp_set'; walk_at "mem"; walk_at "kp")
  | (apply kp_app; assumption; walk_at "kp")
  | (apply kp_app2; assumption; walk_at "kp"))
local macro_rules | `(tactic| walk_at "sz") => `(tactic| first | assumption | exact sz rfl | (apply szb; omega) | (apply szbl; omega) | (apply szb; simp only [List.length_map, List.length_cons, List.length_nil, List.length_append, List.length_set]; omega) | (apply szbl; simp only [List.length_map, List.length_cons, List.length_nil, List.length_append, List.length_set]; omega))
local macro_rules | `(tactic| walk_at "sq") => `(tactic| first
  | assumption
  | (apply sq_l; walk_at "hg")
  | (apply sq_t; walk_at "hg")
  | (apply sqL_new; assumption; walk_at "sq")
  | (apply sqT_new; assumption; walk_at "sq"))
local macro_rules | `(tactic| walk_at "w1") => `(tactic| first
  | with_reducible refine w_seq ?_
  | ((with_reducible apply w_var); exact rfl)
  | with_reducible refine w_c ?_
  | with_reducible refine w_op ?_
  | with_reducible refine w_I0 ?_
  | ((with_reducible apply w_I); (first | assumption | exact Or.inr ⟨by decide, by decide⟩ | exact Or.inl ⟨by decide, by decide⟩ | exact (by show (0 : Int) < _; decide) | exact ⟨by decide, by decide⟩ | exact Or.inl ⟨by omega, by omega⟩ | exact Or.inr ⟨by omega, by omega⟩ | exact ⟨by omega, by omega⟩ | exact (by show (0 : Int) < _; omega)))
  | with_reducible refine w_cons ?_
  | with_reducible refine w_nil ?_
  | with_reducible refine w_asg ?_
  | with_reducible refine w_gName ?_
  | with_reducible refine w_gSub ?_
  | with_reducible refine w_test ?_
  | with_reducible refine w_B ?_
  | with_reducible refine w_ret ?_
  | with_reducible refine w_drop ?_
  | with_reducible refine w_ifS ?_
  | with_reducible refine w_if ?_
  | with_reducible refine w_un ?_
  | with_reducible refine w_U ?_
  | with_reducible refine w_call ?_
  | with_reducible refine w_cb ?_
  | with_reducible refine w_lst ?_
  | with_reducible refine w_tup ?_
  | with_reducible refine w_bm ?_
  | with_reducible refine w_bm0 ?_
  | with_reducible refine w_m1 ?_
  | with_reducible refine w_for ?_
  | with_reducible refine w_iList ?_
  | with_reducible refine w_iTup ?_
  | with_reducible refine w_iStr ?_
  | with_reducible refine w_iR1 ?_
  | with_reducible refine w_iEnum ?_
  | with_reducible refine w_and ?_
  | with_reducible refine w_or ?_
  | with_reducible refine w_not ?_
  | with_reducible refine w_yes ?_
  | with_reducible refine w_isN ?_
  | ((with_reducible apply w_eq); exact rfl)
  | ((with_reducible apply w_ne); exact rfl)
  | with_reducible refine w_chain ?_
  | with_reducible refine w_andV ?_
  | with_reducible refine w_orV ?_
  | with_reducible refine w_notV ?_
  | with_reducible refine w_bl ?_
  | with_reducible refine w_fld ?_
  | with_reducible refine w_sfld ?_
  | with_reducible refine w_next ?_
  | with_reducible refine w_isZ ?_
  | with_reducible refine w_notZ ?_
  | with_reducible refine w_inS ?_
  | with_reducible refine w_notInS ?_
  | ((with_reducible apply w_ifT); exact rfl)
  | ((with_reducible apply w_ifF); exact rfl)
  | ((with_reducible apply w_ifT); walk_at "dT")
  | ((with_reducible apply w_ifF); walk_at "dF")
  | with_reducible refine w_lc ?_
  | with_reducible refine w_aStr ?_
  | ((with_reducible apply w_itL); walk_at "sq")
  | ((with_reducible apply w_itT); walk_at "sq")
  | ((with_reducible apply w_rng); (first | omega | assumption); (first | omega | assumption))
  | ((with_reducible apply w_enum); walk_at "sq")
  | ((with_reducible apply w_lenS); walk_at "sz")
  | ((with_reducible apply w_split); (first | exact rfl | assumption); walk_at "sz")
  | with_reducible refine w_slice ?_
  | with_reducible refine w_part ?_
  | with_reducible refine w_noPart ?_
  | with_reducible refine w_anInt ?_
  | ((with_reducible apply w_slL); walk_at "sq")
  | ((with_reducible apply w_cat); walk_at "hg"; walk_at "hg"; walk_at "sz")
  | ((with_reducible apply w_newSz); walk_at "sz")
  | ((with_reducible apply w_append); walk_at "hg"; walk_at "sz")
  | ((with_reducible apply w_tyD); walk_at "hg")
  | ((with_reducible apply w_gTup); walk_at "sq"; exact rfl)
  | with_reducible refine w_gCons ?_
  | with_reducible refine w_gNil ?_
  | with_reducible refine w_kget2 ?_
  | with_reducible refine w_same ?_
  | ((with_reducible apply w_kat); assumption)
  | ((with_reducible apply w_in); walk_at "sq"; (first | exact rfl | assumption); (first | assumption | exact rfl))
  | ((with_reducible apply w_strI); assumption)
  | with_reducible refine w_disp ?_
  | with_reducible refine w_pcons ?_
  | with_reducible refine w_pnil ?_
  | with_reducible refine w_dget2 ?_
  | ((with_reducible apply w_isD); walk_at "hg")
  | ((with_reducible apply w_dgS); walk_at "hg")
  | ((with_reducible apply w_dupd); walk_at "ne"; walk_at "hg"; walk_at "hg"; (first | decide | walk_at "sz"))
  | ((with_reducible apply w_catS); walk_at "sz")
  | ((with_reducible apply w_slT); walk_at "sq"; assumption)
  | ((with_reducible apply w_ixS); walk_at "sz"; (first | assumption | exact rfl))
  | ((with_reducible apply w_intS); assumption; (first | assumption | omega))
  | ((with_reducible apply w_isi); (first | exact tx_N | exact tx_B | exact tx_I | exact tx_S | (apply tx_L; walk_at "sq") | (apply tx_T; walk_at "sq")); (first | (refine (?_ : _ = some true); decide +kernel) | (refine (?_ : _ = some false); decide +kernel)))
  | ((with_reducible apply w_lenL); walk_at "sq")
  | ((with_reducible apply w_lenT); walk_at "sq")
  | ((with_reducible apply w_listL); walk_at "sq")
  | ((with_reducible apply w_listT); walk_at "sq")
  | ((with_reducible apply w_tupL); walk_at "sq")
  | with_reducible refine w_intI ?_
  | with_reducible refine w_intB ?_
  | with_reducible refine w_strS ?_
  | ((with_reducible apply w_ixXL); walk_at "sq"; (first | exact rfl | exact atI_0 | assumption))
  | ((with_reducible apply w_ixXT); walk_at "sq"; (first | exact rfl | exact atI_0 | assumption))
  | ((with_reducible apply w_tyL); walk_at "sq")
  | with_reducible refine w_tyS ?_
  | ((with_reducible apply w_popAt0); walk_at "hg")
  | ((with_reducible apply w_ixL); walk_at "sq"; (first | exact rfl | exact atI_0 | assumption))
  | ((with_reducible apply w_ixT); walk_at "sq"; (first | exact rfl | exact atI_0 | assumption))
  | ((with_reducible apply w_setL); walk_at "hg"; (first | exact rfl | exact ixN_0)))
local macro_rules | `(tactic| walk_at "w") => `(tactic| repeat walk_at "w1")

section
variable {P : Program} {w : World} {K : PySem.W.Frag} {mg : Str → Option Value} {base : Heap}
/-- a scalar that may be handed in as a number -/
def Sca : V → Prop
  | .int _ => True
  | .bl _ => True
  | .non => True
  | .str _ => True
  | _ => False
def spIsNum : Sp := fun vs H Q _ => ∃ (v : V) (lo hi : Int), vs = [v, .int lo, .int hi] ∧ Sca v ∧ Q (.bl (numOk v lo hi)) H
theorem scIsNum : FnScope ["part", "low", "high"] ["part", "low", "high"] (defScope sIsNum) := ⟨rfl, rfl, rfl, by decide +kernel, rfl, by decide +kernel, by decide +kernel⟩
theorem ok_isnum {f : Addr} {fd : FuncData} (F : Fun K "is_number" "is_number" sIsNum f fd) (T : Txt K mg) : FnOk P w K mg base CX0 1 f fd ["part", "low", "high"] spIsNum := by
  refine F.ok scIsNum (fun vs H Q E h => ?_) (fun cdv A outer s H vs Q E hr h => ?_)
  · obtain ⟨v, lo, hi, rfl, _⟩ := h
    rfl
  · obtain ⟨v, lo, hi, rfl, hs, q⟩ := h
    have hu := hu_of hr
    refine ⟨_, (pss_one (ps_ret (pe_and (pe_callB call_isi (by rfl) T.isinstance (by decide +kernel) (pa_cons (pv 0) (pa_cons (pe_bltn (v := .ty "int") (by rfl) T.int (by decide +kernel) rfl) pa_nil))) (pe_and (pe_not (pe_callB call_isi (by rfl) T.isinstance (by decide +kernel) (pa_cons (pv 0) (pa_cons (pe_bltn (v := .ty "bool") (by rfl) T.bool (by decide +kernel) rfl) pa_nil)))) (pe_one (pe_chain op_le op_le (pv 1) (pv 0) (pv 2))))))), ?_⟩
    simp only [cxK, cxK']
    cases v with
    | int i =>
      walk_at "w"
      by_cases h1 : lo ≤ i
      · refine w_ifT (decide_eq_true h1) ?_
        walk_at "w"
        by_cases h2 : i ≤ hi
        · have e : numOk (.int i) lo hi = true := decide_eq_true ⟨h1, h2⟩
          rw [e] at q
          rw [decide_eq_true h2]
          exact q
        · have e : numOk (.int i) lo hi = false := decide_eq_false fun z => h2 z.2
          rw [e] at q
          rw [decide_eq_false h2]
          exact q
      · have e : numOk (.int i) lo hi = false := decide_eq_false fun z => h1 z.1
        rw [e] at q
        refine w_ifF (decide_eq_false h1) ?_
        exact q
    | bl b =>
      walk_at "w"
      exact q
    | non =>
      walk_at "w"
      exact q
    | str z =>
      walk_at "w"
      exact q
    | _ => exact hs.elim
end
end VH

namespace VH
open PySem L2
local macro_rules | `(tactic| walk_at "dT") => `(tactic| first
  | ((with_reducible apply iT); (first | assumption | omega))
  | ((with_reducible apply niT); (first | assumption | omega))
  | ((with_reducible apply sT); (first | assumption | rfl))
  | ((with_reducible apply nsT); (first | assumption | decide))
  | ((with_reducible apply nbT); (first | assumption | omega))
  | ((with_reducible apply decide_eq_true); (first | assumption | omega)))
local macro_rules | `(tactic| walk_at "dF") => `(tactic| first
  | ((with_reducible apply iF); (first | assumption | omega))
  | ((with_reducible apply niF); (first | assumption | omega))
  | ((with_reducible apply sF); (first | assumption | decide))
  | ((with_reducible apply nsF); (first | assumption | rfl))
  | ((with_reducible apply nbF); (first | assumption | omega))
  | ((with_reducible apply decide_eq_false); (first | assumption | omega)))
local macro_rules | `(tactic| walk_at "ne") => `(tactic| first | assumption | (apply Ne.symm; assumption) | (apply ne_of_none <;> assumption) | (apply Ne.symm; apply ne_of_none <;> assumption) | (apply ne_new; assumption; walk_at "hg") | (apply Ne.symm; apply ne_new; assumption; walk_at "hg"))
local macro_rules | `(tactic| walk_at "ni") => `(tactic| first | exact ni_nil | (apply ni_cons; walk_at "ne"; walk_at "ni") | assumption)
local macro_rules | `(tactic| walk_at "hg") => `(tactic| first
  | assumption
  | exact upd_same
  | (apply upd_old; assumption; walk_at "hg")
  | (apply upd_oth; walk_at "ne"; walk_at "hg")
  | (apply kp_get; assumption; walk_at "hg"; walk_at "ni"))
local macro_rules | `(tactic| walk_at "mem") => `(tactic| first | exact List.mem_cons_self | (apply List.mem_cons_of_mem; walk_at "mem") | assumption)
local macro_rules | `(tactic| walk_at "no") => `(tactic| first | assumption | (apply none_of_kp2; assumption; walk_at "kp"))
local macro_rules | `(tactic| walk_at "kp") => `(tactic| first
  | assumption
  | exact Kp.refl
  | (apply kp_new'; assumption; walk_at "kp")
  | (apply kp_setn; assumption; walk_at "kp")
  | (apply kp_set'; walk_at "mem"; walk_at "kp")
  | (apply kp_app; assumption; walk_at "kp")
  | (apply kp_app2; assumption; walk_at "kp"))
local macro_rules | `(tactic| walk_at "sz") => `(tactic| first | assumption | exact sz rfl | (apply szb; omega) | (apply szbl; omega) | (apply szb; simp only [List.length_map, List.length_cons, List.length_nil, List.length_append, List.length_set]; omega) | (apply szbl; simp only [List.length_map, List.length_cons, List.length_nil, List.length_append, List.length_set]; omega))
local macro_rules | `(tactic| walk_at "sq") => `(tactic| first
  | assumption
  | (apply sq_l; walk_at "hg")
  | (apply sq_t; walk_at "hg")
  | (apply sqL_new; assumption; walk_at "sq")
  | (apply sqT_new; assumption; walk_at "sq"))
local macro_rules | `(tactic| walk_at "w1") => `(tactic| first
  | with_reducible refine w_seq ?_
  | ((with_reducible apply w_var); exact rfl)
  | with_reducible refine w_c ?_
  | with_reducible refine w_op ?_
  | with_reducible refine w_I0 ?_
  | ((with_reducible apply w_I); (first | assumption | exact Or.inr ⟨by decide, by decide⟩ | exact Or.inl ⟨by decide, by decide⟩ | exact (by show (0 : Int) < _; decide) | exact ⟨by decide, by decide⟩ | exact Or.inl ⟨by omega, by omega⟩ | exact Or.inr ⟨by omega, by omega⟩ | exact ⟨by omega, by omega⟩ | exact (by show (0 : Int) < _; omega)))
  | with_reducible refine w_cons ?_
  | with_reducible refine w_nil ?_
  | with_reducible refine w_asg ?_
  | with_reducible refine w_gName ?_
  | with_reducible refine w_gSub ?_
  | with_reducible refine w_test ?_
  | with_reducible refine w_B ?_
  | with_reducible refine w_ret ?_
  | with_reducible refine w_drop ?_
  | with_reducible refine w_ifS ?_
  | with_reducible refine w_if ?_
  | with_reducible refine w_un ?_
  | with_reducible refine w_U ?_
  | with_reducible refine w_call ?_
  | with_reducible refine w_cb ?_
  | with_reducible refine w_lst ?_
  | with_reducible refine w_tup ?_
  | with_reducible refine w_bm ?_
  | with_reducible refine w_bm0 ?_
  | with_reducible refine w_m1 ?_
  | with_reducible refine w_for ?_
  | with_reducible refine w_iList ?_
  | with_reducible refine w_iTup ?_
  | with_reducible refine w_iStr ?_
  | with_reducible refine w_iR1 ?_
  | with_reducible refine w_iEnum ?_
  | with_reducible refine w_and ?_
  | with_reducible refine w_or ?_
  | with_reducible refine w_not ?_
  | with_reducible refine w_yes ?_
  | with_reducible refine w_isN ?_
  | ((with_reducible apply w_eq); exact rfl)
  | ((with_reducible apply w_ne); exact rfl)
  | with_reducible refine w_chain ?_
  | with_reducible refine w_andV ?_
  | with_reducible refine w_orV ?_
  | with_reducible refine w_notV ?_
  | with_reducible refine w_bl ?_
  | with_reducible refine w_fld ?_
  | with_reducible refine w_sfld ?_
  | with_reducible refine w_next ?_
  | with_reducible refine w_isZ ?_
  | with_reducible refine w_notZ ?_
  | with_reducible refine w_inS ?_
  | with_reducible refine w_notInS ?_
  | ((with_reducible apply w_ifT); exact rfl)
  | ((with_reducible apply w_ifF); exact rfl)
  | ((with_reducible apply w_ifT); walk_at "dT")
  | ((with_reducible apply w_ifF); walk_at "dF")
  | with_reducible refine w_lc ?_
  | with_reducible refine w_aStr ?_
  | ((with_reducible apply w_itL); walk_at "sq")
  | ((with_reducible apply w_itT); walk_at "sq")
  | ((with_reducible apply w_rng); (first | omega | assumption); (first | omega | assumption))
  | ((with_reducible apply w_enum); walk_at "sq")
  | ((with_reducible apply w_lenS); walk_at "sz")
  | ((with_reducible apply w_split); (first | exact rfl | assumption); walk_at "sz")
  | with_reducible refine w_slice ?_
  | with_reducible refine w_part ?_
  | with_reducible refine w_noPart ?_
  | with_reducible refine w_anInt ?_
  | ((with_reducible apply w_slL); walk_at "sq")
  | ((with_reducible apply w_cat); walk_at "hg"; walk_at "hg"; walk_at "sz")
  | ((with_reducible apply w_newSz); walk_at "sz")
  | ((with_reducible apply w_append); walk_at "hg"; walk_at "sz")
  | ((with_reducible apply w_tyD); walk_at "hg")
  | ((with_reducible apply w_gTup); walk_at "sq"; exact rfl)
  | with_reducible refine w_gCons ?_
  | with_reducible refine w_gNil ?_
  | with_reducible refine w_kget2 ?_
  | with_reducible refine w_same ?_
  | ((with_reducible apply w_kat); assumption)
  | ((with_reducible apply w_in); walk_at "sq"; (first | exact rfl | assumption); (first | assumption | exact rfl))
  | ((with_reducible apply w_strI); assumption)
  | with_reducible refine w_disp ?_
  | with_reducible refine w_pcons ?_
  | with_reducible refine w_pnil ?_
  | with_reducible refine w_dget2 ?_
  | ((with_reducible apply w_isD); walk_at "hg")
  | ((with_reducible apply w_dgS); walk_at "hg")
  | ((with_reducible apply w_dupd); walk_at "ne"; walk_at "hg"; walk_at "hg"; (first | decide | walk_at "sz"))
  | ((with_reducible apply w_catS); walk_at "sz")
  | ((with_reducible apply w_slT); walk_at "sq"; assumption)
  | ((with_reducible apply w_ixS); walk_at "sz"; (first | assumption | exact rfl))
  | ((with_reducible apply w_intS); assumption; (first | assumption | omega))
  | ((with_reducible apply w_isi); (first | exact tx_N | exact tx_B | exact tx_I | exact tx_S | (apply tx_L; walk_at "sq") | (apply tx_T; walk_at "sq")); (first | (refine (?_ : _ = some true); decide +kernel) | (refine (?_ : _ = some false); decide +kernel)))
  | ((with_reducible apply w_lenL); walk_at "sq")
  | ((with_reducible apply w_lenT); walk_at "sq")
  | ((with_reducible apply w_listL); walk_at "sq")
  | ((with_reducible apply w_listT); walk_at "sq")
  | ((with_reducible apply w_tupL); walk_at "sq")
  | with_reducible refine w_intI ?_
  | with_reducible refine w_intB ?_
  | with_reducible refine w_strS ?_
  | ((with_reducible apply w_ixXL); walk_at "sq"; (first | exact rfl | exact atI_0 | assumption))
  | ((with_reducible apply w_ixXT); walk_at "sq"; (first | exact rfl | exact atI_0 | assumption))
  | ((with_reducible apply w_tyL); walk_at "sq")
  | with_reducible refine w_tyS ?_
  | ((with_reducible apply w_popAt0); walk_at "hg")
  | ((with_reducible apply w_ixL); walk_at "sq"; (first | exact rfl | exact atI_0 | assumption))
  | ((with_reducible apply w_ixT); walk_at "sq"; (first | exact rfl | exact atI_0 | assumption))
  | ((with_reducible apply w_setL); walk_at "hg"; (first | exact rfl | exact ixN_0)))
local macro_rules | `(tactic| walk_at "w") => `(tactic| repeat walk_at "w1")

/-! ### own errors without a field -/
structure ErrC (K : PySem.W.Frag) (mg : Str → Option Value) (x : Str) (C : Addr) : Prop where
  g : mg x = some (.ref C)
  q : PySem.W.excIn K C [.type "ValueError", .type "Exception", .type "BaseException", .type "object"] "ValueError.__new__" = true
  k : PySem.W.keepIn K (.ref C) = true
  s : PySem.W.subIn K (.ref C) (.type "BaseException") = some true
  t : PySem.W.typeIn K (.ref C) = some (.type "type")
theorem ErrC.r {X : Cx} {x : Str} {C : Addr} (e : ErrC X.K X.mg x C) : Raises X (.ref C) := raises_own e.s e.t
section
variable {P : Program} {w : World} {K : PySem.W.Frag} {mg : Str → Option Value} {base : Heap}
theorem pass_cx {N : List Str} {qual : Str} {scope : Scope} {f : Addr} {cd : Value} {A : Around} {outer : List Env} {s : Shared} {H : Hp} {E : XK} : Passes (L2.CX P w) (cxOf (L2.CX P w) P w K mg base N qual scope f cd A outer s H E) E :=
  passes_call (takes_of rfl rfl rfl rfl) fun _ _ _ _ h => h
/-! ### a bench on the heap -/
structure DAd where
  a : Addr
  dx : Addr
  p : Addr
  qs : List Addr
def fpD (d : DAd) : List Addr := d.a :: d.p :: d.qs
def fpB (bn l : Addr) (ds : List DAd) : List Addr := bn :: l :: ds.flatMap fpD
def leftV : Option Int → V
  | none => .non
  | some i => .int i
def benchF (l : Addr) (B : BenchS) : List (Str × V) := [("disks", .ref l), ("left", leftV B.left), ("stands", .bl B.stands), ("many", .int B.many)]
def diskF (d : DAd) (D : DiskS) : List (Str × V) := [("pieces", .ref d.p), ("paper", D.paper), ("here", .bl D.here)]
structure DiskAt (CD : Addr) (H : Hp) (d : DAd) (D : DiskS) : Prop where
  a : H d.a = some (.ins CD d.dx (diskF d D))
  p : H d.p = some (.lst (d.qs.map V.ref))
  n : d.qs.length = D.pieces.length
  q : ∀ (i : Nat) (x : Addr) (r : List Int), d.qs[i]? = some x → D.pieces[i]? = some r → H x = some (.lst (r.map V.int))
  few : D.pieces.length ≤ 12
  four : ∀ r ∈ D.pieces, r.length = 4
structure BenchAt (CB CD : Addr) (H : Hp) (bn dx l : Addr) (ds : List DAd) (B : BenchS) : Prop where
  eb : H bn = some (.ins CB dx (benchF l B))
  el : H l = some (.lst (ds.map fun d => V.ref d.a))
  en : ds.length = B.disks.length
  ed : ∀ (i : Nat) (d : DAd) (D : DiskS), ds[i]? = some d → B.disks[i]? = some D → DiskAt CD H d D
  nd : (fpB bn l ds).Nodup
  few : B.disks.length ≤ 6
theorem DiskAt.keep {CD : Addr} {H H' : Hp} {d : DAd} {D : DiskS} (A : DiskAt CD H d D) (k : ∀ a ∈ fpD d, H' a = H a) : DiskAt CD H' d D :=
  ⟨(k _ List.mem_cons_self).trans A.a, (k _ (List.mem_cons_of_mem _ List.mem_cons_self)).trans A.p, A.n, fun i x r h1 h2 => (k _ (List.mem_cons_of_mem _ (List.mem_cons_of_mem _ (List.mem_of_getElem? h1)))).trans (A.q i x r h1 h2), A.few, A.four⟩
theorem mem_fp {bn l : Addr} {ds : List DAd} {i : Nat} {d : DAd} {a : Addr} (h : ds[i]? = some d) (m : a ∈ fpD d) : a ∈ fpB bn l ds :=
  List.mem_cons_of_mem _ (List.mem_cons_of_mem _ (List.mem_flatMap.mpr ⟨d, List.mem_of_getElem? h, m⟩))
theorem BenchAt.keep {CB CD : Addr} {H H' : Hp} {bn dx l : Addr} {ds : List DAd} {B : BenchS} (A : BenchAt CB CD H bn dx l ds B) (k : ∀ a ∈ fpB bn l ds, H' a = H a) : BenchAt CB CD H' bn dx l ds B :=
  ⟨(k _ List.mem_cons_self).trans A.eb, (k _ (List.mem_cons_of_mem _ List.mem_cons_self)).trans A.el, A.en, fun i d D h1 h2 => (A.ed i d D h1 h2).keep fun a m => k a (mem_fp h1 m), A.nd, A.few⟩
/-- every address of a bench is in use -/
theorem BenchAt.used {CB CD : Addr} {H : Hp} {bn dx l : Addr} {ds : List DAd} {B : BenchS} (A : BenchAt CB CD H bn dx l ds B) : ∀ a ∈ fpB bn l ds, ∃ o, H a = some o := by
  intro a m
  rcases List.mem_cons.mp m with rfl | m
  · exact ⟨_, A.eb⟩
  rcases List.mem_cons.mp m with rfl | m
  · exact ⟨_, A.el⟩
  obtain ⟨d, hd, m⟩ := List.mem_flatMap.mp m
  obtain ⟨i, hi⟩ := List.mem_iff_getElem?.mp hd
  have li : i < B.disks.length := by rw [← A.en]; exact (List.getElem?_eq_some_iff.mp hi).1
  have D := A.ed i d _ hi (List.getElem?_eq_getElem li)
  rcases List.mem_cons.mp m with rfl | m
  · exact ⟨_, D.a⟩
  rcases List.mem_cons.mp m with rfl | m
  · exact ⟨_, D.p⟩
  obtain ⟨j, hj⟩ := List.mem_iff_getElem?.mp m
  have lj : j < (B.disks[i]).pieces.length := by rw [← D.n]; exact (List.getElem?_eq_some_iff.mp hj).1
  exact ⟨_, D.q j a _ hj (List.getElem?_eq_getElem lj)⟩
theorem BenchAt.kp {CB CD : Addr} {H H' : Hp} {F : List Addr} {bn dx l : Addr} {ds : List DAd} {B : BenchS} (A : BenchAt CB CD H bn dx l ds B) (k : Kp F H H') (dj : ∀ a ∈ fpB bn l ds, a ∉ F) : BenchAt CB CD H' bn dx l ds B :=
  A.keep fun a m => let ⟨o, e⟩ := A.used a m; (k.k a o e (dj a m)).trans e.symm
/-- the bench's own fields changed -/
theorem BenchAt.own {CB CD : Addr} {H : Hp} {bn dx l : Addr} {ds : List DAd} {B B' : BenchS} (A : BenchAt CB CD H bn dx l ds B) (e : B'.disks = B.disks) : BenchAt CB CD (upd H bn (.ins CB dx (benchF l B'))) bn dx l ds B' := by
  have nb : ∀ a ∈ l :: ds.flatMap fpD, a ≠ bn := fun a m z => (List.nodup_cons.mp A.nd).1 (by rw [← z]; exact m)
  refine ⟨upd_same, ?_, by rw [e]; exact A.en, fun i d D h1 h2 => ?_, A.nd, by rw [e]; exact A.few⟩
  · rw [upd_ne (nb _ List.mem_cons_self)]
    exact A.el
  · rw [e] at h2
    refine (A.ed i d D h1 h2).keep fun a m => upd_ne (nb a (List.mem_cons_of_mem _ (List.mem_flatMap.mpr ⟨d, List.mem_of_getElem? h1, m⟩)))
/-- the classes -/
structure BenchK (K : PySem.W.Frag) (CB CD : Addr) : Prop where
  cB : Cls K CB
  cD : Cls K CD
  n1 : NoAttr K CB "disks"
  n2 : NoAttr K CB "left"
  n3 : NoAttr K CB "stands"
  n4 : NoAttr K CB "many"
  n5 : NoAttr K CD "pieces"
  n6 : NoAttr K CD "paper"
  n7 : NoAttr K CD "here"
section
variable {σ : L2.St} {H : Hp} {D : Ends}
theorem ltF {n : Nat} (h : Nat.ble (n + 1) 1000 = true) : n < 1000 := Nat.le_of_ble_eq_true h
theorem w_insF {a C dx : Addr} {fs : List (Str × V)} {f : Str} {v : V} {R : V → Prop} (e : H a = some (.ins C dx fs)) (c : Cls K C) (n : NoAttr K C f) (l : fs.lookup f = some v) (h : R v) :
    ∃ a' C dx fs v', V.ref a = .ref a' ∧ H a' = some (.ins C dx fs) ∧ Cls K C ∧ NoAttr K C f ∧ fs.lookup f = some v' ∧ R v' := ⟨a, C, dx, fs, v, rfl, e, c, n, l, h⟩
theorem w_insM {a C dx : Addr} {fs : List (Str × V)} {m : Str} {R : Prop} (e : H a = some (.ins C dx fs)) (l : fs.lookup m = none) (h : R) : ∃ a' dx fs, V.ref a = .ref a' ∧ H a' = some (.ins C dx fs) ∧ fs.lookup m = none ∧ R := ⟨a, dx, fs, rfl, e, l, h⟩
theorem w_meth {C : Addr} {m : Str} {sp : Sp} {dvs : List V} {E : XK} {ta : TE} {t : TA} {Q : VK} (h : ta σ H fun x H1 => ∃ a dx fs, x = .ref a ∧ H1 a = some (.ins C dx fs) ∧ fs.lookup m = none ∧ t σ H1 fun vs H2 => sp (x :: (vs ++ dvs)) H2 Q E) : tMeth C m sp dvs E ta t σ H Q := h
theorem w_setF {a C dx : Addr} {fs fs' : List (Str × V)} {f : Str} {y : V} (e : H a = some (.ins C dx fs)) (c : Cls K C) (n : NoAttr K C f) (l : fs.length < 1000) (p : putF f y fs = fs') (h : D.nx σ (upd H a (.ins C dx fs'))) :
    ∃ a' C dx fs, V.ref a = .ref a' ∧ H a' = some (.ins C dx fs) ∧ Cls K C ∧ NoAttr K C f ∧ fs.length < 1000 ∧ D.nx σ (upd H a' (.ins C dx (putF f y fs))) := ⟨a, C, dx, fs, rfl, e, c, n, l, by rw [p]; exact h⟩
end
local macro_rules | `(tactic| walk_at "w1") => `(tactic| first
  | ((with_reducible apply w_insF); walk_at "hg"; assumption; assumption; exact rfl)
  | with_reducible refine w_meth ?_
  | ((with_reducible apply w_insM); walk_at "hg"; exact rfl)
  | ((with_reducible apply w_setF); walk_at "hg"; assumption; assumption; exact ltF rfl; exact rfl))
def spDisk (c : Nat → Addr) (CB CD : Addr) : Sp := fun vs H Q E => ∃ (bn dx l : Addr) (ds : List DAd) (B : BenchS) (v : V), vs = [.ref bn, v] ∧ BenchAt CB CD H bn dx l ds B ∧ Sca v ∧
  match B.disk v with
  | .bad k => E (.ref (c k)) none H
  | .ok i => ∀ d, ds[i]? = some d → Q (.ref d.a) H
theorem scBDisk : FnScope ["self", "number"] ["self", "number"] (defScope sBDisk) := ⟨rfl, rfl, rfl, by decide +kernel, rfl, by decide +kernel, by decide +kernel⟩
theorem ok_disk {f fN CB CD : Addr} {c : Nat → Addr} {fd fdN : FuncData} (F : Fun K "disk" "Bench.disk" sBDisk f fd) (T : Txt K mg) (BK : BenchK K CB CD) (eStopped : ErrC K mg "Stopped" (c 9)) (eNoDisk : ErrC K mg "NoDisk" (c 7))
    (FN : Fun K "is_number" "is_number" sIsNum fN fdN) (bN : Binds K fdN ["part", "low", "high"] []) (gN : mg "is_number" = some (.ref fN)) (GN : FnOk P w K mg base CX0 1 fN fdN ["part", "low", "high"] spIsNum) :
    FnOk P w K mg base (L2.CX P w) 2 f fd ["self", "number"] (spDisk c CB CD) := by
  refine F.okX scBDisk (fun vs H Q E h => ?_) (fun cdv A outer s H vs Q E hr h => ?_)
  · obtain ⟨bn, dx, l, ds, B, v, rfl, _⟩ := h
    rfl
  · obtain ⟨bn, dx, l, ds, B, v, rfl, A, sc, q⟩ := h
    have hu := hu_of hr
    obtain ⟨cB, cD, n1, n2, n3, n4, n5, n6, n7⟩ := BK
    have eb := A.eb
    have el := A.el
    refine ⟨_, (pss_cons (ps_if (pt_val (pe_fld (pv 0) rfl)) (pss_one (ps_raise rfl (takes_of rfl rfl rfl rfl) (pmk_own PySem.F.excBase_ValueError eStopped.q eStopped.g eStopped.k eStopped.r (by rfl)))) pss_nil)
    (pss_cons (ps_if (PW.pt (pw_or (pt_not (pt_val (pe_call GN (hr.mono (by decide)) (by rfl) gN FN.kp bN .nil pass0 (pa_cons (pv 1) (pa_cons pe_int (pa_cons (pe_op op_sub (pe_callB cr_lenL (by rfl) T.len (by decide +kernel) (pa_cons (pe_fld (pv 0) rfl) pa_nil)) pe_int) pa_nil)))))) (pw_or1 (pt_not (pt_val (pe_fld (pe_ix ix_list (pe_fld (pv 0) rfl) (pv 1) (fun _ _ => rfl)) rfl)))))) (pss_one (ps_raise rfl (takes_of rfl rfl rfl rfl) (pmk_own PySem.F.excBase_ValueError eNoDisk.q eNoDisk.g eNoDisk.k eNoDisk.r (by rfl)))) pss_nil)
    (pss_one (ps_ret (pe_ix ix_list (pe_fld (pv 0) rfl) (pv 1) (fun _ _ => rfl)))))), ?_⟩
    simp only [cxK, cxK']
    walk_at "w"
    cases hs : B.stands with
    | true =>
      rw [disk_stands hs] at q
      exact iteT q
    | false =>
      refine iteF ?_
      walk_at "w"
      refine ⟨v, 0, _, rfl, sc, ?_⟩
      rw [show (((ds.map fun d => V.ref d.a).length : Int) - 1) = (B.disks.length : Int) - 1 by rw [List.length_map, A.en]]
      cases hn : numOk v 0 ((B.disks.length : Int) - 1) with
      | false =>
        rw [disk_none hs hn] at q
        walk_at "w"
        exact q
      | true =>
        obtain ⟨i, rfl, h0, h1⟩ := numOk_int hn
        obtain ⟨j, rfl⟩ : ∃ j : Nat, i = j := ⟨i.toNat, by omega⟩
        have lj : j < B.disks.length := by omega
        have hD := List.getElem?_eq_getElem lj
        have ld : j < ds.length := by rw [A.en]; exact lj
        have hd := List.getElem?_eq_getElem ld
        have DA := A.ed j _ _ hd hD
        have da := DA.a
        have ej : atI (ds.map fun d => V.ref d.a) (j : Int) = some (.ref (ds[j]).a) := atI_nat (by rw [List.getElem?_map, hd]; rfl)
        rw [disk_at hs hD] at q
        walk_at "w"
        cases hh : (B.disks[j]).here with
        | false =>
          rw [hh] at q
          walk_at "w"
          exact q
        | true =>
          rw [hh] at q
          walk_at "w"
          exact q _ hd
end
end VH

namespace VH
open PySem L2
local macro_rules | `(tactic| walk_at "dT") => `(tactic| first
  | ((with_reducible apply iT); (first | assumption | omega))
  | ((with_reducible apply niT); (first | assumption | omega))
  | ((with_reducible apply sT); (first | assumption | rfl))
  | ((with_reducible apply nsT); (first | assumption | decide))
  | ((with_reducible apply nbT); (first | assumption | omega))
  | ((with_reducible apply decide_eq_true); (first | assumption | omega)))
local macro_rules | `(tactic| walk_at "dF") => `(tactic| first
  | ((with_reducible apply iF); (first | assumption | omega))
  | ((with_reducible apply niF); (first | assumption | omega))
  | ((with_reducible apply sF); (first | assumption | decide))
  | ((with_reducible apply nsF); (first | assumption | rfl))
  | ((with_reducible apply nbF); (first | assumption | omega))
  | ((with_reducible apply decide_eq_false); (first | assumption | omega)))
local macro_rules | `(tactic| walk_at "ne") => `(tactic| first | assumption | (apply Ne.symm; assumption) | (apply ne_of_none <;> assumption) | (apply Ne.symm; apply ne_of_none <;> assumption) | (apply ne_new; assumption; walk_at "hg") | (apply Ne.symm; apply ne_new; assumption; walk_at "hg"))
local macro_rules | `(tactic| walk_at "ni") => `(tactic| first | exact ni_nil | (apply ni_cons; walk_at "ne"; walk_at "ni") | assumption)
local macro_rules | `(tactic| walk_at "hg") => `(tactic| first
  | assumption
  | exact upd_same
  | (apply upd_old; assumption; walk_at "hg")
  | (apply upd_oth; walk_at "ne"; walk_at "hg")
  | (apply kp_get; assumption; walk_at "hg"; walk_at "ni"))
local macro_rules | `(tactic| walk_at "mem") => `(tactic| first | exact List.mem_cons_self | (apply List.mem_cons_of_mem; walk_at "mem") | assumption)
local macro_rules | `(tactic| walk_at "no") => `(tactic| first | assumption | (apply none_of_kp2; assumption; walk_at "kp"))
local macro_rules | `(tactic| walk_at "kp") => `(tactic| first
  | assumption
  | exact Kp.refl
  | (apply kp_new'; assumption; walk_at "kp")
  | (apply kp_setn; assumption; walk_at "kp")
  | (apply kp_set'; walk_at "mem"; walk_at "kp")
  | (apply kp_app; assumption; walk_at "kp")
  | (apply kp_app2; assumption; walk_at "kp"))
local macro_rules | `(tactic| walk_at "sz") => `(tactic| first | assumption | exact sz rfl | (apply szb; omega) | (apply szbl; omega) | (apply szb; simp only [List.length_map, List.length_cons, List.length_nil, List.length_append, List.length_set]; omega) | (apply szbl; simp only [List.length_map, List.length_cons, List.length_nil, List.length_append, List.length_set]; omega))
local macro_rules | `(tactic| walk_at "sq") => `(tactic| first
  | assumption
  | (apply sq_l; walk_at "hg")
  | (apply sq_t; walk_at "hg")
  | (apply sqL_new; assumption; walk_at "sq")
  | (apply sqT_new; assumption; walk_at "sq"))
local macro_rules | `(tactic| walk_at "w1") => `(tactic| first
  | with_reducible refine w_seq ?_
  | ((with_reducible apply w_var); exact rfl)
  | with_reducible refine w_c ?_
  | with_reducible refine w_op ?_
  | with_reducible refine w_I0 ?_
  | ((with_reducible apply w_I); (first | assumption | exact Or.inr ⟨by decide, by decide⟩ | exact Or.inl ⟨by decide, by decide⟩ | exact (by show (0 : Int) < _; decide) | exact ⟨by decide, by decide⟩ | exact Or.inl ⟨by omega, by omega⟩ | exact Or.inr ⟨by omega, by omega⟩ | exact ⟨by omega, by omega⟩ | exact (by show (0 : Int) < _; omega)))
  | with_reducible refine w_cons ?_
  | with_reducible refine w_nil ?_
  | with_reducible refine w_asg ?_
  | with_reducible refine w_gName ?_
  | with_reducible refine w_gSub ?_
  | with_reducible refine w_test ?_
  | with_reducible refine w_B ?_
  | with_reducible refine w_ret ?_
  | with_reducible refine w_drop ?_
  | with_reducible refine w_ifS ?_
  | with_reducible refine w_if ?_
  | with_reducible refine w_un ?_
  | with_reducible refine w_U ?_
  | with_reducible refine w_call ?_
  | with_reducible refine w_cb ?_
  | with_reducible refine w_lst ?_
  | with_reducible refine w_tup ?_
  | with_reducible refine w_bm ?_
  | with_reducible refine w_bm0 ?_
  | with_reducible refine w_m1 ?_
  | with_reducible refine w_for ?_
  | with_reducible refine w_iList ?_
  | with_reducible refine w_iTup ?_
  | with_reducible refine w_iStr ?_
  | with_reducible refine w_iR1 ?_
  | with_reducible refine w_iEnum ?_
  | with_reducible refine w_and ?_
  | with_reducible refine w_or ?_
  | with_reducible refine w_not ?_
  | with_reducible refine w_yes ?_
  | with_reducible refine w_isN ?_
  | ((with_reducible apply w_eq); exact rfl)
  | ((with_reducible apply w_ne); exact rfl)
  | with_reducible refine w_chain ?_
  | with_reducible refine w_andV ?_
  | with_reducible refine w_orV ?_
  | with_reducible refine w_notV ?_
  | with_reducible refine w_bl ?_
  | with_reducible refine w_fld ?_
  | with_reducible refine w_sfld ?_
  | with_reducible refine w_next ?_
  | with_reducible refine w_isZ ?_
  | with_reducible refine w_notZ ?_
  | with_reducible refine w_inS ?_
  | with_reducible refine w_notInS ?_
  | ((with_reducible apply w_ifT); exact rfl)
  | ((with_reducible apply w_ifF); exact rfl)
  | ((with_reducible apply w_ifT); walk_at "dT")
  | ((with_reducible apply w_ifF); walk_at "dF")
  | with_reducible refine w_lc ?_
  | with_reducible refine w_aStr ?_
  | ((with_reducible apply w_itL); walk_at "sq")
  | ((with_reducible apply w_itT); walk_at "sq")
  | ((with_reducible apply w_rng); (first | omega | assumption); (first | omega | assumption))
  | ((with_reducible apply w_enum); walk_at "sq")
  | ((with_reducible apply w_lenS); walk_at "sz")
  | ((with_reducible apply w_split); (first | exact rfl | assumption); walk_at "sz")
  | with_reducible refine w_slice ?_
  | with_reducible refine w_part ?_
  | with_reducible refine w_noPart ?_
  | with_reducible refine w_anInt ?_
  | ((with_reducible apply w_slL); walk_at "sq")
  | ((with_reducible apply w_cat); walk_at "hg"; walk_at "hg"; walk_at "sz")
  | ((with_reducible apply w_newSz); walk_at "sz")
  | ((with_reducible apply w_append); walk_at "hg"; walk_at "sz")
  | ((with_reducible apply w_tyD); walk_at "hg")
  | ((with_reducible apply w_gTup); walk_at "sq"; exact rfl)
  | with_reducible refine w_gCons ?_
  | with_reducible refine w_gNil ?_
  | with_reducible refine w_kget2 ?_
  | with_reducible refine w_same ?_
  | ((with_reducible apply w_kat); assumption)
  | ((with_reducible apply w_in); walk_at "sq"; (first | exact rfl | assumption); (first | assumption | exact rfl))
  | ((with_reducible apply w_strI); assumption)
  | with_reducible refine w_disp ?_
  | with_reducible refine w_pcons ?_
  | with_reducible refine w_pnil ?_
  | with_reducible refine w_dget2 ?_
  | ((with_reducible apply w_isD); walk_at "hg")
  | ((with_reducible apply w_dgS); walk_at "hg")
  | ((with_reducible apply w_dupd); walk_at "ne"; walk_at "hg"; walk_at "hg"; (first | decide | walk_at "sz"))
  | ((with_reducible apply w_catS); walk_at "sz")
  | ((with_reducible apply w_slT); walk_at "sq"; assumption)
  | ((with_reducible apply w_ixS); walk_at "sz"; (first | assumption | exact rfl))
  | ((with_reducible apply w_intS); assumption; (first | assumption | omega))
  | ((with_reducible apply w_isi); (first | exact tx_N | exact tx_B | exact tx_I | exact tx_S | (apply tx_L; walk_at "sq") | (apply tx_T; walk_at "sq")); (first | (refine (?_ : _ = some true); decide +kernel) | (refine (?_ : _ = some false); decide +kernel)))
  | ((with_reducible apply w_lenL); walk_at "sq")
  | ((with_reducible apply w_lenT); walk_at "sq")
  | ((with_reducible apply w_listL); walk_at "sq")
  | ((with_reducible apply w_listT); walk_at "sq")
  | ((with_reducible apply w_tupL); walk_at "sq")
  | with_reducible refine w_intI ?_
  | with_reducible refine w_intB ?_
  | with_reducible refine w_strS ?_
  | ((with_reducible apply w_ixXL); walk_at "sq"; (first | exact rfl | exact atI_0 | assumption))
  | ((with_reducible apply w_ixXT); walk_at "sq"; (first | exact rfl | exact atI_0 | assumption))
  | ((with_reducible apply w_tyL); walk_at "sq")
  | with_reducible refine w_tyS ?_
  | ((with_reducible apply w_popAt0); walk_at "hg")
  | ((with_reducible apply w_ixL); walk_at "sq"; (first | exact rfl | exact atI_0 | assumption))
  | ((with_reducible apply w_ixT); walk_at "sq"; (first | exact rfl | exact atI_0 | assumption))
  | ((with_reducible apply w_setL); walk_at "hg"; (first | exact rfl | exact ixN_0)))
local macro_rules | `(tactic| walk_at "w") => `(tactic| repeat walk_at "w1")

local macro_rules | `(tactic| walk_at "w1") => `(tactic| first
  | ((with_reducible apply w_insF); walk_at "hg"; assumption; assumption; exact rfl)
  | with_reducible refine w_meth ?_
  | ((with_reducible apply w_insM); walk_at "hg"; exact rfl)
  | ((with_reducible apply w_setF); walk_at "hg"; assumption; assumption; exact ltF rfl; exact rfl))

section
variable {P : Program} {w : World} {K : PySem.W.Frag} {mg : Str → Option Value} {base : Heap}
/-- the errors -/
structure Errs (K : PySem.W.Frag) (mg : Str → Option Value) (c : Nat → Addr) : Prop where
  e0 : ErrC K mg "BadNumber" (c 0)
  e1 : ErrC K mg "BadSizes" (c 1)
  e6 : ErrC K mg "NoBlock" (c 6)
  e7 : ErrC K mg "NoDisk" (c 7)
  e9 : ErrC K mg "Stopped" (c 9)
def spBlocks (c : Nat → Addr) (CB CD : Addr) : Sp := fun vs H Q E => ∃ (bn dx l : Addr) (ds : List DAd) (B : BenchS) (v p b : V), vs = [.ref bn, v, p, b] ∧ BenchAt CB CD H bn dx l ds B ∧ Sca v ∧ Sca p ∧ Sca b ∧
  match B.block v p b with
  | .bad k => E (.ref (c k)) none H
  | .ok (i, j, _) => ∀ d x, ds[i]? = some d → d.qs[j]? = some x → Q (.ref x) H
theorem scBBlocks : FnScope ["self", "number", "piece", "block", "disk"] ["self", "number", "piece", "block"] (defScope sBBlocks) := ⟨rfl, rfl, rfl, by decide +kernel, rfl, by decide +kernel, by decide +kernel⟩
theorem ok_blocks {f fN f_disk CB CD : Addr} {c : Nat → Addr} {fd fdN fdK : FuncData} {u1 : Tok} (F : Fun K "blocks" "Bench.blocks" sBBlocks f fd) (T : Txt K mg) (BK : BenchK K CB CD) (ER : Errs K mg c) (gBLOCKS : mg "BLOCKS" = some (.int 4 u1))
    (FN : Fun K "is_number" "is_number" sIsNum fN fdN) (bN : Binds K fdN ["part", "low", "high"] []) (gN : mg "is_number" = some (.ref fN)) (GN : FnOk P w K mg base CX0 1 fN fdN ["part", "low", "high"] spIsNum)
    (m_disk : Meth K CB "disk" f_disk) (b_disk : Binds K fdK ["self", "number"] []) (G_disk : FnOk P w K mg base (L2.CX P w) 2 f_disk fdK ["self", "number"] (spDisk c CB CD)) :
    FnOk P w K mg base (L2.CX P w) 3 f fd ["self", "number", "piece", "block"] (spBlocks c CB CD) := by
  refine F.okX scBBlocks (fun vs H Q E h => ?_) (fun cdv A outer s H vs Q E hr h => ?_)
  · obtain ⟨bn, dx, l, ds, B, v, p, b, rfl, _⟩ := h
    rfl
  · obtain ⟨bn, dx, l, ds, B, v, p, b, rfl, A, sc, sp, sb, q⟩ := h
    have hu := hu_of hr
    have BK' := BK
    obtain ⟨cB, cD, n1, n2, n3, n4, n5, n6, n7⟩ := BK
    have eb := A.eb
    have el := A.el
    have eNoBlock := ER.e6
    refine ⟨_, (pss_cons (ps_set (i := 4) scBBlocks.nd rfl (by first | exact Or.inl rfl | exact Or.inr rfl) (pe_meth (pv 0) cB m_disk G_disk (hr.mono (by decide)) b_disk .nil pass_cx (pa_cons (pv 1) pa_nil)))
    (pss_cons (ps_if (PW.pt (pw_or (pt_not (pt_val (pe_call GN (hr.mono (by decide)) (by rfl) gN FN.kp bN .nil pass0 (pa_cons (pv 2) (pa_cons pe_int (pa_cons (pe_op op_sub (pe_callB cr_lenL (by rfl) T.len (by decide +kernel) (pa_cons (pe_fld (pv 4) rfl) pa_nil)) pe_int) pa_nil)))))) (pw_or1 (pt_not (pt_val (pe_call GN (hr.mono (by decide)) (by rfl) gN FN.kp bN .nil pass0 (pa_cons (pv 3) (pa_cons pe_int (pa_cons (pe_op op_sub (pe_glob (v := .int 4) (by rfl) gBLOCKS ⟨_, rfl⟩) pe_int) pa_nil))))))))) (pss_one (ps_raise rfl (takes_of rfl rfl rfl rfl) (pmk_own PySem.F.excBase_ValueError eNoBlock.q eNoBlock.g eNoBlock.k eNoBlock.r (by rfl)))) pss_nil)
    (pss_one (ps_ret (pe_ix ix_list (pe_fld (pv 4) rfl) (pv 2) (fun _ _ => rfl)))))), ?_⟩
    simp only [cxK, cxK']
    walk_at "w"
    refine ⟨bn, dx, l, ds, B, v, rfl, A, sc, ?_⟩
    cases hd : B.disk v with
    | bad k =>
      rw [block_bad hd] at q
      exact q
    | ok i =>
      obtain ⟨hs, rfl, D, hD, hh⟩ := disk_ok hd
      intro d hdd
      have DA := A.ed i d D hdd hD
      have da := DA.a
      have dp := DA.p
      walk_at "w"
      refine ⟨p, 0, _, rfl, sp, ?_⟩
      rw [show (((d.qs.map V.ref).length : Int) - 1) = (D.pieces.length : Int) - 1 by rw [List.length_map, DA.n]]
      cases hp : numOk p 0 ((D.pieces.length : Int) - 1) with
      | false =>
        rw [block_none hd hD (by rw [hp]; rfl)] at q
        walk_at "w"
        exact q
      | true =>
        walk_at "w"
        refine ⟨b, 0, 3, rfl, sb, ?_⟩
        cases hb : numOk b 0 3 with
        | false =>
          rw [block_none hd hD (by rw [hp, hb]; rfl)] at q
          walk_at "w"
          exact q
        | true =>
          obtain ⟨x, rfl, x0, x1⟩ := numOk_int hp
          obtain ⟨y, rfl, y0, y1⟩ := numOk_int hb
          obtain ⟨j, rfl⟩ : ∃ j : Nat, x = j := ⟨x.toNat, by omega⟩
          obtain ⟨k, rfl⟩ : ∃ k : Nat, y = k := ⟨y.toNat, by omega⟩
          rw [block_at hd hD (by omega) (by omega)] at q
          have lj : j < d.qs.length := by rw [DA.n]; omega
          have ej : atI (d.qs.map V.ref) (j : Int) = some (.ref d.qs[j]) := atI_nat (by rw [List.getElem?_map, List.getElem?_eq_getElem lj]; rfl)
          walk_at "w"
          exact q d _ hdd (List.getElem?_eq_getElem lj)
def spSpend (c : Nat → Addr) (CB CD : Addr) : Sp := fun vs H Q E => ∃ (bn dx l : Addr) (ds : List DAd) (B : BenchS), vs = [.ref bn] ∧ BenchAt CB CD H bn dx l ds B ∧
  match B.spend with
  | (false, B') => E (.ref (c 9)) none (upd H bn (.ins CB dx (benchF l B')))
  | (true, B') => Q .non (upd H bn (.ins CB dx (benchF l B')))
theorem scBSpend : FnScope ["self"] ["self"] (defScope sBSpend) := ⟨rfl, rfl, rfl, by decide +kernel, rfl, by decide +kernel, by decide +kernel⟩
theorem ok_spend {f CB CD : Addr} {c : Nat → Addr} {fd : FuncData} (F : Fun K "spend" "Bench.spend" sBSpend f fd) (T : Txt K mg) (BK : BenchK K CB CD) (ER : Errs K mg c) :
    FnOk P w K mg base (L2.CX P w) 1 f fd ["self"] (spSpend c CB CD) := by
  refine F.okX scBSpend (fun vs H Q E h => ?_) (fun cdv A outer s H vs Q E hr h => ?_)
  · obtain ⟨bn, dx, l, ds, B, rfl, _⟩ := h
    rfl
  · obtain ⟨bn, dx, l, ds, B, rfl, A, q⟩ := h
    have hu := hu_of hr
    obtain ⟨cB, cD, n1, n2, n3, n4, n5, n6, n7⟩ := BK
    have eb := A.eb
    have eStopped := ER.e9
    refine ⟨_, (pss_cons (ps_if (pt_cmpR op_eq (pe_fld (pv 0) rfl) pe_int (nomark _)) (pss_cons (ps_fld (pv 0) pe_bl rfl)
      (pss_one (ps_raise rfl (takes_of rfl rfl rfl rfl) (pmk_own PySem.F.excBase_ValueError eStopped.q eStopped.g eStopped.k eStopped.r (by rfl))))) pss_nil)
    (pss_cons (ps_if (pt_cmpR op_notN1 (pe_fld (pv 0) rfl) pe_non (nomark _)) (pss_one (ps_fld (pv 0) (pe_op op_sub (pe_fld (pv 0) rfl) pe_int) rfl)) pss_nil)
    (pss_one (ps_fld (pv 0) (pe_op op_add (pe_fld (pv 0) rfl) pe_int) rfl)))), ?_⟩
    simp only [cxK, cxK']
    obtain ⟨disks, left, stands, many⟩ := B
    cases left with
    | none =>
      have eb : H bn = some (.ins CB dx [("disks", .ref l), ("left", .non), ("stands", .bl stands), ("many", .int many)]) := A.eb
      walk_at "w"
      exact q
    | some i =>
      have eb : H bn = some (.ins CB dx [("disks", .ref l), ("left", .int i), ("stands", .bl stands), ("many", .int many)]) := A.eb
      by_cases h0 : i = 0
      · subst h0
        walk_at "w"
        exact q
      · have e : BenchS.spend ⟨disks, some i, stands, many⟩ = (true, ⟨disks, some (i - 1), stands, many + 1⟩) := by
          unfold BenchS.spend
          rw [if_neg (fun z => h0 (Option.some.inj z))]
          rfl
        rw [e] at q
        walk_at "w"
        show Q .non (upd (upd H bn _) bn _)
        rw [upd_upd]
        exact q
end
end VH

namespace VH
open PySem L2
local macro_rules | `(tactic| walk_at "dT") => `(tactic| first
  | ((with_reducible apply iT); (first | assumption | omega))
  | ((with_reducible apply niT); (first | assumption | omega))
  | ((with_reducible apply sT); (first | assumption | rfl))
  | ((with_reducible apply nsT); (first | assumption | decide))
  | ((with_reducible apply nbT); (first | assumption | omega))
  | ((with_reducible apply decide_eq_true); (first | assumption | omega)))
local macro_rules | `(tactic| walk_at "dF") => `(tactic| first
  | ((with_reducible apply iF); (first | assumption | omega))
  | ((with_reducible apply niF); (first | assumption | omega))
  | ((with_reducible apply sF); (first | assumption | decide))
  | ((with_reducible apply nsF); (first | assumption | rfl))
  | ((with_reducible apply nbF); (first | assumption | omega))
  | ((with_reducible apply decide_eq_false); (first | assumption | omega)))
local macro_rules | `(tactic| walk_at "ne") => `(tactic| first | assumption | (apply Ne.symm; assumption) | (apply ne_of_none <;> assumption) | (apply Ne.symm; apply ne_of_none <;> assumption) | (apply ne_new; assumption; walk_at "hg") | (apply Ne.symm; apply ne_new; assumption; walk_at "hg"))
local macro_rules | `(tactic| walk_at "ni") => `(tactic| first | exact ni_nil | (apply ni_cons; walk_at "ne"; walk_at "ni") | assumption)
local macro_rules | `(tactic| walk_at "hg") => `(tactic| first
  | assumption
  | exact upd_same
  | (apply upd_old; assumption; walk_at "hg")
  | (apply upd_oth; walk_at "ne"; walk_at "hg")
  | (apply kp_get; assumption; walk_at "hg"; walk_at "ni"))
local macro_rules | `(tactic| walk_at "mem") => `(tactic| first | exact List.mem_cons_self | (apply List.mem_cons_of_mem; walk_at "mem") | assumption)
local macro_rules | `(tactic| walk_at "no") => `(tactic| first | assumption | (apply none_of_kp2; assumption; walk_at "kp"))
local macro_rules | `(tactic| walk_at "kp") => `(tactic| first
  | assumption
  | exact Kp.refl
  | (apply kp_new'; assumption; walk_at "kp")
  | (apply kp_setn; assumption; walk_at "kp")
  | (apply kp_set'; walk_at "mem"; walk_at "kp")
  | (apply kp_app; assumption; walk_at "kp")
  | (apply kp_app2; assumption; walk_at "kp"))
local macro_rules | `(tactic| walk_at "sz") => `(tactic| first | assumption | exact sz rfl | (apply szb; omega) | (apply szbl; omega) | (apply szb; simp only [List.length_map, List.length_cons, List.length_nil, List.length_append, List.length_set]; omega) | (apply szbl; simp only [List.length_map, List.length_cons, List.length_nil, List.length_append, List.length_set]; omega))
local macro_rules | `(tactic| walk_at "sq") => `(tactic| first
  | assumption
  | (apply sq_l; walk_at "hg")
  | (apply sq_t; walk_at "hg")
  | (apply sqL_new; assumption; walk_at "sq")
  | (apply sqT_new; assumption; walk_at "sq"))
local macro_rules | `(tactic| walk_at "w1") => `(tactic| first
  | with_reducible refine w_seq ?_
  | ((with_reducible apply w_var); exact rfl)
  | with_reducible refine w_c ?_
  | with_reducible refine w_op ?_
  | with_reducible refine w_I0 ?_
  | ((with_reducible apply w_I); (first | assumption | exact Or.inr ⟨by decide, by decide⟩ | exact Or.inl ⟨by decide, by decide⟩ | exact (by show (0 : Int) < _; decide) | exact ⟨by decide, by decide⟩ | exact Or.inl ⟨by omega, by omega⟩ | exact Or.inr ⟨by omega, by omega⟩ | exact ⟨by omega, by omega⟩ | exact (by show (0 : Int) < _; omega)))
  | with_reducible refine w_cons ?_
  | with_reducible refine w_nil ?_
  | with_reducible refine w_asg ?_
  | with_reducible refine w_gName ?_
  | with_reducible refine w_gSub ?_
  | with_reducible refine w_test ?_
  | with_reducible refine w_B ?_
  | with_reducible refine w_ret ?_
  | with_reducible refine w_drop ?_
  | with_reducible refine w_ifS ?_
  | with_reducible refine w_if ?_
  | with_reducible refine w_un ?_
  | with_reducible refine w_U ?_
  | with_reducible refine w_call ?_
  | with_reducible refine w_cb ?_
  | with_reducible refine w_lst ?_
  | with_reducible refine w_tup ?_
  | with_reducible refine w_bm ?_
  | with_reducible refine w_bm0 ?_
  | with_reducible refine w_m1 ?_
  | with_reducible refine w_for ?_
  | with_reducible refine w_iList ?_
  | with_reducible refine w_iTup ?_
  | with_reducible refine w_iStr ?_
  | with_reducible refine w_iR1 ?_
  | with_reducible refine w_iEnum ?_
  | with_reducible refine w_and ?_
  | with_reducible refine w_or ?_
  | with_reducible refine w_not ?_
  | with_reducible refine w_yes ?_
  | with_reducible refine w_isN ?_
  | ((with_reducible apply w_eq); exact rfl)
  | ((with_reducible apply w_ne); exact rfl)
  | with_reducible refine w_chain ?_
  | with_reducible refine w_andV ?_
  | with_reducible refine w_orV ?_
  | with_reducible refine w_notV ?_
  | with_reducible refine w_bl ?_
  | with_reducible refine w_fld ?_
  | with_reducible refine w_sfld ?_
  | with_reducible refine w_next ?_
  | with_reducible refine w_isZ ?_
  | with_reducible refine w_notZ ?_
  | with_reducible refine w_inS ?_
  | with_reducible refine w_notInS ?_
  | ((with_reducible apply w_ifT); exact rfl)
  | ((with_reducible apply w_ifF); exact rfl)
  | ((with_reducible apply w_ifT); walk_at "dT")
  | ((with_reducible apply w_ifF); walk_at "dF")
  | with_reducible refine w_lc ?_
  | with_reducible refine w_aStr ?_
  | ((with_reducible apply w_itL); walk_at "sq")
  | ((with_reducible apply w_itT); walk_at "sq")
  | ((with_reducible apply w_rng); (first | omega | assumption); (first | omega | assumption))
  | ((with_reducible apply w_enum); walk_at "sq")
  | ((with_reducible apply w_lenS); walk_at "sz")
  | ((with_reducible apply w_split); (first | exact rfl | assumption); walk_at "sz")
  | with_reducible refine w_slice ?_
  | with_reducible refine w_part ?_
  | with_reducible refine w_noPart ?_
  | with_reducible refine w_anInt ?_
  | ((with_reducible apply w_slL); walk_at "sq")
  | ((with_reducible apply w_cat); walk_at "hg"; walk_at "hg"; walk_at "sz")
  | ((with_reducible apply w_newSz); walk_at "sz")
  | ((with_reducible apply w_append); walk_at "hg"; walk_at "sz")
  | ((with_reducible apply w_tyD); walk_at "hg")
  | ((with_reducible apply w_gTup); walk_at "sq"; exact rfl)
  | with_reducible refine w_gCons ?_
  | with_reducible refine w_gNil ?_
  | with_reducible refine w_kget2 ?_
  | with_reducible refine w_same ?_
  | ((with_reducible apply w_kat); assumption)
  | ((with_reducible apply w_in); walk_at "sq"; (first | exact rfl | assumption); (first | assumption | exact rfl))
  | ((with_reducible apply w_strI); assumption)
  | with_reducible refine w_disp ?_
  | with_reducible refine w_pcons ?_
  | with_reducible refine w_pnil ?_
  | with_reducible refine w_dget2 ?_
  | ((with_reducible apply w_isD); walk_at "hg")
  | ((with_reducible apply w_dgS); walk_at "hg")
  | ((with_reducible apply w_dupd); walk_at "ne"; walk_at "hg"; walk_at "hg"; (first | decide | walk_at "sz"))
  | ((with_reducible apply w_catS); walk_at "sz")
  | ((with_reducible apply w_slT); walk_at "sq"; assumption)
  | ((with_reducible apply w_ixS); walk_at "sz"; (first | assumption | exact rfl))
  | ((with_reducible apply w_intS); assumption; (first | assumption | omega))
  | ((with_reducible apply w_isi); (first | exact tx_N | exact tx_B | exact tx_I | exact tx_S | (apply tx_L; walk_at "sq") | (apply tx_T; walk_at "sq")); (first | (refine (?_ : _ = some true); decide +kernel) | (refine (?_ : _ = some false); decide +kernel)))
  | ((with_reducible apply w_lenL); walk_at "sq")
  | ((with_reducible apply w_lenT); walk_at "sq")
  | ((with_reducible apply w_listL); walk_at "sq")
  | ((with_reducible apply w_listT); walk_at "sq")
  | ((with_reducible apply w_tupL); walk_at "sq")
  | with_reducible refine w_intI ?_
  | with_reducible refine w_intB ?_
  | with_reducible refine w_strS ?_
  | ((with_reducible apply w_ixXL); walk_at "sq"; (first | exact rfl | exact atI_0 | assumption))
  | ((with_reducible apply w_ixXT); walk_at "sq"; (first | exact rfl | exact atI_0 | assumption))
  | ((with_reducible apply w_tyL); walk_at "sq")
  | with_reducible refine w_tyS ?_
  | ((with_reducible apply w_popAt0); walk_at "hg")
  | ((with_reducible apply w_ixL); walk_at "sq"; (first | exact rfl | exact atI_0 | assumption))
  | ((with_reducible apply w_ixT); walk_at "sq"; (first | exact rfl | exact atI_0 | assumption))
  | ((with_reducible apply w_setL); walk_at "hg"; (first | exact rfl | exact ixN_0)))
local macro_rules | `(tactic| walk_at "w") => `(tactic| repeat walk_at "w1")

local macro_rules | `(tactic| walk_at "w1") => `(tactic| first
  | ((with_reducible apply w_insF); walk_at "hg"; assumption; assumption; exact rfl)
  | with_reducible refine w_meth ?_
  | ((with_reducible apply w_insM); walk_at "hg"; exact rfl)
  | ((with_reducible apply w_setF); walk_at "hg"; assumption; assumption; exact ltF rfl; exact rfl))

section
variable {P : Program} {w : World} {K : PySem.W.Frag} {mg : Str → Option Value} {base : Heap}
/-- behind a deed: what the bench owns may be changed, B' is there -/
def After (CB CD : Addr) (H : Hp) (bn dx l : Addr) (ds : List DAd) (B' : BenchS) (R : Hp → Prop) : Prop := ∀ H', Kp (fpB bn l ds) H H' → BenchAt CB CD H' bn dx l ds B' → R H'
theorem DiskAt.put {CD : Addr} {H : Hp} {d : DAd} {D : DiskS} (A : DiskAt CD H d D) (nd : d.qs.Nodup) (nm : d.a ∉ d.qs ∧ d.p ∉ d.qs) {j k : Nat} {x : Addr} {r : List Int} (w : Int) (hx : d.qs[j]? = some x) (hr : D.pieces[j]? = some r) : DiskAt CD (upd H x (.lst ((r.set k w).map V.int))) d (D.put j k w) := by
  have mx := List.mem_of_getElem? hx
  refine ⟨?_, ?_, ?_, fun i y s h1 h2 => ?_, ?_, fun s hs => ?_⟩
  · rw [upd_ne (fun e => nm.1 (by rw [e]; exact mx))]
    exact A.a
  · rw [upd_ne (fun e => nm.2 (by rw [e]; exact mx))]
    exact A.p
  · show d.qs.length = (D.pieces.modify j _).length
    rw [List.length_modify]
    exact A.n
  · have h2 : (D.pieces.modify j fun r => r.set k w)[i]? = some s := h2
    rw [List.getElem?_modify] at h2
    by_cases e : j = i
    · subst e
      rw [hx] at h1
      cases h1
      rw [hr] at h2
      simp at h2
      rw [← h2, upd_same]
    · have ne : y ≠ x := fun z => e (by
        subst z
        exact (List.getElem?_inj ((List.getElem?_eq_some_iff.mp hx).1) nd).mp (hx.trans h1.symm))
      rw [upd_ne ne]
      simp [e] at h2
      exact A.q i y s h1 h2
  · show (D.pieces.modify j _).length ≤ 12
    rw [List.length_modify]
    exact A.few
  · have hs : s ∈ D.pieces.modify j fun r => r.set k w := hs
    obtain ⟨i, hi⟩ := List.mem_iff_getElem?.mp hs
    rw [List.getElem?_modify] at hi
    cases e : D.pieces[i]? with
    | none => rw [e] at hi; simp at hi
    | some t =>
      rw [e] at hi
      have ft := A.four t (List.mem_of_getElem? e)
      by_cases z : j = i
      · simp [z] at hi
        rw [← hi, List.length_set]
        exact ft
      · simp [z] at hi
        rw [← hi]
        exact ft
theorem nodup_flat {α β : Type} {f : α → List β} : ∀ {l : List α}, (l.flatMap f).Nodup → (∀ a ∈ l, (f a).Nodup) ∧ l.Pairwise fun a b => ∀ x ∈ f a, x ∉ f b
  | [], _ => ⟨fun a h => (by cases h), List.Pairwise.nil⟩
  | a :: r, h => by
    rw [List.flatMap_cons] at h
    obtain ⟨h1, h2, h3⟩ := List.nodup_append.mp h
    obtain ⟨i1, i2⟩ := nodup_flat h2
    refine ⟨fun b hb => ?_, List.Pairwise.cons (fun b hb x m1 m2 => h3 x m1 x (List.mem_flatMap.mpr ⟨b, hb, m2⟩) rfl) i2⟩
    rcases List.mem_cons.mp hb with rfl | hb
    · exact h1
    · exact i1 b hb
theorem nd_disk {bn l : Addr} {ds : List DAd} (nd : (fpB bn l ds).Nodup) {i : Nat} {d : DAd} (h : ds[i]? = some d) : (fpD d).Nodup := by
  have a := (List.nodup_cons.mp (List.nodup_cons.mp nd).2).2
  exact (nodup_flat a).1 d (List.mem_of_getElem? h)
theorem nd_apart {bn l : Addr} {ds : List DAd} (nd : (fpB bn l ds).Nodup) {i j : Nat} {d e : DAd} (h : ds[i]? = some d) (g : ds[j]? = some e) (ne : i ≠ j) : ∀ a ∈ fpD d, a ∉ fpD e := by
  have a := (List.nodup_cons.mp (List.nodup_cons.mp nd).2).2
  have b := (nodup_flat a).2
  obtain ⟨li, rfl⟩ := List.getElem?_eq_some_iff.mp h
  obtain ⟨lj, rfl⟩ := List.getElem?_eq_some_iff.mp g
  have c := List.pairwise_iff_getElem.mp b
  rcases Nat.lt_or_gt_of_ne ne with z | z
  · exact fun x m1 m2 => (c i j li lj z) x m1 m2
  · exact fun x m1 m2 => (c j i lj li z) x m2 m1
/-- a disk changed -/
theorem BenchAt.setD {CB CD : Addr} {H H' : Hp} {bn dx l : Addr} {ds : List DAd} {B : BenchS} (A : BenchAt CB CD H bn dx l ds B) {i : Nat} {d : DAd} {D : DiskS} {f : DiskS → DiskS} (h : ds[i]? = some d) (hD : B.disks[i]? = some D)
    (k : ∀ a, a ∉ fpD d → H' a = H a) (n : DiskAt CD H' d (f D)) : BenchAt CB CD H' bn dx l ds (B.setD i f) := by
  have nb := (List.nodup_cons.mp A.nd).1
  have nl := (List.nodup_cons.mp (List.nodup_cons.mp A.nd).2).1
  refine ⟨(k _ fun m => nb (List.mem_cons_of_mem _ (List.mem_flatMap.mpr ⟨d, List.mem_of_getElem? h, m⟩))).trans A.eb, (k _ fun m => nl (List.mem_flatMap.mpr ⟨d, List.mem_of_getElem? h, m⟩)).trans A.el, ?_, fun j e E h1 h2 => ?_, A.nd, ?_⟩
  · show ds.length = (B.disks.modify i f).length
    rw [List.length_modify]
    exact A.en
  · have h2 : (B.disks.modify i f)[j]? = some E := h2
    rw [List.getElem?_modify] at h2
    by_cases z : i = j
    · subst z
      rw [h] at h1
      cases h1
      rw [hD] at h2
      simp at h2
      rw [← h2]
      exact n
    · simp [z] at h2
      exact (A.ed j e E h1 h2).keep fun a m => k a (nd_apart A.nd h1 h (Ne.symm z) a m)
  · show (B.disks.modify i f).length ≤ 6
    rw [List.length_modify]
    exact A.few
end
end VH

namespace VH
open PySem L2
local macro_rules | `(tactic| walk_at "dT") => `(tactic| first
  | ((with_reducible apply iT); (first | assumption | omega))
  | ((with_reducible apply niT); (first | assumption | omega))
  | ((with_reducible apply sT); (first | assumption | rfl))
  | ((with_reducible apply nsT); (first | assumption | decide))
  | ((with_reducible apply nbT); (first | assumption | omega))
  | ((with_reducible apply decide_eq_true); (first | assumption | omega)))
local macro_rules | `(tactic| walk_at "dF") => `(tactic| first
  | ((with_reducible apply iF); (first | assumption | omega))
  | ((with_reducible apply niF); (first | assumption | omega))
  | ((with_reducible apply sF); (first | assumption | decide))
  | ((with_reducible apply nsF); (first | assumption | rfl))
  | ((with_reducible apply nbF); (first | assumption | omega))
  | ((with_reducible apply decide_eq_false); (first | assumption | omega)))
local macro_rules | `(tactic| walk_at "ne") => `(tactic| first | assumption | (apply Ne.symm; assumption) | (apply ne_of_none <;> assumption) | (apply Ne.symm; apply ne_of_none <;> assumption) | (apply ne_new; assumption; walk_at "hg") | (apply Ne.symm; apply ne_new; assumption; walk_at "hg"))
local macro_rules | `(tactic| walk_at "ni") => `(tactic| first | exact ni_nil | (apply ni_cons; walk_at "ne"; walk_at "ni") | assumption)
local macro_rules | `(tactic| walk_at "hg") => `(tactic| first
  | assumption
  | exact upd_same
  | (apply upd_old; assumption; walk_at "hg")
  | (apply upd_oth; walk_at "ne"; walk_at "hg")
  | (apply kp_get; assumption; walk_at "hg"; walk_at "ni"))
local macro_rules | `(tactic| walk_at "mem") => `(tactic| first | exact List.mem_cons_self | (apply List.mem_cons_of_mem; walk_at "mem") | assumption)
local macro_rules | `(tactic| walk_at "no") => `(tactic| first | assumption | (apply none_of_kp2; assumption; walk_at "kp"))
local macro_rules | `(tactic| walk_at "kp") => `(tactic| first
  | assumption
  | exact Kp.refl
  | (apply kp_new'; assumption; walk_at "kp")
  | (apply kp_setn; assumption; walk_at "kp")
  | (apply kp_set'; walk_at "mem"; walk_at "kp")
  | (apply kp_app; assumption; walk_at "kp")
  | (apply kp_app2; assumption; walk_at "kp"))
local macro_rules | `(tactic| walk_at "sz") => `(tactic| first | assumption | exact sz rfl | (apply szb; omega) | (apply szbl; omega) | (apply szb; simp only [List.length_map, List.length_cons, List.length_nil, List.length_append, List.length_set]; omega) | (apply szbl; simp only [List.length_map, List.length_cons, List.length_nil, List.length_append, List.length_set]; omega))
local macro_rules | `(tactic| walk_at "sq") => `(tactic| first
  | assumption
  | (apply sq_l; walk_at "hg")
  | (apply sq_t; walk_at "hg")
  | (apply sqL_new; assumption; walk_at "sq")
  | (apply sqT_new; assumption; walk_at "sq"))
local macro_rules | `(tactic| walk_at "w1") => `(tactic| first
  | with_reducible refine w_seq ?_
  | ((with_reducible apply w_var); exact rfl)
  | with_reducible refine w_c ?_
  | with_reducible refine w_op ?_
  | with_reducible refine w_I0 ?_
  | ((with_reducible apply w_I); (first | assumption | exact Or.inr ⟨by decide, by decide⟩ | exact Or.inl ⟨by decide, by decide⟩ | exact (by show (0 : Int) < _; decide) | exact ⟨by decide, by decide⟩ | exact Or.inl ⟨by omega, by omega⟩ | exact Or.inr ⟨by omega, by omega⟩ | exact ⟨by omega, by omega⟩ | exact (by show (0 : Int) < _; omega)))
  | with_reducible refine w_cons ?_
  | with_reducible refine w_nil ?_
  | with_reducible refine w_asg ?_
  | with_reducible refine w_gName ?_
  | with_reducible refine w_gSub ?_
  | with_reducible refine w_test ?_
  | with_reducible refine w_B ?_
  | with_reducible refine w_ret ?_
  | with_reducible refine w_drop ?_
  | with_reducible refine w_ifS ?_
  | with_reducible refine w_if ?_
  | with_reducible refine w_un ?_
  | with_reducible refine w_U ?_
  | with_reducible refine w_call ?_
  | with_reducible refine w_cb ?_
  | with_reducible refine w_lst ?_
  | with_reducible refine w_tup ?_
  | with_reducible refine w_bm ?_
  | with_reducible refine w_bm0 ?_
  | with_reducible refine w_m1 ?_
  | with_reducible refine w_for ?_
  | with_reducible refine w_iList ?_
  | with_reducible refine w_iTup ?_
  | with_reducible refine w_iStr ?_
  | with_reducible refine w_iR1 ?_
  | with_reducible refine w_iEnum ?_
  | with_reducible refine w_and ?_
  | with_reducible refine w_or ?_
  | with_reducible refine w_not ?_
  | with_reducible refine w_yes ?_
  | with_reducible refine w_isN ?_
  | ((with_reducible apply w_eq); exact rfl)
  | ((with_reducible apply w_ne); exact rfl)
  | with_reducible refine w_chain ?_
  | with_reducible refine w_andV ?_
  | with_reducible refine w_orV ?_
  | with_reducible refine w_notV ?_
  | with_reducible refine w_bl ?_
  | with_reducible refine w_fld ?_
  | with_reducible refine w_sfld ?_
  | with_reducible refine w_next ?_
  | with_reducible refine w_isZ ?_
  | with_reducible refine w_notZ ?_
  | with_reducible refine w_inS ?_
  | with_reducible refine w_notInS ?_
  | ((with_reducible apply w_ifT); exact rfl)
  | ((with_reducible apply w_ifF); exact rfl)
  | ((with_reducible apply w_ifT); walk_at "dT")
  | ((with_reducible apply w_ifF); walk_at "dF")
  | with_reducible refine w_lc ?_
  | with_reducible refine w_aStr ?_
  | ((with_reducible apply w_itL); walk_at "sq")
  | ((with_reducible apply w_itT); walk_at "sq")
  | ((with_reducible apply w_rng); (first | omega | assumption); (first | omega | assumption))
  | ((with_reducible apply w_enum); walk_at "sq")
  | ((with_reducible apply w_lenS); walk_at "sz")
  | ((with_reducible apply w_split); (first | exact rfl | assumption); walk_at "sz")
  | with_reducible refine w_slice ?_
  | with_reducible refine w_part ?_
  | with_reducible refine w_noPart ?_
  | with_reducible refine w_anInt ?_
  | ((with_reducible apply w_slL); walk_at "sq")
  | ((with_reducible apply w_cat); walk_at "hg"; walk_at "hg"; walk_at "sz")
  | ((with_reducible apply w_newSz); walk_at "sz")
  | ((with_reducible apply w_append); walk_at "hg"; walk_at "sz")
  | ((with_reducible apply w_tyD); walk_at "hg")
  | ((with_reducible apply w_gTup); walk_at "sq"; exact rfl)
  | with_reducible refine w_gCons ?_
  | with_reducible refine w_gNil ?_
  | with_reducible refine w_kget2 ?_
  | with_reducible refine w_same ?_
  | ((with_reducible apply w_kat); assumption)
  | ((with_reducible apply w_in); walk_at "sq"; (first | exact rfl | assumption); (first | assumption | exact rfl))
  | ((with_reducible apply w_strI); assumption)
  | with_reducible refine w_disp ?_
  | with_reducible refine w_pcons ?_
  | with_reducible refine w_pnil ?_
  | with_reducible refine w_dget2 ?_
  | ((with_reducible apply w_isD); walk_at "hg")
  | ((with_reducible apply w_dgS); walk_at "hg")
  | ((with_reducible apply w_dupd); walk_at "ne"; walk_at "hg"; walk_at "hg"; (first | decide | walk_at "sz"))
  | ((with_reducible apply w_catS); walk_at "sz")
  | ((with_reducible apply w_slT); walk_at "sq"; assumption)
  | ((with_reducible apply w_ixS); walk_at "sz"; (first | assumption | exact rfl))
  | ((with_reducible apply w_intS); assumption; (first | assumption | omega))
  | ((with_reducible apply w_isi); (first | exact tx_N | exact tx_B | exact tx_I | exact tx_S | (apply tx_L; walk_at "sq") | (apply tx_T; walk_at "sq")); (first | (refine (?_ : _ = some true); decide +kernel) | (refine (?_ : _ = some false); decide +kernel)))
  | ((with_reducible apply w_lenL); walk_at "sq")
  | ((with_reducible apply w_lenT); walk_at "sq")
  | ((with_reducible apply w_listL); walk_at "sq")
  | ((with_reducible apply w_listT); walk_at "sq")
  | ((with_reducible apply w_tupL); walk_at "sq")
  | with_reducible refine w_intI ?_
  | with_reducible refine w_intB ?_
  | with_reducible refine w_strS ?_
  | ((with_reducible apply w_ixXL); walk_at "sq"; (first | exact rfl | exact atI_0 | assumption))
  | ((with_reducible apply w_ixXT); walk_at "sq"; (first | exact rfl | exact atI_0 | assumption))
  | ((with_reducible apply w_tyL); walk_at "sq")
  | with_reducible refine w_tyS ?_
  | ((with_reducible apply w_popAt0); walk_at "hg")
  | ((with_reducible apply w_ixL); walk_at "sq"; (first | exact rfl | exact atI_0 | assumption))
  | ((with_reducible apply w_ixT); walk_at "sq"; (first | exact rfl | exact atI_0 | assumption))
  | ((with_reducible apply w_setL); walk_at "hg"; (first | exact rfl | exact ixN_0)))
local macro_rules | `(tactic| walk_at "w") => `(tactic| repeat walk_at "w1")

local macro_rules | `(tactic| walk_at "w1") => `(tactic| first
  | ((with_reducible apply w_insF); walk_at "hg"; assumption; assumption; exact rfl)
  | with_reducible refine w_meth ?_
  | ((with_reducible apply w_insM); walk_at "hg"; exact rfl)
  | ((with_reducible apply w_setF); walk_at "hg"; assumption; assumption; exact ltF rfl; exact rfl))

section
variable {P : Program} {w : World} {K : PySem.W.Frag} {mg : Str → Option Value} {base : Heap}
/-! ### get, put -/
theorem block_ok {B : BenchS} {v p b : V} {i j k : Nat} (h : B.block v p b = .ok (i, j, k)) : ∃ D r, B.disk v = .ok i ∧ B.disks[i]? = some D ∧ D.pieces[j]? = some r ∧ k < 4 ∧ p = .int (j : Int) ∧ b = .int (k : Int) := by
  cases hd : B.disk v with
  | bad e => rw [block_bad hd] at h; cases h
  | ok i2 =>
    obtain ⟨hs, rfl, D, hD, hh⟩ := disk_ok hd
    cases hn : (numOk p 0 ((D.pieces.length : Int) - 1) && numOk b 0 3) with
    | false => rw [block_none hd hD hn] at h; cases h
    | true =>
      rw [Bool.and_eq_true] at hn
      obtain ⟨x, rfl, x0, x1⟩ := numOk_int hn.1
      obtain ⟨y, rfl, y0, y1⟩ := numOk_int hn.2
      obtain ⟨j2, rfl⟩ : ∃ j : Nat, x = j := ⟨x.toNat, by omega⟩
      obtain ⟨k2, rfl⟩ : ∃ k : Nat, y = k := ⟨y.toNat, by omega⟩
      rw [block_at hd hD (by omega) (by omega)] at h
      cases h
      exact ⟨D, _, rfl, hD, List.getElem?_eq_getElem (by omega), by omega, rfl, rfl⟩
def spGet (c : Nat → Addr) (CB CD : Addr) : Sp := fun vs H Q E => ∃ (bn dx l : Addr) (ds : List DAd) (B : BenchS) (v p b : V), vs = [.ref bn, v, p, b] ∧ BenchAt CB CD H bn dx l ds B ∧ Sca v ∧ Sca p ∧ Sca b ∧
  match B.block v p b with
  | .bad k => E (.ref (c k)) none H
  | .ok (i, j, k) => ∀ D r x, B.disks[i]? = some D → D.pieces[j]? = some r → r[k]? = some x → Q (.int x) H
theorem scBGet : FnScope ["self", "number", "piece", "block"] ["self", "number", "piece", "block"] (defScope sBGet) := ⟨rfl, rfl, rfl, by decide +kernel, rfl, by decide +kernel, by decide +kernel⟩
theorem ok_get {f f_blocks CB CD : Addr} {c : Nat → Addr} {fd fdK : FuncData} (F : Fun K "get" "Bench.get" sBGet f fd) (T : Txt K mg) (BK : BenchK K CB CD)
    (m_blocks : Meth K CB "blocks" f_blocks) (b_blocks : Binds K fdK ["self", "number", "piece", "block"] []) (G_blocks : FnOk P w K mg base (L2.CX P w) 3 f_blocks fdK ["self", "number", "piece", "block"] (spBlocks c CB CD)) :
    FnOk P w K mg base (L2.CX P w) 4 f fd ["self", "number", "piece", "block"] (spGet c CB CD) := by
  refine F.okX scBGet (fun vs H Q E h => ?_) (fun cdv A outer s H vs Q E hr h => ?_)
  · obtain ⟨bn, dx, l, ds, B, v, p, b, rfl, _⟩ := h
    rfl
  · obtain ⟨bn, dx, l, ds, B, v, p, b, rfl, A, sc, sp, sb, q⟩ := h
    have hu := hu_of hr
    obtain ⟨cB, cD, n1, n2, n3, n4, n5, n6, n7⟩ := BK
    have eb := A.eb
    refine ⟨_, (pss_one (ps_ret (pe_ix ix_list (pe_meth (pv 0) cB m_blocks G_blocks (hr.mono (by decide)) b_blocks .nil pass_cx (pa_cons (pv 1) (pa_cons (pv 2) (pa_cons (pv 3) pa_nil)))) (pv 3) (fun _ _ => rfl)))), ?_⟩
    simp only [cxK, cxK']
    walk_at "w"
    refine ⟨bn, dx, l, ds, B, v, p, b, rfl, A, sc, sp, sb, ?_⟩
    cases hb : B.block v p b with
    | bad k =>
      rw [hb] at q
      exact q
    | ok t =>
      obtain ⟨i, j, k⟩ := t
      rw [hb] at q
      obtain ⟨D, r, hd, hD, hr2, hk, rfl, rfl⟩ := block_ok hb
      intro d x hdd hx
      have DA := A.ed i d D hdd hD
      have hr4 := DA.four r (List.mem_of_getElem? hr2)
      have ex := DA.q j x r hx hr2
      have ek : r[k]? = some (r[k]'(by omega)) := List.getElem?_eq_getElem (by omega)
      have ak : atI (r.map V.int) (k : Int) = some (.int (r[k]'(by omega))) := atI_nat (by rw [List.getElem?_map, ek]; rfl)
      walk_at "w"
      exact q D r _ hD hr2 ek
def spPut (c : Nat → Addr) (CB CD : Addr) : Sp := fun vs H Q E => ∃ (bn dx l : Addr) (ds : List DAd) (B : BenchS) (v p b o : V), vs = [.ref bn, v, p, b, o] ∧ BenchAt CB CD H bn dx l ds B ∧ Sca v ∧ Sca p ∧ Sca b ∧ Sca o ∧
  match B.block v p b with
  | .bad k => E (.ref (c k)) none H
  | .ok (i, j, k) => match numOk o 0 999, o with
    | true, .int x => (match B.spend with
      | (false, B') => After CB CD H bn dx l ds B' fun H' => E (.ref (c 9)) none H'
      | (true, B') => After CB CD H bn dx l ds (B'.setD i fun D => D.put j k x) fun H' => Q .non H')
    | _, _ => E (.ref (c 0)) none H
theorem scBPut : FnScope ["self", "number", "piece", "block", "worth", "blocks"] ["self", "number", "piece", "block", "worth"] (defScope sBPut) := ⟨rfl, rfl, rfl, by decide +kernel, rfl, by decide +kernel, by decide +kernel⟩
theorem spend_disks (B : BenchS) : B.spend.2.disks = B.disks := by
  unfold BenchS.spend
  split <;> rfl
theorem ok_put {f f_blocks f_spend fN CB CD : Addr} {c : Nat → Addr} {fd fdK fdS fdN : FuncData} {u1 : Tok} (F : Fun K "put" "Bench.put" sBPut f fd) (T : Txt K mg) (BK : BenchK K CB CD) (ER : Errs K mg c) (gMN : mg "MOST_NUMBER" = some (.int 999 u1))
    (FN : Fun K "is_number" "is_number" sIsNum fN fdN) (bN : Binds K fdN ["part", "low", "high"] []) (gN : mg "is_number" = some (.ref fN)) (GN : FnOk P w K mg base CX0 1 fN fdN ["part", "low", "high"] spIsNum)
    (m_blocks : Meth K CB "blocks" f_blocks) (b_blocks : Binds K fdK ["self", "number", "piece", "block"] []) (G_blocks : FnOk P w K mg base (L2.CX P w) 3 f_blocks fdK ["self", "number", "piece", "block"] (spBlocks c CB CD))
    (m_spend : Meth K CB "spend" f_spend) (b_spend : Binds K fdS ["self"] []) (G_spend : FnOk P w K mg base (L2.CX P w) 1 f_spend fdS ["self"] (spSpend c CB CD)) :
    FnOk P w K mg base (L2.CX P w) 4 f fd ["self", "number", "piece", "block", "worth"] (spPut c CB CD) := by
  refine F.okX scBPut (fun vs H Q E h => ?_) (fun cdv A outer s H vs Q E hr h => ?_)
  · obtain ⟨bn, dx, l, ds, B, v, p, b, o, rfl, _⟩ := h
    rfl
  · obtain ⟨bn, dx, l, ds, B, v, p, b, o, rfl, A, sc, sp, sb, so, q⟩ := h
    have hu := hu_of hr
    obtain ⟨cB, cD, n1, n2, n3, n4, n5, n6, n7⟩ := BK
    have eb := A.eb
    have eBadNumber := ER.e0
    refine ⟨_, (pss_cons (ps_set (i := 5) scBPut.nd rfl (by first | exact Or.inl rfl | exact Or.inr rfl) (pe_meth (pv 0) cB m_blocks G_blocks (hr.mono (by decide)) b_blocks .nil pass_cx (pa_cons (pv 1) (pa_cons (pv 2) (pa_cons (pv 3) pa_nil)))))
    (pss_cons (ps_if (pt_not (pt_val (pe_call GN (hr.mono (by decide)) (by rfl) gN FN.kp bN .nil pass0 (pa_cons (pv 4) (pa_cons pe_int (pa_cons (pe_glob (v := .int 999) (by rfl) gMN ⟨_, rfl⟩) pa_nil)))))) (pss_one (ps_raise rfl (takes_of rfl rfl rfl rfl) (pmk_own PySem.F.excBase_ValueError eBadNumber.q eBadNumber.g eBadNumber.k eBadNumber.r (by rfl)))) pss_nil)
    (pss_cons (ps_expr (pe_meth0 (pv 0) cB m_spend G_spend (hr.mono (by decide)) b_spend .nil pass_cx))
    (pss_one (ps_asg (pv 4) (pg_sub (pv 5) (pv 3) set_list)))))), ?_⟩
    simp only [cxK, cxK']
    walk_at "w"
    refine ⟨bn, dx, l, ds, B, v, p, b, rfl, A, sc, sp, sb, ?_⟩
    cases hb : B.block v p b with
    | bad k =>
      rw [hb] at q
      exact q
    | ok t =>
      obtain ⟨i, j, k⟩ := t
      rw [hb] at q
      obtain ⟨D, r, hd, hD, hr2, hk, rfl, rfl⟩ := block_ok hb
      intro d x hdd hx
      have DA := A.ed i d D hdd hD
      have hr4 := DA.four r (List.mem_of_getElem? hr2)
      have ex := DA.q j x r hx hr2
      have ndd := nd_disk A.nd hdd
      have mx : x ∈ fpD d := List.mem_cons_of_mem _ (List.mem_cons_of_mem _ (List.mem_of_getElem? hx))
      have nxb : x ≠ bn := fun z => (List.nodup_cons.mp A.nd).1 (by rw [← z]; exact List.mem_cons_of_mem _ (List.mem_flatMap.mpr ⟨d, List.mem_of_getElem? hdd, mx⟩))
      walk_at "w"
      refine ⟨o, 0, 999, rfl, so, ?_⟩
      cases hn : numOk o 0 999 with
      | false =>
        rw [hn] at q
        walk_at "w"
        exact q
      | true =>
        obtain ⟨y, rfl, y0, y1⟩ := numOk_int hn
        rw [hn] at q
        walk_at "w"
        refine ⟨bn, dx, l, ds, B, rfl, A, ?_⟩
        have hsd := spend_disks B
        have mb : bn ∈ fpB bn l ds := List.mem_cons_self
        have mxb : x ∈ fpB bn l ds := mem_fp hdd mx
        cases hs : B.spend with
        | mk t B' =>
          rw [hs] at q hsd
          have A' := A.own (B' := B') hsd
          cases t with
          | false => exact q _ (kp_set' mb Kp.refl) A'
          | true =>
            have ex' : (upd H bn (.ins CB dx (benchF l B'))) x = some (.lst (r.map V.int)) := (upd_ne nxb).trans ex
            have hD' : B'.disks[i]? = some D := by rw [hsd]; exact hD
            have en : ixN (r.map V.int).length (k : Int) = some k := by
              rw [List.length_map, hr4]
              have : ∀ k < 4, ixN 4 ((k : Nat) : Int) = some k := by decide +kernel
              exact this k hk
            walk_at "w"
            refine w_setL ex' en ?_
            rw [show (r.map V.int).set k (.int y) = (r.set k y).map V.int from (List.map_set ..).symm]
            have nq := (List.nodup_cons.mp (List.nodup_cons.mp ndd).2).2
            have na : d.a ∉ d.qs := fun m => (List.nodup_cons.mp ndd).1 (List.mem_cons_of_mem _ m)
            have np : d.p ∉ d.qs := (List.nodup_cons.mp (List.nodup_cons.mp ndd).2).1
            exact q _ (kp_set' mxb (kp_set' mb Kp.refl)) (A'.setD (f := fun D => D.put j k y) hdd hD' (fun a ha => upd_ne fun z => ha (by rw [z]; exact mx)) ((A'.ed i d D hdd hD').put nq ⟨na, np⟩ y hx hr2))
/-! ### sheet, lay, lose -/
def spSheet (c : Nat → Addr) (CB CD : Addr) : Sp := fun vs H Q E => ∃ (bn dx l : Addr) (ds : List DAd) (B : BenchS) (v : V), vs = [.ref bn, v] ∧ BenchAt CB CD H bn dx l ds B ∧ Sca v ∧
  match B.disk v with
  | .bad k => E (.ref (c k)) none H
  | .ok i => ∀ D, B.disks[i]? = some D → Q D.paper H
theorem scBSheet : FnScope ["self", "number"] ["self", "number"] (defScope sBSheet) := ⟨rfl, rfl, rfl, by decide +kernel, rfl, by decide +kernel, by decide +kernel⟩
theorem ok_sheet {f f_disk CB CD : Addr} {c : Nat → Addr} {fd fdK : FuncData} (F : Fun K "sheet" "Bench.sheet" sBSheet f fd) (T : Txt K mg) (BK : BenchK K CB CD)
    (m_disk : Meth K CB "disk" f_disk) (b_disk : Binds K fdK ["self", "number"] []) (G_disk : FnOk P w K mg base (L2.CX P w) 2 f_disk fdK ["self", "number"] (spDisk c CB CD)) :
    FnOk P w K mg base (L2.CX P w) 3 f fd ["self", "number"] (spSheet c CB CD) := by
  refine F.okX scBSheet (fun vs H Q E h => ?_) (fun cdv A outer s H vs Q E hr h => ?_)
  · obtain ⟨bn, dx, l, ds, B, v, rfl, _⟩ := h
    rfl
  · obtain ⟨bn, dx, l, ds, B, v, rfl, A, sc, q⟩ := h
    have hu := hu_of hr
    obtain ⟨cB, cD, n1, n2, n3, n4, n5, n6, n7⟩ := BK
    have eb := A.eb
    refine ⟨_, (pss_one (ps_ret (pe_fld (pe_meth (pv 0) cB m_disk G_disk (hr.mono (by decide)) b_disk .nil pass_cx (pa_cons (pv 1) pa_nil)) rfl))), ?_⟩
    simp only [cxK, cxK']
    walk_at "w"
    refine ⟨bn, dx, l, ds, B, v, rfl, A, sc, ?_⟩
    cases hd : B.disk v with
    | bad k =>
      rw [hd] at q
      exact q
    | ok i =>
      rw [hd] at q
      obtain ⟨hs, rfl, D, hD, hh⟩ := disk_ok hd
      intro d hdd
      have da := (A.ed i d D hdd hD).a
      walk_at "w"
      exact q D hD
def spLay (c : Nat → Addr) (CB CD : Addr) : Sp := fun vs H Q E => ∃ (bn dx l : Addr) (ds : List DAd) (B : BenchS) (v x : V), vs = [.ref bn, v, x] ∧ BenchAt CB CD H bn dx l ds B ∧ Sca v ∧
  match B.disk v with
  | .bad k => E (.ref (c k)) none H
  | .ok i => match B.spend with
    | (false, B') => After CB CD H bn dx l ds B' fun H' => E (.ref (c 9)) none H'
    | (true, B') => After CB CD H bn dx l ds (B'.setD i fun D => { D with paper := x }) fun H' => Q .non H'
theorem scBLay : FnScope ["self", "number", "sheet", "disk"] ["self", "number", "sheet"] (defScope sBLay) := ⟨rfl, rfl, rfl, by decide +kernel, rfl, by decide +kernel, by decide +kernel⟩
theorem DiskAt.fld {CD : Addr} {H : Hp} {d : DAd} {D D' : DiskS} (A : DiskAt CD H d D) (nd : (fpD d).Nodup) (e : D'.pieces = D.pieces) : DiskAt CD (upd H d.a (.ins CD d.dx (diskF d D'))) d D' := by
  have na := (List.nodup_cons.mp nd).1
  refine ⟨upd_same, ?_, by rw [e]; exact A.n, fun i x r h1 h2 => ?_, by rw [e]; exact A.few, by rw [e]; exact A.four⟩
  · rw [upd_ne (fun z => na (by rw [← z]; exact List.mem_cons_self))]
    exact A.p
  · rw [upd_ne (fun z => na (by rw [← z]; exact List.mem_cons_of_mem _ (List.mem_of_getElem? h1)))]
    rw [e] at h2
    exact A.q i x r h1 h2
theorem ok_lay {f f_disk f_spend CB CD : Addr} {c : Nat → Addr} {fd fdK fdS : FuncData} (F : Fun K "lay" "Bench.lay" sBLay f fd) (T : Txt K mg) (BK : BenchK K CB CD)
    (m_disk : Meth K CB "disk" f_disk) (b_disk : Binds K fdK ["self", "number"] []) (G_disk : FnOk P w K mg base (L2.CX P w) 2 f_disk fdK ["self", "number"] (spDisk c CB CD))
    (m_spend : Meth K CB "spend" f_spend) (b_spend : Binds K fdS ["self"] []) (G_spend : FnOk P w K mg base (L2.CX P w) 1 f_spend fdS ["self"] (spSpend c CB CD)) :
    FnOk P w K mg base (L2.CX P w) 3 f fd ["self", "number", "sheet"] (spLay c CB CD) := by
  refine F.okX scBLay (fun vs H Q E h => ?_) (fun cdv A outer s H vs Q E hr h => ?_)
  · obtain ⟨bn, dx, l, ds, B, v, x, rfl, _⟩ := h
    rfl
  · obtain ⟨bn, dx, l, ds, B, v, x, rfl, A, sc, q⟩ := h
    have hu := hu_of hr
    obtain ⟨cB, cD, n1, n2, n3, n4, n5, n6, n7⟩ := BK
    have eb := A.eb
    refine ⟨_, (pss_cons (ps_set (i := 3) scBLay.nd rfl (by first | exact Or.inl rfl | exact Or.inr rfl) (pe_meth (pv 0) cB m_disk G_disk (hr.mono (by decide)) b_disk .nil pass_cx (pa_cons (pv 1) pa_nil)))
    (pss_cons (ps_expr (pe_meth0 (pv 0) cB m_spend G_spend (hr.mono (by decide)) b_spend .nil pass_cx))
    (pss_one (ps_fld (pv 3) (pv 2) rfl)))), ?_⟩
    simp only [cxK, cxK']
    walk_at "w"
    refine ⟨bn, dx, l, ds, B, v, rfl, A, sc, ?_⟩
    cases hd : B.disk v with
    | bad k =>
      rw [hd] at q
      exact q
    | ok i =>
      rw [hd] at q
      obtain ⟨hs, rfl, D, hD, hh⟩ := disk_ok hd
      intro d hdd
      have mx : d.a ∈ fpD d := List.mem_cons_self
      have nxb : d.a ≠ bn := fun z => (List.nodup_cons.mp A.nd).1 (by rw [← z]; exact List.mem_cons_of_mem _ (List.mem_flatMap.mpr ⟨d, List.mem_of_getElem? hdd, mx⟩))
      walk_at "w"
      refine ⟨bn, dx, l, ds, B, rfl, A, ?_⟩
      have hsd := spend_disks B
      have mb : bn ∈ fpB bn l ds := List.mem_cons_self
      have mxb : d.a ∈ fpB bn l ds := mem_fp hdd mx
      cases hs : B.spend with
      | mk t B' =>
        rw [hs] at q hsd
        have A' := A.own (B' := B') hsd
        cases t with
        | false => exact q _ (kp_set' mb Kp.refl) A'
        | true =>
          have hD' : B'.disks[i]? = some D := by rw [hsd]; exact hD
          have da := (A'.ed i d D hdd hD').a
          walk_at "w"
          exact q _ (kp_set' mxb (kp_set' mb Kp.refl)) (A'.setD (f := fun D => { D with paper := x }) hdd hD' (fun a ha => upd_ne fun z => ha (by rw [z]; exact mx)) ((A'.ed i d D hdd hD').fld (D' := { D with paper := x }) (nd_disk A.nd hdd) rfl))
def spLose (c : Nat → Addr) (CB CD : Addr) : Sp := fun vs H Q E => ∃ (bn dx l : Addr) (ds : List DAd) (B : BenchS) (v : V), vs = [.ref bn, v] ∧ BenchAt CB CD H bn dx l ds B ∧ Sca v ∧
  match B.disk v with
  | .bad k => E (.ref (c k)) none H
  | .ok i => After CB CD H bn dx l ds (B.setD i fun D => { D with here := false }) fun H' => Q .non H'
theorem scBLose : FnScope ["self", "number", "disk"] ["self", "number"] (defScope sBLose) := ⟨rfl, rfl, rfl, by decide +kernel, rfl, by decide +kernel, by decide +kernel⟩
theorem ok_lose {f f_disk CB CD : Addr} {c : Nat → Addr} {fd fdK : FuncData} (F : Fun K "lose" "Bench.lose" sBLose f fd) (T : Txt K mg) (BK : BenchK K CB CD)
    (m_disk : Meth K CB "disk" f_disk) (b_disk : Binds K fdK ["self", "number"] []) (G_disk : FnOk P w K mg base (L2.CX P w) 2 f_disk fdK ["self", "number"] (spDisk c CB CD)) :
    FnOk P w K mg base (L2.CX P w) 3 f fd ["self", "number"] (spLose c CB CD) := by
  refine F.okX scBLose (fun vs H Q E h => ?_) (fun cdv A outer s H vs Q E hr h => ?_)
  · obtain ⟨bn, dx, l, ds, B, v, rfl, _⟩ := h
    rfl
  · obtain ⟨bn, dx, l, ds, B, v, rfl, A, sc, q⟩ := h
    have hu := hu_of hr
    obtain ⟨cB, cD, n1, n2, n3, n4, n5, n6, n7⟩ := BK
    have eb := A.eb
    refine ⟨_, (pss_cons (ps_set (i := 2) scBLose.nd rfl (by first | exact Or.inl rfl | exact Or.inr rfl) (pe_meth (pv 0) cB m_disk G_disk (hr.mono (by decide)) b_disk .nil pass_cx (pa_cons (pv 1) pa_nil)))
    (pss_one (ps_fld (pv 2) pe_bl rfl))), ?_⟩
    simp only [cxK, cxK']
    walk_at "w"
    refine ⟨bn, dx, l, ds, B, v, rfl, A, sc, ?_⟩
    cases hd : B.disk v with
    | bad k =>
      rw [hd] at q
      exact q
    | ok i =>
      rw [hd] at q
      obtain ⟨hs, rfl, D, hD, hh⟩ := disk_ok hd
      intro d hdd
      have DA := A.ed i d D hdd hD
      have da := DA.a
      have mx : d.a ∈ fpD d := List.mem_cons_self
      walk_at "w"
      exact q _ (kp_set' (mem_fp hdd mx) Kp.refl) (A.setD (f := fun D => { D with here := false }) hdd hD (fun a ha => upd_ne fun z => ha (by rw [z]; exact mx)) (DA.fld (D' := { D with here := false }) (nd_disk A.nd hdd) rfl))
end
end VH

namespace VH
open PySem L2
local macro_rules | `(tactic| walk_at "dT") => `(tactic| first
  | ((with_reducible apply iT); (first | assumption | omega))
  | ((with_reducible apply niT); (first | assumption | omega))
  | ((with_reducible apply sT); (first | assumption | rfl))
  | ((with_reducible apply nsT); (first | assumption | decide))
  | ((with_reducible apply nbT); (first | assumption | omega))
  | ((with_reducible apply decide_eq_true); (first | assumption | omega)))
local macro_rules | `(tactic| walk_at "dF") => `(tactic| first
  | ((with_reducible apply iF); (first | assumption | omega))
  | ((with_reducible apply niF); (first | assumption | omega))
  | ((with_reducible apply sF); (first | assumption | decide))
  | ((with_reducible apply nsF); (first | assumption | rfl))
  | ((with_reducible apply nbF); (first | assumption | omega))
  | ((with_reducible apply decide_eq_false); (first | assumption | omega)))
local macro_rules | `(tactic| walk_at "ne") => `(tactic| first | assumption | (apply Ne.symm; assumption) | (apply ne_of_none <;> assumption) | (apply Ne.symm; apply ne_of_none <;> assumption) | (apply ne_new; assumption; walk_at "hg") | (apply Ne.symm; apply ne_new; assumption; walk_at "hg"))
local macro_rules | `(tactic| walk_at "ni") => `(tactic| first | exact ni_nil | (apply ni_cons; walk_at "ne"; walk_at "ni") | assumption)
local macro_rules | `(tactic| walk_at "hg") => `(tactic| first
  | assumption
  | exact upd_same
  | (apply upd_old; assumption; walk_at "hg")
  | (apply upd_oth; walk_at "ne"; walk_at "hg")
  | (apply kp_get; assumption; walk_at "hg"; walk_at "ni"))
local macro_rules | `(tactic| walk_at "mem") => `(tactic| first | exact List.mem_cons_self | (apply List.mem_cons_of_mem; walk_at "mem") | assumption)
local macro_rules | `(tactic| walk_at "no") => `(tactic| first | assumption | (apply none_of_kp2; assumption; walk_at "kp"))
local macro_rules | `(tactic| walk_at "kp") => `(tactic| first
  | assumption
  | exact Kp.refl
  | (apply kp_new'; assumption; walk_at "kp")
  | (apply kp_setn; assumption; walk_at "kp")
  | (apply kp_set'; walk_at "mem"; walk_at "kp")
  | (apply kp_app; assumption; walk_at "kp")
  | (apply kp_app2; assumption; walk_at "kp"))
local macro_rules | `(tactic| walk_at "sz") => `(tactic| first | assumption | exact sz rfl | (apply szb; omega) | (apply szbl; omega) | (apply szb; simp only [List.length_map, List.length_cons, List.length_nil, List.length_append, List.length_set]; omega) | (apply szbl; simp only [List.length_map, List.length_cons, List.length_nil, List.length_append, List.length_set]; omega))
local macro_rules | `(tactic| walk_at "sq") => `(tactic| first
  | assumption
  | (apply sq_l; walk_at "hg")
  | (apply sq_t; walk_at "hg")
  | (apply sqL_new; assumption; walk_at "sq")
  | (apply sqT_new; assumption; walk_at "sq"))
local macro_rules | `(tactic| walk_at "w1") => `(tactic| first
  | with_reducible refine w_seq ?_
  | ((with_reducible apply w_var); exact rfl)
  | with_reducible refine w_c ?_
  | with_reducible refine w_op ?_
  | with_reducible refine w_I0 ?_
  | ((with_reducible apply w_I); (first | assumption | exact Or.inr ⟨by decide, by decide⟩ | exact Or.inl ⟨by decide, by decide⟩ | exact (by show (0 : Int) < _; decide) | exact ⟨by decide, by decide⟩ | exact Or.inl ⟨by omega, by omega⟩ | exact Or.inr ⟨by omega, by omega⟩ | exact ⟨by omega, by omega⟩ | exact (by show (0 : Int) < _; omega)))
  | with_reducible refine w_cons ?_
  | with_reducible refine w_nil ?_
  | with_reducible refine w_asg ?_
  | with_reducible refine w_gName ?_
  | with_reducible refine w_gSub ?_
  | with_reducible refine w_test ?_
  | with_reducible refine w_B ?_
  | with_reducible refine w_ret ?_
  | with_reducible refine w_drop ?_
  | with_reducible refine w_ifS ?_
  | with_reducible refine w_if ?_
  | with_reducible refine w_un ?_
  | with_reducible refine w_U ?_
  | with_reducible refine w_call ?_
  | with_reducible refine w_cb ?_
  | with_reducible refine w_lst ?_
  | with_reducible refine w_tup ?_
  | with_reducible refine w_bm ?_
  | with_reducible refine w_bm0 ?_
  | with_reducible refine w_m1 ?_
  | with_reducible refine w_for ?_
  | with_reducible refine w_iList ?_
  | with_reducible refine w_iTup ?_
  | with_reducible refine w_iStr ?_
  | with_reducible refine w_iR1 ?_
  | with_reducible refine w_iEnum ?_
  | with_reducible refine w_and ?_
  | with_reducible refine w_or ?_
  | with_reducible refine w_not ?_
  | with_reducible refine w_yes ?_
  | with_reducible refine w_isN ?_
  | ((with_reducible apply w_eq); exact rfl)
  | ((with_reducible apply w_ne); exact rfl)
  | with_reducible refine w_chain ?_
  | with_reducible refine w_andV ?_
  | with_reducible refine w_orV ?_
  | with_reducible refine w_notV ?_
  | with_reducible refine w_bl ?_
  | with_reducible refine w_fld ?_
  | with_reducible refine w_sfld ?_
  | with_reducible refine w_next ?_
  | with_reducible refine w_isZ ?_
  | with_reducible refine w_notZ ?_
  | with_reducible refine w_inS ?_
  | with_reducible refine w_notInS ?_
  | ((with_reducible apply w_ifT); exact rfl)
  | ((with_reducible apply w_ifF); exact rfl)
  | ((with_reducible apply w_ifT); walk_at "dT")
  | ((with_reducible apply w_ifF); walk_at "dF")
  | with_reducible refine w_lc ?_
  | with_reducible refine w_aStr ?_
  | ((with_reducible apply w_itL); walk_at "sq")
  | ((with_reducible apply w_itT); walk_at "sq")
  | ((with_reducible apply w_rng); (first | omega | assumption); (first | omega | assumption))
  | ((with_reducible apply w_enum); walk_at "sq")
  | ((with_reducible apply w_lenS); walk_at "sz")
  | ((with_reducible apply w_split); (first | exact rfl | assumption); walk_at "sz")
  | with_reducible refine w_slice ?_
  | with_reducible refine w_part ?_
  | with_reducible refine w_noPart ?_
  | with_reducible refine w_anInt ?_
  | ((with_reducible apply w_slL); walk_at "sq")
  | ((with_reducible apply w_cat); walk_at "hg"; walk_at "hg"; walk_at "sz")
  | ((with_reducible apply w_newSz); walk_at "sz")
  | ((with_reducible apply w_append); walk_at "hg"; walk_at "sz")
  | ((with_reducible apply w_tyD); walk_at "hg")
  | ((with_reducible apply w_gTup); walk_at "sq"; exact rfl)
  | with_reducible refine w_gCons ?_
  | with_reducible refine w_gNil ?_
  | with_reducible refine w_kget2 ?_
  | with_reducible refine w_same ?_
  | ((with_reducible apply w_kat); assumption)
  | ((with_reducible apply w_in); walk_at "sq"; (first | exact rfl | assumption); (first | assumption | exact rfl))
  | ((with_reducible apply w_strI); assumption)
  | with_reducible refine w_disp ?_
  | with_reducible refine w_pcons ?_
  | with_reducible refine w_pnil ?_
  | with_reducible refine w_dget2 ?_
  | ((with_reducible apply w_isD); walk_at "hg")
  | ((with_reducible apply w_dgS); walk_at "hg")
  | ((with_reducible apply w_dupd); walk_at "ne"; walk_at "hg"; walk_at "hg"; (first | decide | walk_at "sz"))
  | ((with_reducible apply w_catS); walk_at "sz")
  | ((with_reducible apply w_slT); walk_at "sq"; assumption)
  | ((with_reducible apply w_ixS); walk_at "sz"; (first | assumption | exact rfl))
  | ((with_reducible apply w_intS); assumption; (first | assumption | omega))
  | ((with_reducible apply w_isi); (first | exact tx_N | exact tx_B | exact tx_I | exact tx_S | (apply tx_L; walk_at "sq") | (apply tx_T; walk_at "sq")); (first | (refine (?_ : _ = some true); decide +kernel) | (refine (?_ : _ = some false); decide +kernel)))
  | ((with_reducible apply w_lenL); walk_at "sq")
  | ((with_reducible apply w_lenT); walk_at "sq")
  | ((with_reducible apply w_listL); walk_at "sq")
  | ((with_reducible apply w_listT); walk_at "sq")
  | ((with_reducible apply w_tupL); walk_at "sq")
  | with_reducible refine w_intI ?_
  | with_reducible refine w_intB ?_
  | with_reducible refine w_strS ?_
  | ((with_reducible apply w_ixXL); walk_at "sq"; (first | exact rfl | exact atI_0 | assumption))
  | ((with_reducible apply w_ixXT); walk_at "sq"; (first | exact rfl | exact atI_0 | assumption))
  | ((with_reducible apply w_tyL); walk_at "sq")
  | with_reducible refine w_tyS ?_
  | ((with_reducible apply w_popAt0); walk_at "hg")
  | ((with_reducible apply w_ixL); walk_at "sq"; (first | exact rfl | exact atI_0 | assumption))
  | ((with_reducible apply w_ixT); walk_at "sq"; (first | exact rfl | exact atI_0 | assumption))
  | ((with_reducible apply w_setL); walk_at "hg"; (first | exact rfl | exact ixN_0)))
local macro_rules | `(tactic| walk_at "w") => `(tactic| repeat walk_at "w1")

local macro_rules | `(tactic| walk_at "w1") => `(tactic| first
  | ((with_reducible apply w_insF); walk_at "hg"; assumption; assumption; exact rfl)
  | with_reducible refine w_meth ?_
  | ((with_reducible apply w_insM); walk_at "hg"; exact rfl)
  | ((with_reducible apply w_setF); walk_at "hg"; assumption; assumption; exact ltF rfl; exact rfl))

section
variable {P : Program} {w : World} {K : PySem.W.Frag} {mg : Str → Option Value} {base : Heap}
/-! ### again, deeds, arm, sizes -/
def spAgain (CB CD : Addr) : Sp := fun vs H Q _ => ∃ (bn dx l : Addr) (ds : List DAd) (B : BenchS), vs = [.ref bn] ∧ BenchAt CB CD H bn dx l ds B ∧ After CB CD H bn dx l ds { B with left := none, stands := false } fun H' => Q .non H'
theorem scBAgain : FnScope ["self"] ["self"] (defScope sBAgain) := ⟨rfl, rfl, rfl, by decide +kernel, rfl, by decide +kernel, by decide +kernel⟩
theorem ok_again {f CB CD : Addr} {fd : FuncData} (F : Fun K "again" "Bench.again" sBAgain f fd) (BK : BenchK K CB CD) : FnOk P w K mg base CX0 1 f fd ["self"] (spAgain CB CD) := by
  refine F.ok scBAgain (fun vs H Q E h => ?_) (fun cdv A outer s H vs Q E hr h => ?_)
  · obtain ⟨bn, dx, l, ds, B, rfl, _⟩ := h
    rfl
  · obtain ⟨bn, dx, l, ds, B, rfl, A, q⟩ := h
    have hu := hu_of hr
    obtain ⟨cB, cD, n1, n2, n3, n4, n5, n6, n7⟩ := BK
    obtain ⟨disks, left, stands, many⟩ := B
    have eb : H bn = some (.ins CB dx [("disks", .ref l), ("left", leftV left), ("stands", .bl stands), ("many", .int many)]) := A.eb
    refine ⟨_, (pss_cons (ps_fld (pv 0) pe_bl rfl)
    (pss_one (ps_fld (pv 0) pe_non rfl))), ?_⟩
    simp only [cxK, cxK']
    walk_at "w"
    show Q .non (upd (upd H bn _) bn _)
    rw [upd_upd]
    exact q _ (kp_set' List.mem_cons_self Kp.refl) (A.own (B' := ⟨disks, none, false, many⟩) rfl)
def spDeeds (CB CD : Addr) : Sp := fun vs H Q _ => ∃ (bn dx l : Addr) (ds : List DAd) (B : BenchS), vs = [.ref bn] ∧ BenchAt CB CD H bn dx l ds B ∧ Q (.int B.many) H
theorem scBDeeds : FnScope ["self"] ["self"] (defScope sBDeeds) := ⟨rfl, rfl, rfl, by decide +kernel, rfl, by decide +kernel, by decide +kernel⟩
theorem ok_deeds {f CB CD : Addr} {fd : FuncData} (F : Fun K "deeds" "Bench.deeds" sBDeeds f fd) (BK : BenchK K CB CD) : FnOk P w K mg base CX0 1 f fd ["self"] (spDeeds CB CD) := by
  refine F.ok scBDeeds (fun vs H Q E h => ?_) (fun cdv A outer s H vs Q E hr h => ?_)
  · obtain ⟨bn, dx, l, ds, B, rfl, _⟩ := h
    rfl
  · obtain ⟨bn, dx, l, ds, B, rfl, A, q⟩ := h
    have hu := hu_of hr
    obtain ⟨cB, cD, n1, n2, n3, n4, n5, n6, n7⟩ := BK
    have eb := A.eb
    refine ⟨_, (pss_one (ps_ret (pe_fld (pv 0) rfl))), ?_⟩
    simp only [cxK, cxK']
    walk_at "w"
    exact q
def spArm (c : Nat → Addr) (CB CD : Addr) : Sp := fun vs H Q E => ∃ (bn dx l : Addr) (ds : List DAd) (B : BenchS) (v : V), vs = [.ref bn, v] ∧ BenchAt CB CD H bn dx l ds B ∧ Sca v ∧
  match numOk v 0 1000000, v with
  | true, .int i => After CB CD H bn dx l ds { B with left := some i } fun H' => Q .non H'
  | _, _ => E (.ref (c 0)) none H
theorem scBArm : FnScope ["self", "count"] ["self", "count"] (defScope sBArm) := ⟨rfl, rfl, rfl, by decide +kernel, rfl, by decide +kernel, by decide +kernel⟩
theorem ok_arm {f fN CB CD : Addr} {c : Nat → Addr} {fd fdN : FuncData} {u1 : Tok} (F : Fun K "arm" "Bench.arm" sBArm f fd) (BK : BenchK K CB CD) (ER : Errs K mg c) (gMC : mg "MOST_COUNT" = some (.int 1000000 u1))
    (FN : Fun K "is_number" "is_number" sIsNum fN fdN) (bN : Binds K fdN ["part", "low", "high"] []) (gN : mg "is_number" = some (.ref fN)) (GN : FnOk P w K mg base CX0 1 fN fdN ["part", "low", "high"] spIsNum) :
    FnOk P w K mg base (L2.CX P w) 2 f fd ["self", "count"] (spArm c CB CD) := by
  refine F.okX scBArm (fun vs H Q E h => ?_) (fun cdv A outer s H vs Q E hr h => ?_)
  · obtain ⟨bn, dx, l, ds, B, v, rfl, _⟩ := h
    rfl
  · obtain ⟨bn, dx, l, ds, B, v, rfl, A, sc, q⟩ := h
    have hu := hu_of hr
    obtain ⟨cB, cD, n1, n2, n3, n4, n5, n6, n7⟩ := BK
    have eb := A.eb
    have eBadNumber := ER.e0
    refine ⟨_, (pss_cons (ps_if (pt_not (pt_val (pe_call GN (hr.mono (by decide)) (by rfl) gN FN.kp bN .nil pass0 (pa_cons (pv 1) (pa_cons pe_int (pa_cons (pe_glob (v := .int 1000000) (by rfl) gMC ⟨_, rfl⟩) pa_nil)))))) (pss_one (ps_raise rfl (takes_of rfl rfl rfl rfl) (pmk_own PySem.F.excBase_ValueError eBadNumber.q eBadNumber.g eBadNumber.k eBadNumber.r (by rfl)))) pss_nil)
    (pss_one (ps_fld (pv 0) (pv 1) rfl))), ?_⟩
    simp only [cxK, cxK']
    walk_at "w"
    refine ⟨v, 0, 1000000, rfl, sc, ?_⟩
    cases hn : numOk v 0 1000000 with
    | false =>
      rw [hn] at q
      walk_at "w"
      exact q
    | true =>
      obtain ⟨y, rfl, y0, y1⟩ := numOk_int hn
      rw [hn] at q
      walk_at "w"
      exact q _ (kp_set' List.mem_cons_self Kp.refl) (A.own (B' := { B with left := some y }) rfl)
def sizeV (D : DiskS) : V := if D.here then .int (D.pieces.length : Int) else .non
def spSizes (CB CD : Addr) : Sp := fun vs H Q _ => ∃ (bn dx l : Addr) (ds : List DAd) (B : BenchS), vs = [.ref bn] ∧ BenchAt CB CD H bn dx l ds B ∧ ∀ H' p, Kp [] H H' → H p = none → H' p = some (.lst (B.disks.map sizeV)) → Q (.ref p) H'
theorem scBSizes : FnScope ["self", "disk"] ["self"] (defScope sBSizes) := ⟨rfl, rfl, rfl, by decide +kernel, rfl, by decide +kernel, by decide +kernel⟩
theorem ok_sizes {f CB CD : Addr} {fd : FuncData} (F : Fun K "sizes" "Bench.sizes" sBSizes f fd) (T : Txt K mg) (BK : BenchK K CB CD) : FnOk P w K mg base CX0 1 f fd ["self"] (spSizes CB CD) := by
  refine F.ok scBSizes (fun vs H Q E h => ?_) (fun cdv A outer s H vs Q E hr h => ?_)
  · obtain ⟨bn, dx, l, ds, B, rfl, _⟩ := h
    rfl
  · obtain ⟨bn, dx, l, ds, B, rfl, A, q⟩ := h
    have hu := hu_of hr
    obtain ⟨cB, cD, n1, n2, n3, n4, n5, n6, n7⟩ := BK
    have eb := A.eb
    have el := A.el
    have nd6 := A.few
    refine ⟨_, (pss_one (ps_ret (pe_lcD (own := [("disk", 1)]) rfl scBSizes.nd (pi_list (pe_fld (pv 0) rfl)) (blkOk_by (N := ["self", "disk"]) (sc := defScope sBSizes) (by decide +kernel)) (fun _ _ _ _ _ => (pg_name (i := 1) scBSizes.nd rfl (by first | exact Or.inl rfl | exact Or.inr rfl))) (fun _ _ _ _ _ => pts_nil) (fun _ _ _ _ _ => (pe_ifExp (pt_val (pe_fld (pv 1) rfl)) (pe_callB cr_lenL (by rfl) T.len (by decide +kernel) (pa_cons (pe_fld (pv 1) rfl) pa_nil)) pe_non))))), ?_⟩
    simp only [cxK, cxK']
    walk_at "w"
    intro Z nZ
    refine lc_list (xs := ds.map fun d => V.ref d.a) (fun i H' => Kp [] H H' ∧ H' Z = some (.lst ((B.disks.take i).map sizeV))) ⟨kp_new Kp.refl nZ, upd_same⟩ (fun i H' _ h => sq_l (h.1.k _ _ el ni_nil)) (fun i x H' hx h => ?_) (fun H' h => ?_)
    · obtain ⟨k, hZ⟩ := h
      obtain ⟨d, hd, rfl⟩ : ∃ d, ds[i]? = some d ∧ V.ref d.a = x := by
        rw [List.getElem?_map] at hx
        cases e : ds[i]? with
        | none => rw [e] at hx; cases hx
        | some d => rw [e] at hx; exact ⟨d, rfl, Option.some.inj hx⟩
      have li : i < B.disks.length := by rw [← A.en]; exact (List.getElem?_eq_some_iff.mp hd).1
      have hD := List.getElem?_eq_getElem li
      have DA := A.ed i d _ hd hD
      have da := k.k _ _ DA.a ni_nil
      have dp := k.k _ _ DA.p ni_nil
      have lt : ((B.disks.take i).map sizeV).length ≤ 6 := by
        rw [List.length_map]
        exact Nat.le_trans (List.length_take_le' _ _) nd6
      have fin : ∀ v, v = sizeV B.disks[i] → ∃ acc, H' Z = some (.lst acc) ∧ acc.length < sizeLine ∧ Kp [] H (upd H' Z (.lst (acc ++ [v]))) ∧ upd H' Z (.lst (acc ++ [v])) Z = some (.lst ((B.disks.take (i + 1)).map sizeV)) := fun v e => by
        refine ⟨_, hZ, by walk_at "sz", kp_setn nZ k, ?_⟩
        rw [upd_same, e]
        exact congrArg (fun z => some (HO.lst z)) (take_snoc hD sizeV)
      walk_at "w"
      refine ⟨rfl, ?_⟩
      walk_at "w"
      cases hh : (B.disks[i]).here with
      | true =>
        walk_at "w"
        refine fin _ ?_
        unfold sizeV
        rw [hh, List.length_map, DA.n]
        rfl
      | false =>
        walk_at "w"
        refine fin _ ?_
        unfold sizeV
        rw [hh]
        rfl
    · obtain ⟨k, hZ⟩ := h
      rw [List.length_map, A.en, List.take_length] at hZ
      exact q _ Z k nZ hZ
end
end VH

namespace VH
open PySem L2
local macro_rules | `(tactic| walk_at "dT") => `(tactic| first
  | ((with_reducible apply iT); (first | assumption | omega))
  | ((with_reducible apply niT); (first | assumption | omega))
  | ((with_reducible apply sT); (first | assumption | rfl))
  | ((with_reducible apply nsT); (first | assumption | decide))
  | ((with_reducible apply nbT); (first | assumption | omega))
  | ((with_reducible apply decide_eq_true); (first | assumption | omega)))
local macro_rules | `(tactic| walk_at "dF") => `(tactic| first
  | ((with_reducible apply iF); (first | assumption | omega))
  | ((with_reducible apply niF); (first | assumption | omega))
  | ((with_reducible apply sF); (first | assumption | decide))
  | ((with_reducible apply nsF); (first | assumption | rfl))
  | ((with_reducible apply nbF); (first | assumption | omega))
  | ((with_reducible apply decide_eq_false); (first | assumption | omega)))
local macro_rules | `(tactic| walk_at "ne") => `(tactic| first | assumption | (apply Ne.symm; assumption) | (apply ne_of_none <;> assumption) | (apply Ne.symm; apply ne_of_none <;> assumption) | (apply ne_new; assumption; walk_at "hg") | (apply Ne.symm; apply ne_new; assumption; walk_at "hg"))
local macro_rules | `(tactic| walk_at "ni") => `(tactic| first | exact ni_nil | (apply ni_cons; walk_at "ne"; walk_at "ni") | assumption)
local macro_rules | `(tactic| walk_at "hg") => `(tactic| first
  | assumption
  | exact upd_same
  | (apply upd_old; assumption; walk_at "hg")
  | (apply upd_oth; walk_at "ne"; walk_at "hg")
  | (apply kp_get; assumption; walk_at "hg"; walk_at "ni"))
local macro_rules | `(tactic| walk_at "mem") => `(tactic| first | exact List.mem_cons_self | (apply List.mem_cons_of_mem; walk_at "mem") | assumption)
local macro_rules | `(tactic| walk_at "no") => `(tactic| first | assumption | (apply none_of_kp2; assumption; walk_at "kp"))
local macro_rules | `(tactic| walk_at "kp") => `(tactic| first
  | assumption
  | exact Kp.refl
  | (apply kp_new'; assumption; walk_at "kp")
  | (apply kp_setn; assumption; walk_at "kp")
  | (apply kp_set'; walk_at "mem"; walk_at "kp")
  | (apply kp_app; assumption; walk_at "kp")
  | (apply kp_app2; assumption; walk_at "kp"))
local macro_rules | `(tactic| walk_at "sz") => `(tactic| first | assumption | exact sz rfl | (apply szb; omega) | (apply szbl; omega) | (apply szb; simp only [List.length_map, List.length_cons, List.length_nil, List.length_append, List.length_set]; omega) | (apply szbl; simp only [List.length_map, List.length_cons, List.length_nil, List.length_append, List.length_set]; omega))
local macro_rules | `(tactic| walk_at "sq") => `(tactic| first
  | assumption
  | (apply sq_l; walk_at "hg")
  | (apply sq_t; walk_at "hg")
  | (apply sqL_new; assumption; walk_at "sq")
  | (apply sqT_new; assumption; walk_at "sq"))
local macro_rules | `(tactic| walk_at "w1") => `(tactic| first
  | with_reducible refine w_seq ?_
  | ((with_reducible apply w_var); exact rfl)
  | with_reducible refine w_c ?_
  | with_reducible refine w_op ?_
  | with_reducible refine w_I0 ?_
  | ((with_reducible apply w_I); (first | assumption | exact Or.inr ⟨by decide, by decide⟩ | exact Or.inl ⟨by decide, by decide⟩ | exact (by show (0 : Int) < _; decide) | exact ⟨by decide, by decide⟩ | exact Or.inl ⟨by omega, by omega⟩ | exact Or.inr ⟨by omega, by omega⟩ | exact ⟨by omega, by omega⟩ | exact (by show (0 : Int) < _; omega)))
  | with_reducible refine w_cons ?_
  | with_reducible refine w_nil ?_
  | with_reducible refine w_asg ?_
  | with_reducible refine w_gName ?_
  | with_reducible refine w_gSub ?_
  | with_reducible refine w_test ?_
  | with_reducible refine w_B ?_
  | with_reducible refine w_ret ?_
  | with_reducible refine w_drop ?_
  | with_reducible refine w_ifS ?_
  | with_reducible refine w_if ?_
  | with_reducible refine w_un ?_
  | with_reducible refine w_U ?_
  | with_reducible refine w_call ?_
  | with_reducible refine w_cb ?_
  | with_reducible refine w_lst ?_
  | with_reducible refine w_tup ?_
  | with_reducible refine w_bm ?_
  | with_reducible refine w_bm0 ?_
  | with_reducible refine w_m1 ?_
  | with_reducible refine w_for ?_
  | with_reducible refine w_iList ?_
  | with_reducible refine w_iTup ?_
  | with_reducible refine w_iStr ?_
  | with_reducible refine w_iR1 ?_
  | with_reducible refine w_iEnum ?_
  | with_reducible refine w_and ?_
  | with_reducible refine w_or ?_
  | with_reducible refine w_not ?_
  | with_reducible refine w_yes ?_
  | with_reducible refine w_isN ?_
  | ((with_reducible apply w_eq); exact rfl)
  | ((with_reducible apply w_ne); exact rfl)
  | with_reducible refine w_chain ?_
  | with_reducible refine w_andV ?_
  | with_reducible refine w_orV ?_
  | with_reducible refine w_notV ?_
  | with_reducible refine w_bl ?_
  | with_reducible refine w_fld ?_
  | with_reducible refine w_sfld ?_
  | with_reducible refine w_next ?_
  | with_reducible refine w_isZ ?_
  | with_reducible refine w_notZ ?_
  | with_reducible refine w_inS ?_
  | with_reducible refine w_notInS ?_
  | ((with_reducible apply w_ifT); exact rfl)
  | ((with_reducible apply w_ifF); exact rfl)
  | ((with_reducible apply w_ifT); walk_at "dT")
  | ((with_reducible apply w_ifF); walk_at "dF")
  | with_reducible refine w_lc ?_
  | with_reducible refine w_aStr ?_
  | ((with_reducible apply w_itL); walk_at "sq")
  | ((with_reducible apply w_itT); walk_at "sq")
  | ((with_reducible apply w_rng); (first | omega | assumption); (first | omega | assumption))
  | ((with_reducible apply w_enum); walk_at "sq")
  | ((with_reducible apply w_lenS); walk_at "sz")
  | ((with_reducible apply w_split); (first | exact rfl | assumption); walk_at "sz")
  | with_reducible refine w_slice ?_
  | with_reducible refine w_part ?_
  | with_reducible refine w_noPart ?_
  | with_reducible refine w_anInt ?_
  | ((with_reducible apply w_slL); walk_at "sq")
  | ((with_reducible apply w_cat); walk_at "hg"; walk_at "hg"; walk_at "sz")
  | ((with_reducible apply w_newSz); walk_at "sz")
  | ((with_reducible apply w_append); walk_at "hg"; walk_at "sz")
  | ((with_reducible apply w_tyD); walk_at "hg")
  | ((with_reducible apply w_gTup); walk_at "sq"; exact rfl)
  | with_reducible refine w_gCons ?_
  | with_reducible refine w_gNil ?_
  | with_reducible refine w_kget2 ?_
  | with_reducible refine w_same ?_
  | ((with_reducible apply w_kat); assumption)
  | ((with_reducible apply w_in); walk_at "sq"; (first | exact rfl | assumption); (first | assumption | exact rfl))
  | ((with_reducible apply w_strI); assumption)
  | with_reducible refine w_disp ?_
  | with_reducible refine w_pcons ?_
  | with_reducible refine w_pnil ?_
  | with_reducible refine w_dget2 ?_
  | ((with_reducible apply w_isD); walk_at "hg")
  | ((with_reducible apply w_dgS); walk_at "hg")
  | ((with_reducible apply w_dupd); walk_at "ne"; walk_at "hg"; walk_at "hg"; (first | decide | walk_at "sz"))
  | ((with_reducible apply w_catS); walk_at "sz")
  | ((with_reducible apply w_slT); walk_at "sq"; assumption)
  | ((with_reducible apply w_ixS); walk_at "sz"; (first | assumption | exact rfl))
  | ((with_reducible apply w_intS); assumption; (first | assumption | omega))
  | ((with_reducible apply w_isi); (first | exact tx_N | exact tx_B | exact tx_I | exact tx_S | (apply tx_L; walk_at "sq") | (apply tx_T; walk_at "sq")); (first | (refine (?_ : _ = some true); decide +kernel) | (refine (?_ : _ = some false); decide +kernel)))
  | ((with_reducible apply w_lenL); walk_at "sq")
  | ((with_reducible apply w_lenT); walk_at "sq")
  | ((with_reducible apply w_listL); walk_at "sq")
  | ((with_reducible apply w_listT); walk_at "sq")
  | ((with_reducible apply w_tupL); walk_at "sq")
  | with_reducible refine w_intI ?_
  | with_reducible refine w_intB ?_
  | with_reducible refine w_strS ?_
  | ((with_reducible apply w_ixXL); walk_at "sq"; (first | exact rfl | exact atI_0 | assumption))
  | ((with_reducible apply w_ixXT); walk_at "sq"; (first | exact rfl | exact atI_0 | assumption))
  | ((with_reducible apply w_tyL); walk_at "sq")
  | with_reducible refine w_tyS ?_
  | ((with_reducible apply w_popAt0); walk_at "hg")
  | ((with_reducible apply w_ixL); walk_at "sq"; (first | exact rfl | exact atI_0 | assumption))
  | ((with_reducible apply w_ixT); walk_at "sq"; (first | exact rfl | exact atI_0 | assumption))
  | ((with_reducible apply w_setL); walk_at "hg"; (first | exact rfl | exact ixN_0)))
local macro_rules | `(tactic| walk_at "w") => `(tactic| repeat walk_at "w1")

local macro_rules | `(tactic| walk_at "w1") => `(tactic| first
  | ((with_reducible apply w_insF); walk_at "hg"; assumption; assumption; exact rfl)
  | with_reducible refine w_meth ?_
  | ((with_reducible apply w_insM); walk_at "hg"; exact rfl)
  | ((with_reducible apply w_setF); walk_at "hg"; assumption; assumption; exact ltF rfl; exact rfl))

section
variable {P : Program} {w : World} {K : PySem.W.Frag} {mg : Str → Option Value} {base : Heap}
theorem w_rep {l : Addr} {k : Int} {xs : List V} {H : Hp} {Q : VK} (hl : H l = some (.lst xs)) (h0 : -(2 ^ 63) ≤ k) (h1 : k < 2 ^ 63) (hz : xs.length * k.toNat ≤ sizeLine) (q : ∀ p, H p = none → Q (.ref p) (upd H p (.lst (List.replicate k.toNat xs).flatten))) : rRep (.ref l) (.int k) H Q := ⟨l, k, xs, rfl, rfl, hl, h0, h1, hz, q⟩
/-! ### a new disk -/
def spDInit (CD : Addr) : Sp := fun vs H Q _ => ∃ (x dx : Addr) (n : Nat), vs = [.ref x, .int (n : Int)] ∧ n ≤ 12 ∧ H x = some (.ins CD dx []) ∧
  ∀ H' p qs, Kp [x] H H' → H p = none → (∀ q ∈ qs, H q = none) → (p :: qs).Nodup → DiskAt CD H' ⟨x, dx, p, qs⟩ (newDisk n) → Q .non H'
theorem scDInit : FnScope ["self", "size", "piece"] ["self", "size"] (defScope sDInit) := ⟨rfl, rfl, rfl, by decide +kernel, rfl, by decide +kernel, by decide +kernel⟩
theorem ok_dinit {f CD : Addr} {fd : FuncData} {u1 : Tok} (F : Fun K "__init__" "Disk.__init__" sDInit f fd) (T : Txt K mg) (cD : Cls K CD) (n5 : NoAttr K CD "pieces") (n6 : NoAttr K CD "paper") (n7 : NoAttr K CD "here") (gBLOCKS : mg "BLOCKS" = some (.int 4 u1)) :
    FnOk P w K mg base CX0 1 f fd ["self", "size"] (spDInit CD) := by
  refine F.ok scDInit (fun vs H Q E h => ?_) (fun cdv A outer s H vs Q E hr h => ?_)
  · obtain ⟨x, dx, n, rfl, _⟩ := h
    rfl
  · obtain ⟨x, dx, n, rfl, hn, ex, q⟩ := h
    have hu := hu_of hr
    refine ⟨_, (pss_cons (ps_fld (pv 0) (pe_lcD (own := [("piece", 2)]) rfl scDInit.nd (pi_range1 (by rfl) T.range (pa_cons (pv 1) pa_nil)) (blkOk_by (N := ["self", "size", "piece"]) (sc := defScope sDInit) (by decide +kernel)) (fun _ _ _ _ _ => (pg_name (i := 2) scDInit.nd rfl (by first | exact Or.inl rfl | exact Or.inr rfl))) (fun _ _ _ _ _ => pts_nil) (fun _ _ _ _ _ => (pe_op op_rep (pe_lst (pa_cons pe_int pa_nil)) (pe_glob (v := .int 4) (by rfl) gBLOCKS ⟨_, rfl⟩)))) rfl)
    (pss_cons (ps_fld (pv 0) pe_non rfl)
    (pss_one (ps_fld (pv 0) pe_bl rfl)))), ?_⟩
    simp only [cxK, cxK']
    walk_at "w"
    intro Z nZ
    refine lc_range (n := n) (fun i H' => ∃ qs : List Addr, Kp [] H H' ∧ H' Z = some (.lst (qs.map V.ref)) ∧ qs.length = i ∧ (Z :: qs).Nodup ∧ ∀ q ∈ qs, H q = none ∧ H' q = some (.lst ([0, 0, 0, 0].map V.int))) ⟨[], kp_new Kp.refl nZ, upd_same, rfl, by simp, fun q hq => by cases hq⟩ (fun i H' hi h => ?_) (fun H' h => ?_)
    · obtain ⟨qs, k, hZ, hl, nd, hq⟩ := h
      walk_at "w"
      refine ⟨rfl, ?_⟩
      walk_at "w"
      intro a na
      walk_at "w"
      refine w_rep upd_same (by decide) (by decide) (sz rfl) ?_
      rw [show (List.replicate (4 : Int).toNat [V.int 0]).flatten = [0, 0, 0, 0].map V.int from rfl]
      intro b nb
      have nb' : H' b = none := none_of_upd nb
      have nZb : Z ≠ b := ne_of_none hZ nb'
      have nH : H b = none := none_of_kp2 nb' k
      have nq : ∀ q ∈ qs, q ≠ b := fun q m => ne_of_none (hq q m).2 nb'
      have nqZ : ∀ q ∈ qs, q ≠ Z := fun q m z => (List.nodup_cons.mp nd).1 (by rw [← z]; exact m)
      refine ⟨_, by walk_at "hg", by rw [List.length_map, hl]; exact szbl (by omega), qs ++ [b], kp_setn nZ (by walk_at "kp"), ?_, by rw [List.length_append, hl]; rfl, ?_, fun q m => ?_⟩
      · rw [upd_same, List.map_append]
        rfl
      · rw [← List.cons_append]
        refine List.nodup_append.mpr ⟨nd, by simp, fun u m1 v m2 => ?_⟩
        rw [List.mem_singleton.mp m2]
        rcases List.mem_cons.mp m1 with rfl | m1
        · exact nZb
        · exact nq u m1
      · rcases List.mem_append.mp m with m | m
        · refine ⟨(hq q m).1, ?_⟩
          rw [upd_ne (nqZ q m)]
          exact upd_old nb (upd_old na (hq q m).2)
        · rw [List.mem_singleton.mp m]
          refine ⟨nH, ?_⟩
          rw [upd_ne (Ne.symm nZb), upd_same]
    · obtain ⟨qs, k, hZ, hl, nd, hq⟩ := h
      have ex' := k.k _ _ ex ni_nil
      have nZx : Z ≠ x := Ne.symm (ne_of_none ex nZ)
      walk_at "w"
      show Q .non (upd (upd (upd H' x _) x _) x _)
      rw [upd_upd, upd_upd]
      refine q _ Z qs (kp_set' List.mem_cons_self ⟨fun a o e _ => k.k a o e ni_nil⟩) nZ (fun y m => (hq y m).1) nd ⟨upd_same, (upd_ne nZx).trans hZ, ?_, fun i y r h1 h2 => ?_, ?_, fun r hr => ?_⟩
      · show qs.length = (List.replicate n _).length
        rw [List.length_replicate, hl]
      · have m := List.mem_of_getElem? h1
        have nyx : y ≠ x := Ne.symm (ne_of_none ex (hq y m).1)
        rw [upd_ne nyx, (hq y m).2]
        have er : r = [0, 0, 0, 0] := List.eq_of_mem_replicate (List.mem_of_getElem? h2)
        rw [er]
      · show (List.replicate n _).length ≤ 12
        rw [List.length_replicate]
        exact hn
      · rw [List.eq_of_mem_replicate (show r ∈ List.replicate n [0, 0, 0, 0] from hr)]
        rfl
end
end VH

namespace VH
open PySem L2
local macro_rules | `(tactic| walk_at "dT") => `(tactic| first
  | ((with_reducible apply iT); (first | assumption | omega))
  | ((with_reducible apply niT); (first | assumption | omega))
  | ((with_reducible apply sT); (first | assumption | rfl))
  | ((with_reducible apply nsT); (first | assumption | decide))
  | ((with_reducible apply nbT); (first | assumption | omega))
  | ((with_reducible apply decide_eq_true); (first | assumption | omega)))
local macro_rules | `(tactic| walk_at "dF") => `(tactic| first
  | ((with_reducible apply iF); (first | assumption | omega))
  | ((with_reducible apply niF); (first | assumption | omega))
  | ((with_reducible apply sF); (first | assumption | decide))
  | ((with_reducible apply nsF); (first | assumption | rfl))
  | ((with_reducible apply nbF); (first | assumption | omega))
  | ((with_reducible apply decide_eq_false); (first | assumption | omega)))
local macro_rules | `(tactic| walk_at "ne") => `(tactic| first | assumption | (apply Ne.symm; assumption) | (apply ne_of_none <;> assumption) | (apply Ne.symm; apply ne_of_none <;> assumption) | (apply ne_new; assumption; walk_at "hg") | (apply Ne.symm; apply ne_new; assumption; walk_at "hg"))
local macro_rules | `(tactic| walk_at "ni") => `(tactic| first | exact ni_nil | (apply ni_cons; walk_at "ne"; walk_at "ni") | assumption)
local macro_rules | `(tactic| walk_at "hg") => `(tactic| first
  | assumption
  | exact upd_same
  | (apply upd_old; assumption; walk_at "hg")
  | (apply upd_oth; walk_at "ne"; walk_at "hg")
  | (apply kp_get; assumption; walk_at "hg"; walk_at "ni"))
local macro_rules | `(tactic| walk_at "mem") => `(tactic| first | exact List.mem_cons_self | (apply List.mem_cons_of_mem; walk_at "mem") | assumption)
local macro_rules | `(tactic| walk_at "no") => `(tactic| first | assumption | (apply none_of_kp2; assumption; walk_at "kp"))
local macro_rules | `(tactic| walk_at "kp") => `(tactic| first
  | assumption
  | exact Kp.refl
  | (apply kp_new'; assumption; walk_at "kp")
  | (apply kp_setn; assumption; walk_at "kp")
  | (apply kp_set'; walk_at "mem"; walk_at "kp")
  | (apply kp_app; assumption; walk_at "kp")
  | (apply kp_app2; assumption; walk_at "kp"))
local macro_rules | `(tactic| walk_at "sz") => `(tactic| first | assumption | exact sz rfl | (apply szb; omega) | (apply szbl; omega) | (apply szb; simp only [List.length_map, List.length_cons, List.length_nil, List.length_append, List.length_set]; omega) | (apply szbl; simp only [List.length_map, List.length_cons, List.length_nil, List.length_append, List.length_set]; omega))
local macro_rules | `(tactic| walk_at "sq") => `(tactic| first
  | assumption
  | (apply sq_l; walk_at "hg")
  | (apply sq_t; walk_at "hg")
  | (apply sqL_new; assumption; walk_at "sq")
  | (apply sqT_new; assumption; walk_at "sq"))
local macro_rules | `(tactic| walk_at "w1") => `(tactic| first
  | with_reducible refine w_seq ?_
  | ((with_reducible apply w_var); exact rfl)
  | with_reducible refine w_c ?_
  | with_reducible refine w_op ?_
  | with_reducible refine w_I0 ?_
  | ((with_reducible apply w_I); (first | assumption | exact Or.inr ⟨by decide, by decide⟩ | exact Or.inl ⟨by decide, by decide⟩ | exact (by show (0 : Int) < _; decide) | exact ⟨by decide, by decide⟩ | exact Or.inl ⟨by omega, by omega⟩ | exact Or.inr ⟨by omega, by omega⟩ | exact ⟨by omega, by omega⟩ | exact (by show (0 : Int) < _; omega)))
  | with_reducible refine w_cons ?_
  | with_reducible refine w_nil ?_
  | with_reducible refine w_asg ?_
  | with_reducible refine w_gName ?_
  | with_reducible refine w_gSub ?_
  | with_reducible refine w_test ?_
  | with_reducible refine w_B ?_
  | with_reducible refine w_ret ?_
  | with_reducible refine w_drop ?_
  | with_reducible refine w_ifS ?_
  | with_reducible refine w_if ?_
  | with_reducible refine w_un ?_
  | with_reducible refine w_U ?_
  | with_reducible refine w_call ?_
  | with_reducible refine w_cb ?_
  | with_reducible refine w_lst ?_
  | with_reducible refine w_tup ?_
  | with_reducible refine w_bm ?_
  | with_reducible refine w_bm0 ?_
  | with_reducible refine w_m1 ?_
  | with_reducible refine w_for ?_
  | with_reducible refine w_iList ?_
  | with_reducible refine w_iTup ?_
  | with_reducible refine w_iStr ?_
  | with_reducible refine w_iR1 ?_
  | with_reducible refine w_iEnum ?_
  | with_reducible refine w_and ?_
  | with_reducible refine w_or ?_
  | with_reducible refine w_not ?_
  | with_reducible refine w_yes ?_
  | with_reducible refine w_isN ?_
  | ((with_reducible apply w_eq); exact rfl)
  | ((with_reducible apply w_ne); exact rfl)
  | with_reducible refine w_chain ?_
  | with_reducible refine w_andV ?_
  | with_reducible refine w_orV ?_
  | with_reducible refine w_notV ?_
  | with_reducible refine w_bl ?_
  | with_reducible refine w_fld ?_
  | with_reducible refine w_sfld ?_
  | with_reducible refine w_next ?_
  | with_reducible refine w_isZ ?_
  | with_reducible refine w_notZ ?_
  | with_reducible refine w_inS ?_
  | with_reducible refine w_notInS ?_
  | ((with_reducible apply w_ifT); exact rfl)
  | ((with_reducible apply w_ifF); exact rfl)
  | ((with_reducible apply w_ifT); walk_at "dT")
  | ((with_reducible apply w_ifF); walk_at "dF")
  | with_reducible refine w_lc ?_
  | with_reducible refine w_aStr ?_
  | ((with_reducible apply w_itL); walk_at "sq")
  | ((with_reducible apply w_itT); walk_at "sq")
  | ((with_reducible apply w_rng); (first | omega | assumption); (first | omega | assumption))
  | ((with_reducible apply w_enum); walk_at "sq")
  | ((with_reducible apply w_lenS); walk_at "sz")
  | ((with_reducible apply w_split); (first | exact rfl | assumption); walk_at "sz")
  | with_reducible refine w_slice ?_
  | with_reducible refine w_part ?_
  | with_reducible refine w_noPart ?_
  | with_reducible refine w_anInt ?_
  | ((with_reducible apply w_slL); walk_at "sq")
  | ((with_reducible apply w_cat); walk_at "hg"; walk_at "hg"; walk_at "sz")
  | ((with_reducible apply w_newSz); walk_at "sz")
  | ((with_reducible apply w_append); walk_at "hg"; walk_at "sz")
  | ((with_reducible apply w_tyD); walk_at "hg")
  | ((with_reducible apply w_gTup); walk_at "sq"; exact rfl)
  | with_reducible refine w_gCons ?_
  | with_reducible refine w_gNil ?_
  | with_reducible refine w_kget2 ?_
  | with_reducible refine w_same ?_
  | ((with_reducible apply w_kat); assumption)
  | ((with_reducible apply w_in); walk_at "sq"; (first | exact rfl | assumption); (first | assumption | exact rfl))
  | ((with_reducible apply w_strI); assumption)
  | with_reducible refine w_disp ?_
  | with_reducible refine w_pcons ?_
  | with_reducible refine w_pnil ?_
  | with_reducible refine w_dget2 ?_
  | ((with_reducible apply w_isD); walk_at "hg")
  | ((with_reducible apply w_dgS); walk_at "hg")
  | ((with_reducible apply w_dupd); walk_at "ne"; walk_at "hg"; walk_at "hg"; (first | decide | walk_at "sz"))
  | ((with_reducible apply w_catS); walk_at "sz")
  | ((with_reducible apply w_slT); walk_at "sq"; assumption)
  | ((with_reducible apply w_ixS); walk_at "sz"; (first | assumption | exact rfl))
  | ((with_reducible apply w_intS); assumption; (first | assumption | omega))
  | ((with_reducible apply w_isi); (first | exact tx_N | exact tx_B | exact tx_I | exact tx_S | (apply tx_L; walk_at "sq") | (apply tx_T; walk_at "sq")); (first | (refine (?_ : _ = some true); decide +kernel) | (refine (?_ : _ = some false); decide +kernel)))
  | ((with_reducible apply w_lenL); walk_at "sq")
  | ((with_reducible apply w_lenT); walk_at "sq")
  | ((with_reducible apply w_listL); walk_at "sq")
  | ((with_reducible apply w_listT); walk_at "sq")
  | ((with_reducible apply w_tupL); walk_at "sq")
  | with_reducible refine w_intI ?_
  | with_reducible refine w_intB ?_
  | with_reducible refine w_strS ?_
  | ((with_reducible apply w_ixXL); walk_at "sq"; (first | exact rfl | exact atI_0 | assumption))
  | ((with_reducible apply w_ixXT); walk_at "sq"; (first | exact rfl | exact atI_0 | assumption))
  | ((with_reducible apply w_tyL); walk_at "sq")
  | with_reducible refine w_tyS ?_
  | ((with_reducible apply w_popAt0); walk_at "hg")
  | ((with_reducible apply w_ixL); walk_at "sq"; (first | exact rfl | exact atI_0 | assumption))
  | ((with_reducible apply w_ixT); walk_at "sq"; (first | exact rfl | exact atI_0 | assumption))
  | ((with_reducible apply w_setL); walk_at "hg"; (first | exact rfl | exact ixN_0)))
local macro_rules | `(tactic| walk_at "w") => `(tactic| repeat walk_at "w1")

local macro_rules | `(tactic| walk_at "w1") => `(tactic| first
  | ((with_reducible apply w_insF); walk_at "hg"; assumption; assumption; exact rfl)
  | with_reducible refine w_meth ?_
  | ((with_reducible apply w_insM); walk_at "hg"; exact rfl)
  | ((with_reducible apply w_setF); walk_at "hg"; assumption; assumption; exact ltF rfl; exact rfl))

section
variable {P : Program} {w : World} {K : PySem.W.Frag} {mg : Str → Option Value} {base : Heap}
theorem w_make {C : Addr} {sp : Sp} {dvs : List V} {E : XK} {t : TA} {σ : L2.St} {H : Hp} {Q : VK} (h : t σ H fun vs H1 => ∀ x dx, H1 x = none → H1 dx = none → dx ≠ x → sp (.ref x :: (vs ++ dvs)) (upd (upd H1 dx (.own x)) x (.ins C dx [])) (fun v H2 => v = .non ∧ Q (.ref x) H2) E) : tMake C sp dvs E t σ H Q := h
theorem kp_make {C x dx : Addr} {H H' : Hp} (nx : H x = none) (ndx : H dx = none) (k : Kp [x] (upd (upd H dx (.own x)) x (.ins C dx [])) H') : Kp [] H H' := ⟨fun a o e _ => by
  have h1 : a ≠ x := ne_of_none e nx
  have h2 : a ≠ dx := ne_of_none e ndx
  exact k.k a o (by rw [upd_ne h1, upd_ne h2]; exact e) (ni_cons h1 ni_nil)⟩
theorem none_make {C x dx p : Addr} {H : Hp} (n : (upd (upd H dx (.own x)) x (.ins C dx [])) p = none) : H p = none := none_of_upd (none_of_upd n)
/-! ### bring -/
theorem flat_set_mem {α β : Type} {f : α → List β} {d' : α} : ∀ {l : List α} {i : Nat} {a : β}, a ∈ (l.set i d').flatMap f → a ∈ l.flatMap f ∨ a ∈ f d'
  | [], _, a, h => by cases h
  | x :: r, 0, a, h => by
    rw [List.set_cons_zero, List.flatMap_cons] at h
    rw [List.flatMap_cons]
    rcases List.mem_append.mp h with h | h
    · exact .inr h
    · exact .inl (List.mem_append.mpr (.inr h))
  | x :: r, i + 1, a, h => by
    rw [List.set_cons_succ, List.flatMap_cons] at h
    rw [List.flatMap_cons]
    rcases List.mem_append.mp h with h | h
    · exact .inl (List.mem_append.mpr (.inl h))
    · rcases flat_set_mem h with h | h
      · exact .inl (List.mem_append.mpr (.inr h))
      · exact .inr h
theorem flat_set_nd {α β : Type} {f : α → List β} {d' : α} : ∀ {l : List α} {i : Nat}, (l.flatMap f).Nodup → (∀ a ∈ f d', a ∉ l.flatMap f) → (f d').Nodup → ((l.set i d').flatMap f).Nodup
  | [], _, h, _, _ => h
  | x :: r, 0, h, g, n => by
    rw [List.flatMap_cons] at h
    rw [List.set_cons_zero, List.flatMap_cons]
    obtain ⟨h1, h2, h3⟩ := List.nodup_append.mp h
    exact List.nodup_append.mpr ⟨n, h2, fun a m b k z => g a m (by rw [List.flatMap_cons, z]; exact List.mem_append.mpr (.inr k))⟩
  | x :: r, i + 1, h, g, n => by
    rw [List.flatMap_cons] at h
    rw [List.set_cons_succ, List.flatMap_cons]
    obtain ⟨h1, h2, h3⟩ := List.nodup_append.mp h
    refine List.nodup_append.mpr ⟨h1, flat_set_nd h2 (fun a m k => g a m (by rw [List.flatMap_cons]; exact List.mem_append.mpr (.inr k))) n, fun a m b k z => ?_⟩
    rcases flat_set_mem k with k | k
    · exact h3 a m b k z
    · exact g b k (by rw [List.flatMap_cons, ← z]; exact List.mem_append.mpr (.inl m))
theorem fp_set {bn l : Addr} {ds : List DAd} {i : Nat} {d : DAd} (h : (fpB bn l ds).Nodup) (g : ∀ a ∈ fpD d, a ∉ fpB bn l ds) (n : (fpD d).Nodup) : (fpB bn l (ds.set i d)).Nodup := by
  obtain ⟨h1, h2⟩ := List.nodup_cons.mp h
  obtain ⟨h3, h4⟩ := List.nodup_cons.mp h2
  refine List.nodup_cons.mpr ⟨fun m => ?_, List.nodup_cons.mpr ⟨fun m => ?_, flat_set_nd h4 (fun a m k => g a m (List.mem_cons_of_mem _ (List.mem_cons_of_mem _ k))) n⟩⟩
  · rcases List.mem_cons.mp m with e | m
    · exact h1 (by rw [e]; exact List.mem_cons_self)
    · rcases flat_set_mem m with m | m
      · exact h1 (List.mem_cons_of_mem _ m)
      · exact g bn m List.mem_cons_self
  · rcases flat_set_mem m with m | m
    · exact h3 m
    · exact g l m (List.mem_cons_of_mem _ List.mem_cons_self)
def BenchS.bring (B : BenchS) (v o : V) : Out (Nat × Nat) :=
  if B.stands then .bad 9 else
  match numOk v 0 ((B.disks.length : Int) - 1), v with
  | true, .int i => match B.disks[i.toNat]? with
    | some d => if d.here then .bad 7 else (match numOk o 1 12, o with
      | true, .int n => .ok (i.toNat, n.toNat)
      | _, _ => .bad 1)
    | none => .bad 7
  | _, _ => .bad 7
def spBring (c : Nat → Addr) (CB CD : Addr) : Sp := fun vs H Q E => ∃ (bn dx l : Addr) (ds : List DAd) (B : BenchS) (v o : V), vs = [.ref bn, v, o] ∧ BenchAt CB CD H bn dx l ds B ∧ Sca v ∧ Sca o ∧
  match B.bring v o with
  | .bad k => E (.ref (c k)) none H
  | .ok (i, n) => ∀ H' ds', Kp (fpB bn l ds) H H' → BenchAt CB CD H' bn dx l ds' (B.setD i fun _ => newDisk n) → (∀ a ∈ fpB bn l ds', a ∈ fpB bn l ds ∨ H a = none) → Q .non H'
theorem scBBring : FnScope ["self", "number", "size"] ["self", "number", "size"] (defScope sBBring) := ⟨rfl, rfl, rfl, by decide +kernel, rfl, by decide +kernel, by decide +kernel⟩
theorem ok_bring {f fN fDI CB CD : Addr} {c : Nat → Addr} {fd fdN fdD : FuncData} {u1 : Tok} (F : Fun K "bring" "Bench.bring" sBBring f fd) (T : Txt K mg) (BK : BenchK K CB CD) (ER : Errs K mg c) (gMP : mg "MOST_PIECES" = some (.int 12 u1))
    (FN : Fun K "is_number" "is_number" sIsNum fN fdN) (bN : Binds K fdN ["part", "low", "high"] []) (gN : mg "is_number" = some (.ref fN)) (GN : FnOk P w K mg base CX0 1 fN fdN ["part", "low", "high"] spIsNum)
    (mkD : Mk K CD fDI) (bDI : Binds K fdD ["self", "size"] []) (gDisk : mg "Disk" = some (.ref CD)) (GDI : FnOk P w K mg base CX0 1 fDI fdD ["self", "size"] (spDInit CD)) :
    FnOk P w K mg base (L2.CX P w) 3 f fd ["self", "number", "size"] (spBring c CB CD) := by
  refine F.okX scBBring (fun vs H Q E h => ?_) (fun cdv A outer s H vs Q E hr h => ?_)
  · obtain ⟨bn, dx, l, ds, B, v, o, rfl, _⟩ := h
    rfl
  · obtain ⟨bn, dx, l, ds, B, v, o, rfl, A, sc, so, q⟩ := h
    have hu := hu_of hr
    obtain ⟨cB, cD, n1, n2, n3, n4, n5, n6, n7⟩ := BK
    have eb := A.eb
    have el := A.el
    have eStopped := ER.e9
    have eNoDisk := ER.e7
    have eBadSizes := ER.e1
    refine ⟨_, (pss_cons (ps_if (pt_val (pe_fld (pv 0) rfl)) (pss_one (ps_raise rfl (takes_of rfl rfl rfl rfl) (pmk_own PySem.F.excBase_ValueError eStopped.q eStopped.g eStopped.k eStopped.r (by rfl)))) pss_nil)
    (pss_cons (ps_if (PW.pt (pw_or (pt_not (pt_val (pe_call GN (hr.mono (by decide)) (by rfl) gN FN.kp bN .nil pass0 (pa_cons (pv 1) (pa_cons pe_int (pa_cons (pe_op op_sub (pe_callB cr_lenL (by rfl) T.len (by decide +kernel) (pa_cons (pe_fld (pv 0) rfl) pa_nil)) pe_int) pa_nil)))))) (pw_or1 (pt_val (pe_fld (pe_ix ix_list (pe_fld (pv 0) rfl) (pv 1) (fun _ _ => rfl)) rfl))))) (pss_one (ps_raise rfl (takes_of rfl rfl rfl rfl) (pmk_own PySem.F.excBase_ValueError eNoDisk.q eNoDisk.g eNoDisk.k eNoDisk.r (by rfl)))) pss_nil)
    (pss_cons (ps_if (pt_not (pt_val (pe_call GN (hr.mono (by decide)) (by rfl) gN FN.kp bN .nil pass0 (pa_cons (pv 2) (pa_cons pe_int (pa_cons (pe_glob (v := .int 12) (by rfl) gMP ⟨_, rfl⟩) pa_nil)))))) (pss_one (ps_raise rfl (takes_of rfl rfl rfl rfl) (pmk_own PySem.F.excBase_ValueError eBadSizes.q eBadSizes.g eBadSizes.k eBadSizes.r (by rfl)))) pss_nil)
    (pss_one (ps_asg (pe_make mkD GDI (hr.mono (by decide)) (by rfl) gDisk bDI .nil pass0 (pa_cons (pv 2) pa_nil)) (pg_sub (pe_fld (pv 0) rfl) (pv 1) set_list)))))), ?_⟩
    simp only [cxK, cxK']
    walk_at "w"
    unfold BenchS.bring at q
    cases hs : B.stands with
    | true =>
      rw [hs] at q
      exact iteT q
    | false =>
      rw [hs] at q
      refine iteF ?_
      walk_at "w"
      refine ⟨v, 0, _, rfl, sc, ?_⟩
      rw [show (((ds.map fun d => V.ref d.a).length : Int) - 1) = (B.disks.length : Int) - 1 by rw [List.length_map, A.en]]
      cases hn : numOk v 0 ((B.disks.length : Int) - 1) with
      | false =>
        rw [hn] at q
        walk_at "w"
        exact q
      | true =>
        obtain ⟨i, rfl, h0, h1⟩ := numOk_int hn
        obtain ⟨j, rfl⟩ : ∃ j : Nat, i = j := ⟨i.toNat, by omega⟩
        have lj : j < B.disks.length := by omega
        have hD := List.getElem?_eq_getElem lj
        have ld : j < ds.length := by rw [A.en]; exact lj
        have hd := List.getElem?_eq_getElem ld
        have DA := A.ed j _ _ hd hD
        have da := DA.a
        have ej : atI (ds.map fun d => V.ref d.a) (j : Int) = some (.ref (ds[j]).a) := atI_nat (by rw [List.getElem?_map, hd]; rfl)
        rw [hn] at q
        simp only [Int.toNat_natCast, hD] at q
        walk_at "w"
        cases hh : (B.disks[j]).here with
        | true =>
          rw [hh] at q
          walk_at "w"
          exact q
        | false =>
          rw [hh] at q
          walk_at "w"
          refine ⟨o, 1, 12, rfl, so, ?_⟩
          cases ho : numOk o 1 12 with
          | false =>
            rw [ho] at q
            walk_at "w"
            exact q
          | true =>
            obtain ⟨y, rfl, y0, y1⟩ := numOk_int ho
            obtain ⟨n, rfl⟩ : ∃ n : Nat, y = n := ⟨y.toNat, by omega⟩
            rw [ho] at q
            walk_at "w"
            have q : ∀ (H' : Hp) (ds' : List DAd), Kp (fpB bn l ds) H H' → BenchAt CB CD H' bn dx l ds' (B.setD j fun _ => newDisk n) → (∀ a ∈ fpB bn l ds', a ∈ fpB bn l ds ∨ H a = none) → Q .non H' := q
            refine w_make ?_
            walk_at "w"
            intro x dx' nx ndx ne
            refine ⟨x, dx', n, rfl, by omega, upd_same, fun H' p qs k np nq nd DN => ⟨rfl, ?_⟩⟩
            have k0 := kp_make nx ndx k
            have eb' := k0.k _ _ eb ni_nil
            have el' := k0.k _ _ el ni_nil
            have fresh : ∀ a ∈ fpD ⟨x, dx', p, qs⟩, H a = none := fun a m => by
              rcases List.mem_cons.mp m with rfl | m
              · exact nx
              · rcases List.mem_cons.mp m with rfl | m
                · exact none_make np
                · exact none_make (nq a m)
            have free : ∀ a ∈ fpD ⟨x, dx', p, qs⟩, a ∉ fpB bn l ds := fun a m z => by
              obtain ⟨o, e⟩ := A.used a z
              rw [fresh a m] at e
              cases e
            have nxd : (fpD ⟨x, dx', p, qs⟩).Nodup := by
              refine List.nodup_cons.mpr ⟨fun m => ?_, nd⟩
              have nnx : ∀ y, (upd (upd H dx' (.own x)) x (.ins CD dx' [])) y = none → y ≠ x := fun y n z => by
                rw [z, upd_same] at n
                cases n
              rcases List.mem_cons.mp m with e | m
              · exact nnx p np e.symm
              · exact nnx x (nq x m) rfl
            have ml : l ∈ fpB bn l ds := List.mem_cons_of_mem _ List.mem_cons_self
            have nlb : l ≠ bn := fun z => (List.nodup_cons.mp A.nd).1 (by rw [← z]; exact List.mem_cons_self)
            have ixl : ixN (ds.map fun d => V.ref d.a).length (j : Int) = some j := by
              unfold ixN
              rw [List.length_map, if_pos (by omega), if_pos (by omega)]
              rfl
            walk_at "w"
            refine w_setL el' ixl ?_
            rw [show (ds.map fun d => V.ref d.a).set j (.ref x) = (ds.set j ⟨x, dx', p, qs⟩).map fun d => V.ref d.a by rw [List.map_set]]
            refine q _ (ds.set j ⟨x, dx', p, qs⟩) (kp_set' ml ⟨fun a o e _ => k0.k a o e ni_nil⟩) ⟨?_, upd_same, ?_, fun i e D h1 h2 => ?_, fp_set A.nd free nxd, ?_⟩ (fun a m => ?_)
            · rw [upd_ne (Ne.symm nlb)]
              exact eb'
            · show (ds.set j _).length = (B.disks.modify j _).length
              rw [List.length_set, List.length_modify]
              exact A.en
            · have h2 : (B.disks.modify j fun _ => newDisk n)[i]? = some D := h2
              rw [List.getElem?_modify] at h2
              by_cases z : j = i
              · subst z
                rw [List.getElem?_set_self ld] at h1
                cases h1
                rw [hD] at h2
                simp at h2
                subst h2
                exact DN.keep fun a m => upd_ne fun z => free a m (by rw [z]; exact ml)
              · rw [List.getElem?_set_ne z] at h1
                simp [z] at h2
                refine (A.ed i e D h1 h2).keep fun a m => ?_
                have mf := mem_fp (bn := bn) (l := l) h1 m
                obtain ⟨ob, eo⟩ := A.used a mf
                rw [upd_ne (fun z => (List.nodup_cons.mp (List.nodup_cons.mp A.nd).2).1 (by rw [← z]; exact List.mem_flatMap.mpr ⟨e, List.mem_of_getElem? h1, m⟩)), eo]
                exact k0.k a ob eo ni_nil
            · show (B.disks.modify j _).length ≤ 6
              rw [List.length_modify]
              exact A.few
            · rcases List.mem_cons.mp m with rfl | m
              · exact .inl List.mem_cons_self
              · rcases List.mem_cons.mp m with rfl | m
                · exact .inl ml
                · rcases flat_set_mem m with m | m
                  · exact .inl (List.mem_cons_of_mem _ (List.mem_cons_of_mem _ m))
                  · exact .inr (fresh a m)
end
end VH

namespace VH
open PySem L2
local macro_rules | `(tactic| walk_at "dT") => `(tactic| first
  | ((with_reducible apply iT); (first | assumption | omega))
  | ((with_reducible apply niT); (first | assumption | omega))
  | ((with_reducible apply sT); (first | assumption | rfl))
  | ((with_reducible apply nsT); (first | assumption | decide))
  | ((with_reducible apply nbT); (first | assumption | omega))
  | ((with_reducible apply decide_eq_true); (first | assumption | omega)))
local macro_rules | `(tactic| walk_at "dF") => `(tactic| first
  | ((with_reducible apply iF); (first | assumption | omega))
  | ((with_reducible apply niF); (first | assumption | omega))
  | ((with_reducible apply sF); (first | assumption | decide))
  | ((with_reducible apply nsF); (first | assumption | rfl))
  | ((with_reducible apply nbF); (first | assumption | omega))
  | ((with_reducible apply decide_eq_false); (first | assumption | omega)))
local macro_rules | `(tactic| walk_at "ne") => `(tactic| first | assumption | (apply Ne.symm; assumption) | (apply ne_of_none <;> assumption) | (apply Ne.symm; apply ne_of_none <;> assumption) | (apply ne_new; assumption; walk_at "hg") | (apply Ne.symm; apply ne_new; assumption; walk_at "hg"))
local macro_rules | `(tactic| walk_at "ni") => `(tactic| first | exact ni_nil | (apply ni_cons; walk_at "ne"; walk_at "ni") | assumption)
local macro_rules | `(tactic| walk_at "hg") => `(tactic| first
  | assumption
  | exact upd_same
  | (apply upd_old; assumption; walk_at "hg")
  | (apply upd_oth; walk_at "ne"; walk_at "hg")
  | (apply kp_get; assumption; walk_at "hg"; walk_at "ni"))
local macro_rules | `(tactic| walk_at "mem") => `(tactic| first | exact List.mem_cons_self | (apply List.mem_cons_of_mem; walk_at "mem") | assumption)
local macro_rules | `(tactic| walk_at "no") => `(tactic| first | assumption | (apply none_of_kp2; assumption; walk_at "kp"))
local macro_rules | `(tactic| walk_at "kp") => `(tactic| first
  | assumption
  | exact Kp.refl
  | (apply kp_new'; assumption; walk_at "kp")
  | (apply kp_setn; assumption; walk_at "kp")
  | (apply kp_set'; walk_at "mem"; walk_at "kp")
  | (apply kp_app; assumption; walk_at "kp")
  | (apply kp_app2; assumption; walk_at "kp"))
local macro_rules | `(tactic| walk_at "sz") => `(tactic| first | assumption | exact sz rfl | (apply szb; omega) | (apply szbl; omega) | (apply szb; simp only [List.length_map, List.length_cons, List.length_nil, List.length_append, List.length_set]; omega) | (apply szbl; simp only [List.length_map, List.length_cons, List.length_nil, List.length_append, List.length_set]; omega))
local macro_rules | `(tactic| walk_at "sq") => `(tactic| first
  | assumption
  | (apply sq_l; walk_at "hg")
  | (apply sq_t; walk_at "hg")
  | (apply sqL_new; assumption; walk_at "sq")
  | (apply sqT_new; assumption; walk_at "sq"))
local macro_rules | `(tactic| walk_at "w1") => `(tactic| first
  | with_reducible refine w_seq ?_
  | ((with_reducible apply w_var); exact rfl)
  | with_reducible refine w_c ?_
  | with_reducible refine w_op ?_
  | with_reducible refine w_I0 ?_
  | ((with_reducible apply w_I); (first | assumption | exact Or.inr ⟨by decide, by decide⟩ | exact Or.inl ⟨by decide, by decide⟩ | exact (by show (0 : Int) < _; decide) | exact ⟨by decide, by decide⟩ | exact Or.inl ⟨by omega, by omega⟩ | exact Or.inr ⟨by omega, by omega⟩ | exact ⟨by omega, by omega⟩ | exact (by show (0 : Int) < _; omega)))
  | with_reducible refine w_cons ?_
  | with_reducible refine w_nil ?_
  | with_reducible refine w_asg ?_
  | with_reducible refine w_gName ?_
  | with_reducible refine w_gSub ?_
  | with_reducible refine w_test ?_
  | with_reducible refine w_B ?_
  | with_reducible refine w_ret ?_
  | with_reducible refine w_drop ?_
  | with_reducible refine w_ifS ?_
  | with_reducible refine w_if ?_
  | with_reducible refine w_un ?_
  | with_reducible refine w_U ?_
  | with_reducible refine w_call ?_
  | with_reducible refine w_cb ?_
  | with_reducible refine w_lst ?_
  | with_reducible refine w_tup ?_
  | with_reducible refine w_bm ?_
  | with_reducible refine w_bm0 ?_
  | with_reducible refine w_m1 ?_
  | with_reducible refine w_for ?_
  | with_reducible refine w_iList ?_
  | with_reducible refine w_iTup ?_
  | with_reducible refine w_iStr ?_
  | with_reducible refine w_iR1 ?_
  | with_reducible refine w_iEnum ?_
  | with_reducible refine w_and ?_
  | with_reducible refine w_or ?_
  | with_reducible refine w_not ?_
  | with_reducible refine w_yes ?_
  | with_reducible refine w_isN ?_
  | ((with_reducible apply w_eq); exact rfl)
  | ((with_reducible apply w_ne); exact rfl)
  | with_reducible refine w_chain ?_
  | with_reducible refine w_andV ?_
  | with_reducible refine w_orV ?_
  | with_reducible refine w_notV ?_
  | with_reducible refine w_bl ?_
  | with_reducible refine w_fld ?_
  | with_reducible refine w_sfld ?_
  | with_reducible refine w_next ?_
  | with_reducible refine w_isZ ?_
  | with_reducible refine w_notZ ?_
  | with_reducible refine w_inS ?_
  | with_reducible refine w_notInS ?_
  | ((with_reducible apply w_ifT); exact rfl)
  | ((with_reducible apply w_ifF); exact rfl)
  | ((with_reducible apply w_ifT); walk_at "dT")
  | ((with_reducible apply w_ifF); walk_at "dF")
  | with_reducible refine w_lc ?_
  | with_reducible refine w_aStr ?_
  | ((with_reducible apply w_itL); walk_at "sq")
  | ((with_reducible apply w_itT); walk_at "sq")
  | ((with_reducible apply w_rng); (first | omega | assumption); (first | omega | assumption))
  | ((with_reducible apply w_enum); walk_at "sq")
  | ((with_reducible apply w_lenS); walk_at "sz")
  | ((with_reducible apply w_split); (first | exact rfl | assumption); walk_at "sz")
  | with_reducible refine w_slice ?_
  | with_reducible refine w_part ?_
  | with_reducible refine w_noPart ?_
  | with_reducible refine w_anInt ?_
  | ((with_reducible apply w_slL); walk_at "sq")
  | ((with_reducible apply w_cat); walk_at "hg"; walk_at "hg"; walk_at "sz")
  | ((with_reducible apply w_newSz); walk_at "sz")
  | ((with_reducible apply w_append); walk_at "hg"; walk_at "sz")
  | ((with_reducible apply w_tyD); walk_at "hg")
  | ((with_reducible apply w_gTup); walk_at "sq"; exact rfl)
  | with_reducible refine w_gCons ?_
  | with_reducible refine w_gNil ?_
  | with_reducible refine w_kget2 ?_
  | with_reducible refine w_same ?_
  | ((with_reducible apply w_kat); assumption)
  | ((with_reducible apply w_in); walk_at "sq"; (first | exact rfl | assumption); (first | assumption | exact rfl))
  | ((with_reducible apply w_strI); assumption)
  | with_reducible refine w_disp ?_
  | with_reducible refine w_pcons ?_
  | with_reducible refine w_pnil ?_
  | with_reducible refine w_dget2 ?_
  | ((with_reducible apply w_isD); walk_at "hg")
  | ((with_reducible apply w_dgS); walk_at "hg")
  | ((with_reducible apply w_dupd); walk_at "ne"; walk_at "hg"; walk_at "hg"; (first | decide | walk_at "sz"))
  | ((with_reducible apply w_catS); walk_at "sz")
  | ((with_reducible apply w_slT); walk_at "sq"; assumption)
  | ((with_reducible apply w_ixS); walk_at "sz"; (first | assumption | exact rfl))
  | ((with_reducible apply w_intS); assumption; (first | assumption | omega))
  | ((with_reducible apply w_isi); (first | exact tx_N | exact tx_B | exact tx_I | exact tx_S | (apply tx_L; walk_at "sq") | (apply tx_T; walk_at "sq")); (first | (refine (?_ : _ = some true); decide +kernel) | (refine (?_ : _ = some false); decide +kernel)))
  | ((with_reducible apply w_lenL); walk_at "sq")
  | ((with_reducible apply w_lenT); walk_at "sq")
  | ((with_reducible apply w_listL); walk_at "sq")
  | ((with_reducible apply w_listT); walk_at "sq")
  | ((with_reducible apply w_tupL); walk_at "sq")
  | with_reducible refine w_intI ?_
  | with_reducible refine w_intB ?_
  | with_reducible refine w_strS ?_
  | ((with_reducible apply w_ixXL); walk_at "sq"; (first | exact rfl | exact atI_0 | assumption))
  | ((with_reducible apply w_ixXT); walk_at "sq"; (first | exact rfl | exact atI_0 | assumption))
  | ((with_reducible apply w_tyL); walk_at "sq")
  | with_reducible refine w_tyS ?_
  | ((with_reducible apply w_popAt0); walk_at "hg")
  | ((with_reducible apply w_ixL); walk_at "sq"; (first | exact rfl | exact atI_0 | assumption))
  | ((with_reducible apply w_ixT); walk_at "sq"; (first | exact rfl | exact atI_0 | assumption))
  | ((with_reducible apply w_setL); walk_at "hg"; (first | exact rfl | exact ixN_0)))
local macro_rules | `(tactic| walk_at "w") => `(tactic| repeat walk_at "w1")

local macro_rules | `(tactic| walk_at "w1") => `(tactic| first
  | ((with_reducible apply w_insF); walk_at "hg"; assumption; assumption; exact rfl)
  | with_reducible refine w_meth ?_
  | ((with_reducible apply w_insM); walk_at "hg"; exact rfl)
  | ((with_reducible apply w_setF); walk_at "hg"; assumption; assumption; exact ltF rfl; exact rfl))

section
variable {P : Program} {w : World} {K : PySem.W.Frag} {mg : Str → Option Value} {base : Heap}
/-! ### Bench(sizes), whole numbers or truths -/
def SI : V → Prop
  | .int _ => True
  | .bl _ => True
  | _ => False
theorem SI.sca {v : V} (h : SI v) : Sca v := by cases v <;> first | exact True.intro | exact h.elim
def sD : V → PyData
  | .int i => .int i
  | .bl b => .bool b
  | _ => .none
theorem dp_si {H : Hp} : ∀ {xs : List V}, (∀ x ∈ xs, SI x) → DpAll K H xs (xs.map sD)
  | [], _ => .nil
  | x :: r, h => by
    have t := dp_si (H := H) (xs := r) fun y hy => h y (List.mem_cons_of_mem _ hy)
    have a := h x List.mem_cons_self
    cases x with
    | int i => exact .cons (.int i) t
    | bl b => exact .cons (.bl b) t
    | _ => exact a.elim
theorem shaped_si {xs : List V} (h : ∀ x ∈ xs, SI x) : SeqAt.shaped (.list (xs.map sD)) = true := by
  have h1 : PyData.canLayAll0 (xs.map sD) = true ∧ PyData.depthAll (xs.map sD) ≤ 1 := by
    induction xs with
    | nil => exact ⟨rfl, by decide⟩
    | cons x r ih =>
      obtain ⟨i1, i2⟩ := ih fun y hy => h y (List.mem_cons_of_mem _ hy)
      have a := h x List.mem_cons_self
      cases x with
      | int i => exact ⟨by show (true && PyData.canLayAll0 (r.map sD)) = true; rw [i1]; rfl, Nat.max_le.mpr ⟨by show 0 ≤ 1; decide, i2⟩⟩
      | bl b => exact ⟨by show (true && PyData.canLayAll0 (r.map sD)) = true; rw [i1]; rfl, Nat.max_le.mpr ⟨by show 0 ≤ 1; decide, i2⟩⟩
      | _ => exact a.elim
  show (PyData.canLayAll0 (xs.map sD) && decide (PyData.depthAll (xs.map sD) + 1 ≤ 64)) = true
  rw [h1.1, decide_eq_true (by have := h1.2; omega)]
  rfl
theorem DiskAt.used {CD : Addr} {H : Hp} {d : DAd} {D : DiskS} (A : DiskAt CD H d D) : ∀ a ∈ fpD d, ∃ o, H a = some o := fun a m => by
  rcases List.mem_cons.mp m with rfl | m
  · exact ⟨_, A.a⟩
  rcases List.mem_cons.mp m with rfl | m
  · exact ⟨_, A.p⟩
  obtain ⟨j, hj⟩ := List.mem_iff_getElem?.mp m
  have lj : j < D.pieces.length := by rw [← A.n]; exact (List.getElem?_eq_some_iff.mp hj).1
  exact ⟨_, A.q j a _ hj (List.getElem?_eq_getElem lj)⟩
def newBench (ns : List Nat) : BenchS := ⟨ns.map newDisk, none, false, 0⟩
def spBInit (K : PySem.W.Frag) (c : Nat → Addr) (CB CD : Addr) : Sp := fun vs H Q E => ∃ (bn dx s : Addr) (xs : List V), vs = [.ref bn, .ref s] ∧ SqL K H s xs ∧ (∀ x ∈ xs, SI x) ∧ xs.length ≤ 1000 ∧ H bn = some (.ins CB dx []) ∧
  ((∀ ns : List Nat, xs = ns.map (fun n : Nat => V.int (n : Int)) → 1 ≤ ns.length → ns.length ≤ 6 → (∀ n ∈ ns, 1 ≤ n ∧ n ≤ 12) → ∀ H' l ds, Kp [bn] H H' → BenchAt CB CD H' bn dx l ds (newBench ns) → (∀ a ∈ fpB bn l ds, a = bn ∨ H a = none) → Q .non H') ∧
   ((xs.length = 0 ∨ 6 < xs.length ∨ ∃ x ∈ xs, numOk x 1 12 = false) → ∀ H', Kp [] H H' → E (.ref (c 1)) none H'))
theorem scBInit : FnScope ["self", "sizes", "size"] ["self", "sizes"] (defScope sBInit) := ⟨rfl, rfl, rfl, by decide +kernel, rfl, by decide +kernel, by decide +kernel⟩
theorem ok_binit {f fN fDI CB CD : Addr} {c : Nat → Addr} {fd fdN fdD : FuncData} {u1 u2 : Tok} (F : Fun K "__init__" "Bench.__init__" sBInit f fd) (T : Txt K mg) (BK : BenchK K CB CD) (ER : Errs K mg c) (gMP : mg "MOST_PIECES" = some (.int 12 u1)) (gMD : mg "MOST_DISKS" = some (.int 6 u2))
    (FN : Fun K "is_number" "is_number" sIsNum fN fdN) (bN : Binds K fdN ["part", "low", "high"] []) (gN : mg "is_number" = some (.ref fN)) (GN : FnOk P w K mg base CX0 1 fN fdN ["part", "low", "high"] spIsNum)
    (mkD : Mk K CD fDI) (bDI : Binds K fdD ["self", "size"] []) (gDisk : mg "Disk" = some (.ref CD)) (GDI : FnOk P w K mg base CX0 1 fDI fdD ["self", "size"] (spDInit CD)) :
    FnOk P w K mg base (L2.CX P w) 3 f fd ["self", "sizes"] (spBInit K c CB CD) := by
  refine F.okX scBInit (fun vs H Q E h => ?_) (fun cdv A outer s H vs Q E hr h => ?_)
  · obtain ⟨bn, dx, s, xs, rfl, _⟩ := h
    rfl
  · obtain ⟨bn, dx, s', xs, rfl, hS, hsi, hl, eb, qt, qf⟩ := h
    have hu := hu_of hr
    obtain ⟨cB, cD, n1, n2, n3, n4, n5, n6, n7⟩ := BK
    have eBadSizes := ER.e1
    refine ⟨_, (pss_cons (ps_if (PW.pt (pw_or (pt_not (pt_chain op_le op_le pe_int (pe_callB cr_lenL (by rfl) T.len (by decide +kernel) (pa_cons (pv 1) pa_nil)) (pe_glob (v := .int 6) (by rfl) gMD ⟨_, rfl⟩))) (pw_or1 (pt_cmpR (op_neD hr.units) (pe_lcD (own := [("size", 2)]) rfl scBInit.nd (pi_list (pv 1)) (blkOk_by (N := ["self", "sizes", "size"]) (sc := defScope sBInit) (by decide +kernel)) (fun _ _ _ _ _ => (pg_name (i := 2) scBInit.nd rfl (by first | exact Or.inl rfl | exact Or.inr rfl))) (fun _ _ _ _ _ => (pts_one (pt_not (pt_val (pe_call GN (hr.mono (by decide)) (by rfl) gN FN.kp bN .nil pass0 (pa_cons (pv 2) (pa_cons pe_int (pa_cons (pe_glob (v := .int 12) (by rfl) gMP ⟨_, rfl⟩) pa_nil)))))))) (fun _ _ _ _ _ => (pv 2))) (pe_lst pa_nil) (nomark _))))) (pss_one (ps_raise rfl (takes_of rfl rfl rfl rfl) (pmk_own PySem.F.excBase_ValueError eBadSizes.q eBadSizes.g eBadSizes.k eBadSizes.r (by rfl)))) pss_nil)
    (pss_cons (ps_fld (pv 0) (pe_lcD (own := [("size", 2)]) rfl scBInit.nd (pi_list (pv 1)) (blkOk_by (N := ["self", "sizes", "size"]) (sc := defScope sBInit) (by decide +kernel)) (fun _ _ _ _ _ => (pg_name (i := 2) scBInit.nd rfl (by first | exact Or.inl rfl | exact Or.inr rfl))) (fun _ _ _ _ _ => pts_nil) (fun _ _ _ _ _ => (pe_make mkD GDI (hr.mono (by decide)) (by rfl) gDisk bDI .nil pass0 (pa_cons (pv 2) pa_nil)))) rfl)
    (pss_cons (ps_fld (pv 0) pe_non rfl)
    (pss_cons (ps_fld (pv 0) pe_bl rfl)
    (pss_one (ps_fld (pv 0) pe_int rfl)))))), ?_⟩
    simp only [cxK, cxK']
    by_cases h0 : 1 ≤ xs.length
    · by_cases h6 : xs.length ≤ 6
      · walk_at "w"
        intro Z nZ
        refine lc_list (xs := xs) (fun i H' => H' = upd H Z (.lst ((xs.take i).filter fun x => !numOk x 1 12))) rfl (fun i H' _ h => by rw [h]; exact sqL_new nZ hS) (fun i x H' hx h => ?_) (fun H' h => ?_)
        · subst h
          have mx := List.mem_of_getElem? hx
          walk_at "w"
          refine ⟨rfl, ?_⟩
          walk_at "w"
          refine ⟨x, 1, 12, rfl, (hsi x mx).sca, ?_⟩
          cases hn : numOk x 1 12 with
          | true =>
            walk_at "w"
            rw [List.take_add_one, hx, List.filter_append]
            simp [hn]
          | false =>
            walk_at "w"
            refine ⟨_, upd_same, szbl (Nat.le_trans (List.length_filter_le _ _) (Nat.le_trans (List.length_take_le' _ _) (by omega))), ?_⟩
            rw [upd_upd, List.take_add_one, hx, List.filter_append]
            simp [hn]
        · subst h
          rw [List.take_length]
          walk_at "w"
          intro p np
          have hsf : ∀ x ∈ xs.filter fun x => !numOk x 1 12, SI x := fun x hx => hsi x (List.mem_filter.mp hx).1
          refine ⟨.list ((xs.filter fun x => !numOk x 1 12).map sD), .list [], .lst (sqL_new np (sq_l upd_same)) (dp_si hsf), .lst (sq_l upd_same) .nil, shaped_si hsf, rfl, ?_⟩
          cases hb : xs.filter fun x => !numOk x 1 12 with
          | cons y r =>
            refine ⟨true, rfl, iteT ?_⟩
            have m : y ∈ xs.filter fun x => !numOk x 1 12 := by rw [hb]; exact List.mem_cons_self
            obtain ⟨m1, m2⟩ := List.mem_filter.mp m
            rw [hb] at np
            refine qf (.inr (.inr ⟨y, m1, ?_⟩)) _ (kp_new (kp_new Kp.refl nZ) np)
            cases e : numOk y 1 12 with
            | false => rfl
            | true => rw [e] at m2; cases m2
          | nil =>
            refine ⟨false, rfl, iteF ?_⟩
            rw [hb] at np
            have all : ∀ x ∈ xs, numOk x 1 12 = true := fun x m => by
              have z := List.filter_eq_nil_iff.mp hb x m
              cases e : numOk x 1 12 with
              | true => rfl
              | false => rw [e] at z; exact absurd rfl z
            obtain ⟨ns, rfl, hns⟩ : ∃ ns : List Nat, xs = ns.map (fun n : Nat => V.int (n : Int)) ∧ ∀ n ∈ ns, 1 ≤ n ∧ n ≤ 12 := by
              clear qt qf hS hl h0 h6 hb hsf np hsi
              induction xs with
              | nil => exact ⟨[], rfl, fun n h => by cases h⟩
              | cons x r ih =>
                obtain ⟨ns, e, h⟩ := ih fun y hy => all y (List.mem_cons_of_mem _ hy)
                obtain ⟨y, rfl, y0, y1⟩ := numOk_int (all x List.mem_cons_self)
                refine ⟨y.toNat :: ns, ?_, fun n hn => ?_⟩
                · rw [List.map_cons, ← e]
                  congr 2
                  omega
                · rcases List.mem_cons.mp hn with rfl | hn
                  · omega
                  · exact h n hn
            have q : ∀ H' l ds, Kp [bn] H H' → BenchAt CB CD H' bn dx l ds (newBench ns) → (∀ a ∈ fpB bn l ds, a = bn ∨ H a = none) → Q .non H' := qt ns rfl (by rw [List.length_map] at h0; exact h0) (by rw [List.length_map] at h6; exact h6) hns
            have kB : Kp [] H (upd (upd H Z (.lst [])) p (.lst [])) := kp_new (kp_new Kp.refl nZ) np
            walk_at "w"
            intro l nl
            have nlH : H l = none := none_of_kp2 nl kB
            refine lc_list (xs := ns.map fun n : Nat => V.int (n : Int)) (fun i H' => ∃ ds : List DAd, Kp [] H H' ∧ H' l = some (.lst (ds.map fun d => V.ref d.a)) ∧ ds.length = i ∧ (l :: ds.flatMap fpD).Nodup ∧ (∀ a ∈ ds.flatMap fpD, H a = none) ∧ ∀ (t : Nat) (d : DAd) (n : Nat), ds[t]? = some d → ns[t]? = some n → DiskAt CD H' d (newDisk n))
              ⟨[], kp_app (kp_new Kp.refl nl) kB, upd_same, rfl, by simp, fun a h => (by cases h), fun t d n h => (by simp at h)⟩ (fun i H' _ h => by obtain ⟨ds, k, _⟩ := h; exact k.same.seq hS) (fun i x H' hx h => ?_) (fun H' h => ?_)
            · obtain ⟨ds, k, hl2, hlen, nd, fr, dk⟩ := h
              obtain ⟨n, hn, rfl⟩ : ∃ n, ns[i]? = some n ∧ V.int (n : Int) = x := by
                rw [List.getElem?_map] at hx
                cases e : ns[i]? with
                | none => rw [e] at hx; cases hx
                | some n => rw [e] at hx; exact ⟨n, rfl, Option.some.inj hx⟩
              have n12 := hns n (List.mem_of_getElem? hn)
              have li : i < ns.length := (List.getElem?_eq_some_iff.mp hn).1
              have lns : ns.length ≤ 6 := by rw [List.length_map] at h6; exact h6
              walk_at "w"
              refine ⟨rfl, ?_⟩
              walk_at "w"
              refine w_make ?_
              walk_at "w"
              intro y dy ny ndy nyd
              refine ⟨y, dy, n, rfl, n12.2, upd_same, fun H2 p2 qs k2 np2 nq nd2 DN => ⟨rfl, ?_⟩⟩
              have k02 := kp_make ny ndy k2
              have hl3 := k02.k _ _ hl2 ni_nil
              have fresh : ∀ a ∈ fpD ⟨y, dy, p2, qs⟩, H' a = none := fun a m => by
                rcases List.mem_cons.mp m with rfl | m
                · exact ny
                · rcases List.mem_cons.mp m with rfl | m
                  · exact none_make np2
                  · exact none_make (nq a m)
              have nxd : (fpD ⟨y, dy, p2, qs⟩).Nodup := by
                refine List.nodup_cons.mpr ⟨fun m => ?_, nd2⟩
                have nnx : ∀ u, (upd (upd H' dy (.own y)) y (.ins CD dy [])) u = none → u ≠ y := fun u n z => by
                  rw [z, upd_same] at n
                  cases n
                rcases List.mem_cons.mp m with e | m
                · exact nnx p2 np2 e.symm
                · exact nnx y (nq y m) rfl
              have nal : ∀ a ∈ fpD ⟨y, dy, p2, qs⟩, a ≠ l := fun a m => Ne.symm (ne_of_none hl2 (fresh a m))
              have old : ∀ (t : Nat) (d : DAd), ds[t]? = some d → ∃ n, ns[t]? = some n ∧ DiskAt CD H' d (newDisk n) := fun t d ht => by
                have lt := (List.getElem?_eq_some_iff.mp ht).1
                have e := List.getElem?_eq_getElem (show t < ns.length by omega)
                exact ⟨_, e, dk t d _ ht e⟩
              have oldl : ∀ (t : Nat) (d : DAd), ds[t]? = some d → ∀ a ∈ fpD d, a ≠ l := fun t d ht a m z => (List.nodup_cons.mp nd).1 (by rw [← z]; exact List.mem_flatMap.mpr ⟨d, List.mem_of_getElem? ht, m⟩)
              refine ⟨_, hl3, by rw [List.length_map, hlen]; exact szbl (by omega), ds ++ [⟨y, dy, p2, qs⟩], kp_setn nlH (kp_app k02 k), by rw [upd_same, List.map_append]; rfl, by rw [List.length_append, hlen]; rfl, ?_, fun a m => ?_, fun t d m h1 h2 => ?_⟩
              · rw [List.flatMap_append, ← List.cons_append]
                refine List.nodup_append.mpr ⟨nd, by simpa using nxd, fun u m1 v m2 z => ?_⟩
                have m2 : v ∈ fpD ⟨y, dy, p2, qs⟩ := by simpa using m2
                rcases List.mem_cons.mp m1 with e | m1
                · exact nal v m2 (by rw [← z, e])
                · obtain ⟨d, hd, m1⟩ := List.mem_flatMap.mp m1
                  obtain ⟨t, ht⟩ := List.mem_iff_getElem?.mp hd
                  obtain ⟨n, _, DA⟩ := old t d ht
                  obtain ⟨ob, e⟩ := DA.used u m1
                  rw [z, fresh v m2] at e
                  cases e
              · rw [List.flatMap_append] at m
                rcases List.mem_append.mp m with m | m
                · exact fr a m
                · exact none_of_kp2 (fresh a (by simpa using m)) k
              · by_cases z : t < ds.length
                · rw [List.getElem?_append_left z] at h1
                  obtain ⟨n', e, DA⟩ := old t d h1
                  rw [h2] at e
                  cases e
                  refine DA.keep fun a ma => ?_
                  obtain ⟨ob, eo⟩ := DA.used a ma
                  rw [upd_ne (oldl t d h1 a ma), eo]
                  exact k02.k a ob eo ni_nil
                · have et : t = ds.length := by
                    have := (List.getElem?_eq_some_iff.mp h1).1
                    rw [List.length_append] at this
                    simp at this
                    omega
                  subst et
                  rw [List.getElem?_append_right (Nat.le_refl _), Nat.sub_self] at h1
                  have h1 : (⟨y, dy, p2, qs⟩ : DAd) = d := Option.some.inj h1
                  subst h1
                  rw [hlen, hn] at h2
                  cases h2
                  exact DN.keep fun a ma => upd_ne (nal a ma)
            · obtain ⟨ds, k, hl2, hlen, nd, fr, dk⟩ := h
              have eb' := k.k _ _ eb ni_nil
              have nlb : l ≠ bn := Ne.symm (ne_of_none eb nlH)
              rw [List.length_map] at hlen
              walk_at "w"
              show Q .non (upd (upd (upd (upd H' bn _) bn _) bn _) bn _)
              rw [upd_upd, upd_upd, upd_upd]
              have nfb : ∀ a ∈ ds.flatMap fpD, a ≠ bn := fun a m => Ne.symm (ne_of_none eb (fr a m))
              refine q _ l ds (kp_set' List.mem_cons_self ⟨fun a o e _ => k.k a o e ni_nil⟩) ⟨upd_same, (upd_ne nlb).trans hl2, ?_, fun i d D h1 h2 => ?_, ?_, ?_⟩ (fun a m => ?_)
              · show ds.length = (ns.map newDisk).length
                rw [List.length_map, hlen]
              · have h2 : (ns.map newDisk)[i]? = some D := h2
                rw [List.getElem?_map] at h2
                cases e : ns[i]? with
                | none => rw [e] at h2; cases h2
                | some n =>
                  rw [e] at h2
                  have h2 : newDisk n = D := Option.some.inj h2
                  subst h2
                  exact (dk i d n h1 e).keep fun a m => upd_ne (nfb a (List.mem_flatMap.mpr ⟨d, List.mem_of_getElem? h1, m⟩))
              · refine List.nodup_cons.mpr ⟨fun m => ?_, nd⟩
                rcases List.mem_cons.mp m with e | m
                · exact nlb e.symm
                · exact nfb bn m rfl
              · show (ns.map newDisk).length ≤ 6
                rw [List.length_map]
                rw [List.length_map] at h6
                exact h6
              · rcases List.mem_cons.mp m with rfl | m
                · exact .inl rfl
                · rcases List.mem_cons.mp m with rfl | m
                  · exact .inr nlH
                  · exact .inr (fr a m)
      · walk_at "w"
        exact qf (.inr (.inl (by omega))) _ Kp.refl
    · walk_at "w"
      exact qf (.inl (by omega)) _ Kp.refl
end
end VH

namespace VH
open PySem L2
local macro_rules | `(tactic| walk_at "dT") => `(tactic| first
  | ((with_reducible apply iT); (first | assumption | omega))
  | ((with_reducible apply niT); (first | assumption | omega))
  | ((with_reducible apply sT); (first | assumption | rfl))
  | ((with_reducible apply nsT); (first | assumption | decide))
  | ((with_reducible apply nbT); (first | assumption | omega))
  | ((with_reducible apply decide_eq_true); (first | assumption | omega)))
local macro_rules | `(tactic| walk_at "dF") => `(tactic| first
  | ((with_reducible apply iF); (first | assumption | omega))
  | ((with_reducible apply niF); (first | assumption | omega))
  | ((with_reducible apply sF); (first | assumption | decide))
  | ((with_reducible apply nsF); (first | assumption | rfl))
  | ((with_reducible apply nbF); (first | assumption | omega))
  | ((with_reducible apply decide_eq_false); (first | assumption | omega)))
local macro_rules | `(tactic| walk_at "ne") => `(tactic| first | assumption | (apply Ne.symm; assumption) | (apply ne_of_none <;> assumption) | (apply Ne.symm; apply ne_of_none <;> assumption) | (apply ne_new; assumption; walk_at "hg") | (apply Ne.symm; apply ne_new; assumption; walk_at "hg"))
local macro_rules | `(tactic| walk_at "ni") => `(tactic| first | exact ni_nil | (apply ni_cons; walk_at "ne"; walk_at "ni") | assumption)
local macro_rules | `(tactic| walk_at "hg") => `(tactic| first
  | assumption
  | exact upd_same
  | (apply upd_old; assumption; walk_at "hg")
  | (apply upd_oth; walk_at "ne"; walk_at "hg")
  | (apply kp_get; assumption; walk_at "hg"; walk_at "ni"))
local macro_rules | `(tactic| walk_at "mem") => `(tactic| first | exact List.mem_cons_self | (apply List.mem_cons_of_mem; walk_at "mem") | assumption)
local macro_rules | `(tactic| walk_at "no") => `(tactic| first | assumption | (apply none_of_kp2; assumption; walk_at "kp"))
local macro_rules | `(tactic| walk_at "kp") => `(tactic| first
  | assumption
  | exact Kp.refl
  | (apply kp_new'; assumption; walk_at "kp")
  | (apply kp_setn; assumption; walk_at "kp")
  | (apply kp_set'; walk_at "mem"; walk_at "kp")
  | (apply kp_app; assumption; walk_at "kp")
  | (apply kp_app2; assumption; walk_at "kp"))
local macro_rules | `(tactic| walk_at "sz") => `(tactic| first | assumption | exact sz rfl | (apply szb; omega) | (apply szbl; omega) | (apply szb; simp only [List.length_map, List.length_cons, List.length_nil, List.length_append, List.length_set]; omega) | (apply szbl; simp only [List.length_map, List.length_cons, List.length_nil, List.length_append, List.length_set]; omega))
local macro_rules | `(tactic| walk_at "sq") => `(tactic| first
  | assumption
  | (apply sq_l; walk_at "hg")
  | (apply sq_t; walk_at "hg")
  | (apply sqL_new; assumption; walk_at "sq")
  | (apply sqT_new; assumption; walk_at "sq"))
local macro_rules | `(tactic| walk_at "w1") => `(tactic| first
  | with_reducible refine w_seq ?_
  | ((with_reducible apply w_var); exact rfl)
  | with_reducible refine w_c ?_
  | with_reducible refine w_op ?_
  | with_reducible refine w_I0 ?_
  | ((with_reducible apply w_I); (first | assumption | exact Or.inr ⟨by decide, by decide⟩ | exact Or.inl ⟨by decide, by decide⟩ | exact (by show (0 : Int) < _; decide) | exact ⟨by decide, by decide⟩ | exact Or.inl ⟨by omega, by omega⟩ | exact Or.inr ⟨by omega, by omega⟩ | exact ⟨by omega, by omega⟩ | exact (by show (0 : Int) < _; omega)))
  | with_reducible refine w_cons ?_
  | with_reducible refine w_nil ?_
  | with_reducible refine w_asg ?_
  | with_reducible refine w_gName ?_
  | with_reducible refine w_gSub ?_
  | with_reducible refine w_test ?_
  | with_reducible refine w_B ?_
  | with_reducible refine w_ret ?_
  | with_reducible refine w_drop ?_
  | with_reducible refine w_ifS ?_
  | with_reducible refine w_if ?_
  | with_reducible refine w_un ?_
  | with_reducible refine w_U ?_
  | with_reducible refine w_call ?_
  | with_reducible refine w_cb ?_
  | with_reducible refine w_lst ?_
  | with_reducible refine w_tup ?_
  | with_reducible refine w_bm ?_
  | with_reducible refine w_bm0 ?_
  | with_reducible refine w_m1 ?_
  | with_reducible refine w_for ?_
  | with_reducible refine w_iList ?_
  | with_reducible refine w_iTup ?_
  | with_reducible refine w_iStr ?_
  | with_reducible refine w_iR1 ?_
  | with_reducible refine w_iEnum ?_
  | with_reducible refine w_and ?_
  | with_reducible refine w_or ?_
  | with_reducible refine w_not ?_
  | with_reducible refine w_yes ?_
  | with_reducible refine w_isN ?_
  | ((with_reducible apply w_eq); exact rfl)
  | ((with_reducible apply w_ne); exact rfl)
  | with_reducible refine w_chain ?_
  | with_reducible refine w_andV ?_
  | with_reducible refine w_orV ?_
  | with_reducible refine w_notV ?_
  | with_reducible refine w_bl ?_
  | with_reducible refine w_fld ?_
  | with_reducible refine w_sfld ?_
  | with_reducible refine w_next ?_
  | with_reducible refine w_isZ ?_
  | with_reducible refine w_notZ ?_
  | with_reducible refine w_inS ?_
  | with_reducible refine w_notInS ?_
  | ((with_reducible apply w_ifT); exact rfl)
  | ((with_reducible apply w_ifF); exact rfl)
  | ((with_reducible apply w_ifT); walk_at "dT")
  | ((with_reducible apply w_ifF); walk_at "dF")
  | with_reducible refine w_lc ?_
  | with_reducible refine w_aStr ?_
  | ((with_reducible apply w_itL); walk_at "sq")
  | ((with_reducible apply w_itT); walk_at "sq")
  | ((with_reducible apply w_rng); (first | omega | assumption); (first | omega | assumption))
  | ((with_reducible apply w_enum); walk_at "sq")
  | ((with_reducible apply w_lenS); walk_at "sz")
  | ((with_reducible apply w_split); (first | exact rfl | assumption); walk_at "sz")
  | with_reducible refine w_slice ?_
  | with_reducible refine w_part ?_
  | with_reducible refine w_noPart ?_
  | with_reducible refine w_anInt ?_
  | ((with_reducible apply w_slL); walk_at "sq")
  | ((with_reducible apply w_cat); walk_at "hg"; walk_at "hg"; walk_at "sz")
  | ((with_reducible apply w_newSz); walk_at "sz")
  | ((with_reducible apply w_append); walk_at "hg"; walk_at "sz")
  | ((with_reducible apply w_tyD); walk_at "hg")
  | ((with_reducible apply w_gTup); walk_at "sq"; exact rfl)
  | with_reducible refine w_gCons ?_
  | with_reducible refine w_gNil ?_
  | with_reducible refine w_kget2 ?_
  | with_reducible refine w_same ?_
  | ((with_reducible apply w_kat); assumption)
  | ((with_reducible apply w_in); walk_at "sq"; (first | exact rfl | assumption); (first | assumption | exact rfl))
  | ((with_reducible apply w_strI); assumption)
  | with_reducible refine w_disp ?_
  | with_reducible refine w_pcons ?_
  | with_reducible refine w_pnil ?_
  | with_reducible refine w_dget2 ?_
  | ((with_reducible apply w_isD); walk_at "hg")
  | ((with_reducible apply w_dgS); walk_at "hg")
  | ((with_reducible apply w_dupd); walk_at "ne"; walk_at "hg"; walk_at "hg"; (first | decide | walk_at "sz"))
  | ((with_reducible apply w_catS); walk_at "sz")
  | ((with_reducible apply w_slT); walk_at "sq"; assumption)
  | ((with_reducible apply w_ixS); walk_at "sz"; (first | assumption | exact rfl))
  | ((with_reducible apply w_intS); assumption; (first | assumption | omega))
  | ((with_reducible apply w_isi); (first | exact tx_N | exact tx_B | exact tx_I | exact tx_S | (apply tx_L; walk_at "sq") | (apply tx_T; walk_at "sq")); (first | (refine (?_ : _ = some true); decide +kernel) | (refine (?_ : _ = some false); decide +kernel)))
  | ((with_reducible apply w_lenL); walk_at "sq")
  | ((with_reducible apply w_lenT); walk_at "sq")
  | ((with_reducible apply w_listL); walk_at "sq")
  | ((with_reducible apply w_listT); walk_at "sq")
  | ((with_reducible apply w_tupL); walk_at "sq")
  | with_reducible refine w_intI ?_
  | with_reducible refine w_intB ?_
  | with_reducible refine w_strS ?_
  | ((with_reducible apply w_ixXL); walk_at "sq"; (first | exact rfl | exact atI_0 | assumption))
  | ((with_reducible apply w_ixXT); walk_at "sq"; (first | exact rfl | exact atI_0 | assumption))
  | ((with_reducible apply w_tyL); walk_at "sq")
  | with_reducible refine w_tyS ?_
  | ((with_reducible apply w_popAt0); walk_at "hg")
  | ((with_reducible apply w_ixL); walk_at "sq"; (first | exact rfl | exact atI_0 | assumption))
  | ((with_reducible apply w_ixT); walk_at "sq"; (first | exact rfl | exact atI_0 | assumption))
  | ((with_reducible apply w_setL); walk_at "hg"; (first | exact rfl | exact ixN_0)))
local macro_rules | `(tactic| walk_at "w") => `(tactic| repeat walk_at "w1")

section
variable {P : Program} {w : World} {K : PySem.W.Frag} {mg : Str → Option Value} {base : Heap}
/-! ### the law's own disk -/
structure OAd where
  e : Addr
  p : Addr
  qs : List Addr
def fpO (d : OAd) : List Addr := d.e :: d.p :: d.qs
structure ODiskAt (H : Hp) (d : OAd) (D : DiskS) : Prop where
  e : H d.e = some (.dK [(Sum.inr "blocks", .ref d.p), (Sum.inr "sheet", D.paper)])
  p : H d.p = some (.lst (d.qs.map V.ref))
  n : d.qs.length = D.pieces.length
  q : ∀ (i : Nat) (x : Addr) (r : List Int), d.qs[i]? = some x → D.pieces[i]? = some r → H x = some (.lst (r.map V.int))
  few : D.pieces.length ≤ 12
  four : ∀ r ∈ D.pieces, r.length = 4
def spLDisk : Sp := fun vs H Q _ => ∃ (n : Nat), vs = [.int (n : Int)] ∧ n ≤ 12 ∧ ∀ H' d, Kp [] H H' → (∀ a ∈ fpO d, H a = none) → (fpO d).Nodup → ODiskAt H' d (newDisk n) → Q (.ref d.e) H'
theorem scLDisk : FnScope ["_law_size", "_law_piece"] ["_law_size"] (defScope sLDisk) := ⟨rfl, rfl, rfl, by decide +kernel, rfl, by decide +kernel, by decide +kernel⟩
theorem ok_ldisk {f : Addr} {fd : FuncData} (F : Fun K "_law_disk" "_law_disk" sLDisk f fd) (T : Txt K mg) : FnOk P w K mg base CX0 1 f fd ["_law_size"] spLDisk := by
  refine F.ok scLDisk (fun vs H Q E h => ?_) (fun cdv A outer s H vs Q E hr h => ?_)
  · obtain ⟨n, rfl, _⟩ := h
    rfl
  · obtain ⟨n, rfl, hn, q⟩ := h
    have hu := hu_of hr
    refine ⟨_, (pss_one (ps_ret (pe_disp (pps_cons pe_str (pe_lcD (own := [("_law_piece", 1)]) rfl scLDisk.nd (pi_range1 (by rfl) T.range (pa_cons (pv 0) pa_nil)) (blkOk_by (N := ["_law_size", "_law_piece"]) (sc := defScope sLDisk) (by decide +kernel)) (fun _ _ _ _ _ => (pg_name (i := 1) scLDisk.nd rfl (by first | exact Or.inl rfl | exact Or.inr rfl))) (fun _ _ _ _ _ => pts_nil) (fun _ _ _ _ _ => (pe_op op_rep (pe_lst (pa_cons pe_int pa_nil)) pe_int))) (pps_cons pe_str pe_non pps_nil)) (by rfl) (by rfl) (fun z => by cases z) (by decide)))), ?_⟩
    walk_at "w"
    intro e ne
    walk_at "w"
    intro Z nZ
    have nZH : H Z = none := none_of_upd nZ
    have eZ : Z ≠ e := Ne.symm (ne_of_none upd_same nZ)
    refine lc_range (n := n) (fun i H' => ∃ qs : List Addr, Kp [] H H' ∧ H' e = some (.dK []) ∧ H' Z = some (.lst (qs.map V.ref)) ∧ qs.length = i ∧ (Z :: qs).Nodup ∧ ∀ q ∈ qs, (upd H e (.dK [])) q = none ∧ H' q = some (.lst ([0, 0, 0, 0].map V.int))) ⟨[], kp_setn nZH (kp_new Kp.refl ne), upd_old nZ upd_same, upd_same, rfl, by simp, fun q hq => (by cases hq)⟩ (fun i H' hi h => ?_) (fun H' h => ?_)
    · obtain ⟨qs, k, he, hZ, hl, nd, hq⟩ := h
      walk_at "w"
      refine ⟨rfl, ?_⟩
      walk_at "w"
      intro a na
      walk_at "w"
      refine w_rep upd_same (by decide) (by decide) (sz rfl) ?_
      rw [show (List.replicate (4 : Int).toNat [V.int 0]).flatten = [0, 0, 0, 0].map V.int from rfl]
      intro b nb
      have nb' : H' b = none := none_of_upd nb
      have nZb : Z ≠ b := ne_of_none hZ nb'
      have neb : e ≠ b := ne_of_none he nb'
      have nH : (upd H e (.dK [])) b = none := by
        rw [upd_ne (Ne.symm neb)]
        exact none_of_kp2 nb' k
      have nq : ∀ q ∈ qs, q ≠ b := fun q m => ne_of_none (hq q m).2 nb'
      have nqZ : ∀ q ∈ qs, q ≠ Z := fun q m z => (List.nodup_cons.mp nd).1 (by rw [← z]; exact m)
      refine ⟨_, by walk_at "hg", by rw [List.length_map, hl]; exact szbl (by omega), qs ++ [b], kp_setn nZH (by walk_at "kp"), ?_, ?_, by rw [List.length_append, hl]; rfl, ?_, fun q m => ?_⟩
      · rw [upd_ne (Ne.symm eZ)]
        exact upd_old nb (upd_old na he)
      · rw [upd_same, List.map_append]
        rfl
      · rw [← List.cons_append]
        refine List.nodup_append.mpr ⟨nd, by simp, fun u m1 v m2 => ?_⟩
        rw [List.mem_singleton.mp m2]
        rcases List.mem_cons.mp m1 with rfl | m1
        · exact nZb
        · exact nq u m1
      · rcases List.mem_append.mp m with m | m
        · refine ⟨(hq q m).1, ?_⟩
          rw [upd_ne (nqZ q m)]
          exact upd_old nb (upd_old na (hq q m).2)
        · rw [List.mem_singleton.mp m]
          refine ⟨nH, ?_⟩
          rw [upd_ne (Ne.symm nZb), upd_same]
    · obtain ⟨qs, k, he, hZ, hl, nd, hq⟩ := h
      walk_at "w"
      refine ⟨he, [(Sum.inr "blocks", .ref Z), (Sum.inr "sheet", .non)], rfl, (by decide : 2 ≤ 15), ?_⟩
      have nqe : ∀ q ∈ qs, q ≠ e := fun q m => Ne.symm (ne_of_none upd_same (hq q m).1)
      refine q _ ⟨e, Z, qs⟩ (kp_setn ne k) (fun a m => ?_) ?_ ⟨upd_same, (upd_ne eZ).trans hZ, ?_, fun i y r h1 h2 => ?_, ?_, fun r hr => ?_⟩
      · rcases List.mem_cons.mp m with rfl | m
        · exact ne
        · rcases List.mem_cons.mp m with rfl | m
          · exact nZH
          · exact none_of_upd (hq a m).1
      · refine List.nodup_cons.mpr ⟨fun m => ?_, nd⟩
        rcases List.mem_cons.mp m with z | m
        · exact eZ z.symm
        · exact nqe e m rfl
      · show qs.length = (List.replicate n _).length
        rw [List.length_replicate, hl]
      · have m := List.mem_of_getElem? h1
        rw [upd_ne (nqe y m), (hq y m).2]
        have er : r = [0, 0, 0, 0] := List.eq_of_mem_replicate (List.mem_of_getElem? h2)
        rw [er]
      · show (List.replicate n _).length ≤ 12
        rw [List.length_replicate]
        exact hn
      · rw [List.eq_of_mem_replicate (show r ∈ List.replicate n [0, 0, 0, 0] from hr)]
        rfl
end
end VH

namespace VH
open PySem L2
local macro_rules | `(tactic| walk_at "dT") => `(tactic| first
  | ((with_reducible apply iT); (first | assumption | omega))
  | ((with_reducible apply niT); (first | assumption | omega))
  | ((with_reducible apply sT); (first | assumption | rfl))
  | ((with_reducible apply nsT); (first | assumption | decide))
  | ((with_reducible apply nbT); (first | assumption | omega))
  | ((with_reducible apply decide_eq_true); (first | assumption | omega)))
local macro_rules | `(tactic| walk_at "dF") => `(tactic| first
  | ((with_reducible apply iF); (first | assumption | omega))
  | ((with_reducible apply niF); (first | assumption | omega))
  | ((with_reducible apply sF); (first | assumption | decide))
  | ((with_reducible apply nsF); (first | assumption | rfl))
  | ((with_reducible apply nbF); (first | assumption | omega))
  | ((with_reducible apply decide_eq_false); (first | assumption | omega)))
local macro_rules | `(tactic| walk_at "ne") => `(tactic| first | assumption | (apply Ne.symm; assumption) | (apply ne_of_none <;> assumption) | (apply Ne.symm; apply ne_of_none <;> assumption) | (apply ne_new; assumption; walk_at "hg") | (apply Ne.symm; apply ne_new; assumption; walk_at "hg"))
local macro_rules | `(tactic| walk_at "ni") => `(tactic| first | exact ni_nil | (apply ni_cons; walk_at "ne"; walk_at "ni") | assumption)
local macro_rules | `(tactic| walk_at "hg") => `(tactic| first
  | assumption
  | exact upd_same
  | (apply upd_old; assumption; walk_at "hg")
  | (apply upd_oth; walk_at "ne"; walk_at "hg")
  | (apply kp_get; assumption; walk_at "hg"; walk_at "ni"))
local macro_rules | `(tactic| walk_at "mem") => `(tactic| first | exact List.mem_cons_self | (apply List.mem_cons_of_mem; walk_at "mem") | assumption)
local macro_rules | `(tactic| walk_at "no") => `(tactic| first | assumption | (apply none_of_kp2; assumption; walk_at "kp"))
local macro_rules | `(tactic| walk_at "kp") => `(tactic| first
  | assumption
  | exact Kp.refl
  | (apply kp_new'; assumption; walk_at "kp")
  | (apply kp_setn; assumption; walk_at "kp")
  | (apply kp_set'; walk_at "mem"; walk_at "kp")
  | (apply kp_app; assumption; walk_at "kp")
  | (apply kp_app2; assumption; walk_at "kp"))
local macro_rules | `(tactic| walk_at "sz") => `(tactic| first | assumption | exact sz rfl | (apply szb; omega) | (apply szbl; omega) | (apply szb; simp only [List.length_map, List.length_cons, List.length_nil, List.length_append, List.length_set]; omega) | (apply szbl; simp only [List.length_map, List.length_cons, List.length_nil, List.length_append, List.length_set]; omega))
local macro_rules | `(tactic| walk_at "sq") => `(tactic| first
  | assumption
  | (apply sq_l; walk_at "hg")
  | (apply sq_t; walk_at "hg")
  | (apply sqL_new; assumption; walk_at "sq")
  | (apply sqT_new; assumption; walk_at "sq"))
local macro_rules | `(tactic| walk_at "w1") => `(tactic| first
  | with_reducible refine w_seq ?_
  | ((with_reducible apply w_var); exact rfl)
  | with_reducible refine w_c ?_
  | with_reducible refine w_op ?_
  | with_reducible refine w_I0 ?_
  | ((with_reducible apply w_I); (first | assumption | exact Or.inr ⟨by decide, by decide⟩ | exact Or.inl ⟨by decide, by decide⟩ | exact (by show (0 : Int) < _; decide) | exact ⟨by decide, by decide⟩ | exact Or.inl ⟨by omega, by omega⟩ | exact Or.inr ⟨by omega, by omega⟩ | exact ⟨by omega, by omega⟩ | exact (by show (0 : Int) < _; omega)))
  | with_reducible refine w_cons ?_
  | with_reducible refine w_nil ?_
  | with_reducible refine w_asg ?_
  | with_reducible refine w_gName ?_
  | with_reducible refine w_gSub ?_
  | with_reducible refine w_test ?_
  | with_reducible refine w_B ?_
  | with_reducible refine w_ret ?_
  | with_reducible refine w_drop ?_
  | with_reducible refine w_ifS ?_
  | with_reducible refine w_if ?_
  | with_reducible refine w_un ?_
  | with_reducible refine w_U ?_
  | with_reducible refine w_call ?_
  | with_reducible refine w_cb ?_
  | with_reducible refine w_lst ?_
  | with_reducible refine w_tup ?_
  | with_reducible refine w_bm ?_
  | with_reducible refine w_bm0 ?_
  | with_reducible refine w_m1 ?_
  | with_reducible refine w_for ?_
  | with_reducible refine w_iList ?_
  | with_reducible refine w_iTup ?_
  | with_reducible refine w_iStr ?_
  | with_reducible refine w_iR1 ?_
  | with_reducible refine w_iEnum ?_
  | with_reducible refine w_and ?_
  | with_reducible refine w_or ?_
  | with_reducible refine w_not ?_
  | with_reducible refine w_yes ?_
  | with_reducible refine w_isN ?_
  | ((with_reducible apply w_eq); exact rfl)
  | ((with_reducible apply w_ne); exact rfl)
  | with_reducible refine w_chain ?_
  | with_reducible refine w_andV ?_
  | with_reducible refine w_orV ?_
  | with_reducible refine w_notV ?_
  | with_reducible refine w_bl ?_
  | with_reducible refine w_fld ?_
  | with_reducible refine w_sfld ?_
  | with_reducible refine w_next ?_
  | with_reducible refine w_isZ ?_
  | with_reducible refine w_notZ ?_
  | with_reducible refine w_inS ?_
  | with_reducible refine w_notInS ?_
  | ((with_reducible apply w_ifT); exact rfl)
  | ((with_reducible apply w_ifF); exact rfl)
  | ((with_reducible apply w_ifT); walk_at "dT")
  | ((with_reducible apply w_ifF); walk_at "dF")
  | with_reducible refine w_lc ?_
  | with_reducible refine w_aStr ?_
  | ((with_reducible apply w_itL); walk_at "sq")
  | ((with_reducible apply w_itT); walk_at "sq")
  | ((with_reducible apply w_rng); (first | omega | assumption); (first | omega | assumption))
  | ((with_reducible apply w_enum); walk_at "sq")
  | ((with_reducible apply w_lenS); walk_at "sz")
  | ((with_reducible apply w_split); (first | exact rfl | assumption); walk_at "sz")
  | with_reducible refine w_slice ?_
  | with_reducible refine w_part ?_
  | with_reducible refine w_noPart ?_
  | with_reducible refine w_anInt ?_
  | ((with_reducible apply w_slL); walk_at "sq")
  | ((with_reducible apply w_cat); walk_at "hg"; walk_at "hg"; walk_at "sz")
  | ((with_reducible apply w_newSz); walk_at "sz")
  | ((with_reducible apply w_append); walk_at "hg"; walk_at "sz")
  | ((with_reducible apply w_tyD); walk_at "hg")
  | ((with_reducible apply w_gTup); walk_at "sq"; exact rfl)
  | with_reducible refine w_gCons ?_
  | with_reducible refine w_gNil ?_
  | with_reducible refine w_kget2 ?_
  | with_reducible refine w_same ?_
  | ((with_reducible apply w_kat); assumption)
  | ((with_reducible apply w_in); walk_at "sq"; (first | exact rfl | assumption); (first | assumption | exact rfl))
  | ((with_reducible apply w_strI); assumption)
  | with_reducible refine w_disp ?_
  | with_reducible refine w_pcons ?_
  | with_reducible refine w_pnil ?_
  | with_reducible refine w_dget2 ?_
  | ((with_reducible apply w_isD); walk_at "hg")
  | ((with_reducible apply w_dgS); walk_at "hg")
  | ((with_reducible apply w_dupd); walk_at "ne"; walk_at "hg"; walk_at "hg"; (first | decide | walk_at "sz"))
  | ((with_reducible apply w_catS); walk_at "sz")
  | ((with_reducible apply w_slT); walk_at "sq"; assumption)
  | ((with_reducible apply w_ixS); walk_at "sz"; (first | assumption | exact rfl))
  | ((with_reducible apply w_intS); assumption; (first | assumption | omega))
  | ((with_reducible apply w_isi); (first | exact tx_N | exact tx_B | exact tx_I | exact tx_S | (apply tx_L; walk_at "sq") | (apply tx_T; walk_at "sq")); (first | (refine (?_ : _ = some true); decide +kernel) | (refine (?_ : _ = some false); decide +kernel)))
  | ((with_reducible apply w_lenL); walk_at "sq")
  | ((with_reducible apply w_lenT); walk_at "sq")
  | ((with_reducible apply w_listL); walk_at "sq")
  | ((with_reducible apply w_listT); walk_at "sq")
  | ((with_reducible apply w_tupL); walk_at "sq")
  | with_reducible refine w_intI ?_
  | with_reducible refine w_intB ?_
  | with_reducible refine w_strS ?_
  | ((with_reducible apply w_ixXL); walk_at "sq"; (first | exact rfl | exact atI_0 | assumption))
  | ((with_reducible apply w_ixXT); walk_at "sq"; (first | exact rfl | exact atI_0 | assumption))
  | ((with_reducible apply w_tyL); walk_at "sq")
  | with_reducible refine w_tyS ?_
  | ((with_reducible apply w_popAt0); walk_at "hg")
  | ((with_reducible apply w_ixL); walk_at "sq"; (first | exact rfl | exact atI_0 | assumption))
  | ((with_reducible apply w_ixT); walk_at "sq"; (first | exact rfl | exact atI_0 | assumption))
  | ((with_reducible apply w_setL); walk_at "hg"; (first | exact rfl | exact ixN_0)))
local macro_rules | `(tactic| walk_at "w") => `(tactic| repeat walk_at "w1")

theorem szl' {n : Nat} (h : Nat.ble n 1000 = true) : n < sizeLine := small1000 (Nat.le_of_ble_eq_true h)
local macro_rules | `(tactic| walk_at "w1") => `(tactic| first
  | ((with_reducible apply w_insF); walk_at "hg"; assumption; assumption; exact rfl)
  | with_reducible refine w_meth ?_
  | ((with_reducible apply w_insM); walk_at "hg"; exact rfl)
  | ((with_reducible apply w_setF); walk_at "hg"; assumption; assumption; exact ltF rfl; exact rfl))
local macro_rules | `(tactic| walk_at "w1") => `(tactic| first
  | with_reducible refine w_dget ?_
  | ((with_reducible apply w_dgK); walk_at "hg"; exact rfl)
  | with_reducible refine w_dput ?_
  | with_reducible refine w_rsd ?_
  | ((with_reducible apply w_dpK4); walk_at "hg"; exact szl' rfl; exact rfl)
  | ((with_reducible apply w_dpK2); walk_at "hg"; exact szl' rfl; exact rfl)
  | ((with_reducible apply w_dpK3); walk_at "hg"; exact szl' rfl; exact rfl)
  | ((with_reducible apply w_dpK1); walk_at "hg"; exact szl' rfl; exact rfl)
  | ((with_reducible apply w_dpK5); walk_at "hg"; exact szl' rfl; exact rfl)
  | ((with_reducible apply w_dpK6); walk_at "hg"; exact szl' rfl; exact rfl))

section
variable {P : Program} {w : World} {K : PySem.W.Frag} {mg : Str → Option Value} {base : Heap}
/-! ### the law's own bench -/
def rowT (q : Addr) (r : List Int) : AT := .n q .lst ((r.map V.int).map AT.v)
def odT (d : OAd) (D : DiskS) : AT := .n d.e (.dic [Sum.inr "blocks", Sum.inr "sheet"]) [.n d.p .lst (List.zipWith rowT d.qs D.pieces), .v D.paper]
def eT : Option OAd → DiskS → AT
  | none, _ => .v .non
  | some d, D => odT d D
def ownK : Knd := .dic [Sum.inr "disks", Sum.inr "left", Sum.inr "stands", Sum.inr "many"]
def ownT (o l : Addr) (es : List (Option OAd)) (B : BenchS) : AT := .n o ownK [.n l .lst (List.zipWith eT es B.disks), .v (leftV B.left), .v (.bl B.stands), .v (.int B.many)]
structure OwnAt (H : Hp) (o l : Addr) (es : List (Option OAd)) (B : BenchS) : Prop where
  g : Good H (ownT o l es B)
  n : es.length = B.disks.length
  h : ∀ (i : Nat) e D, es[i]? = some e → B.disks[i]? = some D → e.isSome = D.here ∧ ∀ d, e = some d → d.qs.length = D.pieces.length
abbrev ownO (l : Addr) (B' : BenchS) : HO := .dK [(Sum.inr "disks", .ref l), (Sum.inr "left", leftV B'.left), (Sum.inr "stands", .bl B'.stands), (Sum.inr "many", .int B'.many)]
theorem OwnAt.fldsS {H : Hp} {o l : Addr} {es : List (Option OAd)} {B B' : BenchS} (A : OwnAt H o l es B) (e : B'.disks = B.disks) : OwnAt (upd H o (ownO l B')) o l es B' ∧ Step H (upd H o (ownO l B')) (ownT o l es B) (ownT o l es B') := by
  have k := A.g.kids
  have z := Step.node (k' := ownK) (us := [.n l .lst (List.zipWith eT es B'.disks), .v (leftV B'.left), .v (.bl B'.stands), .v (.int B'.many)]) A.g Kp.refl (.cons (by rw [e]; exact k.mem List.mem_cons_self) (GoodL.vs (vs := [leftV B'.left, .bl B'.stands, .int B'.many])) (fun b _ m => by rw [show [AT.v (leftV B'.left), .v (.bl B'.stands), .v (.int B'.many)] = [leftV B'.left, V.bl B'.stands, V.int B'.many].map AT.v from rfl, fpL_vs] at m; cases m)) fun b m => by
    rw [fpL_cons, show [AT.v (leftV B'.left), .v (.bl B'.stands), .v (.int B'.many)] = [leftV B'.left, V.bl B'.stands, V.int B'.many].map AT.v from rfl, fpL_vs, List.append_nil, e] at m
    exact .inl (by rw [fpL_cons]; exact List.mem_append.mpr (.inl m))
  exact ⟨⟨z.g, by rw [e]; exact A.n, by rw [e]; exact A.h⟩, z⟩
theorem OwnAt.flds {H : Hp} {o l : Addr} {es : List (Option OAd)} {B B' : BenchS} (A : OwnAt H o l es B) (e : B'.disks = B.disks) : OwnAt (upd H o (ownO l B')) o l es B' := (A.fldsS e).1
def errD (k : Nat) : PyData := .tuple [.str ((clsNames[k]?).getD ""), .int 0]
def IsErr (H : Hp) (v : V) (k : Nat) : Prop := ∃ p, v = .ref p ∧ H p = some (.tup [.str ((clsNames[k]?).getD ""), .int 0])
theorem IsErr.im {H : Hp} {v : V} {k : Nat} (h : IsErr H v k) : Im H v (errD k) := by
  obtain ⟨p, rfl, e⟩ := h
  exact .tup e (.cons (.str _) (.cons (.int _) .nil))
/-- the deed's answer and the bench behind it -/
def BenchS.deed (B : BenchS) (i : Nat) : Option Nat × BenchS := match B.disk (.int (i : Int)) with
  | .bad k => (some k, B)
  | .ok _ => match B.spend with
    | (false, B') => (some 9, B')
    | (true, B') => (none, B')
def spDeed : Sp := fun vs H Q _ => ∃ (o l : Addr) (es : List (Option OAd)) (B : BenchS) (i : Nat), vs = [.ref o, .int (i : Int)] ∧ OwnAt H o l es B ∧ i < B.disks.length ∧
  ∀ H' v, Kp [o] H H' → OwnAt H' o l es (B.deed i).2 → (match (B.deed i).1 with | some k => IsErr H' v k | none => v = .non) → Q v H'
theorem scDeed : FnScope ["_law_own", "_law_disk_here"] ["_law_own", "_law_disk_here"] (defScope sDeed) := ⟨rfl, rfl, rfl, by decide +kernel, rfl, by decide +kernel, by decide +kernel⟩
theorem ok_deed {f : Addr} {fd : FuncData} (F : Fun K "_law_deed" "_law_deed" sDeed f fd) (T : Txt K mg) : FnOk P w K mg base CX0 1 f fd ["_law_own", "_law_disk_here"] spDeed := by
  refine F.ok scDeed (fun vs H Q E h => ?_) (fun cdv A outer s H vs Q E hr h => ?_)
  · obtain ⟨o, l, es, B, i, rfl, _⟩ := h
    rfl
  obtain ⟨o, l, es, B, i, rfl, A, hi, q⟩ := h
  have hu := hu_of hr
  have eo : H o = some (.dK [(Sum.inr "disks", .ref l), (Sum.inr "left", leftV B.left), (Sum.inr "stands", .bl B.stands), (Sum.inr "many", .int B.many)]) := A.g.root
  have el : H l = some (.lst ((List.zipWith eT es B.disks).map AT.val)) := (A.g.kid (i := 0) rfl).root
  refine ⟨_, (pss_cons (ps_if (pt_val (pe_dget hu (pv 0) pe_str (fun _ _ => rfl))) (pss_one (ps_ret (pe_tup (pa_cons pe_str (pa_cons pe_int pa_nil))))) pss_nil)
    (pss_cons (ps_if (pt_cmpR op_isN1 (pe_ix ix_list (pe_dget hu (pv 0) pe_str (fun _ _ => rfl)) (pv 1) (fun _ _ => rfl)) pe_non (nomark _)) (pss_one (ps_ret (pe_tup (pa_cons pe_str (pa_cons pe_int pa_nil))))) pss_nil)
    (pss_cons (ps_if (pt_cmpR op_eq (pe_dget hu (pv 0) pe_str (fun _ _ => rfl)) pe_int (nomark _)) (pss_cons (ps_dput hu (pv 0) pe_str pe_bl rfl)
      (pss_one (ps_ret (pe_tup (pa_cons pe_str (pa_cons pe_int pa_nil)))))) pss_nil)
    (pss_cons (ps_dput hu (pv 0) pe_str (pe_ifExp (pt_cmpR op_notN1 (pe_dget hu (pv 0) pe_str (fun _ _ => rfl)) pe_non (nomark _)) (pe_op op_sub (pe_dget hu (pv 0) pe_str (fun _ _ => rfl)) pe_int) pe_non) rfl)
    (pss_cons (ps_dput hu (pv 0) pe_str (pe_op op_add (pe_dget hu (pv 0) pe_str (fun _ _ => rfl)) pe_int) rfl)
    (pss_one (ps_ret pe_non))))))), ?_⟩
  simp only [cxK, cxK']
  walk_at "w"
  obtain ⟨e, he⟩ : ∃ e, es[i]? = some e := ⟨_, List.getElem?_eq_getElem (by rw [A.n]; exact hi)⟩
  have hD := List.getElem?_eq_getElem hi
  obtain ⟨hh, hq⟩ := A.h i e _ he hD
  have ez : (List.zipWith eT es B.disks)[i]? = some (eT e B.disks[i]) := by
    rw [List.getElem?_zipWith, he, hD]
  have ei : atI ((List.zipWith eT es B.disks).map AT.val) (i : Int) = some (eT e B.disks[i]).val := atI_nat (by rw [List.getElem?_map, ez]; rfl)
  have em : (∃ x, e = some x) ∨ e = none := by cases e <;> simp
  cases hs : B.stands with
  | true =>
    rw [show B.deed i = (some 9, B) by unfold BenchS.deed; rw [disk_stands hs]] at q
    refine iteT ?_
    walk_at "w"
    intro p np
    exact q _ _ (kp_new Kp.refl np) ⟨A.g.kp0 (kp_new Kp.refl np), A.n, A.h⟩ ⟨p, rfl, upd_same⟩
  | false =>
    refine iteF ?_
    rcases em with ⟨d, rfl⟩ | rfl
    · have hh : B.disks[i].here = true := hh.symm
      have hok : B.disk (.int (i : Int)) = .ok i := by rw [disk_at hs hD, hh]; rfl
      obtain ⟨disks, left, stands, many⟩ := B
      cases left with
      | none =>
        clear eo
        have eo : H o = some (.dK [(Sum.inr "disks", .ref l), (Sum.inr "left", .non), (Sum.inr "stands", .bl stands), (Sum.inr "many", .int many)]) := A.g.root
        rw [show BenchS.deed ⟨disks, none, stands, many⟩ i = (none, ⟨disks, none, stands, many + 1⟩) by unfold BenchS.deed; rw [hok]; rfl] at q
        walk_at "w"
        rw [upd_upd]
        exact q _ _ (kp_set' List.mem_cons_self Kp.refl) (A.flds (B' := ⟨disks, none, stands, many + 1⟩) rfl) rfl
      | some n =>
        clear eo
        have eo : H o = some (.dK [(Sum.inr "disks", .ref l), (Sum.inr "left", .int n), (Sum.inr "stands", .bl stands), (Sum.inr "many", .int many)]) := A.g.root
        by_cases h0 : n = 0
        · subst h0
          rw [show BenchS.deed ⟨disks, some 0, stands, many⟩ i = (some 9, ⟨disks, some 0, true, many⟩) by unfold BenchS.deed; rw [hok]; rfl] at q
          walk_at "w"
          intro p np
          exact q _ _ (kp_new (kp_set' List.mem_cons_self Kp.refl) np) (let z := A.flds (B' := ⟨disks, some 0, true, many⟩) rfl; ⟨z.g.kp0 (kp_new Kp.refl np), z.n, z.h⟩) ⟨p, rfl, upd_same⟩
        · have e : BenchS.spend ⟨disks, some n, stands, many⟩ = (true, ⟨disks, some (n - 1), stands, many + 1⟩) := by
            unfold BenchS.spend
            rw [if_neg (fun z => h0 (Option.some.inj z))]
            rfl
          rw [show BenchS.deed ⟨disks, some n, stands, many⟩ i = (none, ⟨disks, some (n - 1), stands, many + 1⟩) by unfold BenchS.deed; rw [hok]; simp only [e]] at q
          walk_at "w"
          rw [upd_upd]
          exact q _ _ (kp_set' List.mem_cons_self Kp.refl) (A.flds (B' := ⟨disks, some (n - 1), stands, many + 1⟩) rfl) rfl
    · have hh : B.disks[i].here = false := hh.symm
      rw [show B.deed i = (some 7, B) by unfold BenchS.deed; rw [disk_at hs hD, hh]; rfl] at q
      walk_at "w"
      intro p np
      exact q _ _ (kp_new Kp.refl np) ⟨A.g.kp0 (kp_new Kp.refl np), A.n, A.h⟩ ⟨p, rfl, upd_same⟩
end
end VH

namespace VH
open PySem PySem.Spec L2 LamX
open PyProof.Rows hiding St
/-! ### told(lambda: ..) -/
def tToldL (T : List (Addr × Str)) (c : Nat → Addr) (t : XK → TE) : TE := fun σ H Q => Tabs T H ∧ ∀ H1, ExtN H H1 → Tabs T H1 → TToldV c (fun E H' Q' => t E σ H' Q') H1 Q
theorem w_toldL {T : List (Addr × Str)} {c : Nat → Addr} {t : XK → TE} {σ : L2.St} {H : Hp} {Q : VK} (hT : Tabs T H) (h : ∀ H1, ExtN H H1 → Tabs T H1 → TToldV c (fun E H' Q' => t E σ H' Q') H1 Q) : tToldL T c t σ H Q := ⟨hT, h⟩
theorem pe_imp {X : Cx} {e : Expr} {t t' : TE} (p : PE X e t) (h : ∀ σ H Q, t' σ H Q → t σ H Q) : PE X e t' := ⟨fun pins s σ H Q I q => p.run pins s σ H Q I (h σ H Q q)⟩
section
variable {X : Cx} {T : List (Addr × Str)} {c : Nat → Addr} {cM PM fT : Addr} {fdT : FuncData} {k : Nat} {params : Arguments} {body : Expr} {scope : Scope} {t : XK → TE} {p lpos pos : Pos}
theorem pe_toldV (GT : FnOkT X.prog X.w X.K X.mg X.base CX0 (k + 1) (k + 2) fT fdT ["_law_work"] (spTold c)) (hr : Room (k + 2) X.A) (hg : Gl X "_law_told") (gT : X.mg "_law_told" = some (.ref fT)) (kp : PySem.W.keepIn X.K (.ref fT) = true) (bT : L2.Binds X.K fdT ["_law_work"] [])
    (TB : TabB X.base X.mg cM PM) (hcode : X.env.code = .ref cM) (hm : (PM, X.env.qual ++ "<lambda>") ∈ T) (hu : ∀ p ∈ T, p.1 = PM → p.2 = X.env.qual ++ "<lambda>") (L : LamP X.N X.env.scope scope []) (hdef : defaultsOf params X.env = ([], []))
    (hbind : ∀ (q : Str) (cl : List (Str × Addr)) (pm cv ctv : Value), bindArgs (PySem.W.kla_fn "<lambda>" q params body scope cl pm cv ctv) ⟨[], []⟩ = pure [])
    (hbody : ∀ (A : Around) (outer : List Env) (s1 : Shared) (HZ : Hp) (E : XK) (f c' : Addr), Room k (A.deeper (lamEnv X scope s1.heap.objs.size f c')) → PE (lamCx X A outer s1 HZ E scope f c') body (t E)) :
    PE X (.Call (.Name "_law_told" p) [.Lambda params body scope lpos] [] pos) (tToldL T c t) := by
  refine pe_imp (pe_callT (E := E0) (mk := fun σ f F tl => ∃ c', F = ⟨X.env.qual ++ "<lambda>", params, body, scope, cloFrom X.env.cells scope.names [], c', .none⟩ ∧ tl = fun E HZ Q => t E σ HZ Q) GT hr hg gT kp bT pass0 (fun pins s σ H I f F tl hz => ?_) (pa_cons (pe_lamV TB hcode hm hu L hdef) pa_nil)) fun σ H Q h => ?_
  · obtain ⟨c', rfl, rfl⟩ := hz
    exact thunk_made I L (lbind0 rfl hbind) fun A outer s1 HZ E hr2 => hbody A outer s1 HZ E f c' hr2
  · obtain ⟨hT, h⟩ := h
    refine ⟨hT, fun f c' H1 eN T1 _ f1 c1 => ?_⟩
    exact ⟨f, _, _, rfl, ⟨c', rfl, rfl⟩, ⟨f1, c1, .inl rfl⟩, h H1 eN T1⟩
theorem pe_toldD {pd : Str} {d : Expr} {i : Int} (GT : FnOkT X.prog X.w X.K X.mg X.base CX0 (k + 1) (k + 2) fT fdT ["_law_work"] (spTold c)) (hr : Room (k + 2) X.A) (hg : Gl X "_law_told") (gT : X.mg "_law_told" = some (.ref fT)) (kp : PySem.W.keepIn X.K (.ref fT) = true) (bT : L2.Binds X.K fdT ["_law_work"] [])
    (TB : TabB X.base X.mg cM PM) (hcode : X.env.code = .ref cM) (hm : (PM, X.env.qual ++ "<lambda>") ∈ T) (hu : ∀ p ∈ T, p.1 = PM → p.2 = X.env.qual ++ "<lambda>") (L : LamP X.N X.env.scope scope [pd]) (hd : PE X d (tC (.int i))) (hdef : defaultsOf params X.env = ([eval d X.env], []))
    (hbind : ∀ (t : Addr) (q : Str) (cl : List (Str × Addr)) (pm cv ctv : Value), ∃ k, bindArgs { PySem.W.kla_fn "<lambda>" q params body scope cl pm cv ctv with defaults := .ref t } ⟨[], []⟩ = seqItems? (.ref t) >>= k ∧ ∀ u, k (some #[u]) = pure [(pd, u)])
    (hbody : ∀ (A : Around) (outer : List Env) (s1 : Shared) (HZ : Hp) (E : XK) (f c' : Addr), Room k (A.deeper (lamEnv X scope s1.heap.objs.size f c')) → PE (lamCx X A outer s1 HZ E scope f c') body (t E)) :
    PE X (.Call (.Name "_law_told" p) [.Lambda params body scope lpos] [] pos) (tToldL T c t) := by
  refine pe_imp (pe_callT (E := E0) (mk := fun σ f F tl => ∃ c' t', F = ⟨X.env.qual ++ "<lambda>", params, body, scope, cloFrom X.env.cells scope.names [], c', .ref t'⟩ ∧ tl = fun E HZ Q => t E σ HZ Q) GT hr hg gT kp bT pass0 (fun pins s σ H I f F tl hz => ?_) (pa_cons (pe_lamD TB hcode hm hu L hd hdef) pa_nil)) fun σ H Q h => ?_
  · obtain ⟨c', t', rfl, rfl⟩ := hz
    exact thunk_made I L (lbind1 rfl (hbind t')) fun A outer s1 HZ E hr2 => hbody A outer s1 HZ E f c' hr2
  · obtain ⟨hT, h⟩ := h
    refine ⟨hT, fun t' f c' H1 nt eN T1 _ _ f1 c1 => ?_⟩
    have e1 : ExtN H H1 := fun a o e n => eN a o (upd_old nt e) n
    exact ⟨f, _, _, rfl, ⟨c', t', rfl, rfl⟩, ⟨f1, c1, .inr ⟨t', _, rfl, eN t' _ upd_same fun ps z => by cases z⟩⟩, h H1 e1 T1⟩
end
/-! ### lists of lambdas -/
def LamTh (X : Cx) (kT : Nat) (mk : L2.St → TH) : Prop := ∀ pins s σ H, Inv X pins σ H s → ∀ f F tl, mk σ f F tl → ThunkB X.prog X.w X.K X.mg (groundOf X H s) kT f F tl
def thL (mk : Addr → LF) (t : XK → TE) : L2.St → TH := fun σ f F tl => ∃ c', F = mk c' ∧ tl = fun E HZ Q => t E σ HZ Q
def thD (mk : Addr → Addr → LF) (t : XK → TE) : L2.St → TH := fun σ f F tl => ∃ c' t', F = mk c' t' ∧ tl = fun E HZ Q => t E σ HZ Q
def orTh (m1 m2 : L2.St → TH) : L2.St → TH := fun σ f F tl => m1 σ f F tl ∨ m2 σ f F tl
theorem lth_or {X : Cx} {kT : Nat} {m1 m2 : L2.St → TH} (h1 : LamTh X kT m1) (h2 : LamTh X kT m2) : LamTh X kT (orTh m1 m2) := fun pins s σ H I f F tl h => h.elim (h1 pins s σ H I f F tl) (h2 pins s σ H I f F tl)
section
variable {X : Cx} {k : Nat} {params : Arguments} {body : Expr} {scope : Scope} {t : XK → TE}
theorem lth_V (hfn : ∀ x, X.fn x = true) (L : LamP X.N X.env.scope scope []) (hbind : ∀ (q : Str) (cl : List (Str × Addr)) (pm cv ctv : Value), bindArgs (PySem.W.kla_fn "<lambda>" q params body scope cl pm cv ctv) ⟨[], []⟩ = pure [])
    (hbody : ∀ (A : Around) (outer : List Env) (s1 : Shared) (HZ : Hp) (E : XK) (f c' : Addr), Room k (A.deeper (lamEnv X scope s1.heap.objs.size f c')) → PE (lamCx X A outer s1 HZ E scope f c') body (t E)) :
    LamTh X (k + 1) (thL (fun c' => ⟨X.env.qual ++ "<lambda>", params, body, scope, cloFrom X.env.cells scope.names [], c', .none⟩) t) := fun pins s σ H I f F tl hz => by
  obtain ⟨c', rfl, rfl⟩ := hz
  exact thunkB_made I hfn L (lbind0 rfl hbind) fun A outer s1 HZ E hr2 => hbody A outer s1 HZ E f c' hr2
theorem lth_D {pd : Str} (hfn : ∀ x, X.fn x = true) (L : LamP X.N X.env.scope scope [pd])
    (hbind : ∀ (t : Addr) (q : Str) (cl : List (Str × Addr)) (pm cv ctv : Value), ∃ k, bindArgs { PySem.W.kla_fn "<lambda>" q params body scope cl pm cv ctv with defaults := .ref t } ⟨[], []⟩ = seqItems? (.ref t) >>= k ∧ ∀ u, k (some #[u]) = pure [(pd, u)])
    (hbody : ∀ (A : Around) (outer : List Env) (s1 : Shared) (HZ : Hp) (E : XK) (f c' : Addr), Room k (A.deeper (lamEnv X scope s1.heap.objs.size f c')) → PE (lamCx X A outer s1 HZ E scope f c') body (t E)) :
    LamTh X (k + 1) (thD (fun c' t' => ⟨X.env.qual ++ "<lambda>", params, body, scope, cloFrom X.env.cells scope.names [], c', .ref t'⟩) t) := fun pins s σ H I f F tl hz => by
  obtain ⟨c', t', rfl, rfl⟩ := hz
  exact thunkB_made I hfn L (lbind1 rfl (hbind t')) fun A outer s1 HZ E hr2 => hbody A outer s1 HZ E f c' hr2
end
theorem w_lamV {T : List (Addr × Str)} {mk : Addr → LF} {σ : L2.St} {H : Hp} {Q : VK} (hT : Tabs T H) (hd : ∀ c, (mk c).c = c ∧ (mk c).dv = .none) (h : ∀ f c' H1, ExtN H H1 → Tabs T H1 → H f = none → LamIn H1 f (mk c') → Q (.ref f) H1) : tLamV T mk σ H Q :=
  ⟨hT, fun f c' H1 eN T1 n f1 c1 => h f c' H1 eN T1 n ⟨f1, by rw [(hd c').1]; exact c1, .inl (hd c').2⟩⟩
theorem w_lamD {T : List (Addr × Str)} {x : V} {mk : Addr → Addr → LF} {σ : L2.St} {H : Hp} {Q : VK} (hT : Tabs T H) (hd : ∀ c t, (mk c t).c = c ∧ (mk c t).dv = .ref t) (h : ∀ f c' t H1, ExtN H H1 → Tabs T H1 → H f = none → LamIn H1 f (mk c' t) → Q (.ref f) H1) : tLamD T (tC x) mk σ H Q :=
  ⟨hT, fun t f c' H1 nt eN T1 n _ f1 c1 => h f c' t H1 (fun a o e z => eN a o (upd_old nt e) z) T1 n ⟨f1, by rw [(hd c' t).1]; exact c1, .inr ⟨t, _, (hd c' t).2, eN t _ upd_same fun ps z => by cases z⟩⟩⟩
theorem LamIn.ki {H H' : Hp} {f : Addr} {F : LF} (h : LamIn H f F) (k : ∀ a o, H a = some o → (o = LamO f F ∨ (∃ q, o = CodeO a q) ∨ ∃ xs, o = .tup xs) → H' a = some o) : LamIn H' f F := by
  obtain ⟨h1, h2, h3⟩ := h
  refine ⟨k _ _ h1 (.inl rfl), k _ _ h2 (.inr (.inl ⟨_, rfl⟩)), ?_⟩
  rcases h3 with z | ⟨t, x, z, e⟩
  · exact .inl z
  · exact .inr ⟨t, x, z, k _ _ e (.inr (.inr ⟨_, rfl⟩))⟩
theorem LamIn.kI {H H' : Hp} {f : Addr} {F : LF} (h : LamIn H f F) (k : KI H H') : LamIn H' f F := h.ki fun a o e z => k a o e (by
  rcases z with rfl | ⟨q, rfl⟩ | ⟨xs, rfl⟩
  · exact fun m => by unfold LamO at m; exact m
  · exact fun m => by unfold CodeO at m; exact m
  · exact fun m => m)
theorem LamIn.ext {H H' : Hp} {f : Addr} {F : LF} (h : LamIn H f F) (k : ExtN H H') : LamIn H' f F := h.ki fun a o e z => k a o e fun ps y => by
  rcases z with rfl | ⟨q, rfl⟩ | ⟨xs, rfl⟩
  · unfold LamO at y; cases y
  · unfold CodeO at y; cases y
  · cases y
theorem tabs_ki {T : List (Addr × Str)} {H H' : Hp} (t : Tabs T H) (k : KI H H') : Tabs T H' := fun p hp => by
  obtain ⟨ps, h1, h2, h3⟩ := t p hp
  refine ⟨ps, k _ _ h1 (fun z => z), h2, fun pos cv hc => ?_⟩
  obtain ⟨c, e1, e2⟩ := h3 pos cv hc
  exact ⟨c, e1, k _ _ e2 fun z => by unfold CodeO at z; exact z⟩
/-- what is written stands as before behind the making of a lambda -/
theorem Good.ext {H H' : Hp} {t : AT} (g : Good H t) (k : ExtN H H') : Good H' t := ⟨fun p m => k _ _ (g.c p m) fun ps z => by
  have q := cells_mut t p m
  rw [z] at q
  exact q, g.nd⟩
mutual
theorem Im.ext {H H' : Hp} (k : ExtN H H') : ∀ (d : PyData) {v : V}, Im H v d → Im H' v d
  | .none, _, h => by cases h; exact .non
  | .bool _, _, h => by cases h; exact .bl _
  | .int _, _, h => by cases h; exact .int _
  | .str _, _, h => by cases h; exact .str _
  | .list _, _, h => by cases h
  | .dict _, _, h => by cases h
  | .tuple ds, _, h => by
    cases h with
    | tup e r => exact .tup (k _ _ e fun ps z => by cases z) (ImL.ext k ds r)
theorem ImL.ext {H H' : Hp} (k : ExtN H H') : ∀ (ds : List PyData) {vs : List V}, ImL H vs ds → ImL H' vs ds
  | [], _, h => by cases h; exact .nil
  | d :: ds, _, h => by
    cases h with
    | cons a r => exact .cons (Im.ext k d a) (ImL.ext k ds r)
end
end VH

namespace VH
open PySem L2 LamX
local macro_rules | `(tactic| walk_at "dT") => `(tactic| first
  | ((with_reducible apply iT); (first | assumption | omega))
  | ((with_reducible apply niT); (first | assumption | omega))
  | ((with_reducible apply sT); (first | assumption | rfl))
  | ((with_reducible apply nsT); (first | assumption | decide))
  | ((with_reducible apply nbT); (first | assumption | omega))
  | ((with_reducible apply decide_eq_true); (first | assumption | omega)))
local macro_rules | `(tactic| walk_at "dF") => `(tactic| first
  | ((with_reducible apply iF); (first | assumption | omega))
  | ((with_reducible apply niF); (first | assumption | omega))
  | ((with_reducible apply sF); (first | assumption | decide))
  | ((with_reducible apply nsF); (first | assumption | rfl))
  | ((with_reducible apply nbF); (first | assumption | omega))
  | ((with_reducible apply decide_eq_false); (first | assumption | omega)))
local macro_rules | `(tactic| walk_at "ne") => `(tactic| first | assumption | (apply Ne.symm; assumption) | (apply ne_of_none <;> assumption) | (apply Ne.symm; apply ne_of_none <;> assumption) | (apply ne_new; assumption; walk_at "hg") | (apply Ne.symm; apply ne_new; assumption; walk_at "hg"))
local macro_rules | `(tactic| walk_at "ni") => `(tactic| first | exact ni_nil | (apply ni_cons; walk_at "ne"; walk_at "ni") | assumption)
local macro_rules | `(tactic| walk_at "hg") => `(tactic| first
  | assumption
  | exact upd_same
  | (apply upd_old; assumption; walk_at "hg")
  | (apply upd_oth; walk_at "ne"; walk_at "hg")
  | (apply kp_get; assumption; walk_at "hg"; walk_at "ni"))
local macro_rules | `(tactic| walk_at "mem") => `(tactic| first | exact List.mem_cons_self | (apply List.mem_cons_of_mem; walk_at "mem") | assumption)
local macro_rules | `(tactic| walk_at "no") => `(tactic| first | assumption | (apply none_of_kp2; assumption; walk_at "kp"))
local macro_rules | `(tactic| walk_at "kp") => `(tactic| first
  | assumption
  | exact Kp.refl
  | (apply kp_new'; assumption; walk_at "kp")
  | (apply kp_setn; assumption; walk_at "kp")
  | (apply kp_set'; walk_at "mem"; walk_at "kp")
  | (apply kp_app; assumption; walk_at "kp")
  | (apply kp_app2; assumption; walk_at "kp"))
local macro_rules | `(tactic| walk_at "sz") => `(tactic| first | assumption | exact sz rfl | (apply szb; omega) | (apply szbl; omega) | (apply szb; simp only [List.length_map, List.length_cons, List.length_nil, List.length_append, List.length_set]; omega) | (apply szbl; simp only [List.length_map, List.length_cons, List.length_nil, List.length_append, List.length_set]; omega))
local macro_rules | `(tactic| walk_at "sq") => `(tactic| first
  | assumption
  | (apply sq_l; walk_at "hg")
  | (apply sq_t; walk_at "hg")
  | (apply sqL_new; assumption; walk_at "sq")
  | (apply sqT_new; assumption; walk_at "sq"))
local macro_rules | `(tactic| walk_at "w1") => `(tactic| first
  | with_reducible refine w_seq ?_
  | ((with_reducible apply w_var); exact rfl)
  | with_reducible refine w_c ?_
  | with_reducible refine w_op ?_
  | with_reducible refine w_I0 ?_
  | ((with_reducible apply w_I); (first | assumption | exact Or.inr ⟨by decide, by decide⟩ | exact Or.inl ⟨by decide, by decide⟩ | exact (by show (0 : Int) < _; decide) | exact ⟨by decide, by decide⟩ | exact Or.inl ⟨by omega, by omega⟩ | exact Or.inr ⟨by omega, by omega⟩ | exact ⟨by omega, by omega⟩ | exact (by show (0 : Int) < _; omega)))
  | with_reducible refine w_cons ?_
  | with_reducible refine w_nil ?_
  | with_reducible refine w_asg ?_
  | with_reducible refine w_gName ?_
  | with_reducible refine w_gSub ?_
  | with_reducible refine w_test ?_
  | with_reducible refine w_B ?_
  | with_reducible refine w_ret ?_
  | with_reducible refine w_drop ?_
  | with_reducible refine w_ifS ?_
  | with_reducible refine w_if ?_
  | with_reducible refine w_un ?_
  | with_reducible refine w_U ?_
  | with_reducible refine w_call ?_
  | with_reducible refine w_cb ?_
  | with_reducible refine w_lst ?_
  | with_reducible refine w_tup ?_
  | with_reducible refine w_bm ?_
  | with_reducible refine w_bm0 ?_
  | with_reducible refine w_m1 ?_
  | with_reducible refine w_for ?_
  | with_reducible refine w_iList ?_
  | with_reducible refine w_iTup ?_
  | with_reducible refine w_iStr ?_
  | with_reducible refine w_iR1 ?_
  | with_reducible refine w_iEnum ?_
  | with_reducible refine w_and ?_
  | with_reducible refine w_or ?_
  | with_reducible refine w_not ?_
  | with_reducible refine w_yes ?_
  | with_reducible refine w_isN ?_
  | ((with_reducible apply w_eq); exact rfl)
  | ((with_reducible apply w_ne); exact rfl)
  | with_reducible refine w_chain ?_
  | with_reducible refine w_andV ?_
  | with_reducible refine w_orV ?_
  | with_reducible refine w_notV ?_
  | with_reducible refine w_bl ?_
  | with_reducible refine w_fld ?_
  | with_reducible refine w_sfld ?_
  | with_reducible refine w_next ?_
  | with_reducible refine w_isZ ?_
  | with_reducible refine w_notZ ?_
  | with_reducible refine w_inS ?_
  | with_reducible refine w_notInS ?_
  | ((with_reducible apply w_ifT); exact rfl)
  | ((with_reducible apply w_ifF); exact rfl)
  | ((with_reducible apply w_ifT); walk_at "dT")
  | ((with_reducible apply w_ifF); walk_at "dF")
  | with_reducible refine w_lc ?_
  | with_reducible refine w_aStr ?_
  | ((with_reducible apply w_itL); walk_at "sq")
  | ((with_reducible apply w_itT); walk_at "sq")
  | ((with_reducible apply w_rng); (first | omega | assumption); (first | omega | assumption))
  | ((with_reducible apply w_enum); walk_at "sq")
  | ((with_reducible apply w_lenS); walk_at "sz")
  | ((with_reducible apply w_split); (first | exact rfl | assumption); walk_at "sz")
  | with_reducible refine w_slice ?_
  | with_reducible refine w_part ?_
  | with_reducible refine w_noPart ?_
  | with_reducible refine w_anInt ?_
  | ((with_reducible apply w_slL); walk_at "sq")
  | ((with_reducible apply w_cat); walk_at "hg"; walk_at "hg"; walk_at "sz")
  | ((with_reducible apply w_newSz); walk_at "sz")
  | ((with_reducible apply w_append); walk_at "hg"; walk_at "sz")
  | ((with_reducible apply w_tyD); walk_at "hg")
  | ((with_reducible apply w_gTup); walk_at "sq"; exact rfl)
  | with_reducible refine w_gCons ?_
  | with_reducible refine w_gNil ?_
  | with_reducible refine w_kget2 ?_
  | with_reducible refine w_same ?_
  | ((with_reducible apply w_kat); assumption)
  | ((with_reducible apply w_in); walk_at "sq"; (first | exact rfl | assumption); (first | assumption | exact rfl))
  | ((with_reducible apply w_strI); assumption)
  | with_reducible refine w_disp ?_
  | with_reducible refine w_pcons ?_
  | with_reducible refine w_pnil ?_
  | with_reducible refine w_dget2 ?_
  | ((with_reducible apply w_isD); walk_at "hg")
  | ((with_reducible apply w_dgS); walk_at "hg")
  | ((with_reducible apply w_dupd); walk_at "ne"; walk_at "hg"; walk_at "hg"; (first | decide | walk_at "sz"))
  | ((with_reducible apply w_catS); walk_at "sz")
  | ((with_reducible apply w_slT); walk_at "sq"; assumption)
  | ((with_reducible apply w_ixS); walk_at "sz"; (first | assumption | exact rfl))
  | ((with_reducible apply w_intS); assumption; (first | assumption | omega))
  | ((with_reducible apply w_isi); (first | exact tx_N | exact tx_B | exact tx_I | exact tx_S | (apply tx_L; walk_at "sq") | (apply tx_T; walk_at "sq")); (first | (refine (?_ : _ = some true); decide +kernel) | (refine (?_ : _ = some false); decide +kernel)))
  | ((with_reducible apply w_lenL); walk_at "sq")
  | ((with_reducible apply w_lenT); walk_at "sq")
  | ((with_reducible apply w_listL); walk_at "sq")
  | ((with_reducible apply w_listT); walk_at "sq")
  | ((with_reducible apply w_tupL); walk_at "sq")
  | with_reducible refine w_intI ?_
  | with_reducible refine w_intB ?_
  | with_reducible refine w_strS ?_
  | ((with_reducible apply w_ixXL); walk_at "sq"; (first | exact rfl | exact atI_0 | assumption))
  | ((with_reducible apply w_ixXT); walk_at "sq"; (first | exact rfl | exact atI_0 | assumption))
  | ((with_reducible apply w_tyL); walk_at "sq")
  | with_reducible refine w_tyS ?_
  | ((with_reducible apply w_popAt0); walk_at "hg")
  | ((with_reducible apply w_ixL); walk_at "sq"; (first | exact rfl | exact atI_0 | assumption))
  | ((with_reducible apply w_ixT); walk_at "sq"; (first | exact rfl | exact atI_0 | assumption))
  | ((with_reducible apply w_setL); walk_at "hg"; (first | exact rfl | exact ixN_0)))
local macro_rules | `(tactic| walk_at "w") => `(tactic| repeat walk_at "w1")

local macro_rules | `(tactic| walk_at "w1") => `(tactic| first
  | ((with_reducible apply w_insF); walk_at "hg"; assumption; assumption; exact rfl)
  | with_reducible refine w_meth ?_
  | ((with_reducible apply w_insM); walk_at "hg"; exact rfl)
  | ((with_reducible apply w_setF); walk_at "hg"; assumption; assumption; exact ltF rfl; exact rfl))
local macro_rules | `(tactic| walk_at "w1") => `(tactic| first
  | with_reducible refine w_dget ?_
  | ((with_reducible apply w_dgK); walk_at "hg"; exact rfl)
  | with_reducible refine w_dput ?_
  | with_reducible refine w_rsd ?_
  | ((with_reducible apply w_dpK4); walk_at "hg"; exact szl' rfl; exact rfl)
  | ((with_reducible apply w_dpK2); walk_at "hg"; exact szl' rfl; exact rfl)
  | ((with_reducible apply w_dpK3); walk_at "hg"; exact szl' rfl; exact rfl)
  | ((with_reducible apply w_dpK1); walk_at "hg"; exact szl' rfl; exact rfl)
  | ((with_reducible apply w_dpK5); walk_at "hg"; exact szl' rfl; exact rfl)
  | ((with_reducible apply w_dpK6); walk_at "hg"; exact szl' rfl; exact rfl))

/-! ### the law's own bench, changed -/
theorem zip_set {α β γ : Type} (f : α → β → γ) {x : α} {y : β} : ∀ {as : List α} {bs : List β} {i : Nat}, List.zipWith f (as.set i x) (bs.set i y) = (List.zipWith f as bs).set i (f x y)
  | [], _, i => by simp
  | a :: as, [], i => by cases i <;> simp
  | a :: as, b :: bs, 0 => by simp
  | a :: as, b :: bs, i + 1 => by
    rw [List.set_cons_succ, List.set_cons_succ, List.zipWith_cons_cons, List.zipWith_cons_cons, List.set_cons_succ, zip_set f]
theorem modify_set {α : Type} {f : α → α} {x : α} : ∀ {as : List α} {i : Nat}, as[i]? = some x → as.modify i f = as.set i (f x)
  | [], _, h => by cases h
  | a :: as, 0, h => by simp at h; subst h; rfl
  | a :: as, i + 1, h => by
    rw [List.modify_succ_cons, List.set_cons_succ, modify_set (by simpa using h)]
theorem set_self {α : Type} {x : α} : ∀ {as : List α} {i : Nat}, as[i]? = some x → as.set i x = as
  | [], _, h => by cases h
  | a :: as, 0, h => by simp at h; subst h; rfl
  | a :: as, i + 1, h => by rw [List.set_cons_succ, set_self (by simpa using h)]
theorem OwnAt.setE {H0 H1 : Hp} {o l : Addr} {es : List (Option OAd)} {B : BenchS} (A : OwnAt H0 o l es B) {i : Nat} {e e' : Option OAd} {D D' : DiskS} (he : es[i]? = some e) (hD : B.disks[i]? = some D) (k : Kp [] H0 H1) (g : Good H1 (eT e' D')) (fr : ∀ b ∈ (eT e' D').fp, H0 b = none)
    (hh : e'.isSome = D'.here ∧ ∀ d, e' = some d → d.qs.length = D'.pieces.length) :
    OwnAt (upd H1 l (.lst (((List.zipWith eT es B.disks).map AT.val).set i (eT e' D').val))) o l (es.set i e') (B.setD i fun _ => D') ∧ Step H0 (upd H1 l (.lst (((List.zipWith eT es B.disks).map AT.val).set i (eT e' D').val))) (ownT o l es B) (ownT o l (es.set i e') (B.setD i fun _ => D')) := by
  have hz : (List.zipWith eT es B.disks)[i]? = some (eT e D) := by rw [List.getElem?_zipWith, he, hD]
  have g0 := A.g.kid (i := 0) rfl
  have gs := goodL_set g0.kids hz ⟨fun a o e _ => k.k a o e ni_nil⟩ g fun b m => .inr (fr b m)
  have st := Step.node (k' := .lst) g0 k gs fun b m => (fpL_set m).imp_right (fr b)
  have st2 := st.up A.g (i := 0) rfl
  have e1 : (B.setD i fun _ => D').disks = B.disks.set i D' := modify_set hD
  have e2 : List.zipWith eT (es.set i e') (B.setD i fun _ => D').disks = (List.zipWith eT es B.disks).set i (eT e' D') := by rw [e1, zip_set]
  have e3 : ownT o l (es.set i e') (B.setD i fun _ => D') = .n o ownK ([AT.n l .lst (List.zipWith eT es B.disks), .v (leftV B.left), .v (.bl B.stands), .v (.int B.many)].set 0 (.n l .lst ((List.zipWith eT es B.disks).set i (eT e' D')))) := by
    unfold ownT
    rw [e2]
    rfl
  have e4 : ((List.zipWith eT es B.disks).set i (eT e' D')).map AT.val = ((List.zipWith eT es B.disks).map AT.val).set i (eT e' D').val := List.map_set ..
  have e5 : Knd.lst.obj (((List.zipWith eT es B.disks).set i (eT e' D')).map AT.val) = .lst (((List.zipWith eT es B.disks).map AT.val).set i (eT e' D').val) := by rw [e4]; rfl
  rw [e5, ← e3] at st2
  refine ⟨⟨st2.g, ?_, fun j x y h1 h2 => ?_⟩, st2⟩
  · rw [List.length_set, e1, List.length_set]
    exact A.n
  · rw [e1] at h2
    by_cases z : i = j
    · subst z
      rw [List.getElem?_set_self (List.getElem?_eq_some_iff.mp he).1] at h1
      rw [List.getElem?_set_self (List.getElem?_eq_some_iff.mp hD).1] at h2
      cases h1
      cases h2
      exact hh
    · rw [List.getElem?_set_ne z] at h1 h2
      exact A.h j x y h1 h2
theorem OwnAt.disk {H H' : Hp} {o l : Addr} {es : List (Option OAd)} {B : BenchS} (A : OwnAt H o l es B) {i : Nat} {d : OAd} {D : DiskS} {f : DiskS → DiskS} (he : es[i]? = some (some d)) (hD : B.disks[i]? = some D) (s : Step H H' (odT d D) (odT d (f D))) (h1 : (f D).here = D.here) (h2 : (f D).pieces.length = D.pieces.length) :
    OwnAt H' o l es (B.setD i f) ∧ Step H H' (ownT o l es B) (ownT o l es (B.setD i f)) := by
  have hz : (List.zipWith eT es B.disks)[i]? = some (odT d D) := by rw [List.getElem?_zipWith, he, hD]; rfl
  have st := (s.up (A.g.kid (i := 0) rfl) hz).up A.g (i := 0) rfl
  have e1 : (B.setD i f).disks = B.disks.set i (f D) := modify_set hD
  have e2 : List.zipWith eT es (B.setD i f).disks = (List.zipWith eT es B.disks).set i (odT d (f D)) := by
    have z := zip_set eT (x := some d) (y := f D) (as := es) (bs := B.disks) (i := i)
    rw [set_self he] at z
    rw [e1, z]
    rfl
  have e3 : ownT o l es (B.setD i f) = .n o ownK ([AT.n l .lst (List.zipWith eT es B.disks), .v (leftV B.left), .v (.bl B.stands), .v (.int B.many)].set 0 (.n l .lst ((List.zipWith eT es B.disks).set i (odT d (f D))))) := by
    unfold ownT
    rw [e2]
    rfl
  rw [← e3] at st
  refine ⟨⟨st.g, by rw [e1, List.length_set]; exact A.n, fun j x y g1 g2 => ?_⟩, st⟩
  rw [e1] at g2
  by_cases z : i = j
  · subst z
    rw [List.getElem?_set_self (List.getElem?_eq_some_iff.mp hD).1] at g2
    cases g2
    rw [he] at g1
    cases g1
    obtain ⟨q1, q2⟩ := A.h i _ D he hD
    exact ⟨by rw [h1]; exact q1, fun d' e => by rw [h2]; exact q2 d' e⟩
  · rw [List.getElem?_set_ne z] at g2
    exact A.h j x y g1 g2
/-! ### the law's state -/
structure Ads where
  b : Addr
  bl : Addr
  bn : Addr
  dx : Addr
  l : Addr
  o : Addr
  ol : Addr
  ds : List DAd
  es : List (Option OAd)
def Ads.with_ (α : Ads) (ds : List DAd) (es : List (Option OAd)) : Ads := { α with ds := ds, es := es }
def PapersOk (H : Hp) (B : BenchS) : Prop := ∀ D ∈ B.disks, 0 < D.pieces.length ∧ ∃ d, okD 3 d = true ∧ Im H D.paper d
structure LS (CB CD : Addr) (T : List (Addr × Str)) (H : Hp) (α : Ads) (B Bo : BenchS) : Prop where
  box : ∃ ns s, Box H α.b α.bl ns s
  nb : α.b ≠ α.bl
  bench : BenchAt CB CD H α.bn α.dx α.l α.ds B
  own : OwnAt H α.o α.ol α.es Bo
  pB : PapersOk H B
  pO : PapersOk H Bo
  tabs : Tabs T H
  d1 : ∀ a ∈ fpB α.bn α.l α.ds, a ∉ [α.b, α.bl]
  d2 : ∀ a ∈ (ownT α.o α.ol α.es Bo).fp, a ∉ [α.b, α.bl]
  d3 : ∀ a ∈ fpB α.bn α.l α.ds, a ∉ (ownT α.o α.ol α.es Bo).fp
theorem BenchAt.mu {CB CD : Addr} {H : Hp} {bn dx l : Addr} {ds : List DAd} {B : BenchS} (A : BenchAt CB CD H bn dx l ds B) : Mu H (fpB bn l ds) := by
  intro a m
  rcases List.mem_cons.mp m with rfl | m
  · exact ⟨_, A.eb, True.intro⟩
  rcases List.mem_cons.mp m with rfl | m
  · exact ⟨_, A.el, True.intro⟩
  obtain ⟨d, hd, m⟩ := List.mem_flatMap.mp m
  obtain ⟨i, hi⟩ := List.mem_iff_getElem?.mp hd
  have li : i < B.disks.length := by rw [← A.en]; exact (List.getElem?_eq_some_iff.mp hi).1
  have D := A.ed i d _ hi (List.getElem?_eq_getElem li)
  rcases List.mem_cons.mp m with rfl | m
  · exact ⟨_, D.a, True.intro⟩
  rcases List.mem_cons.mp m with rfl | m
  · exact ⟨_, D.p, True.intro⟩
  obtain ⟨j, hj⟩ := List.mem_iff_getElem?.mp m
  have lj : j < (B.disks[i]).pieces.length := by rw [← D.n]; exact (List.getElem?_eq_some_iff.mp hj).1
  exact ⟨_, D.q j a _ hj (List.getElem?_eq_getElem lj), True.intro⟩
theorem Box.mu {H : Hp} {b l : Addr} {ns : List Int} {s : Int} (B : Box H b l ns s) : Mu H [b, l] := fun a m => by
  rcases List.mem_cons.mp m with rfl | m
  · exact ⟨_, B.b, True.intro⟩
  · rw [List.mem_singleton.mp m]
    exact ⟨_, B.l, True.intro⟩
theorem BenchAt.ext {CB CD : Addr} {H H' : Hp} {bn dx l : Addr} {ds : List DAd} {B : BenchS} (A : BenchAt CB CD H bn dx l ds B) (k : ExtN H H') : BenchAt CB CD H' bn dx l ds B :=
  A.keep fun a m => by
    obtain ⟨o, e, mu⟩ := A.mu a m
    exact (k a o e fun ps z => by rw [z] at mu; exact mu).trans e.symm
theorem Box.ext {H H' : Hp} {b l : Addr} {ns : List Int} {s : Int} (B : Box H b l ns s) (k : ExtN H H') : Box H' b l ns s := ⟨k _ _ B.b (fun ps z => by cases z), k _ _ B.l (fun ps z => by cases z), B.s0, B.s1⟩
theorem Box.kp {F : List Addr} {H H' : Hp} {b l : Addr} {ns : List Int} {s : Int} (B : Box H b l ns s) (k : Kp F H H') (d : ∀ a ∈ F, a ∉ [b, l]) : Box H' b l ns s :=
  ⟨k.k _ _ B.b (fun m => d b m List.mem_cons_self), k.k _ _ B.l (fun m => d l m (List.mem_cons_of_mem _ List.mem_cons_self)), B.s0, B.s1⟩
theorem PapersOk.ki {H H' : Hp} {B : BenchS} (p : PapersOk H B) (k : KI H H') : PapersOk H' B := fun D m => let ⟨h0, d, h1, h2⟩ := p D m; ⟨h0, d, h1, h2.ki k⟩
theorem PapersOk.ext {H H' : Hp} {B : BenchS} (p : PapersOk H B) (k : ExtN H H') : PapersOk H' B := fun D m => let ⟨h0, d, h1, h2⟩ := p D m; ⟨h0, d, h1, h2.ext k⟩
section
variable {CB CD : Addr} {T : List (Addr × Str)} {H H' : Hp} {α : Ads} {B Bo B' Bo' : BenchS}
theorem LS.ext (S : LS CB CD T H α B Bo) (k : ExtN H H') (t : Tabs T H') : LS CB CD T H' α B Bo :=
  ⟨let ⟨ns, s, b⟩ := S.box; ⟨ns, s, b.ext k⟩, S.nb, S.bench.ext k, ⟨S.own.g.ext k, S.own.n, S.own.h⟩, S.pB.ext k, S.pO.ext k, t, S.d1, S.d2, S.d3⟩
theorem LS.kp0 (S : LS CB CD T H α B Bo) (k : Kp [] H H') : LS CB CD T H' α B Bo := S.ext (ExtN.of fun b o e => k.k b o e ni_nil) (tabs_ki S.tabs (KI.of0 k))
theorem LS.draw {ns : List Int} {s : Int} (S : LS CB CD T H α B Bo) (k : Kp [α.b, α.bl] H H') (b : Box H' α.b α.bl ns s) : LS CB CD T H' α B Bo := by
  obtain ⟨ns0, s0, b0⟩ := S.box
  have ki := KI.of k b0.mu
  exact ⟨⟨ns, s, b⟩, S.nb, S.bench.kp k S.d1, ⟨S.own.g.kp k S.d2, S.own.n, S.own.h⟩, S.pB.ki ki, S.pO.ki ki, tabs_ki S.tabs ki, S.d1, S.d2, S.d3⟩
theorem LS.stepO {es : List (Option OAd)} (S : LS CB CD T H α B Bo) (x : Step H H' (ownT α.o α.ol α.es Bo) (ownT α.o α.ol es Bo')) (A : OwnAt H' α.o α.ol es Bo') (p : PapersOk H Bo') : LS CB CD T H' (α.with_ α.ds es) B Bo' := by
  obtain ⟨ns, s, b⟩ := S.box
  have ki := x.ki S.own.g
  refine ⟨⟨ns, s, b.kp x.k S.d2⟩, S.nb, S.bench.kp x.k S.d3, A, S.pB.ki ki, p.ki ki, tabs_ki S.tabs ki, S.d1, fun a m => ?_, fun a m => ?_⟩
  · rcases x.f a m with z | z
    · exact S.d2 a z
    · intro q
      obtain ⟨o, e, _⟩ := b.mu a q
      rw [z] at e
      cases e
  · exact x.apart S.bench.used S.d3 a m
theorem LS.stepB {ds : List DAd} (S : LS CB CD T H α B Bo) (k : Kp (fpB α.bn α.l α.ds) H H') (A : BenchAt CB CD H' α.bn α.dx α.l ds B') (f : ∀ a ∈ fpB α.bn α.l ds, a ∈ fpB α.bn α.l α.ds ∨ H a = none) (p : PapersOk H B') : LS CB CD T H' (α.with_ ds α.es) B' Bo := by
  obtain ⟨ns, s, b⟩ := S.box
  have ki := KI.of k S.bench.mu
  refine ⟨⟨ns, s, b.kp k S.d1⟩, S.nb, A, ⟨S.own.g.kp k fun a m z => S.d3 a z m, S.own.n, S.own.h⟩, p.ki ki, S.pO.ki ki, tabs_ki S.tabs ki, fun a m => ?_, S.d2, fun a m => ?_⟩
  · rcases f a m with z | z
    · exact S.d1 a z
    · intro q
      obtain ⟨o, e, _⟩ := b.mu a q
      rw [z] at e
      cases e
  · rcases f a m with z | z
    · exact S.d3 a z
    · intro q
      obtain ⟨o, e⟩ := S.own.g.used a q
      rw [z] at e
      cases e
theorem papers_set {i : Nat} {D : DiskS} (p : PapersOk H B) (h : 0 < D.pieces.length ∧ ∃ d, okD 3 d = true ∧ Im H D.paper d) : PapersOk H (B.setD i fun _ => D) := fun E m => by
  obtain ⟨j, hj⟩ := List.mem_iff_getElem?.mp m
  have hj : (B.disks.modify i fun _ => D)[j]? = some E := hj
  rw [List.getElem?_modify] at hj
  cases e : B.disks[j]? with
  | none => rw [e] at hj; cases hj
  | some x =>
    rw [e] at hj
    by_cases z : i = j
    · simp [z] at hj
      rw [← hj]
      exact h
    · simp [z] at hj
      rw [← hj]
      exact p x (List.mem_of_getElem? e)
theorem papers_mod {i : Nat} {f : DiskS → DiskS} (p : PapersOk H B) (h : ∀ D, (f D).paper = D.paper) (h' : ∀ D, (f D).pieces.length = D.pieces.length) : PapersOk H (B.setD i f) := fun E m => by
  obtain ⟨j, hj⟩ := List.mem_iff_getElem?.mp m
  have hj : (B.disks.modify i f)[j]? = some E := hj
  rw [List.getElem?_modify] at hj
  cases e : B.disks[j]? with
  | none => rw [e] at hj; cases hj
  | some x =>
    rw [e] at hj
    by_cases z : i = j
    · simp [z] at hj
      rw [← hj, h, h']
      exact p x (List.mem_of_getElem? e)
    · simp [z] at hj
      rw [← hj]
      exact p x (List.mem_of_getElem? e)
theorem LS.flds (S : LS CB CD T H α B Bo) (e : Bo'.disks = Bo.disks) : LS CB CD T (upd H α.o (ownO α.ol Bo')) α B Bo' := by
  obtain ⟨a, st⟩ := S.own.fldsS e
  exact S.stepO st a (fun D m => S.pO D (by rw [← e]; exact m))
end
theorem fp_zip {f : Addr → List Int → AT} (hf : ∀ a r, (f a r).fp = [a]) : ∀ {qs : List Addr} {ps : List (List Int)}, qs.length = ps.length → fpL (List.zipWith f qs ps) = qs
  | [], [], _ => fpL_nil
  | q :: qs, p :: ps, h => by rw [List.zipWith_cons_cons, fpL_cons, hf, fp_zip hf (by simpa using h)]; rfl
  | [], _ :: _, h => by simp at h
  | _ :: _, [], h => by simp at h
theorem row_fp (a : Addr) (r : List Int) : (rowT a r).fp = [a] := by unfold rowT; rw [fp_n, fpL_vs]
theorem od_fp {d : OAd} {D : DiskS} (h : d.qs.length = D.pieces.length) : (odT d D).fp = fpO d := by
  unfold odT
  rw [fp_n, fpL_cons, fp_n, fp_zip row_fp h, fpL_cons, fp_v, fpL_nil]
  simp [fpO]
theorem od_good {H : Hp} {d : OAd} {D : DiskS} (A : ODiskAt H d D) (nd : (fpO d).Nodup) : Good H (odT d D) := by
  refine ⟨fun p m => ?_, by rw [od_fp A.n]; exact nd⟩
  unfold odT AT.cells at m
  rcases List.mem_cons.mp m with rfl | m
  · exact A.e
  unfold cellsL at m
  rcases List.mem_append.mp m with m | m
  · unfold AT.cells at m
    rcases List.mem_cons.mp m with rfl | m
    · have e : (List.zipWith rowT d.qs D.pieces).map AT.val = d.qs.map V.ref := by
        have h := A.n
        generalize d.qs = qs at h
        generalize D.pieces = ps at h
        clear m A nd
        induction qs generalizing ps with
        | nil => rfl
        | cons q r ih =>
          cases ps with
          | nil => simp at h
          | cons x y => rw [List.zipWith_cons_cons, List.map_cons, List.map_cons, ih y (by simpa using h)]; rfl
      show H d.p = some (.lst ((List.zipWith rowT d.qs D.pieces).map AT.val))
      rw [e]
      exact A.p
    · obtain ⟨t, mt, h⟩ := cellsL_mem.mp m
      obtain ⟨i, hi⟩ := List.mem_iff_getElem?.mp mt
      rw [List.getElem?_zipWith] at hi
      cases e1 : d.qs[i]? with
      | none => rw [e1] at hi; cases hi
      | some q =>
        cases e2 : D.pieces[i]? with
        | none => rw [e1, e2] at hi; cases hi
        | some r =>
          rw [e1, e2] at hi
          cases hi
          unfold rowT AT.cells at h
          rcases List.mem_cons.mp h with rfl | h
          · show H q = some (.lst (((r.map V.int).map AT.v).map AT.val))
            rw [List.map_map, show (AT.val ∘ AT.v) = id from rfl, List.map_id]
            exact A.q i q r e1 e2
          · obtain ⟨t, mt, h⟩ := cellsL_mem.mp h
            obtain ⟨x, _, rfl⟩ := List.mem_map.mp mt
            unfold AT.cells at h
            cases h
  · unfold cellsL AT.cells at m
    rw [List.nil_append] at m
    unfold cellsL at m
    cases m
theorem setD_eq {B : BenchS} {i : Nat} {D : DiskS} {f : DiskS → DiskS} (h : B.disks[i]? = some D) : (B.setD i fun _ => f D) = B.setD i f := by
  unfold BenchS.setD
  rw [modify_set h, modify_set h]
theorem bring_stands {B : BenchS} {v o : V} (h : B.stands = true) : B.bring v o = .bad 9 := by unfold BenchS.bring; rw [h]; rfl
theorem bring_at {B : BenchS} {i : Nat} {o : V} {D : DiskS} (h : B.stands = false) (hD : B.disks[i]? = some D) : B.bring (.int (i : Int)) o = if D.here then .bad 7 else (match numOk o 1 12, o with
      | true, .int n => .ok (i, n.toNat)
      | _, _ => .bad 1) := by
  have li := (List.getElem?_eq_some_iff.mp hD).1
  have n : numOk (.int (i : Int)) 0 ((B.disks.length : Int) - 1) = true := decide_eq_true (by omega)
  unfold BenchS.bring
  rw [h, n]
  show (match B.disks[(i : Int).toNat]? with | some d => if d.here then Out.bad 7 else _ | none => .bad 7) = _
  rw [Int.toNat_natCast, hD]
  try rfl
end VH

namespace VH
open PySem L2 LamX
local macro_rules | `(tactic| walk_at "dT") => `(tactic| first
  | ((with_reducible apply iT); (first | assumption | omega))
  | ((with_reducible apply niT); (first | assumption | omega))
  | ((with_reducible apply sT); (first | assumption | rfl))
  | ((with_reducible apply nsT); (first | assumption | decide))
  | ((with_reducible apply nbT); (first | assumption | omega))
  | ((with_reducible apply decide_eq_true); (first | assumption | omega)))
local macro_rules | `(tactic| walk_at "dF") => `(tactic| first
  | ((with_reducible apply iF); (first | assumption | omega))
  | ((with_reducible apply niF); (first | assumption | omega))
  | ((with_reducible apply sF); (first | assumption | decide))
  | ((with_reducible apply nsF); (first | assumption | rfl))
  | ((with_reducible apply nbF); (first | assumption | omega))
  | ((with_reducible apply decide_eq_false); (first | assumption | omega)))
local macro_rules | `(tactic| walk_at "ne") => `(tactic| first | assumption | (apply Ne.symm; assumption) | (apply ne_of_none <;> assumption) | (apply Ne.symm; apply ne_of_none <;> assumption) | (apply ne_new; assumption; walk_at "hg") | (apply Ne.symm; apply ne_new; assumption; walk_at "hg"))
local macro_rules | `(tactic| walk_at "ni") => `(tactic| first | exact ni_nil | (apply ni_cons; walk_at "ne"; walk_at "ni") | assumption)
local macro_rules | `(tactic| walk_at "hg") => `(tactic| first
  | assumption
  | exact upd_same
  | (apply upd_old; assumption; walk_at "hg")
  | (apply upd_oth; walk_at "ne"; walk_at "hg")
  | (apply kp_get; assumption; walk_at "hg"; walk_at "ni"))
local macro_rules | `(tactic| walk_at "mem") => `(tactic| first | exact List.mem_cons_self | (apply List.mem_cons_of_mem; walk_at "mem") | assumption)
local macro_rules | `(tactic| walk_at "no") => `(tactic| first | assumption | (apply none_of_kp2; assumption; walk_at "kp"))
local macro_rules | `(tactic| walk_at "kp") => `(tactic| first
  | assumption
  | exact Kp.refl
  | (apply kp_new'; assumption; walk_at "kp")
  | (apply kp_setn; assumption; walk_at "kp")
  | (apply kp_set'; walk_at "mem"; walk_at "kp")
  | (apply kp_app; assumption; walk_at "kp")
  | (apply kp_app2; assumption; walk_at "kp"))
local macro_rules | `(tactic| walk_at "sz") => `(tactic| first | assumption | exact sz rfl | (apply szb; omega) | (apply szbl; omega) | (apply szb; simp only [List.length_map, List.length_cons, List.length_nil, List.length_append, List.length_set]; omega) | (apply szbl; simp only [List.length_map, List.length_cons, List.length_nil, List.length_append, List.length_set]; omega))
local macro_rules | `(tactic| walk_at "sq") => `(tactic| first
  | assumption
  | (apply sq_l; walk_at "hg")
  | (apply sq_t; walk_at "hg")
  | (apply sqL_new; assumption; walk_at "sq")
  | (apply sqT_new; assumption; walk_at "sq"))
local macro_rules | `(tactic| walk_at "w1") => `(tactic| first
  | with_reducible refine w_seq ?_
  | ((with_reducible apply w_var); exact rfl)
  | with_reducible refine w_c ?_
  | with_reducible refine w_op ?_
  | with_reducible refine w_I0 ?_
  | ((with_reducible apply w_I); (first | assumption | exact Or.inr ⟨by decide, by decide⟩ | exact Or.inl ⟨by decide, by decide⟩ | exact (by show (0 : Int) < _; decide) | exact ⟨by decide, by decide⟩ | exact Or.inl ⟨by omega, by omega⟩ | exact Or.inr ⟨by omega, by omega⟩ | exact ⟨by omega, by omega⟩ | exact (by show (0 : Int) < _; omega)))
  | with_reducible refine w_cons ?_
  | with_reducible refine w_nil ?_
  | with_reducible refine w_asg ?_
  | with_reducible refine w_gName ?_
  | with_reducible refine w_gSub ?_
  | with_reducible refine w_test ?_
  | with_reducible refine w_B ?_
  | with_reducible refine w_ret ?_
  | with_reducible refine w_drop ?_
  | with_reducible refine w_ifS ?_
  | with_reducible refine w_if ?_
  | with_reducible refine w_un ?_
  | with_reducible refine w_U ?_
  | with_reducible refine w_call ?_
  | with_reducible refine w_cb ?_
  | with_reducible refine w_lst ?_
  | with_reducible refine w_tup ?_
  | with_reducible refine w_bm ?_
  | with_reducible refine w_bm0 ?_
  | with_reducible refine w_m1 ?_
  | with_reducible refine w_for ?_
  | with_reducible refine w_iList ?_
  | with_reducible refine w_iTup ?_
  | with_reducible refine w_iStr ?_
  | with_reducible refine w_iR1 ?_
  | with_reducible refine w_iEnum ?_
  | with_reducible refine w_and ?_
  | with_reducible refine w_or ?_
  | with_reducible refine w_not ?_
  | with_reducible refine w_yes ?_
  | with_reducible refine w_isN ?_
  | ((with_reducible apply w_eq); exact rfl)
  | ((with_reducible apply w_ne); exact rfl)
  | with_reducible refine w_chain ?_
  | with_reducible refine w_andV ?_
  | with_reducible refine w_orV ?_
  | with_reducible refine w_notV ?_
  | with_reducible refine w_bl ?_
  | with_reducible refine w_fld ?_
  | with_reducible refine w_sfld ?_
  | with_reducible refine w_next ?_
  | with_reducible refine w_isZ ?_
  | with_reducible refine w_notZ ?_
  | with_reducible refine w_inS ?_
  | with_reducible refine w_notInS ?_
  | ((with_reducible apply w_ifT); exact rfl)
  | ((with_reducible apply w_ifF); exact rfl)
  | ((with_reducible apply w_ifT); walk_at "dT")
  | ((with_reducible apply w_ifF); walk_at "dF")
  | with_reducible refine w_lc ?_
  | with_reducible refine w_aStr ?_
  | ((with_reducible apply w_itL); walk_at "sq")
  | ((with_reducible apply w_itT); walk_at "sq")
  | ((with_reducible apply w_rng); (first | omega | assumption); (first | omega | assumption))
  | ((with_reducible apply w_enum); walk_at "sq")
  | ((with_reducible apply w_lenS); walk_at "sz")
  | ((with_reducible apply w_split); (first | exact rfl | assumption); walk_at "sz")
  | with_reducible refine w_slice ?_
  | with_reducible refine w_part ?_
  | with_reducible refine w_noPart ?_
  | with_reducible refine w_anInt ?_
  | ((with_reducible apply w_slL); walk_at "sq")
  | ((with_reducible apply w_cat); walk_at "hg"; walk_at "hg"; walk_at "sz")
  | ((with_reducible apply w_newSz); walk_at "sz")
  | ((with_reducible apply w_append); walk_at "hg"; walk_at "sz")
  | ((with_reducible apply w_tyD); walk_at "hg")
  | ((with_reducible apply w_gTup); walk_at "sq"; exact rfl)
  | with_reducible refine w_gCons ?_
  | with_reducible refine w_gNil ?_
  | with_reducible refine w_kget2 ?_
  | with_reducible refine w_same ?_
  | ((with_reducible apply w_kat); assumption)
  | ((with_reducible apply w_in); walk_at "sq"; (first | exact rfl | assumption); (first | assumption | exact rfl))
  | ((with_reducible apply w_strI); assumption)
  | with_reducible refine w_disp ?_
  | with_reducible refine w_pcons ?_
  | with_reducible refine w_pnil ?_
  | with_reducible refine w_dget2 ?_
  | ((with_reducible apply w_isD); walk_at "hg")
  | ((with_reducible apply w_dgS); walk_at "hg")
  | ((with_reducible apply w_dupd); walk_at "ne"; walk_at "hg"; walk_at "hg"; (first | decide | walk_at "sz"))
  | ((with_reducible apply w_catS); walk_at "sz")
  | ((with_reducible apply w_slT); walk_at "sq"; assumption)
  | ((with_reducible apply w_ixS); walk_at "sz"; (first | assumption | exact rfl))
  | ((with_reducible apply w_intS); assumption; (first | assumption | omega))
  | ((with_reducible apply w_isi); (first | exact tx_N | exact tx_B | exact tx_I | exact tx_S | (apply tx_L; walk_at "sq") | (apply tx_T; walk_at "sq")); (first | (refine (?_ : _ = some true); decide +kernel) | (refine (?_ : _ = some false); decide +kernel)))
  | ((with_reducible apply w_lenL); walk_at "sq")
  | ((with_reducible apply w_lenT); walk_at "sq")
  | ((with_reducible apply w_listL); walk_at "sq")
  | ((with_reducible apply w_listT); walk_at "sq")
  | ((with_reducible apply w_tupL); walk_at "sq")
  | with_reducible refine w_intI ?_
  | with_reducible refine w_intB ?_
  | with_reducible refine w_strS ?_
  | ((with_reducible apply w_ixXL); walk_at "sq"; (first | exact rfl | exact atI_0 | assumption))
  | ((with_reducible apply w_ixXT); walk_at "sq"; (first | exact rfl | exact atI_0 | assumption))
  | ((with_reducible apply w_tyL); walk_at "sq")
  | with_reducible refine w_tyS ?_
  | ((with_reducible apply w_popAt0); walk_at "hg")
  | ((with_reducible apply w_ixL); walk_at "sq"; (first | exact rfl | exact atI_0 | assumption))
  | ((with_reducible apply w_ixT); walk_at "sq"; (first | exact rfl | exact atI_0 | assumption))
  | ((with_reducible apply w_setL); walk_at "hg"; (first | exact rfl | exact ixN_0)))
local macro_rules | `(tactic| walk_at "w") => `(tactic| repeat walk_at "w1")

local macro_rules | `(tactic| walk_at "w1") => `(tactic| first
  | ((with_reducible apply w_insF); walk_at "hg"; assumption; assumption; exact rfl)
  | with_reducible refine w_meth ?_
  | ((with_reducible apply w_insM); walk_at "hg"; exact rfl)
  | ((with_reducible apply w_setF); walk_at "hg"; assumption; assumption; exact ltF rfl; exact rfl))
local macro_rules | `(tactic| walk_at "w1") => `(tactic| first
  | with_reducible refine w_dget ?_
  | ((with_reducible apply w_dgK); walk_at "hg"; exact rfl)
  | with_reducible refine w_dput ?_
  | with_reducible refine w_rsd ?_
  | ((with_reducible apply w_dpK4); walk_at "hg"; exact szl' rfl; exact rfl)
  | ((with_reducible apply w_dpK2); walk_at "hg"; exact szl' rfl; exact rfl)
  | ((with_reducible apply w_dpK3); walk_at "hg"; exact szl' rfl; exact rfl)
  | ((with_reducible apply w_dpK1); walk_at "hg"; exact szl' rfl; exact rfl)
  | ((with_reducible apply w_dpK5); walk_at "hg"; exact szl' rfl; exact rfl)
  | ((with_reducible apply w_dpK6); walk_at "hg"; exact szl' rfl; exact rfl))

local macro_rules | `(tactic| walk_at "w1") => `(tactic| first
  | with_reducible refine w_gTup ?_ ?_ ?_)
/-- a def of the top that may be called -/
structure Cf (P : Program) (w : World) (K : PySem.W.Frag) (mg : Str → Option Value) (base : Heap) (CX : CXT) (x : Str) (k : Nat) (ps : List Str) (sp : Sp) : Prop where
  ex : ∃ f fd, mg x = some (.ref f) ∧ PySem.W.keepIn K (.ref f) = true ∧ Binds K fd ps [] ∧ FnOk P w K mg base CX k f fd ps sp
/-- a method that may be called -/
structure Cm (P : Program) (w : World) (K : PySem.W.Frag) (mg : Str → Option Value) (base : Heap) (CX : CXT) (C : Addr) (m : Str) (k : Nat) (ps : List Str) (sp : Sp) : Prop where
  ex : ∃ f fd, Meth K C m f ∧ Binds K fd ps [] ∧ FnOk P w K mg base CX k f fd ps sp
/-- .. that is handed lambdas -/
structure Ct (P : Program) (w : World) (K : PySem.W.Frag) (mg : Str → Option Value) (base : Heap) (CX : CXT) (kT : Nat) (x : Str) (k : Nat) (ps : List Str) (sp : TH → Sp) : Prop where
  ex : ∃ f fd, mg x = some (.ref f) ∧ PySem.W.keepIn K (.ref f) = true ∧ Binds K fd ps [] ∧ FnOkT P w K mg base CX kT k f fd ps sp
structure Cb (P : Program) (w : World) (K : PySem.W.Frag) (mg : Str → Option Value) (base : Heap) (CX : CXT) (kT : Nat) (x : Str) (k : Nat) (ps : List Str) (sp : TH → Sp) : Prop where
  ex : ∃ f fd, mg x = some (.ref f) ∧ PySem.W.keepIn K (.ref f) = true ∧ Binds K fd ps [] ∧ FnOkB P w K mg base CX kT k f fd ps sp
section
variable {P : Program} {w : World} {K : PySem.W.Frag} {mg : Str → Option Value} {base : Heap}
/-- the class Bench -/
structure BenchFns (P : Program) (w : World) (K : PySem.W.Frag) (mg : Str → Option Value) (base : Heap) (c : Nat → Addr) (CB CD : Addr) : Prop where
  get : Cm P w K mg base (L2.CX P w) CB "get" 4 ["self", "number", "piece", "block"] (spGet c CB CD)
  put : Cm P w K mg base (L2.CX P w) CB "put" 4 ["self", "number", "piece", "block", "worth"] (spPut c CB CD)
  sheet : Cm P w K mg base (L2.CX P w) CB "sheet" 3 ["self", "number"] (spSheet c CB CD)
  lay : Cm P w K mg base (L2.CX P w) CB "lay" 3 ["self", "number", "sheet"] (spLay c CB CD)
  lose : Cm P w K mg base (L2.CX P w) CB "lose" 3 ["self", "number"] (spLose c CB CD)
  bring : Cm P w K mg base (L2.CX P w) CB "bring" 3 ["self", "number", "size"] (spBring c CB CD)
  sizes : Cm P w K mg base CX0 CB "sizes" 1 ["self"] (spSizes CB CD)
  arm : Cm P w K mg base (L2.CX P w) CB "arm" 2 ["self", "count"] (spArm c CB CD)
  again : Cm P w K mg base CX0 CB "again" 1 ["self"] (spAgain CB CD)
  deeds : Cm P w K mg base CX0 CB "deeds" 1 ["self"] (spDeeds CB CD)
  cB : Cls K CB
theorem w_ifJ {x : Bool} {a b : TE} {σ : L2.St} {H : Hp} {Q : VK} (P : V → Hp → Prop) (k : ∀ v H', P v H' → Q v H') (h : ∀ Q' : VK, (∀ v H', P v H' → Q' v H') → if x = true then a σ H Q' else b σ H Q') : if x = true then a σ H Q else b σ H Q := h Q k
theorem w_ifX {t : TT} {a b : TE} {σ : L2.St} {H : Hp} {Q : VK} (P : V → Hp → Prop) (k : ∀ v H', P v H' → Q v H') (h : ∀ Q' : VK, (∀ v H', P v H' → Q' v H') → tIf t a b σ H Q') : tIf t a b σ H Q := h Q k
def DueIs (H : Hp) (v : V) : Option Nat → Prop
  | none => v = .non
  | some k => IsErr H v k
def outK {α : Type} : Out α → Option Nat
  | .bad k => some k
  | .ok _ => none
def dueD : Option Nat → PyData
  | none => .none
  | some k => errD k
theorem upd_id {H : Hp} {a : Addr} {o : HO} (e : H a = some o) : upd H a o = H := by
  funext b
  by_cases z : b = a
  · rw [z, upd_same, e]
  · rw [upd_ne z]
theorem ixN_nat {n i : Nat} (h : i < n) : ixN n (i : Int) = some i := by
  unfold ixN
  rw [if_pos (by omega), if_pos (by omega), Int.toNat_natCast]
theorem IsErr.ext {H H' : Hp} {v : V} {k : Nat} (h : IsErr H v k) (e : ExtN H H') : IsErr H' v k := let ⟨p, h1, h2⟩ := h; ⟨p, h1, e _ _ h2 fun ps z => by cases z⟩
theorem IsErr.ki {H H' : Hp} {v : V} {k : Nat} (h : IsErr H v k) (e : KI H H') : IsErr H' v k := let ⟨p, h1, h2⟩ := h; ⟨p, h1, e _ _ h2 fun z => z⟩
theorem DueIs.ext {H H' : Hp} {v : V} {r : Option Nat} (h : DueIs H v r) (e : ExtN H H') : DueIs H' v r := by
  cases r with
  | none => exact h
  | some k => exact IsErr.ext h e
theorem DueIs.ki {H H' : Hp} {v : V} {r : Option Nat} (h : DueIs H v r) (e : KI H H') : DueIs H' v r := by
  cases r with
  | none => exact h
  | some k => exact IsErr.ki h e
theorem IsErr.dp {K : PySem.W.Frag} {H : Hp} {v : V} {k : Nat} (h : IsErr H v k) : Dp K H v (errD k) := h.im.dp _
theorem w_toldV {c : Nat → Addr} {tl : XK → Hp → VK → Prop} {H : Hp} {Q : VK} (h : tl (fun cls d H' => ∃ w v, TEx c cls d H' w v ∧ ∀ p H'', Kp [] H' H'' → H' p = none → H'' p = some (.tup [.str w, v]) → Q (.ref p) H'') H Q) : TToldV c tl H Q := h
/-- an error without a row is told so -/
theorem told_err {c : Nat → Addr} {k : Nat} {H : Hp} {R : Addr → Hp → Prop} (hk : k < 10) (h2 : k ≠ 2) (q : ∀ p H'', Kp [] H H'' → IsErr H'' (.ref p) k → R p H'') :
    ∃ w v, TEx c (.ref (c k)) none H w v ∧ ∀ p H'', Kp [] H H'' → H p = none → H'' p = some (.tup [.str w, v]) → R p H'' := by
  have e : clsNames[k]? = some (clsNames[k]'hk) := List.getElem?_eq_getElem hk
  exact ⟨_, _, ⟨k, hk, e, rfl, .inl ⟨h2, rfl, rfl⟩⟩, fun p H'' kp _ hp => q _ _ kp ⟨p, rfl, by rw [hp, e]; rfl⟩⟩
theorem DueIs.dp {K : PySem.W.Frag} {H : Hp} {v : V} {r : Option Nat} (h : DueIs H v r) : Dp K H v (dueD r) := by
  cases r with
  | none => rw [show v = .non from h]; exact .non
  | some k => exact IsErr.dp h
theorem okD_due (r : Option Nat) : okD 19 (dueD r) = true := by
  cases r <;> rfl
def spComes (CB CD : Addr) (TT : List (Addr × Str)) : Sp := fun vs H Q _ => ∃ (α : Ads) (B : BenchS) (i : Nat) (way : Int), vs = [.ref α.b, .ref α.bn, .ref α.o, .int (i : Int), .int way] ∧ LS CB CD TT H α B B ∧ i < B.disks.length ∧ 8 ≤ way ∧
  ∀ H' ds es B', LS CB CD TT H' (α.with_ ds es) B' B' → B'.disks.length = B.disks.length → Q (.bl true) H'
theorem scComes : FnScope ["_law_box", "_law_bench", "_law_own", "_law_disk_here", "_law_way", "_law_there", "_law_late", "_law_due", "_law_size"] ["_law_box", "_law_bench", "_law_own", "_law_disk_here", "_law_way"] (defScope sComes) := ⟨rfl, rfl, rfl, by decide +kernel, rfl, by decide +kernel, by decide +kernel⟩
theorem ok_comes {f cK PK CB CD : Addr} {c : Nat → Addr} {fd : FuncData} {TT : List (Addr × Str)} (F : FunC K "_law_comes" "_law_comes" sComes f (.ref cK) fd) (T : Txt K mg) (TB : TabB base mg cK PK) (hmT : (PK, ("_law_comes.<locals>.<lambda>" : Str)) ∈ TT) (huT : ∀ p ∈ TT, p.1 = PK → p.2 = "_law_comes.<locals>.<lambda>")
    (BF : BenchFns P w K mg base c CB CD) (C_take : Cf P w K mg base CX0 "_law_take" 1 ["_law_box", "_law_many"] spTake) (C_alike : Cf P w K mg base CX0 "_law_alike" 20 ["_law_found", "_law_due"] (spAlike K 20)) (C_told : Ct P w K mg base CX0 30 "_law_told" 31 ["_law_work"] (spTold c))
    (C_ldisk : Cf P w K mg base CX0 "_law_disk" 1 ["_law_size"] spLDisk) : FnOk P w K mg base CX0 33 f fd ["_law_box", "_law_bench", "_law_own", "_law_disk_here", "_law_way"] (spComes CB CD TT) := by
  obtain ⟨f_take, d_take, g_take, p_take, b_take, G_take⟩ := C_take.ex
  obtain ⟨f_alike, d_alike, g_alike, p_alike, b_alike, G_alike⟩ := C_alike.ex
  obtain ⟨f_told, d_told, g_told, p_told, b_told, G_told⟩ := C_told.ex
  obtain ⟨f_ldisk, d_ldisk, g_ldisk, p_ldisk, b_ldisk, G_ldisk⟩ := C_ldisk.ex
  obtain ⟨f_lose, d_lose, m_lose, b_lose, G_lose⟩ := BF.lose.ex
  obtain ⟨f_bring, d_bring, m_bring, b_bring, G_bring⟩ := BF.bring.ex
  obtain ⟨f_arm, d_arm, m_arm, b_arm, G_arm⟩ := BF.arm.ex
  obtain ⟨f_again, d_again, m_again, b_again, G_again⟩ := BF.again.ex
  have cB := BF.cB
  refine F.ok scComes (fun vs H Q E h => ?_) (fun A outer s H vs Q E hr h => ?_)
  · obtain ⟨α, B, i, way, rfl, _⟩ := h
    rfl
  obtain ⟨α, B, i, way, rfl, S, hi, hw, q⟩ := h
  have hu := hu_of hr
  refine ⟨_, (pss_cons (ps_set (i := 5) scComes.nd rfl (by first | exact Or.inl rfl | exact Or.inr rfl) (pe_ix ix_list (pe_dget hu (pv 2) pe_str (fun _ _ => rfl)) (pv 3) (fun _ _ => rfl)))
    (pss_cons (ps_set (i := 6) scComes.nd rfl (by first | exact Or.inl rfl | exact Or.inr rfl) (pe_ifExp (pt_val (pe_dget hu (pv 2) pe_str (fun _ _ => rfl))) (pe_tup (pa_cons pe_str (pa_cons pe_int pa_nil))) (pe_tup (pa_cons pe_str (pa_cons pe_int pa_nil)))))
    (pss_cons (ps_if (pt_cmpR op_eq (pv 4) pe_int (nomark _)) (pss_cons (ps_set (i := 7) scComes.nd rfl (by first | exact Or.inl rfl | exact Or.inr rfl) (pe_ifExp (PW.pt (pw_or (pt_cmpR op_isN1 (pv 5) pe_non (nomark _)) (pw_or1 (pt_val (pe_dget hu (pv 2) pe_str (fun _ _ => rfl)))))) (pv 6) pe_non))
      (pss_cons (ps_asg (pe_ifExp (pt_val (pe_dget hu (pv 2) pe_str (fun _ _ => rfl))) (pv 5) pe_non) (pg_sub (pe_dget hu (pv 2) pe_str (fun _ _ => rfl)) (pv 3) set_list))
      (pss_one (ps_ret (pe_call G_alike (hr.mono (by decide)) (by rfl) g_alike p_alike b_alike .nil pass0 (pa_cons (pe_toldV (k := 29) G_told (hr.mono (by decide)) (by rfl) g_told p_told b_told TB rfl hmT huT (lamP_by (by show lamPB ["_law_box", "_law_bench", "_law_own", "_law_disk_here", "_law_way", "_law_there", "_law_late", "_law_due", "_law_size"] (defScope sComes) _ [] = true; decide +kernel)) (by rfl) (fun _ _ _ _ _ => by rfl) (fun A' outer' s' H' E' f' c'' hr2 => (pe_meth (pv 1) cB m_lose G_lose (hr2.mono (by decide)) b_lose .nil pass_lam (pa_cons (pv 3) pa_nil)))) (pa_cons (pv 7) pa_nil))))))) pss_nil)
    (pss_cons (ps_if (pt_cmpR op_eq (pv 4) pe_int (nomark _)) (pss_cons (ps_set (i := 8) scComes.nd rfl (by first | exact Or.inl rfl | exact Or.inr rfl) (pe_op op_add pe_int (pe_call G_take (hr.mono (by decide)) (by rfl) g_take p_take b_take .nil pass0 (pa_cons (pv 0) (pa_cons pe_int pa_nil)))))
      (pss_cons (ps_set (i := 7) scComes.nd rfl (by first | exact Or.inl rfl | exact Or.inr rfl) (pe_ifExp (PW.pt (pw_or (pt_cmpR op_notN1 (pv 5) pe_non (nomark _)) (pw_or1 (pt_val (pe_dget hu (pv 2) pe_str (fun _ _ => rfl)))))) (pv 6) pe_non))
      (pss_cons (ps_if (pt_cmpR op_isN1 (pv 7) pe_non (nomark _)) (pss_one (ps_asg (pe_call G_ldisk (hr.mono (by decide)) (by rfl) g_ldisk p_ldisk b_ldisk .nil pass0 (pa_cons (pv 8) pa_nil)) (pg_sub (pe_dget hu (pv 2) pe_str (fun _ _ => rfl)) (pv 3) set_list))) pss_nil)
      (pss_one (ps_ret (pe_call G_alike (hr.mono (by decide)) (by rfl) g_alike p_alike b_alike .nil pass0 (pa_cons (pe_toldV (k := 29) G_told (hr.mono (by decide)) (by rfl) g_told p_told b_told TB rfl hmT huT (lamP_by (by show lamPB ["_law_box", "_law_bench", "_law_own", "_law_disk_here", "_law_way", "_law_there", "_law_late", "_law_due", "_law_size"] (defScope sComes) _ [] = true; decide +kernel)) (by rfl) (fun _ _ _ _ _ => by rfl) (fun A' outer' s' H' E' f' c'' hr2 => (pe_meth (pv 1) cB m_bring G_bring (hr2.mono (by decide)) b_bring .nil pass_lam (pa_cons (pv 3) (pa_cons (pv 8) pa_nil))))) (pa_cons (pv 7) pa_nil)))))))) pss_nil)
    (pss_cons (ps_if (pt_cmpR op_eq (pv 4) pe_int (nomark _)) (pss_cons (ps_dput hu (pv 2) pe_str (pe_call G_take (hr.mono (by decide)) (by rfl) g_take p_take b_take .nil pass0 (pa_cons (pv 0) (pa_cons (pe_ix ix_list (pe_lst (pa_cons pe_int (pa_cons pe_int (pa_cons pe_int pa_nil)))) (pe_call G_take (hr.mono (by decide)) (by rfl) g_take p_take b_take .nil pass0 (pa_cons (pv 0) (pa_cons pe_int pa_nil))) (fun _ _ => rfl)) pa_nil))) rfl)
      (pss_one (ps_ret (pe_call G_alike (hr.mono (by decide)) (by rfl) g_alike p_alike b_alike .nil pass0 (pa_cons (pe_toldV (k := 29) G_told (hr.mono (by decide)) (by rfl) g_told p_told b_told TB rfl hmT huT (lamP_by (by show lamPB ["_law_box", "_law_bench", "_law_own", "_law_disk_here", "_law_way", "_law_there", "_law_late", "_law_due", "_law_size"] (defScope sComes) _ [] = true; decide +kernel)) (by rfl) (fun _ _ _ _ _ => by rfl) (fun A' outer' s' H' E' f' c'' hr2 => (pe_meth (pv 1) cB m_arm G_arm (hr2.mono (by decide)) b_arm .nil pass_lam (pa_cons (pe_dget (hu_of hr2) (pv 2) pe_str (fun _ _ => rfl)) pa_nil)))) (pa_cons pe_non pa_nil)))))) pss_nil)
    (pss_cons (ps_asg (pe_tup (pa_cons pe_non (pa_cons pe_bl pa_nil))) (pg_tup rfl (pgs_cons (pg_sub (pv 2) pe_str (set_dict hu)) (pgs_cons (pg_sub (pv 2) pe_str (set_dict hu)) pgs_nil))))
    (pss_one (ps_ret (pe_call G_alike (hr.mono (by decide)) (by rfl) g_alike p_alike b_alike .nil pass0 (pa_cons (pe_toldV (k := 29) G_told (hr.mono (by decide)) (by rfl) g_told p_told b_told TB rfl hmT huT (lamP_by (by show lamPB ["_law_box", "_law_bench", "_law_own", "_law_disk_here", "_law_way", "_law_there", "_law_late", "_law_due", "_law_size"] (defScope sComes) _ [] = true; decide +kernel)) (by rfl) (fun _ _ _ _ _ => by rfl) (fun A' outer' s' H' E' f' c'' hr2 => (pe_meth0 (pv 1) cB m_again G_again (hr2.mono (by decide)) b_again .nil pass0))) (pa_cons pe_non pa_nil))))))))))), ?_⟩
  simp only [cxK, cxK']
  have eo : H α.o = some (.dK [(Sum.inr "disks", .ref α.ol), (Sum.inr "left", leftV B.left), (Sum.inr "stands", .bl B.stands), (Sum.inr "many", .int B.many)]) := S.own.g.root
  have el : H α.ol = some (.lst ((List.zipWith eT α.es B.disks).map AT.val)) := (S.own.g.kid (i := 0) rfl).root
  obtain ⟨e, he⟩ : ∃ e, α.es[i]? = some e := ⟨_, List.getElem?_eq_getElem (by rw [S.own.n]; exact hi)⟩
  have hD := List.getElem?_eq_getElem hi
  obtain ⟨hh, hq⟩ := S.own.h i e _ he hD
  have ez : (List.zipWith eT α.es B.disks)[i]? = some (eT e B.disks[i]) := by rw [List.getElem?_zipWith, he, hD]
  have ei : atI ((List.zipWith eT α.es B.disks).map AT.val) (i : Int) = some (eT e B.disks[i]).val := atI_nat (by rw [List.getElem?_map, ez]; rfl)
  walk_at "w"
  refine w_ifJ (fun v H' => Kp [] H H' ∧ IsErr H' v (if B.stands then 9 else 7)) (fun late H1 hP => ?_) (fun Q' hQ => ?_)
  rotate_left
  · cases hs : B.stands with
    | true =>
      rw [hs] at hQ
      refine iteT ?_
      walk_at "w"
      exact fun p np => hQ _ _ ⟨kp_new Kp.refl np, p, rfl, upd_same⟩
    | false =>
      rw [hs] at hQ
      refine iteF ?_
      walk_at "w"
      exact fun p np => hQ _ _ ⟨kp_new Kp.refl np, p, rfl, upd_same⟩
  obtain ⟨k1, lp, rfl, elp⟩ := hP
  have lt : IsErr H1 (.ref lp) (if B.stands then 9 else 7) := ⟨lp, rfl, elp⟩
  have S1 := S.kp0 k1
  have eo1 := k1.k _ _ eo ni_nil
  have el1 := k1.k _ _ el ni_nil
  clear eo el
  have hix : ixN ((List.zipWith eT α.es B.disks).map AT.val).length (i : Int) = some i := ixN_nat (by rw [List.length_map, List.length_zipWith, S.own.n]; omega)
  have em : (∃ x, e = some x) ∨ e = none := by cases e <;> simp
  have hd : ∀ b, B.stands = b → B.disk (.int (i : Int)) = if b then .bad 9 else if e.isSome then .ok i else .bad 7 := fun b hs => by
    cases b with
    | true => rw [disk_stands hs]; rfl
    | false => rw [disk_at hs hD, hh]; rfl
  have hself : ((List.zipWith eT α.es B.disks).map AT.val).set i (eT e B.disks[i]).val = (List.zipWith eT α.es B.disks).map AT.val := set_self (by rw [List.getElem?_map, ez]; rfl)
  walk_at "w"
  refine ite2 (fun w8 => ?_) (fun w8 => ?_)
  · refine w_seq (w_asg (w_ifX (fun v H' => H' = H1 ∧ DueIs H1 v (outK (B.disk (.int (i : Int))))) (fun v H' hP => ?_) (fun Q' hQ => ?_)))
    rotate_left
    · rcases em with ⟨d, rfl⟩ | rfl
      · cases hs : B.stands with
        | true =>
          rw [hd _ hs] at hQ
          rw [hs] at lt eo1
          walk_at "w"
          exact hQ _ _ ⟨rfl, lt⟩
        | false =>
          rw [hd _ hs] at hQ
          rw [hs] at lt eo1
          walk_at "w"
          exact hQ _ _ ⟨rfl, rfl⟩
      · walk_at "w"
        cases hs : B.stands with
        | true =>
          rw [hd _ hs] at hQ
          rw [hs] at lt
          exact hQ _ _ ⟨rfl, lt⟩
        | false =>
          rw [hd _ hs] at hQ
          rw [hs] at lt
          exact hQ _ _ ⟨rfl, lt⟩
    obtain ⟨rfl, dv⟩ := hP
    walk_at "w"
    cases hs : B.stands with
    | true =>
      rw [hd _ hs] at dv
      refine iteT ?_
      walk_at "w"
      refine w_setL el1 hix ?_
      rw [hself, upd_id el1]
      walk_at "w"
      refine w_toldL S1.tabs (fun Hx ext Tx => w_toldV ?_)
      have Sx := S1.ext ext Tx
      have eb := Sx.bench.eb
      walk_at "w"
      refine ⟨α.bn, α.dx, α.l, α.ds, B, _, rfl, Sx.bench, True.intro, ?_⟩
      rw [show B.disk (.int (i : Int)) = .bad 9 from hd _ hs]
      refine told_err (k := 9) (by decide) (by decide) fun x Hy ky er => ?_
      walk_at "w"
      refine ⟨.ref x, v, errD 9, rfl, er.dp, ((dv.ext ext).ki (KI.of0 ky)).dp, rfl, ?_⟩
      exact q _ _ _ _ (Sx.kp0 ky) rfl
    | false =>
      refine iteF ?_
      walk_at "w"
      refine w_setL el1 hix ?_
      rcases em with ⟨d, rfl⟩ | rfl
      · rw [hd _ hs] at dv
        have hh' : B.disks[i].here = true := hh.symm
        obtain ⟨A2, st⟩ := S1.own.setE he hD (e' := none) (D' := { B.disks[i] with here := false }) Kp.refl Good.v (fun b m => by rw [show eT none _ = AT.v .non from rfl, fp_v] at m; cases m) ⟨rfl, fun d z => by cases z⟩
        have p2 : PapersOk H' (B.setD i fun _ => { B.disks[i] with here := false }) := papers_set S1.pB (S1.pB B.disks[i] (List.mem_of_getElem? hD))
        have S2 := S1.stepO st A2 p2
        walk_at "w"
        refine w_toldL S2.tabs (fun Hx ext Tx => w_toldV ?_)
        have Sx := S2.ext ext Tx
        have eb : Hx α.bn = _ := Sx.bench.eb
        walk_at "w"
        refine ⟨α.bn, α.dx, α.l, α.ds, B, _, rfl, Sx.bench, True.intro, ?_⟩
        rw [show B.disk (.int (i : Int)) = .ok i from hd _ hs]
        intro Hy ky By
        walk_at "w"
        refine ⟨V.non, v, .none, rfl, .non, DueIs.dp (r := none) dv, rfl, ?_⟩
        have e : (B.setD i fun _ => { B.disks[i] with here := false }) = B.setD i fun D => { D with here := false } := setD_eq (f := fun D => { D with here := false }) hD
        have S3 := Sx.stepB ky By (fun a m => .inl m) (by rw [← e]; exact Sx.pO)
        rw [e] at S3
        exact q _ _ _ _ S3 (List.length_modify ..)
      · rw [hd _ hs] at dv
        rw [show ((List.zipWith eT α.es B.disks).map AT.val).set i V.non = (List.zipWith eT α.es B.disks).map AT.val from hself, upd_id el1]
        walk_at "w"
        refine w_toldL S1.tabs (fun Hx ext Tx => w_toldV ?_)
        have Sx := S1.ext ext Tx
        have eb := Sx.bench.eb
        walk_at "w"
        refine ⟨α.bn, α.dx, α.l, α.ds, B, _, rfl, Sx.bench, True.intro, ?_⟩
        rw [show B.disk (.int (i : Int)) = .bad 7 from hd _ hs]
        refine told_err (k := 7) (by decide) (by decide) fun x Hy ky er => ?_
        walk_at "w"
        refine ⟨.ref x, v, errD 7, rfl, er.dp, ((dv.ext ext).ki (KI.of0 ky)).dp, rfl, ?_⟩
        exact q _ _ _ _ (Sx.kp0 ky) rfl
  · obtain ⟨ns1, s1, bx1⟩ := S1.box
    walk_at "w"
    refine ite2 (fun w9 => ?_) (fun w9 => ?_)
    · walk_at "w"
      refine ⟨α.b, α.bl, ns1, s1, 12, rfl, bx1, S.nb, by decide, by decide, fun H2 ns2 s2 r k2 bx2 r0 r1 => ?_⟩
      have S2 := S1.draw k2 bx2
      have lt2 := lt.ki (KI.of k2 bx1.mu)
      have eo2 : H2 α.o = some (ownO α.ol B) := S2.own.g.root
      have el2 : H2 α.ol = some (.lst ((List.zipWith eT α.es B.disks).map AT.val)) := (S2.own.g.kid (i := 0) rfl).root
      clear eo1 el1
      obtain ⟨n, rfl⟩ : ∃ n : Nat, r = (n : Int) := ⟨r.toNat, by omega⟩
      have e1n : (1 : Int) + (n : Int) = ((n + 1 : Nat) : Int) := by omega
      have nok : numOk (.int (1 + (n : Int))) 1 12 = true := decide_eq_true (by omega)
      have hb : ∀ b, B.stands = b → B.bring (.int (i : Int)) (.int (1 + (n : Int))) = if b then .bad 9 else if e.isSome then .bad 7 else .ok (i, n + 1) := fun b hs => by
        cases b with
        | true => rw [bring_stands hs]; rfl
        | false =>
          rw [bring_at hs hD, ← hh, nok]
          show (if e.isSome = true then _ else Out.ok (i, ((1 : Int) + (n : Int)).toNat)) = _
          rw [e1n, Int.toNat_natCast]
          rfl
      obtain ⟨x0, hx0⟩ | hx0 := (show (∃ a, (eT e B.disks[i]).val = .ref a) ∨ (eT e B.disks[i]).val = .non by cases e; exact .inr rfl; exact .inl ⟨_, rfl⟩)
      · have he1 : e.isSome = true := by cases e; cases hx0; rfl
        rw [hx0]
        cases hs : B.stands with
        | true =>
          rw [hs] at lt2
          unfold ownO at eo2
          rw [hs] at eo2
          walk_at "w"
          refine w_toldL S2.tabs (fun Hx ext Tx => w_toldV ?_)
          have Sx := S2.ext ext Tx
          have eb := Sx.bench.eb
          walk_at "w"
          refine ⟨α.bn, α.dx, α.l, α.ds, B, _, _, rfl, Sx.bench, True.intro, True.intro, ?_⟩
          rw [show B.bring (.int (i : Int)) (.int (1 + (n : Int))) = .bad 9 from hb _ hs]
          refine told_err (k := 9) (by decide) (by decide) fun x Hy ky er => ?_
          walk_at "w"
          refine ⟨.ref x, V.ref lp, errD 9, rfl, er.dp, ((IsErr.ext lt2 ext).ki (KI.of0 ky)).dp, rfl, ?_⟩
          exact q _ _ _ _ (Sx.kp0 ky) rfl
        | false =>
          have hb : ∀ b, B.stands = b → B.bring (.int (i : Int)) (.int (1 + (n : Int))) = if b then .bad 9 else .bad 7 := fun b h => by rw [hb b h, he1]; rfl
          rw [hs] at lt2
          unfold ownO at eo2
          rw [hs] at eo2
          walk_at "w"
          refine w_toldL S2.tabs (fun Hx ext Tx => w_toldV ?_)
          have Sx := S2.ext ext Tx
          have eb := Sx.bench.eb
          walk_at "w"
          refine ⟨α.bn, α.dx, α.l, α.ds, B, _, _, rfl, Sx.bench, True.intro, True.intro, ?_⟩
          rw [show B.bring (.int (i : Int)) (.int (1 + (n : Int))) = .bad 7 from hb _ hs]
          refine told_err (k := 7) (by decide) (by decide) fun x Hy ky er => ?_
          walk_at "w"
          refine ⟨.ref x, V.ref lp, errD 7, rfl, er.dp, ((IsErr.ext lt2 ext).ki (KI.of0 ky)).dp, rfl, ?_⟩
          exact q _ _ _ _ (Sx.kp0 ky) rfl
      · have he1 : e = none := by cases e; rfl; cases hx0
        cases hs : B.stands with
        | true =>
          rw [hs] at lt2
          unfold ownO at eo2
          rw [hs] at eo2
          walk_at "w"
          refine w_toldL S2.tabs (fun Hx ext Tx => w_toldV ?_)
          have Sx := S2.ext ext Tx
          have eb := Sx.bench.eb
          walk_at "w"
          refine ⟨α.bn, α.dx, α.l, α.ds, B, _, _, rfl, Sx.bench, True.intro, True.intro, ?_⟩
          rw [show B.bring (.int (i : Int)) (.int (1 + (n : Int))) = .bad 9 from hb _ hs]
          refine told_err (k := 9) (by decide) (by decide) fun x Hy ky er => ?_
          walk_at "w"
          refine ⟨.ref x, V.ref lp, errD 9, rfl, er.dp, ((IsErr.ext lt2 ext).ki (KI.of0 ky)).dp, rfl, ?_⟩
          exact q _ _ _ _ (Sx.kp0 ky) rfl
        | false =>
          subst he1
          unfold ownO at eo2
          rw [hs] at eo2
          walk_at "w"
          refine ⟨n + 1, by rw [e1n]; rfl, by omega, fun H3 d k3 fr nd OD => ?_⟩
          have el3 := k3.k _ _ el2 ni_nil
          walk_at "w"
          refine w_setL el3 hix ?_
          obtain ⟨A3, st⟩ := S2.own.setE he hD (e' := some d) (D' := newDisk (n + 1)) k3 (od_good OD nd) (fun b m => fr b (by rw [← od_fp OD.n]; exact m)) ⟨rfl, fun d' z => by cases z; exact OD.n⟩
          have S3 := S2.stepO st A3 (papers_set S2.pB ⟨by show 0 < (List.replicate (n + 1) _).length; rw [List.length_replicate]; omega, .none, rfl, .non⟩)
          walk_at "w"
          refine w_toldL S3.tabs (fun Hx ext Tx => w_toldV ?_)
          have Sx := S3.ext ext Tx
          have eb : Hx α.bn = _ := Sx.bench.eb
          walk_at "w"
          refine ⟨α.bn, α.dx, α.l, α.ds, B, _, _, rfl, Sx.bench, True.intro, True.intro, ?_⟩
          rw [show B.bring (.int (i : Int)) (.int (1 + (n : Int))) = .ok (i, n + 1) from hb _ hs]
          intro Hy ds' ky By fy
          walk_at "w"
          refine ⟨V.non, V.non, .none, rfl, .non, .non, rfl, ?_⟩
          exact q _ _ _ _ (Sx.stepB ky By fy Sx.pO) (List.length_modify ..)
    · walk_at "w"
      refine ite2 (fun w10 => ?_) (fun w10 => ?_)
      · walk_at "w"
        intro a0 na0
        have S2 := S1.kp0 (kp_new (o := .lst [V.int 2, V.int 5, V.int 30]) Kp.refl na0)
        obtain ⟨ns2, s2, bx2⟩ := S2.box
        walk_at "w"
        refine ⟨α.b, α.bl, ns2, s2, 3, rfl, bx2, S.nb, by decide, by decide, fun H3 ns3 s3 r k3 bx3 r0 r1 => ?_⟩
        have S3 := S2.draw k3 bx3
        have ea3 : H3 a0 = some (.lst ([2, 5, 30].map V.int)) := k3.k a0 _ upd_same fun m => by
          obtain ⟨o, ho, _⟩ := bx1.mu a0 m
          rw [na0] at ho
          cases ho
        obtain ⟨m, hm, hm0, hm1⟩ : ∃ m : Int, atI ([2, 5, 30].map V.int) r = some (.int m) ∧ 0 < m ∧ m ≤ 30 := by
          obtain h | h | h : r = 0 ∨ r = 1 ∨ r = 2 := by omega
          · exact ⟨2, by rw [h]; rfl, by decide, by decide⟩
          · exact ⟨5, by rw [h]; rfl, by decide, by decide⟩
          · exact ⟨30, by rw [h]; rfl, by decide, by decide⟩
        refine w_ixL (sq_l ea3) hm ?_
        walk_at "w"
        refine ⟨α.b, α.bl, ns3, s3, m, rfl, bx3, S.nb, hm0, by omega, fun H4 ns4 s4 x k4 bx4 x0 x1 => ?_⟩
        have S4 := S3.draw k4 bx4
        have eo4 : H4 α.o = some (ownO α.ol B) := S4.own.g.root
        unfold ownO at eo4
        clear eo1
        walk_at "w"
        have S5 := S4.flds (Bo' := { B with left := some x }) rfl
        refine w_toldL S5.tabs (fun Hx ext Tx => w_toldV ?_)
        have Sx := S5.ext ext Tx
        have eb : Hx α.bn = _ := Sx.bench.eb
        have eox : Hx α.o = some (ownO α.ol { B with left := some x }) := Sx.own.g.root
        unfold ownO at eox
        walk_at "w"
        refine ⟨α.bn, α.dx, α.l, α.ds, B, .int x, rfl, Sx.bench, True.intro, ?_⟩
        rw [show numOk (.int x) 0 1000000 = true from decide_eq_true (by omega)]
        intro Hy ky By
        walk_at "w"
        refine ⟨V.non, V.non, .none, rfl, .non, .non, rfl, ?_⟩
        exact q _ _ _ _ (Sx.stepB ky By (fun a m => .inl m) Sx.pO) rfl
      · walk_at "w"
        intro p0 np0
        have S2 := S1.kp0 (kp_new (o := .tup [V.non, V.bl false]) Kp.refl np0)
        have eo2 : (upd H1 p0 (.tup [V.non, V.bl false])) α.o = some (ownO α.ol B) := S2.own.g.root
        unfold ownO at eo2
        clear eo1
        walk_at "w"
        rw [upd_upd]
        have S3 := S2.flds (Bo' := { B with left := none, stands := false }) rfl
        walk_at "w"
        refine w_toldL S3.tabs (fun Hx ext Tx => w_toldV ?_)
        have Sx := S3.ext ext Tx
        have eb : Hx α.bn = _ := Sx.bench.eb
        walk_at "w"
        refine ⟨α.bn, α.dx, α.l, α.ds, B, rfl, Sx.bench, ?_⟩
        intro Hy ky By
        walk_at "w"
        refine ⟨V.non, V.non, .none, rfl, .non, .non, rfl, ?_⟩
        exact q _ _ _ _ (Sx.stepB ky By (fun a m => .inl m) Sx.pO) rfl
end
end VH

namespace VH
open PySem L2 LamX
local macro_rules | `(tactic| walk_at "dT") => `(tactic| first
  | ((with_reducible apply iT); (first | assumption | omega))
  | ((with_reducible apply niT); (first | assumption | omega))
  | ((with_reducible apply sT); (first | assumption | rfl))
  | ((with_reducible apply nsT); (first | assumption | decide))
  | ((with_reducible apply nbT); (first | assumption | omega))
  | ((with_reducible apply decide_eq_true); (first | assumption | omega)))
local macro_rules | `(tactic| walk_at "dF") => `(tactic| first
  | ((with_reducible apply iF); (first | assumption | omega))
  | ((with_reducible apply niF); (first | assumption | omega))
  | ((with_reducible apply sF); (first | assumption | decide))
  | ((with_reducible apply nsF); (first | assumption | rfl))
  | ((with_reducible apply nbF); (first | assumption | omega))
  | ((with_reducible apply decide_eq_false); (first | assumption | omega)))
local macro_rules | `(tactic| walk_at "ne") => `(tactic| first | assumption | (apply Ne.symm; assumption) | (apply ne_of_none <;> assumption) | (apply Ne.symm; apply ne_of_none <;> assumption) | (apply ne_new; assumption; walk_at "hg") | (apply Ne.symm; apply ne_new; assumption; walk_at "hg"))
local macro_rules | `(tactic| walk_at "ni") => `(tactic| first | exact ni_nil | (apply ni_cons; walk_at "ne"; walk_at "ni") | assumption)
local macro_rules | `(tactic| walk_at "hg") => `(tactic| first
  | assumption
  | exact upd_same
  | (apply upd_old; assumption; walk_at "hg")
  | (apply upd_oth; walk_at "ne"; walk_at "hg")
  | (apply kp_get; assumption; walk_at "hg"; walk_at "ni"))
local macro_rules | `(tactic| walk_at "mem") => `(tactic| first | exact List.mem_cons_self | (apply List.mem_cons_of_mem; walk_at "mem") | assumption)
local macro_rules | `(tactic| walk_at "no") => `(tactic| first | assumption | (apply none_of_kp2; assumption; walk_at "kp"))
local macro_rules | `(tactic| walk_at "kp") => `(tactic| first
  | assumption
  | exact Kp.refl
  | (apply kp_new'; assumption; walk_at "kp")
  | (apply kp_setn; assumption; walk_at "kp")
  | (apply kp_set'; walk_at "mem"; walk_at "kp")
  | (apply kp_app; assumption; walk_at "kp")
  | (apply kp_app2; assumption; walk_at "kp"))
local macro_rules | `(tactic| walk_at "sz") => `(tactic| first | assumption | exact sz rfl | (apply szb; omega) | (apply szbl; omega) | (apply szb; simp only [List.length_map, List.length_cons, List.length_nil, List.length_append, List.length_set]; omega) | (apply szbl; simp only [List.length_map, List.length_cons, List.length_nil, List.length_append, List.length_set]; omega))
local macro_rules | `(tactic| walk_at "sq") => `(tactic| first
  | assumption
  | (apply sq_l; walk_at "hg")
  | (apply sq_t; walk_at "hg")
  | (apply sqL_new; assumption; walk_at "sq")
  | (apply sqT_new; assumption; walk_at "sq"))
local macro_rules | `(tactic| walk_at "w1") => `(tactic| first
  | with_reducible refine w_seq ?_
  | ((with_reducible apply w_var); exact rfl)
  | with_reducible refine w_c ?_
  | with_reducible refine w_op ?_
  | with_reducible refine w_I0 ?_
  | ((with_reducible apply w_I); (first | assumption | exact Or.inr ⟨by decide, by decide⟩ | exact Or.inl ⟨by decide, by decide⟩ | exact (by show (0 : Int) < _; decide) | exact ⟨by decide, by decide⟩ | exact Or.inl ⟨by omega, by omega⟩ | exact Or.inr ⟨by omega, by omega⟩ | exact ⟨by omega, by omega⟩ | exact (by show (0 : Int) < _; omega)))
  | with_reducible refine w_cons ?_
  | with_reducible refine w_nil ?_
  | with_reducible refine w_asg ?_
  | with_reducible refine w_gName ?_
  | with_reducible refine w_gSub ?_
  | with_reducible refine w_test ?_
  | with_reducible refine w_B ?_
  | with_reducible refine w_ret ?_
  | with_reducible refine w_drop ?_
  | with_reducible refine w_ifS ?_
  | with_reducible refine w_if ?_
  | with_reducible refine w_un ?_
  | with_reducible refine w_U ?_
  | with_reducible refine w_call ?_
  | with_reducible refine w_cb ?_
  | with_reducible refine w_lst ?_
  | with_reducible refine w_tup ?_
  | with_reducible refine w_bm ?_
  | with_reducible refine w_bm0 ?_
  | with_reducible refine w_m1 ?_
  | with_reducible refine w_for ?_
  | with_reducible refine w_iList ?_
  | with_reducible refine w_iTup ?_
  | with_reducible refine w_iStr ?_
  | with_reducible refine w_iR1 ?_
  | with_reducible refine w_iEnum ?_
  | with_reducible refine w_and ?_
  | with_reducible refine w_or ?_
  | with_reducible refine w_not ?_
  | with_reducible refine w_yes ?_
  | with_reducible refine w_isN ?_
  | ((with_reducible apply w_eq); exact rfl)
  | ((with_reducible apply w_ne); exact rfl)
  | with_reducible refine w_chain ?_
  | with_reducible refine w_andV ?_
  | with_reducible refine w_orV ?_
  | with_reducible refine w_notV ?_
  | with_reducible refine w_bl ?_
  | with_reducible refine w_fld ?_
  | with_reducible refine w_sfld ?_
  | with_reducible refine w_next ?_
  | with_reducible refine w_isZ ?_
  | with_reducible refine w_notZ ?_
  | with_reducible refine w_inS ?_
  | with_reducible refine w_notInS ?_
  | ((with_reducible apply w_ifT); exact rfl)
  | ((with_reducible apply w_ifF); exact rfl)
  | ((with_reducible apply w_ifT); walk_at "dT")
  | ((with_reducible apply w_ifF); walk_at "dF")
  | with_reducible refine w_lc ?_
  | with_reducible refine w_aStr ?_
  | ((with_reducible apply w_itL); walk_at "sq")
  | ((with_reducible apply w_itT); walk_at "sq")
  | ((with_reducible apply w_rng); (first | omega | assumption); (first | omega | assumption))
  | ((with_reducible apply w_enum); walk_at "sq")
  | ((with_reducible apply w_lenS); walk_at "sz")
  | ((with_reducible apply w_split); (first | exact rfl | assumption); walk_at "sz")
  | with_reducible refine w_slice ?_
  | with_reducible refine w_part ?_
  | with_reducible refine w_noPart ?_
  | with_reducible refine w_anInt ?_
  | ((with_reducible apply w_slL); walk_at "sq")
  | ((with_reducible apply w_cat); walk_at "hg"; walk_at "hg"; walk_at "sz")
  | ((with_reducible apply w_newSz); walk_at "sz")
  | ((with_reducible apply w_append); walk_at "hg"; walk_at "sz")
  | ((with_reducible apply w_tyD); walk_at "hg")
  | ((with_reducible apply w_gTup); walk_at "sq"; exact rfl)
  | with_reducible refine w_gCons ?_
  | with_reducible refine w_gNil ?_
  | with_reducible refine w_kget2 ?_
  | with_reducible refine w_same ?_
  | ((with_reducible apply w_kat); assumption)
  | ((with_reducible apply w_in); walk_at "sq"; (first | exact rfl | assumption); (first | assumption | exact rfl))
  | ((with_reducible apply w_strI); assumption)
  | with_reducible refine w_disp ?_
  | with_reducible refine w_pcons ?_
  | with_reducible refine w_pnil ?_
  | with_reducible refine w_dget2 ?_
  | ((with_reducible apply w_isD); walk_at "hg")
  | ((with_reducible apply w_dgS); walk_at "hg")
  | ((with_reducible apply w_dupd); walk_at "ne"; walk_at "hg"; walk_at "hg"; (first | decide | walk_at "sz"))
  | ((with_reducible apply w_catS); walk_at "sz")
  | ((with_reducible apply w_slT); walk_at "sq"; assumption)
  | ((with_reducible apply w_ixS); walk_at "sz"; (first | assumption | exact rfl))
  | ((with_reducible apply w_intS); assumption; (first | assumption | omega))
  | ((with_reducible apply w_isi); (first | exact tx_N | exact tx_B | exact tx_I | exact tx_S | (apply tx_L; walk_at "sq") | (apply tx_T; walk_at "sq")); (first | (refine (?_ : _ = some true); decide +kernel) | (refine (?_ : _ = some false); decide +kernel)))
  | ((with_reducible apply w_lenL); walk_at "sq")
  | ((with_reducible apply w_lenT); walk_at "sq")
  | ((with_reducible apply w_listL); walk_at "sq")
  | ((with_reducible apply w_listT); walk_at "sq")
  | ((with_reducible apply w_tupL); walk_at "sq")
  | with_reducible refine w_intI ?_
  | with_reducible refine w_intB ?_
  | with_reducible refine w_strS ?_
  | ((with_reducible apply w_ixXL); walk_at "sq"; (first | exact rfl | exact atI_0 | assumption))
  | ((with_reducible apply w_ixXT); walk_at "sq"; (first | exact rfl | exact atI_0 | assumption))
  | ((with_reducible apply w_tyL); walk_at "sq")
  | with_reducible refine w_tyS ?_
  | ((with_reducible apply w_popAt0); walk_at "hg")
  | ((with_reducible apply w_ixL); walk_at "sq"; (first | exact rfl | exact atI_0 | assumption))
  | ((with_reducible apply w_ixT); walk_at "sq"; (first | exact rfl | exact atI_0 | assumption))
  | ((with_reducible apply w_setL); walk_at "hg"; (first | exact rfl | exact ixN_0)))
local macro_rules | `(tactic| walk_at "w") => `(tactic| repeat walk_at "w1")

local macro_rules | `(tactic| walk_at "w1") => `(tactic| first
  | ((with_reducible apply w_insF); walk_at "hg"; assumption; assumption; exact rfl)
  | with_reducible refine w_meth ?_
  | ((with_reducible apply w_insM); walk_at "hg"; exact rfl)
  | ((with_reducible apply w_setF); walk_at "hg"; assumption; assumption; exact ltF rfl; exact rfl))
local macro_rules | `(tactic| walk_at "w1") => `(tactic| first
  | with_reducible refine w_dget ?_
  | ((with_reducible apply w_dgK); walk_at "hg"; exact rfl)
  | with_reducible refine w_dput ?_
  | with_reducible refine w_rsd ?_
  | ((with_reducible apply w_dpK4); walk_at "hg"; exact szl' rfl; exact rfl)
  | ((with_reducible apply w_dpK2); walk_at "hg"; exact szl' rfl; exact rfl)
  | ((with_reducible apply w_dpK3); walk_at "hg"; exact szl' rfl; exact rfl)
  | ((with_reducible apply w_dpK1); walk_at "hg"; exact szl' rfl; exact rfl)
  | ((with_reducible apply w_dpK5); walk_at "hg"; exact szl' rfl; exact rfl)
  | ((with_reducible apply w_dpK6); walk_at "hg"; exact szl' rfl; exact rfl))

theorem w_slS {z : Str} {lo hi : Option Int} {H : Hp} {Q : VK} (l : z.length ≤ sizeLine) (q : Q (.str (cutS z lo hi)) H) : rSlS (.str z) lo hi H Q := ⟨z, rfl, l, q⟩
theorem w_par {i j : Nat} {ta : TA} {D : Ends} {σ : L2.St} {H : Hp} (h : ta σ H fun vs H1 => ∃ v u, vs = [v, u] ∧ D.nx ((σ.set i (some v)).set j (some u)) H1) : tPar i j ta D σ H := h
theorem w_par2 {v u : V} {R : V → V → Prop} (h : R v u) : ∃ v' u', [v, u] = [v', u'] ∧ R v' u' := ⟨v, u, rfl, h⟩
theorem w_val {t : TE} {σ : L2.St} {H : Hp} {Q : VK} (P : V → Hp → Prop) (k : ∀ v H', P v H' → Q v H') (h : ∀ Q' : VK, (∀ v H', P v H' → Q' v H') → t σ H Q') : t σ H Q := h Q k
local macro_rules | `(tactic| walk_at "w1") => `(tactic| first
  | with_reducible refine w_par ?_
  | with_reducible refine w_par2 ?_
  | ((with_reducible apply w_slS); walk_at "sz"))
theorem okD_up : ∀ (n : Nat) (d : PyData), okD n d = true → okD (n + 1) d = true
  | _, .none, _ => by unfold okD; rfl
  | _, .bool _, _ => by unfold okD; rfl
  | _, .int _, _ => by unfold okD; rfl
  | _, .str _, _ => by unfold okD; rfl
  | n, .dict _, h => by unfold okD at h; cases h
  | 0, .list ds, h => by unfold okD at h; cases h
  | 0, .tuple ds, h => by unfold okD at h; cases h
  | n + 1, .list ds, h => by
    unfold okD at h ⊢
    rw [Bool.and_eq_true] at h ⊢
    exact ⟨h.1, List.all_eq_true.mpr fun x m => okD_up n x (List.all_eq_true.mp h.2 x m)⟩
  | n + 1, .tuple ds, h => by
    unfold okD at h ⊢
    rw [Bool.and_eq_true] at h ⊢
    exact ⟨h.1, List.all_eq_true.mpr fun x m => okD_up n x (List.all_eq_true.mp h.2 x m)⟩
theorem okD_more {n m : Nat} {d : PyData} (h : okD n d = true) (l : n ≤ m) : okD m d = true := by
  induction l with
  | refl => exact h
  | step _ ih => exact okD_up _ _ ih
/-- a block of the law's own is written -/
theorem OwnAt.putW {H : Hp} {o l : Addr} {es : List (Option OAd)} {B : BenchS} (A : OwnAt H o l es B) {i j k : Nat} {d : OAd} {D : DiskS} {q : Addr} {r : List Int} (w : Int) (he : es[i]? = some (some d)) (hD : B.disks[i]? = some D) (hq : d.qs[j]? = some q) (hr : D.pieces[j]? = some r) :
    OwnAt (upd H q (.lst ((r.set k w).map V.int))) o l es (B.setD i fun D => D.put j k w) ∧ Step H (upd H q (.lst ((r.set k w).map V.int))) (ownT o l es B) (ownT o l es (B.setD i fun D => D.put j k w)) := by
  have hz : (List.zipWith eT es B.disks)[i]? = some (odT d D) := by rw [List.getElem?_zipWith, he, hD]; rfl
  have gd : Good H (odT d D) := (A.g.kid (i := 0) rfl).kid hz
  have gp := gd.kid (i := 0) rfl
  have hz2 : (List.zipWith rowT d.qs D.pieces)[j]? = some (rowT q r) := by rw [List.getElem?_zipWith, hq, hr]
  have gq : Good H (rowT q r) := gp.kid hz2
  have st : Step H (upd H q (.lst ((r.set k w).map V.int))) (rowT q r) (rowT q (r.set k w)) := Step.leaf (k' := .lst) gq Kp.refl
  have st2 := (st.up gp hz2).up gd (i := 0) rfl
  have e1 : odT d (D.put j k w) = .n d.e (.dic [Sum.inr "blocks", Sum.inr "sheet"]) ([AT.n d.p .lst (List.zipWith rowT d.qs D.pieces), .v D.paper].set 0 (.n d.p .lst ((List.zipWith rowT d.qs D.pieces).set j (rowT q (r.set k w))))) := by
    have z := zip_set rowT (x := q) (y := r.set k w) (as := d.qs) (bs := D.pieces) (i := j)
    rw [set_self hq] at z
    unfold odT DiskS.put
    rw [← z, modify_set hr]
    rfl
  rw [← e1] at st2
  exact A.disk he hD (f := fun D => D.put j k w) st2 rfl (by show (D.pieces.modify j _).length = _; rw [List.length_modify])
theorem OwnAt.lay {H H' : Hp} {o l : Addr} {es : List (Option OAd)} {B : BenchS} (A : OwnAt H o l es B) {i : Nat} {d : OAd} {D : DiskS} (v : V) (he : es[i]? = some (some d)) (hD : B.disks[i]? = some D) :
    OwnAt (upd H d.e (.dK [(Sum.inr "blocks", .ref d.p), (Sum.inr "sheet", v)])) o l es (B.setD i fun D => { D with paper := v }) ∧ Step H (upd H d.e (.dK [(Sum.inr "blocks", .ref d.p), (Sum.inr "sheet", v)])) (ownT o l es B) (ownT o l es (B.setD i fun D => { D with paper := v })) := by
  have hz : (List.zipWith eT es B.disks)[i]? = some (odT d D) := by rw [List.getElem?_zipWith, he, hD]; rfl
  have gd : Good H (odT d D) := (A.g.kid (i := 0) rfl).kid hz
  have gp := gd.kids.mem (t := .n d.p .lst (List.zipWith rowT d.qs D.pieces)) List.mem_cons_self
  have st := Step.node (k' := .dic [Sum.inr "blocks", Sum.inr "sheet"]) (us := [.n d.p .lst (List.zipWith rowT d.qs D.pieces), .v v]) gd Kp.refl (.cons gp (.cons Good.v GoodL.nil (fun b m => by rw [fp_v] at m; cases m)) (fun b _ m => by rw [fpL_cons, fp_v, fpL_nil] at m; cases m)) fun b m => by
    rw [fpL_cons, fpL_cons, fp_v, fpL_nil] at m
    exact .inl (by rw [fpL_cons, fpL_cons, fpL_nil, fp_v]; exact m)
  exact A.disk he hD (f := fun D => { D with paper := v }) st rfl rfl
theorem own_fp {o l : Addr} {es : List (Option OAd)} {B B' : BenchS} (e : B'.disks = B.disks) : (ownT o l es B').fp = (ownT o l es B).fp := by
  unfold ownT
  rw [fp_n, fp_n]
  simp only [fpL_cons, fp_v, fpL_nil, e]
theorem LS.deed {CB CD : Addr} {T : List (Addr × Str)} {H H' : Hp} {α : Ads} {B Bo Bo' : BenchS} (S : LS CB CD T H α B Bo) (k : Kp [α.o] H H') (A : OwnAt H' α.o α.ol α.es Bo') (e : Bo'.disks = Bo.disks) : LS CB CD T H' α B Bo' :=
  S.stepO (es := α.es) ⟨rfl, ⟨fun a o h n => k.k a o h fun m => n (by rw [List.mem_singleton.mp m]; unfold ownT; rw [fp_n]; exact List.mem_cons_self)⟩, A.g, fun b m => .inl (by rw [← own_fp e]; exact m)⟩ A fun D m => S.pO D (by rw [← e]; exact m)
def spTurn (CB CD : Addr) (TT : List (Addr × Str)) : Sp := fun vs H Q _ => ∃ (α : Ads) (B : BenchS), vs = [.ref α.b, .ref α.bn, .ref α.o] ∧ LS CB CD TT H α B B ∧ 0 < B.disks.length ∧
  ∀ H' ds es B', LS CB CD TT H' (α.with_ ds es) B' B' → B'.disks.length = B.disks.length → Q (.bl true) H'
theorem scTurn : FnScope ["_law_box", "_law_bench", "_law_own", "_law_disk_here", "_law_way", "_law_there", "_law_piece", "_law_block", "_law_worth", "_law_late", "_law_due", "_law_sheet", "_law_is_bad", "_law_found"] ["_law_box", "_law_bench", "_law_own"] (defScope sTurn) := ⟨rfl, rfl, rfl, by decide +kernel, rfl, by decide +kernel, by decide +kernel⟩
section
variable {P : Program} {w : World} {K : PySem.W.Frag} {mg : Str → Option Value} {base : Heap}
theorem ok_turn {f cK PK CB CD : Addr} {c : Nat → Addr} {fd : FuncData} {TT : List (Addr × Str)} (F : FunC K "_law_turn" "_law_turn" sTurn f (.ref cK) fd) (T : Txt K mg) (TB : TabB base mg cK PK) (hmT : (PK, ("_law_turn.<locals>.<lambda>" : Str)) ∈ TT) (huT : ∀ p ∈ TT, p.1 = PK → p.2 = "_law_turn.<locals>.<lambda>")
    (BF : BenchFns P w K mg base c CB CD) (C_take : Cf P w K mg base CX0 "_law_take" 1 ["_law_box", "_law_many"] spTake) (C_alike : Cf P w K mg base CX0 "_law_alike" 20 ["_law_found", "_law_due"] (spAlike K 20)) (C_told : Ct P w K mg base CX0 30 "_law_told" 31 ["_law_work"] (spTold c))
    (C_deed : Cf P w K mg base CX0 "_law_deed" 1 ["_law_own", "_law_disk_here"] spDeed) (C_comes : Cf P w K mg base CX0 "_law_comes" 33 ["_law_box", "_law_bench", "_law_own", "_law_disk_here", "_law_way"] (spComes CB CD TT)) : FnOk P w K mg base CX0 35 f fd ["_law_box", "_law_bench", "_law_own"] (spTurn CB CD TT) := by
  obtain ⟨f_take, d_take, g_take, p_take, b_take, G_take⟩ := C_take.ex
  obtain ⟨f_alike, d_alike, g_alike, p_alike, b_alike, G_alike⟩ := C_alike.ex
  obtain ⟨f_told, d_told, g_told, p_told, b_told, G_told⟩ := C_told.ex
  obtain ⟨f_deed, d_deed, g_deed, p_deed, b_deed, G_deed⟩ := C_deed.ex
  obtain ⟨f_comes, d_comes, g_comes, p_comes, b_comes, G_comes⟩ := C_comes.ex
  obtain ⟨f_put, d_put, m_put, b_put, G_put⟩ := BF.put.ex
  obtain ⟨f_get, d_get, m_get, b_get, G_get⟩ := BF.get.ex
  obtain ⟨f_sheet, d_sheet, m_sheet, b_sheet, G_sheet⟩ := BF.sheet.ex
  obtain ⟨f_lay, d_lay, m_lay, b_lay, G_lay⟩ := BF.lay.ex
  have cB := BF.cB
  refine F.ok scTurn (fun vs H Q E h => ?_) (fun A outer s H vs Q E hr h => ?_)
  · obtain ⟨α, B, rfl, _⟩ := h
    rfl
  obtain ⟨α, B, rfl, S, pos, q⟩ := h
  have hu := hu_of hr
  refine ⟨_, (pss_cons (ps_asg (pe_tup (pa_cons (pe_call G_take (hr.mono (by decide)) (by rfl) g_take p_take b_take .nil pass0 (pa_cons (pv 0) (pa_cons (pe_callB cr_lenL (by rfl) T.len (by decide +kernel) (pa_cons (pe_dget hu (pv 2) pe_str (fun _ _ => rfl)) pa_nil)) pa_nil))) (pa_cons (pe_call G_take (hr.mono (by decide)) (by rfl) g_take p_take b_take .nil pass0 (pa_cons (pv 0) (pa_cons pe_int pa_nil))) pa_nil))) (pg_tup rfl (pgs_cons (pg_name (i := 3) scTurn.nd rfl (by first | exact Or.inl rfl | exact Or.inr rfl)) (pgs_cons (pg_name (i := 4) scTurn.nd rfl (by first | exact Or.inl rfl | exact Or.inr rfl)) pgs_nil))))
    (pss_cons (ps_set (i := 5) scTurn.nd rfl (by first | exact Or.inl rfl | exact Or.inr rfl) (pe_ix ix_list (pe_dget hu (pv 2) pe_str (fun _ _ => rfl)) (pv 3) (fun _ _ => rfl)))
    (pss_cons (ps_set (i := 6) scTurn.nd rfl (by first | exact Or.inl rfl | exact Or.inr rfl) (pe_call G_take (hr.mono (by decide)) (by rfl) g_take p_take b_take .nil pass0 (pa_cons (pv 0) (pa_cons (pe_ifExp (pt_cmpR op_notN1 (pv 5) pe_non (nomark _)) (pe_callB cr_lenL (by rfl) T.len (by decide +kernel) (pa_cons (pe_dget hu (pv 5) pe_str (fun _ _ => rfl)) pa_nil)) pe_int) pa_nil))))
    (pss_cons (ps_asg (pe_tup (pa_cons (pe_call G_take (hr.mono (by decide)) (by rfl) g_take p_take b_take .nil pass0 (pa_cons (pv 0) (pa_cons pe_int pa_nil))) (pa_cons (pe_call G_take (hr.mono (by decide)) (by rfl) g_take p_take b_take .nil pass0 (pa_cons (pv 0) (pa_cons pe_int pa_nil))) pa_nil))) (pg_tup rfl (pgs_cons (pg_name (i := 7) scTurn.nd rfl (by first | exact Or.inl rfl | exact Or.inr rfl)) (pgs_cons (pg_name (i := 8) scTurn.nd rfl (by first | exact Or.inl rfl | exact Or.inr rfl)) pgs_nil))))
    (pss_cons (ps_set (i := 9) scTurn.nd rfl (by first | exact Or.inl rfl | exact Or.inr rfl) (pe_ifExp (pt_val (pe_dget hu (pv 2) pe_str (fun _ _ => rfl))) (pe_tup (pa_cons pe_str (pa_cons pe_int pa_nil))) (pe_tup (pa_cons pe_str (pa_cons pe_int pa_nil)))))
    (pss_cons (ps_if (pt_cmpR op_lt (pv 4) pe_int (nomark _)) (pss_cons (ps_set (i := 10) scTurn.nd rfl (by first | exact Or.inl rfl | exact Or.inr rfl) (pe_call G_deed (hr.mono (by decide)) (by rfl) g_deed p_deed b_deed .nil pass0 (pa_cons (pv 2) (pa_cons (pv 3) pa_nil))))
      (pss_cons (ps_if (pt_cmpR op_isN1 (pv 10) pe_non (nomark _)) (pss_one (ps_asg (pv 8) (pg_sub (pe_ix ix_list (pe_dget hu (pv 5) pe_str (fun _ _ => rfl)) (pv 6) (fun _ _ => rfl)) (pv 7) set_list))) pss_nil)
      (pss_one (ps_ret (pe_call G_alike (hr.mono (by decide)) (by rfl) g_alike p_alike b_alike .nil pass0 (pa_cons (pe_toldV (k := 29) G_told (hr.mono (by decide)) (by rfl) g_told p_told b_told TB rfl hmT huT (lamP_by (by show lamPB ["_law_box", "_law_bench", "_law_own", "_law_disk_here", "_law_way", "_law_there", "_law_piece", "_law_block", "_law_worth", "_law_late", "_law_due", "_law_sheet", "_law_is_bad", "_law_found"] (defScope sTurn) _ [] = true; decide +kernel)) (by rfl) (fun _ _ _ _ _ => by rfl) (fun A' outer' s' H' E' f' c'' hr2 => (pe_meth (pv 1) cB m_put G_put (hr2.mono (by decide)) b_put .nil pass_lam (pa_cons (pv 3) (pa_cons (pv 6) (pa_cons (pv 7) (pa_cons (pv 8) pa_nil))))))) (pa_cons (pv 10) pa_nil))))))) pss_nil)
    (pss_cons (ps_if (pt_cmpR op_lt (pv 4) pe_int (nomark _)) (pss_cons (ps_set (i := 10) scTurn.nd rfl (by first | exact Or.inl rfl | exact Or.inr rfl) (pe_call G_deed (hr.mono (by decide)) (by rfl) g_deed p_deed b_deed .nil pass0 (pa_cons (pv 2) (pa_cons (pv 3) pa_nil))))
      (pss_cons (ps_set (i := 11) scTurn.nd rfl (by first | exact Or.inl rfl | exact Or.inr rfl) (pe_tup (pa_cons (pv 8) (pa_cons (pe_slice sl_str pe_str po_none (po_some (pv 7))) (pa_cons (pe_tup (pa_cons pe_non (pa_cons (pv 8) pa_nil))) pa_nil)))))
      (pss_cons (ps_if (pt_cmpR op_isN1 (pv 10) pe_non (nomark _)) (pss_one (ps_dput hu (pv 5) pe_str (pv 11) rfl)) pss_nil)
      (pss_one (ps_ret (pe_call G_alike (hr.mono (by decide)) (by rfl) g_alike p_alike b_alike .nil pass0 (pa_cons (pe_toldV (k := 29) G_told (hr.mono (by decide)) (by rfl) g_told p_told b_told TB rfl hmT huT (lamP_by (by show lamPB ["_law_box", "_law_bench", "_law_own", "_law_disk_here", "_law_way", "_law_there", "_law_piece", "_law_block", "_law_worth", "_law_late", "_law_due", "_law_sheet", "_law_is_bad", "_law_found"] (defScope sTurn) _ [] = true; decide +kernel)) (by rfl) (fun _ _ _ _ _ => by rfl) (fun A' outer' s' H' E' f' c'' hr2 => (pe_meth (pv 1) cB m_lay G_lay (hr2.mono (by decide)) b_lay .nil pass_lam (pa_cons (pv 3) (pa_cons (pv 11) pa_nil))))) (pa_cons (pv 10) pa_nil)))))))) pss_nil)
    (pss_cons (ps_if (pt_cmpR op_lt (pv 4) pe_int (nomark _)) (pss_cons (ps_set (i := 12) scTurn.nd rfl (by first | exact Or.inl rfl | exact Or.inr rfl) (pe_or (pe_cmpR op_isN1 (pv 5) pe_non (nomark _)) (pe_one (pe_dget hu (pv 2) pe_str (fun _ _ => rfl)))))
      (pss_cons (ps_set (i := 10) scTurn.nd rfl (by first | exact Or.inl rfl | exact Or.inr rfl) (pe_ifExp (pt_val (pv 12)) (pe_lst (pa_cons (pv 9) (pa_cons (pv 9) pa_nil))) (pe_lst (pa_cons (pe_ix ix_list (pe_ix ix_list (pe_dget hu (pv 5) pe_str (fun _ _ => rfl)) (pv 6) (fun _ _ => rfl)) (pv 7) (fun _ _ => rfl)) (pa_cons (pe_dget hu (pv 5) pe_str (fun _ _ => rfl)) pa_nil)))))
      (pss_cons (ps_set (i := 13) scTurn.nd rfl (by first | exact Or.inl rfl | exact Or.inr rfl) (pe_lst (pa_cons (pe_toldV (k := 29) G_told (hr.mono (by decide)) (by rfl) g_told p_told b_told TB rfl hmT huT (lamP_by (by show lamPB ["_law_box", "_law_bench", "_law_own", "_law_disk_here", "_law_way", "_law_there", "_law_piece", "_law_block", "_law_worth", "_law_late", "_law_due", "_law_sheet", "_law_is_bad", "_law_found"] (defScope sTurn) _ [] = true; decide +kernel)) (by rfl) (fun _ _ _ _ _ => by rfl) (fun A' outer' s' H' E' f' c'' hr2 => (pe_meth (pv 1) cB m_get G_get (hr2.mono (by decide)) b_get .nil pass_lam (pa_cons (pv 3) (pa_cons (pv 6) (pa_cons (pv 7) pa_nil)))))) (pa_cons (pe_toldD (k := 29) (pd := "_law_a") G_told (hr.mono (by decide)) (by rfl) g_told p_told b_told TB rfl hmT huT (lamP_by (by show lamPB ["_law_box", "_law_bench", "_law_own", "_law_disk_here", "_law_way", "_law_there", "_law_piece", "_law_block", "_law_worth", "_law_late", "_law_due", "_law_sheet", "_law_is_bad", "_law_found"] (defScope sTurn) _ ["_law_a"] = true; decide +kernel)) pe_int (by rfl) (fun _ _ _ _ _ _ => ⟨_, by rfl, fun _ => by rfl⟩) (fun A' outer' s' H' E' f' c'' hr2 => (pe_meth (pv 1) cB m_sheet G_sheet (hr2.mono (by decide)) b_sheet .nil pass_lam (pa_cons (pv 3) pa_nil)))) pa_nil))))
      (pss_one (ps_ret (pe_call G_alike (hr.mono (by decide)) (by rfl) g_alike p_alike b_alike .nil pass0 (pa_cons (pv 13) (pa_cons (pv 10) pa_nil)))))))) pss_nil)
    (pss_one (ps_ret (pe_call G_comes (hr.mono (by decide)) (by rfl) g_comes p_comes b_comes .nil pass0 (pa_cons (pv 0) (pa_cons (pv 1) (pa_cons (pv 2) (pa_cons (pv 3) (pa_cons (pv 4) pa_nil)))))))))))))))), ?_⟩
  simp only [cxK, cxK']
  have eo : H α.o = some (ownO α.ol B) := S.own.g.root
  unfold ownO at eo
  have el : H α.ol = some (.lst ((List.zipWith eT α.es B.disks).map AT.val)) := (S.own.g.kid (i := 0) rfl).root
  have ln : ((List.zipWith eT α.es B.disks).map AT.val).length = B.disks.length := by rw [List.length_map, List.length_zipWith, S.own.n, Nat.min_self]
  have few := S.bench.few
  obtain ⟨ns0, s0, bx0⟩ := S.box
  walk_at "w"
  refine ⟨α.b, α.bl, ns0, s0, _, rfl, bx0, S.nb, by rw [ln]; omega, by rw [ln]; omega, fun H1 ns1 s1 x k1 bx1 x0 x1 => ?_⟩
  rw [ln] at x1
  obtain ⟨i, rfl⟩ : ∃ i : Nat, x = (i : Int) := ⟨x.toNat, by omega⟩
  have hi : i < B.disks.length := by omega
  have S1 := S.draw k1 bx1
  walk_at "w"
  refine ⟨α.b, α.bl, ns1, s1, 12, rfl, bx1, S.nb, by decide, by decide, fun H1' ns2 s2 way k2 bx2 way0 way1 => ?_⟩
  walk_at "w"
  intro p0 np0
  have S2 := (S1.draw k2 bx2).kp0 (kp_new (o := .tup [V.int (i : Int), V.int way]) Kp.refl np0)
  refine w_gTup (sq_t upd_same) rfl ?_
  refine w_gCons (w_gName (w_gCons (w_gName (w_gNil ?_))))
  generalize (upd H1' p0 (.tup [V.int (i : Int), V.int way])) = H2 at S2
  have eo2 : H2 α.o = some (ownO α.ol B) := S2.own.g.root
  unfold ownO at eo2
  have el2 : H2 α.ol = some (.lst ((List.zipWith eT α.es B.disks).map AT.val)) := (S2.own.g.kid (i := 0) rfl).root
  clear eo el
  obtain ⟨e, he⟩ : ∃ e, α.es[i]? = some e := ⟨_, List.getElem?_eq_getElem (by rw [S.own.n]; exact hi)⟩
  have hD := List.getElem?_eq_getElem hi
  obtain ⟨hh, hq⟩ := S.own.h i e _ he hD
  have ez : (List.zipWith eT α.es B.disks)[i]? = some (eT e B.disks[i]) := by rw [List.getElem?_zipWith, he, hD]
  have ei : atI ((List.zipWith eT α.es B.disks).map AT.val) (i : Int) = some (eT e B.disks[i]).val := atI_nat (by rw [List.getElem?_map, ez]; rfl)
  walk_at "w"
  refine w_ifJ (fun v H' => H' = H2 ∧ ∃ m : Nat, v = .int (m : Int) ∧ 0 < m ∧ m ≤ 12 ∧ (e.isSome = true → m = B.disks[i].pieces.length)) (fun v H' hP => ?_) (fun Q' hQ => ?_)
  rotate_left
  · cases e with
    | none =>
      refine iteF ?_
      walk_at "w"
      exact hQ _ _ ⟨rfl, 12, rfl, by decide, by decide, fun z => by cases z⟩
    | some d =>
      have gd : Good H2 (odT d B.disks[i]) := (S2.own.g.kid (i := 0) rfl).kid ez
      have ed : H2 d.e = some (.dK [(Sum.inr "blocks", .ref d.p), (Sum.inr "sheet", (B.disks[i]).paper)]) := gd.root
      have ep : H2 d.p = some (.lst ((List.zipWith rowT d.qs (B.disks[i]).pieces).map AT.val)) := (gd.kid (i := 0) rfl).root
      refine iteT ?_
      rw [show (eT (some d) B.disks[i]).val = V.ref d.e from rfl]
      walk_at "w"
      have DA := S2.bench.ed i (α.ds[i]'(by rw [S2.bench.en]; exact hi)) _ (List.getElem?_eq_getElem _) hD
      have l1 : ((List.zipWith rowT d.qs (B.disks[i]).pieces).map AT.val).length = (B.disks[i]).pieces.length := by rw [List.length_map, List.length_zipWith, hq d rfl, Nat.min_self]
      exact hQ _ _ ⟨rfl, _, rfl, by rw [l1]; exact (S2.pB _ (List.mem_of_getElem? hD)).1, by rw [l1]; exact DA.few, fun _ => l1⟩
  obtain ⟨rfl, m, rfl, m0, m12, me⟩ := hP
  obtain ⟨nsa, sa, bxa⟩ := S2.box
  walk_at "w"
  refine ⟨α.b, α.bl, nsa, sa, m, rfl, bxa, S.nb, by omega, by omega, fun H3 ns3 s3 y k3 bx3 y0 y1 => ?_⟩
  obtain ⟨j, rfl⟩ : ∃ j : Nat, y = (j : Int) := ⟨y.toNat, by omega⟩
  have S3 := S2.draw k3 bx3
  walk_at "w"
  refine ⟨α.b, α.bl, ns3, s3, 4, rfl, bx3, S.nb, by decide, by decide, fun H4 ns4 s4 z k4 bx4 z0 z1 => ?_⟩
  obtain ⟨kb, rfl⟩ : ∃ kb : Nat, z = (kb : Int) := ⟨z.toNat, by omega⟩
  have S4 := S3.draw k4 bx4
  walk_at "w"
  refine ⟨α.b, α.bl, ns4, s4, 1000, rfl, bx4, S.nb, by decide, by decide, fun H5' ns5 s5 wo k5 bx5 w0 w1 => ?_⟩
  walk_at "w"
  intro p1 np1
  have S5 := (S4.draw k5 bx5).kp0 (kp_new (o := .tup [V.int (kb : Int), V.int wo]) Kp.refl np1)
  refine w_gTup (sq_t upd_same) rfl ?_
  refine w_gCons (w_gName (w_gCons (w_gName (w_gNil ?_))))
  generalize (upd H5' p1 (.tup [V.int (kb : Int), V.int wo])) = H5 at S5
  have eo5 : H5 α.o = some (ownO α.ol B) := S5.own.g.root
  unfold ownO at eo5
  clear eo2 el2
  walk_at "w"
  refine w_ifJ (fun v H' => Kp [] H5 H' ∧ IsErr H' v (if B.stands then 9 else 7)) (fun late H6 hP => ?_) (fun Q' hQ => ?_)
  rotate_left
  · cases hs : B.stands with
    | true =>
      rw [hs] at hQ
      refine iteT ?_
      walk_at "w"
      exact fun p np => hQ _ _ ⟨kp_new Kp.refl np, p, rfl, upd_same⟩
    | false =>
      rw [hs] at hQ
      refine iteF ?_
      walk_at "w"
      exact fun p np => hQ _ _ ⟨kp_new Kp.refl np, p, rfl, upd_same⟩
  obtain ⟨k6, lp, rfl, elp⟩ := hP
  have lt : IsErr H6 (.ref lp) (if B.stands then 9 else 7) := ⟨lp, rfl, elp⟩
  have S6 := S5.kp0 k6
  clear eo5
  have hd : ∀ b, B.stands = b → B.disk (.int (i : Int)) = if b then .bad 9 else if e.isSome then .ok i else .bad 7 := fun b hs => by
    cases b with
    | true => rw [disk_stands hs]; rfl
    | false => rw [disk_at hs hD, hh]; rfl
  have hdk : (∃ k, (k = 7 ∨ k = 9) ∧ B.disk (.int (i : Int)) = .bad k) ∨ ∃ d, e = some d ∧ B.disk (.int (i : Int)) = .ok i ∧ B.stands = false := by
    cases hs : B.stands with
    | true => exact .inl ⟨9, .inr rfl, hd _ hs⟩
    | false =>
      cases e with
      | none => exact .inl ⟨7, .inl rfl, hd _ hs⟩
      | some d => exact .inr ⟨d, rfl, hd _ hs, rfl⟩
  have dds : (B.deed i).2.disks = B.disks := by
    unfold BenchS.deed
    cases B.disk (.int (i : Int)) with
    | bad k => rfl
    | ok z =>
      have z := spend_disks B
      cases h : B.spend with
      | mk t B' => rw [h] at z; cases t <;> exact z
  walk_at "w"
  refine ite2 (fun w4 => ?_) (fun w4 => ?_)
  · walk_at "w"
    refine ⟨α.o, α.ol, α.es, B, i, rfl, S6.own, hi, fun H7 v k7 A7 dv => ?_⟩
    have S7 := S6.deed k7 A7 dds
    rcases hdk with ⟨k, hk, hb⟩ | ⟨d, rfl, hb, hs⟩
    · have hdd : B.deed i = (some k, B) := by unfold BenchS.deed; rw [hb]
      rw [hdd] at dv S7
      obtain ⟨vp, rfl, evp⟩ := dv
      have dv : IsErr H7 (.ref vp) k := ⟨vp, rfl, evp⟩
      walk_at "w"
      refine w_toldL S7.tabs (fun Hx ext Tx => w_toldV ?_)
      have Sx := S7.ext ext Tx
      have eb := Sx.bench.eb
      walk_at "w"
      refine ⟨α.bn, α.dx, α.l, α.ds, B, _, _, _, _, rfl, Sx.bench, True.intro, True.intro, True.intro, True.intro, ?_⟩
      rw [block_bad hb]
      refine told_err (k := k) (by omega) (by omega) fun x Hy ky er => ?_
      walk_at "w"
      refine ⟨.ref x, .ref vp, errD k, rfl, er.dp, ((dv.ext ext).ki (KI.of0 ky)).dp, rfl, ?_⟩
      exact q _ _ _ _ (Sx.kp0 ky) rfl
    · rw [show (eT (some d) B.disks[i]).val = V.ref d.e from rfl]
      have ej := me rfl
      have lj : j < (B.disks[i]).pieces.length := by omega
      have lq : j < d.qs.length := by rw [hq d rfl]; exact lj
      have hbl : B.block (.int (i : Int)) (.int (j : Int)) (.int (kb : Int)) = .ok (i, j, kb) := block_at hb hD lj (by omega)
      have hnum : numOk (.int wo) 0 999 = true := decide_eq_true (by omega)
      cases hsp : B.spend with
      | mk t B' =>
        have hdd : B.deed i = (if t then none else some 9, B') := by unfold BenchS.deed; rw [hb, hsp]; cases t <;> rfl
        have eds : B'.disks = B.disks := by have z := spend_disks B; rw [hsp] at z; exact z
        rw [hdd] at dv S7
        cases t with
        | false =>
          obtain ⟨vp, rfl, evp⟩ := dv
          have dv : IsErr H7 (.ref vp) 9 := ⟨vp, rfl, evp⟩
          walk_at "w"
          refine w_toldL S7.tabs (fun Hx ext Tx => w_toldV ?_)
          have Sx := S7.ext ext Tx
          have eb := Sx.bench.eb
          walk_at "w"
          refine ⟨α.bn, α.dx, α.l, α.ds, B, _, _, _, _, rfl, Sx.bench, True.intro, True.intro, True.intro, True.intro, ?_⟩
          rw [hbl]
          show match numOk (.int wo) 0 999, V.int wo with | true, .int x => _ | _, _ => _
          rw [hnum]
          show match B.spend with | (false, B') => _ | (true, B') => _
          rw [hsp]
          intro Hz kz Bz
          refine told_err (k := 9) (by decide) (by decide) fun x Hy ky er => ?_
          walk_at "w"
          have S8 := Sx.stepB kz Bz (fun a m => .inl m) Sx.pO
          refine ⟨.ref x, .ref vp, errD 9, rfl, er.dp, (((dv.ext ext).ki (KI.of kz Sx.bench.mu)).ki (KI.of0 ky)).dp, rfl, ?_⟩
          exact q _ _ _ _ (S8.kp0 ky) (by rw [eds])
        | true =>
          have dv : v = .non := dv
          subst dv
          have hD7 : B'.disks[i]? = some B.disks[i] := by rw [eds]; exact hD
          have gd : Good H7 (odT d B.disks[i]) := (S7.own.g.kid (i := 0) rfl).kid (by rw [List.getElem?_zipWith, he, hD7]; rfl)
          have ed : H7 d.e = some (.dK [(Sum.inr "blocks", .ref d.p), (Sum.inr "sheet", (B.disks[i]).paper)]) := gd.root
          have ep : H7 d.p = some (.lst ((List.zipWith rowT d.qs (B.disks[i]).pieces).map AT.val)) := (gd.kid (i := 0) rfl).root
          have hq1 := List.getElem?_eq_getElem lq
          have hr1 := List.getElem?_eq_getElem lj
          have hz1 : (List.zipWith rowT d.qs (B.disks[i]).pieces)[j]? = some (rowT d.qs[j] (B.disks[i]).pieces[j]) := by rw [List.getElem?_zipWith, hq1, hr1]
          have ea : atI ((List.zipWith rowT d.qs (B.disks[i]).pieces).map AT.val) (j : Int) = some (.ref d.qs[j]) := atI_nat (by rw [List.getElem?_map, hz1]; rfl)
          have er : H7 d.qs[j] = some (.lst ((B.disks[i]).pieces[j].map V.int)) := by
            have z := ((gd.kid (i := 0) rfl).kid hz1).root
            rw [List.map_map, show (AT.val ∘ AT.v) = id from rfl, List.map_id] at z
            exact z
          have DA := S6.bench.ed i (α.ds[i]'(by rw [S6.bench.en]; exact hi)) _ (List.getElem?_eq_getElem _) hD
          have l4 := DA.four _ (List.mem_of_getElem? hr1)
          walk_at "w"
          refine w_setL er (ixN_nat (i := kb) (by rw [List.length_map, l4]; omega)) ?_
          rw [show ((B.disks[i]).pieces[j].map V.int).set kb (.int wo) = ((B.disks[i]).pieces[j].set kb wo).map V.int from (List.map_set ..).symm]
          obtain ⟨A8, st⟩ := S7.own.putW (k := kb) wo he hD7 hq1 hr1
          have S8 := S7.stepO st A8 (papers_mod S7.pO (fun _ => rfl) (fun D => by show (D.pieces.modify _ _).length = _; rw [List.length_modify]))
          walk_at "w"
          refine w_toldL S8.tabs (fun Hx ext Tx => w_toldV ?_)
          have Sx := S8.ext ext Tx
          have eb : Hx α.bn = _ := Sx.bench.eb
          walk_at "w"
          refine ⟨α.bn, α.dx, α.l, α.ds, B, _, _, _, _, rfl, Sx.bench, True.intro, True.intro, True.intro, True.intro, ?_⟩
          rw [hbl]
          show match numOk (.int wo) 0 999, V.int wo with | true, .int x => _ | _, _ => _
          rw [hnum]
          show match B.spend with | (false, B') => _ | (true, B') => _
          rw [hsp]
          intro Hz kz Bz
          walk_at "w"
          refine ⟨V.non, V.non, .none, rfl, .non, .non, rfl, ?_⟩
          exact q _ _ _ _ (Sx.stepB kz Bz (fun a m => .inl m) Sx.pO) (by show (B'.disks.modify _ _).length = _; rw [List.length_modify, eds])
  · walk_at "w"
    refine ite2 (fun w6 => ?_) (fun w6 => ?_)
    · walk_at "w"
      refine ⟨α.o, α.ol, α.es, B, i, rfl, S6.own, hi, fun H7 v k7 A7 dv => ?_⟩
      have S7 := S6.deed k7 A7 dds
      have vle : v = .non ∨ ∃ vp, v = .ref vp := by
        revert dv
        cases (B.deed i).1 with
        | none => exact fun z => .inl z
        | some k => exact fun z => .inr (let ⟨p, h, _⟩ := z; ⟨p, h⟩)
      walk_at "w"
      intro t1 nt1
      walk_at "w"
      intro t2 nt2
      have kt : Kp [] H7 (upd (upd H7 t1 (.tup [V.non, V.int wo])) t2 (.tup [V.int wo, V.str (cutS "xyz" none (some (kb : Int))), V.ref t1])) := kp_new (kp_new Kp.refl nt1) nt2
      have pim : Im (upd (upd H7 t1 (.tup [V.non, V.int wo])) t2 (.tup [V.int wo, V.str (cutS "xyz" none (some (kb : Int))), V.ref t1])) (.ref t2) (.tuple [.int wo, .str (cutS "xyz" none (some (kb : Int))), .tuple [.none, .int wo]]) := .tup upd_same (.cons (.int _) (.cons (.str _) (.cons (.tup (upd_old nt2 upd_same) (.cons .non (.cons (.int _) .nil))) .nil)))
      have S8 := S7.kp0 kt
      generalize (upd (upd H7 t1 (.tup [V.non, V.int wo])) t2 (.tup [V.int wo, V.str (cutS "xyz" none (some (kb : Int))), V.ref t1])) = H8 at S8 pim kt
      rcases hdk with ⟨k, hk, hb⟩ | ⟨d, rfl, hb, hs⟩
      · have hdd : B.deed i = (some k, B) := by unfold BenchS.deed; rw [hb]
        rw [hdd] at dv S8
        obtain ⟨vp, rfl, evp⟩ := dv
        have dv : IsErr H8 (.ref vp) k := ⟨vp, rfl, kt.k _ _ evp ni_nil⟩
        walk_at "w"
        refine w_toldL S8.tabs (fun Hx ext Tx => w_toldV ?_)
        have Sx := S8.ext ext Tx
        have eb := Sx.bench.eb
        walk_at "w"
        refine ⟨α.bn, α.dx, α.l, α.ds, B, _, _, rfl, Sx.bench, True.intro, ?_⟩
        rw [hb]
        refine told_err (k := k) (by omega) (by omega) fun x Hy ky er => ?_
        walk_at "w"
        refine ⟨.ref x, .ref vp, errD k, rfl, er.dp, ((dv.ext ext).ki (KI.of0 ky)).dp, rfl, ?_⟩
        exact q _ _ _ _ (Sx.kp0 ky) rfl
      · rw [show (eT (some d) B.disks[i]).val = V.ref d.e from rfl]
        cases hsp : B.spend with
        | mk t B' =>
          have hdd : B.deed i = (if t then none else some 9, B') := by unfold BenchS.deed; rw [hb, hsp]; cases t <;> rfl
          have eds : B'.disks = B.disks := by have z := spend_disks B; rw [hsp] at z; exact z
          rw [hdd] at dv S8
          cases t with
          | false =>
            obtain ⟨vp, rfl, evp⟩ := dv
            have dv : IsErr H8 (.ref vp) 9 := ⟨vp, rfl, kt.k _ _ evp ni_nil⟩
            walk_at "w"
            refine w_toldL S8.tabs (fun Hx ext Tx => w_toldV ?_)
            have Sx := S8.ext ext Tx
            have eb := Sx.bench.eb
            walk_at "w"
            refine ⟨α.bn, α.dx, α.l, α.ds, B, _, _, rfl, Sx.bench, True.intro, ?_⟩
            rw [hb]
            show match B.spend with | (false, B') => _ | (true, B') => _
            rw [hsp]
            intro Hz kz Bz
            refine told_err (k := 9) (by decide) (by decide) fun x Hy ky er => ?_
            walk_at "w"
            have S9 := Sx.stepB kz Bz (fun a m => .inl m) Sx.pO
            refine ⟨.ref x, .ref vp, errD 9, rfl, er.dp, (((dv.ext ext).ki (KI.of kz Sx.bench.mu)).ki (KI.of0 ky)).dp, rfl, ?_⟩
            exact q _ _ _ _ (S9.kp0 ky) (by rw [eds])
          | true =>
            have dv : v = .non := dv
            subst dv
            have hD7 : B'.disks[i]? = some B.disks[i] := by rw [eds]; exact hD
            have gd : Good H8 (odT d B.disks[i]) := (S8.own.g.kid (i := 0) rfl).kid (by rw [List.getElem?_zipWith, he, hD7]; rfl)
            have ed : H8 d.e = some (.dK [(Sum.inr "blocks", .ref d.p), (Sum.inr "sheet", (B.disks[i]).paper)]) := gd.root
            walk_at "w"
            obtain ⟨A9, st⟩ := S8.own.lay (H' := H8) (.ref t2) he hD7
            have e9 : (B'.setD i fun _ => { B.disks[i] with paper := V.ref t2 }) = B'.setD i fun D => { D with paper := V.ref t2 } := setD_eq (f := fun D => { D with paper := V.ref t2 }) hD7
            have S9 := S8.stepO st A9 (by rw [← e9]; exact papers_set S8.pO ⟨(S8.pB _ (List.mem_of_getElem? hD)).1, _, rfl, pim⟩)
            walk_at "w"
            refine w_toldL S9.tabs (fun Hx ext Tx => w_toldV ?_)
            have Sx := S9.ext ext Tx
            have eb : Hx α.bn = _ := Sx.bench.eb
            walk_at "w"
            refine ⟨α.bn, α.dx, α.l, α.ds, B, _, _, rfl, Sx.bench, True.intro, ?_⟩
            rw [hb]
            show match B.spend with | (false, B') => _ | (true, B') => _
            rw [hsp]
            intro Hz kz Bz
            walk_at "w"
            refine ⟨V.non, V.non, .none, rfl, .non, .non, rfl, ?_⟩
            exact q _ _ _ _ (Sx.stepB kz Bz (fun a m => .inl m) Sx.pO) (by show (B'.disks.modify _ _).length = _; rw [List.length_modify, eds])
    · walk_at "w"
      refine ite2 (fun w8 => ?_) (fun w8 => ?_)
      · rcases hdk with ⟨k, hk, hb⟩ | ⟨d, rfl, hb, hs⟩
        · have eo6 : H6 α.o = some (ownO α.ol B) := S6.own.g.root
          unfold ownO at eo6
          have hk2 : k = if B.stands then 9 else 7 := by
            cases hs : B.stands with
            | true => have z := hd _ hs; rw [hb] at z; cases z; rfl
            | false =>
              have z := hd _ hs
              rw [hb] at z
              cases e with
              | none => cases z; rfl
              | some d => cases z
          rw [← hk2] at lt
          refine w_seq (w_asg (w_val (fun v H' => H' = H6 ∧ v = .bl true) (fun v H' hP => ?_) (fun Q' hQ => ?_)))
          rotate_left
          · cases e with
            | none =>
              walk_at "w"
              exact hQ _ _ ⟨rfl, rfl⟩
            | some d =>
              cases hs : B.stands with
              | true =>
                rw [show (eT (some d) B.disks[i]).val = V.ref d.e from rfl]
                rw [hs] at eo6
                walk_at "w"
                exact hQ _ _ ⟨rfl, rfl⟩
              | false =>
                have z := hd _ hs
                rw [hb] at z
                cases z
          obtain ⟨rfl, rfl⟩ := hP
          walk_at "w"
          intro pd npd
          have S7 := S6.kp0 (kp_new (o := .lst [V.ref lp, V.ref lp]) Kp.refl npd)
          have lt7 := lt.ki (KI.of0 (kp_new (o := .lst [V.ref lp, V.ref lp]) Kp.refl npd))
          have ed7 : (upd H' pd (.lst [V.ref lp, V.ref lp])) pd = some (.lst [V.ref lp, V.ref lp]) := upd_same
          generalize (upd H' pd (.lst [V.ref lp, V.ref lp])) = H7 at S7 lt7 ed7
          walk_at "w"
          refine w_toldL S7.tabs (fun Hx ext Tx => w_toldV ?_)
          have Sx := S7.ext ext Tx
          have eb := Sx.bench.eb
          walk_at "w"
          refine ⟨α.bn, α.dx, α.l, α.ds, B, _, _, _, rfl, Sx.bench, True.intro, True.intro, True.intro, ?_⟩
          rw [block_bad hb]
          refine told_err (k := k) (by omega) (by omega) fun x Hy ky er => ?_
          have Sy := Sx.kp0 ky
          walk_at "w"
          refine w_toldL Sy.tabs (fun Hu exu Tu => w_toldV ?_)
          have Su := Sy.ext exu Tu
          have eb := Su.bench.eb
          walk_at "w"
          refine ⟨α.bn, α.dx, α.l, α.ds, B, _, rfl, Su.bench, True.intro, ?_⟩
          rw [hb]
          refine told_err (k := k) (by omega) (by omega) fun x2 Hv kv er2 => ?_
          have Sv := Su.kp0 kv
          walk_at "w"
          intro pf npf
          have eu : Hv pd = some (.lst [V.ref lp, V.ref lp]) := kv.k _ _ (exu _ _ (ky.k _ _ (ext _ _ ed7 fun ps z => by cases z) ni_nil) fun ps z => by cases z) ni_nil
          have lt8 : IsErr Hv (.ref lp) k := (((lt7.ext ext).ki (KI.of0 ky)).ext exu).ki (KI.of0 kv)
          have er1 : IsErr Hv (.ref x) k := (er.ext exu).ki (KI.of0 kv)
          have kf : KI Hv (upd Hv pf (.lst [V.ref x, V.ref x2])) := KI.of0 (kp_new Kp.refl npf)
          walk_at "w"
          refine ⟨.ref pf, .ref pd, .list [errD k, errD k], rfl, .lst (sq_l upd_same) (.cons (er1.ki kf).dp (.cons (er2.ki kf).dp .nil)), .lst (sq_l (upd_old npf eu)) (.cons (lt8.ki kf).dp (.cons (lt8.ki kf).dp .nil)), rfl, ?_⟩
          exact q _ _ _ _ (Sv.kp0 (kp_new Kp.refl npf)) rfl
        · rw [show (eT (some d) B.disks[i]).val = V.ref d.e from rfl]
          have eo6 : H6 α.o = some (ownO α.ol B) := S6.own.g.root
          unfold ownO at eo6
          rw [hs] at eo6
          have ej := me rfl
          have lj : j < (B.disks[i]).pieces.length := by omega
          have lq : j < d.qs.length := by rw [hq d rfl]; exact lj
          have hbl : B.block (.int (i : Int)) (.int (j : Int)) (.int (kb : Int)) = .ok (i, j, kb) := block_at hb hD lj (by omega)
          have gd : Good H6 (odT d B.disks[i]) := (S6.own.g.kid (i := 0) rfl).kid (by rw [List.getElem?_zipWith, he, hD]; rfl)
          have ed : H6 d.e = some (.dK [(Sum.inr "blocks", .ref d.p), (Sum.inr "sheet", (B.disks[i]).paper)]) := gd.root
          have ep : H6 d.p = some (.lst ((List.zipWith rowT d.qs (B.disks[i]).pieces).map AT.val)) := (gd.kid (i := 0) rfl).root
          have hq1 := List.getElem?_eq_getElem lq
          have hr1 := List.getElem?_eq_getElem lj
          have hz1 : (List.zipWith rowT d.qs (B.disks[i]).pieces)[j]? = some (rowT d.qs[j] (B.disks[i]).pieces[j]) := by rw [List.getElem?_zipWith, hq1, hr1]
          have ea : atI ((List.zipWith rowT d.qs (B.disks[i]).pieces).map AT.val) (j : Int) = some (.ref d.qs[j]) := atI_nat (by rw [List.getElem?_map, hz1]; rfl)
          have er : H6 d.qs[j] = some (.lst ((B.disks[i]).pieces[j].map V.int)) := by
            have z := ((gd.kid (i := 0) rfl).kid hz1).root
            rw [List.map_map, show (AT.val ∘ AT.v) = id from rfl, List.map_id] at z
            exact z
          have DA := S6.bench.ed i (α.ds[i]'(by rw [S6.bench.en]; exact hi)) _ (List.getElem?_eq_getElem _) hD
          have l4 := DA.four _ (List.mem_of_getElem? hr1)
          have hx1 : (B.disks[i]).pieces[j][kb]? = some ((B.disks[i]).pieces[j][kb]'(by omega)) := List.getElem?_eq_getElem (by omega)
          have eax : atI ((B.disks[i]).pieces[j].map V.int) (kb : Int) = some (.int ((B.disks[i]).pieces[j][kb]'(by omega))) := atI_nat (by rw [List.getElem?_map, hx1]; rfl)
          obtain ⟨_, pd, hpd, hpm⟩ := S6.pB _ (List.mem_of_getElem? hD)
          generalize (B.disks[i]).pieces[j][kb]'(by omega) = xv at hx1 eax
          walk_at "w"
          intro po npo
          have S7 := S6.kp0 (kp_new (o := .lst [V.int xv, (B.disks[i]).paper]) Kp.refl npo)
          have pm7 := hpm.ki (KI.of0 (kp_new (o := .lst [V.int xv, (B.disks[i]).paper]) Kp.refl npo))
          have ed7 : (upd H6 po (.lst [V.int xv, (B.disks[i]).paper])) po = some (.lst [V.int xv, (B.disks[i]).paper]) := upd_same
          generalize (upd H6 po (.lst [V.int xv, (B.disks[i]).paper])) = H7 at S7 pm7 ed7
          walk_at "w"
          refine w_toldL S7.tabs (fun Hx ext Tx => w_toldV ?_)
          have Sx := S7.ext ext Tx
          have eb := Sx.bench.eb
          walk_at "w"
          refine ⟨α.bn, α.dx, α.l, α.ds, B, _, _, _, rfl, Sx.bench, True.intro, True.intro, True.intro, ?_⟩
          rw [hbl]
          intro D' r' x' g1 g2 g3
          rw [hD] at g1
          cases g1
          rw [hr1] at g2
          cases g2
          rw [hx1] at g3
          cases g3
          walk_at "w"
          refine w_toldL Sx.tabs (fun Hu exu Tu => w_toldV ?_)
          have Su := Sx.ext exu Tu
          have eb := Su.bench.eb
          walk_at "w"
          refine ⟨α.bn, α.dx, α.l, α.ds, B, _, rfl, Su.bench, True.intro, ?_⟩
          rw [hb]
          intro D' g1
          rw [hD] at g1
          cases g1
          walk_at "w"
          intro pf npf
          have eu : Hu po = some (.lst [V.int xv, (B.disks[i]).paper]) := exu _ _ (ext _ _ ed7 fun ps z => by cases z) fun ps z => by cases z
          have pm8 := (pm7.ext ext).ext exu
          have kf : KI Hu (upd Hu pf (.lst [V.int xv, (B.disks[i]).paper])) := KI.of0 (kp_new Kp.refl npf)
          walk_at "w"
          refine ⟨.ref pf, .ref po, .list [.int xv, pd], rfl, .lst (sq_l upd_same) (.cons (.int _) (.cons ((pm8.ki kf).dp) .nil)), .lst (sq_l (upd_old npf eu)) (.cons (.int _) (.cons ((pm8.ki kf).dp) .nil)), ?_, ?_⟩
          · have h18 := okD_more (m := 18) hpd (by decide)
            show (decide (2 ≤ 100000) && (okD 18 (.int xv) && (okD 18 pd && true))) = true
            rw [h18]
            rfl
          exact q _ _ _ _ (Su.kp0 (kp_new Kp.refl npf)) rfl
      · walk_at "w"
        have w8' : ¬ way < 8 := by simpa using w8
        refine ⟨α, B, i, way, rfl, S6, hi, by omega, fun H7 ds es B' S7 hl => ?_⟩
        exact q _ _ _ _ S7 hl
end
end VH

namespace VH
open PySem L2 LamX
local macro_rules | `(tactic| walk_at "dT") => `(tactic| first
  | ((with_reducible apply iT); (first | assumption | omega))
  | ((with_reducible apply niT); (first | assumption | omega))
  | ((with_reducible apply sT); (first | assumption | rfl))
  | ((with_reducible apply nsT); (first | assumption | decide))
  | ((with_reducible apply nbT); (first | assumption | omega))
  | ((with_reducible apply decide_eq_true); (first | assumption | omega)))
local macro_rules | `(tactic| walk_at "dF") => `(tactic| first
  | ((with_reducible apply iF); (first | assumption | omega))
  | ((with_reducible apply niF); (first | assumption | omega))
  | ((with_reducible apply sF); (first | assumption | decide))
  | ((with_reducible apply nsF); (first | assumption | rfl))
  | ((with_reducible apply nbF); (first | assumption | omega))
  | ((with_reducible apply decide_eq_false); (first | assumption | omega)))
local macro_rules | `(tactic| walk_at "ne") => `(tactic| first | assumption | (apply Ne.symm; assumption) | (apply ne_of_none <;> assumption) | (apply Ne.symm; apply ne_of_none <;> assumption) | (apply ne_new; assumption; walk_at "hg") | (apply Ne.symm; apply ne_new; assumption; walk_at "hg"))
local macro_rules | `(tactic| walk_at "ni") => `(tactic| first | exact ni_nil | (apply ni_cons; walk_at "ne"; walk_at "ni") | assumption)
local macro_rules | `(tactic| walk_at "hg") => `(tactic| first
  | assumption
  | exact upd_same
  | (apply upd_old; assumption; walk_at "hg")
  | (apply upd_oth; walk_at "ne"; walk_at "hg")
  | (apply kp_get; assumption; walk_at "hg"; walk_at "ni"))
local macro_rules | `(tactic| walk_at "mem") => `(tactic| first | exact List.mem_cons_self | (apply List.mem_cons_of_mem; walk_at "mem") | assumption)
local macro_rules | `(tactic| walk_at "no") => `(tactic| first | assumption | (apply none_of_kp2; assumption; walk_at "kp"))
local macro_rules | `(tactic| walk_at "kp") => `(tactic| first
  | assumption
  | exact Kp.refl
  | (apply kp_new'; assumption; walk_at "kp")
  | (apply kp_setn; assumption; walk_at "kp")
  | (apply kp_set'; walk_at "mem"; walk_at "kp")
  | (apply kp_app; assumption; walk_at "kp")
  | (apply kp_app2; assumption; walk_at "kp"))
local macro_rules | `(tactic| walk_at "sz") => `(tactic| first | assumption | exact sz rfl | (apply szb; omega) | (apply szbl; omega) | (apply szb; simp only [List.length_map, List.length_cons, List.length_nil, List.length_append, List.length_set]; omega) | (apply szbl; simp only [List.length_map, List.length_cons, List.length_nil, List.length_append, List.length_set]; omega))
local macro_rules | `(tactic| walk_at "sq") => `(tactic| first
  | assumption
  | (apply sq_l; walk_at "hg")
  | (apply sq_t; walk_at "hg")
  | (apply sqL_new; assumption; walk_at "sq")
  | (apply sqT_new; assumption; walk_at "sq"))
local macro_rules | `(tactic| walk_at "w1") => `(tactic| first
  | with_reducible refine w_seq ?_
  | ((with_reducible apply w_var); exact rfl)
  | with_reducible refine w_c ?_
  | with_reducible refine w_op ?_
  | with_reducible refine w_I0 ?_
  | ((with_reducible apply w_I); (first | assumption | exact Or.inr ⟨by decide, by decide⟩ | exact Or.inl ⟨by decide, by decide⟩ | exact (by show (0 : Int) < _; decide) | exact ⟨by decide, by decide⟩ | exact Or.inl ⟨by omega, by omega⟩ | exact Or.inr ⟨by omega, by omega⟩ | exact ⟨by omega, by omega⟩ | exact (by show (0 : Int) < _; omega)))
  | with_reducible refine w_cons ?_
  | with_reducible refine w_nil ?_
  | with_reducible refine w_asg ?_
  | with_reducible refine w_gName ?_
  | with_reducible refine w_gSub ?_
  | with_reducible refine w_test ?_
  | with_reducible refine w_B ?_
  | with_reducible refine w_ret ?_
  | with_reducible refine w_drop ?_
  | with_reducible refine w_ifS ?_
  | with_reducible refine w_if ?_
  | with_reducible refine w_un ?_
  | with_reducible refine w_U ?_
  | with_reducible refine w_call ?_
  | with_reducible refine w_cb ?_
  | with_reducible refine w_lst ?_
  | with_reducible refine w_tup ?_
  | with_reducible refine w_bm ?_
  | with_reducible refine w_bm0 ?_
  | with_reducible refine w_m1 ?_
  | with_reducible refine w_for ?_
  | with_reducible refine w_iList ?_
  | with_reducible refine w_iTup ?_
  | with_reducible refine w_iStr ?_
  | with_reducible refine w_iR1 ?_
  | with_reducible refine w_iEnum ?_
  | with_reducible refine w_and ?_
  | with_reducible refine w_or ?_
  | with_reducible refine w_not ?_
  | with_reducible refine w_yes ?_
  | with_reducible refine w_isN ?_
  | ((with_reducible apply w_eq); exact rfl)
  | ((with_reducible apply w_ne); exact rfl)
  | with_reducible refine w_chain ?_
  | with_reducible refine w_andV ?_
  | with_reducible refine w_orV ?_
  | with_reducible refine w_notV ?_
  | with_reducible refine w_bl ?_
  | with_reducible refine w_fld ?_
  | with_reducible refine w_sfld ?_
  | with_reducible refine w_next ?_
  | with_reducible refine w_isZ ?_
  | with_reducible refine w_notZ ?_
  | with_reducible refine w_inS ?_
  | with_reducible refine w_notInS ?_
  | ((with_reducible apply w_ifT); exact rfl)
  | ((with_reducible apply w_ifF); exact rfl)
  | ((with_reducible apply w_ifT); walk_at "dT")
  | ((with_reducible apply w_ifF); walk_at "dF")
  | with_reducible refine w_lc ?_
  | with_reducible refine w_aStr ?_
  | ((with_reducible apply w_itL); walk_at "sq")
  | ((with_reducible apply w_itT); walk_at "sq")
  | ((with_reducible apply w_rng); (first | omega | assumption); (first | omega | assumption))
  | ((with_reducible apply w_enum); walk_at "sq")
  | ((with_reducible apply w_lenS); walk_at "sz")
  | ((with_reducible apply w_split); (first | exact rfl | assumption); walk_at "sz")
  | with_reducible refine w_slice ?_
  | with_reducible refine w_part ?_
  | with_reducible refine w_noPart ?_
  | with_reducible refine w_anInt ?_
  | ((with_reducible apply w_slL); walk_at "sq")
  | ((with_reducible apply w_cat); walk_at "hg"; walk_at "hg"; walk_at "sz")
  | ((with_reducible apply w_newSz); walk_at "sz")
  | ((with_reducible apply w_append); walk_at "hg"; walk_at "sz")
  | ((with_reducible apply w_tyD); walk_at "hg")
  | ((with_reducible apply w_gTup); walk_at "sq"; exact rfl)
  | with_reducible refine w_gCons ?_
  | with_reducible refine w_gNil ?_
  | with_reducible refine w_kget2 ?_
  | with_reducible refine w_same ?_
  | ((with_reducible apply w_kat); assumption)
  | ((with_reducible apply w_in); walk_at "sq"; (first | exact rfl | assumption); (first | assumption | exact rfl))
  | ((with_reducible apply w_strI); assumption)
  | with_reducible refine w_disp ?_
  | with_reducible refine w_pcons ?_
  | with_reducible refine w_pnil ?_
  | with_reducible refine w_dget2 ?_
  | ((with_reducible apply w_isD); walk_at "hg")
  | ((with_reducible apply w_dgS); walk_at "hg")
  | ((with_reducible apply w_dupd); walk_at "ne"; walk_at "hg"; walk_at "hg"; (first | decide | walk_at "sz"))
  | ((with_reducible apply w_catS); walk_at "sz")
  | ((with_reducible apply w_slT); walk_at "sq"; assumption)
  | ((with_reducible apply w_ixS); walk_at "sz"; (first | assumption | exact rfl))
  | ((with_reducible apply w_intS); assumption; (first | assumption | omega))
  | ((with_reducible apply w_isi); (first | exact tx_N | exact tx_B | exact tx_I | exact tx_S | (apply tx_L; walk_at "sq") | (apply tx_T; walk_at "sq")); (first | (refine (?_ : _ = some true); decide +kernel) | (refine (?_ : _ = some false); decide +kernel)))
  | ((with_reducible apply w_lenL); walk_at "sq")
  | ((with_reducible apply w_lenT); walk_at "sq")
  | ((with_reducible apply w_listL); walk_at "sq")
  | ((with_reducible apply w_listT); walk_at "sq")
  | ((with_reducible apply w_tupL); walk_at "sq")
  | with_reducible refine w_intI ?_
  | with_reducible refine w_intB ?_
  | with_reducible refine w_strS ?_
  | ((with_reducible apply w_ixXL); walk_at "sq"; (first | exact rfl | exact atI_0 | assumption))
  | ((with_reducible apply w_ixXT); walk_at "sq"; (first | exact rfl | exact atI_0 | assumption))
  | ((with_reducible apply w_tyL); walk_at "sq")
  | with_reducible refine w_tyS ?_
  | ((with_reducible apply w_popAt0); walk_at "hg")
  | ((with_reducible apply w_ixL); walk_at "sq"; (first | exact rfl | exact atI_0 | assumption))
  | ((with_reducible apply w_ixT); walk_at "sq"; (first | exact rfl | exact atI_0 | assumption))
  | ((with_reducible apply w_setL); walk_at "hg"; (first | exact rfl | exact ixN_0)))
local macro_rules | `(tactic| walk_at "w") => `(tactic| repeat walk_at "w1")

local macro_rules | `(tactic| walk_at "w1") => `(tactic| first
  | ((with_reducible apply w_insF); walk_at "hg"; assumption; assumption; exact rfl)
  | with_reducible refine w_meth ?_
  | ((with_reducible apply w_insM); walk_at "hg"; exact rfl)
  | ((with_reducible apply w_setF); walk_at "hg"; assumption; assumption; exact ltF rfl; exact rfl))
local macro_rules | `(tactic| walk_at "w1") => `(tactic| first
  | with_reducible refine w_dget ?_
  | ((with_reducible apply w_dgK); walk_at "hg"; exact rfl)
  | with_reducible refine w_dput ?_
  | with_reducible refine w_rsd ?_
  | ((with_reducible apply w_dpK4); walk_at "hg"; exact szl' rfl; exact rfl)
  | ((with_reducible apply w_dpK2); walk_at "hg"; exact szl' rfl; exact rfl)
  | ((with_reducible apply w_dpK3); walk_at "hg"; exact szl' rfl; exact rfl)
  | ((with_reducible apply w_dpK1); walk_at "hg"; exact szl' rfl; exact rfl)
  | ((with_reducible apply w_dpK5); walk_at "hg"; exact szl' rfl; exact rfl)
  | ((with_reducible apply w_dpK6); walk_at "hg"; exact szl' rfl; exact rfl))

local macro_rules | `(tactic| walk_at "w1") => `(tactic| first
  | with_reducible refine w_par ?_
  | with_reducible refine w_make ?_
  | with_reducible refine w_par2 ?_
  | ((with_reducible apply w_slS); walk_at "sz"))
/-- the i-th lambda of the list that the k-th statement of a def writes -/
def lamAt (st : Stmt) (k i : Nat) : Expr := match (defBody st).getD k (.Pass ⟨0, 0, 0, 0⟩) with
  | .Assign _ (.List es _) _ => es.getD i (.Constant .none 0 ⟨0, 0, 0, 0⟩)
  | _ => .Constant .none 0 ⟨0, 0, 0, 0⟩
def lamP : Expr → Arguments
  | .Lambda a _ _ _ => a
  | _ => ⟨[], [], none, [], [], none, []⟩
def lamB : Expr → Expr
  | .Lambda _ b _ _ => b
  | e => e
def lamSc (e : Expr) : Scope := match e with
  | .Lambda _ _ s _ => s
  | _ => default
theorem pass_cx0 {P : Program} {w : World} {X : Cx} : Passes (L2.CX P w) X C8.E0 := fun _ _ _ _ _ _ _ h => by
  obtain ⟨_, _, _, _, _, _, _, _, _, _, _, _, z⟩ := h
  exact z.elim
/-- all that is tracked but F and tables stands as before -/
def ExtF (F : List Addr) (H H' : Hp) : Prop := ∀ a o, H a = some o → a ∉ F → (∀ ps, o ≠ .tbl ps) → H' a = some o
structure LB (CB CD : Addr) (TT : List (Addr × Str)) (H0 H : Hp) (b bl x dx l : Addr) (ds : List DAd) (B : BenchS) : Prop where
  ext : ExtF [b, bl] H0 H
  box : ∃ ns s, Box H b bl ns s
  tabs : Tabs TT H
  bench : BenchAt CB CD H x dx l ds B
  fr : ∀ a ∈ fpB x l ds, H0 a = none
  h0 : ∀ a ∈ [b, bl], ∃ o, H0 a = some o
section
variable {CB CD : Addr} {TT : List (Addr × Str)} {H0 H H' : Hp} {b bl x dx l : Addr} {ds : List DAd} {B B' : BenchS}
theorem LB.exN (S : LB CB CD TT H0 H b bl x dx l ds B) (k : ExtN H H') (t : Tabs TT H') : LB CB CD TT H0 H' b bl x dx l ds B :=
  ⟨fun a o e n z => k a o (S.ext a o e n z) z, let ⟨ns, s, bx⟩ := S.box; ⟨ns, s, bx.ext k⟩, t, S.bench.ext k, S.fr, S.h0⟩
theorem LB.kp0 (S : LB CB CD TT H0 H b bl x dx l ds B) (k : Kp [] H H') : LB CB CD TT H0 H' b bl x dx l ds B := S.exN (ExtN.of fun b o e => k.k b o e ni_nil) (tabs_ki S.tabs (KI.of0 k))
theorem LB.apart (S : LB CB CD TT H0 H b bl x dx l ds B) : ∀ a ∈ fpB x l ds, a ∉ [b, bl] := fun a m z => by
  obtain ⟨o, e⟩ := S.h0 a z
  rw [S.fr a m] at e
  cases e
theorem LB.draw {ns : List Int} {s : Int} (S : LB CB CD TT H0 H b bl x dx l ds B) (k : Kp [b, bl] H H') (bx : Box H' b bl ns s) : LB CB CD TT H0 H' b bl x dx l ds B := by
  obtain ⟨ns0, s0, b0⟩ := S.box
  exact ⟨fun a o e n z => k.k a o (S.ext a o e n z) n, ⟨ns, s, bx⟩, tabs_ki S.tabs (KI.of k b0.mu), S.bench.kp k S.apart, S.fr, S.h0⟩
theorem LB.stepB (S : LB CB CD TT H0 H b bl x dx l ds B) (k : Kp (fpB x l ds) H H') (A : BenchAt CB CD H' x dx l ds B') : LB CB CD TT H0 H' b bl x dx l ds B' := by
  obtain ⟨ns0, s0, b0⟩ := S.box
  exact ⟨fun a o e n z => k.k a o (S.ext a o e n z) (fun m => by rw [S.fr a m] at e; cases e), ⟨ns0, s0, b0.kp k S.apart⟩, tabs_ki S.tabs (KI.of k S.bench.mu), A, S.fr, S.h0⟩
end
/-- a bench of one disk of two pieces, armed -/
structure Lone (B : BenchS) (n m : Int) : Prop where
  d : ∃ D, B.disks = [D] ∧ D.here = true ∧ D.pieces.length = 2
  st : B.stands = false
  lf : B.left = some n
  mn : B.many = m
theorem Lone.blk {B : BenchS} {n m : Int} (h : Lone B n m) {j k : Nat} (hj : j < 2) (hk : k < 4) : B.block (.int 0) (.int (j : Int)) (.int (k : Int)) = .ok (0, j, k) := by
  obtain ⟨D, e, hh, l⟩ := h.d
  have hD : B.disks[0]? = some D := by rw [e]; rfl
  have hd : B.disk (.int ((0 : Nat) : Int)) = .ok 0 := by rw [disk_at h.st hD, hh]; rfl
  exact block_at hd hD (by omega) hk
theorem Lone.put {B : BenchS} {n m : Int} (h : Lone B n m) (hn : n ≠ 0) (j k : Nat) (w : Int) : B.spend = (true, { B with left := some (n - 1), many := m + 1 }) ∧ Lone (({ B with left := some (n - 1), many := m + 1 } : BenchS).setD 0 fun D => D.put j k w) (n - 1) (m + 1) := by
  obtain ⟨D, e, hh, l⟩ := h.d
  constructor
  · unfold BenchS.spend
    rw [h.lf, h.mn, if_neg (fun z => hn (Option.some.inj z))]
    rfl
  · refine ⟨⟨D.put j k w, ?_, hh, ?_⟩, h.st, rfl, rfl⟩
    · show B.disks.modify 0 _ = _
      rw [e]
      rfl
    · show (D.pieces.modify j _).length = 2
      rw [List.length_modify, l]
def spLong (TT : List (Addr × Str)) : Sp := fun vs H Q _ => ∃ (b bl : Addr) (ns : List Int) (s : Int), vs = [.ref b] ∧ Box H b bl ns s ∧ b ≠ bl ∧ Tabs TT H ∧
  ∀ H' ns' s', ExtF [b, bl] H H' → Box H' b bl ns' s' → Tabs TT H' → Q (.bl true) H'
theorem scLong : FnScope ["_law_box", "_law_bench", "_law_many", "_law_turn_here", "_law_works"] ["_law_box"] (defScope sLong) := ⟨rfl, rfl, rfl, by decide +kernel, rfl, by decide +kernel, by decide +kernel⟩
section
variable {P : Program} {w : World} {K : PySem.W.Frag} {mg : Str → Option Value} {base : Heap}
theorem ok_long {f cK PK CB CD fBI : Addr} {c : Nat → Addr} {fd fdBI : FuncData} {TT : List (Addr × Str)} (F : FunC K "_law_is_long" "_law_is_long" sLong f (.ref cK) fd) (T : Txt K mg) (TB : TabB base mg cK PK) (hmT : (PK, ("_law_is_long.<locals>.<lambda>" : Str)) ∈ TT) (huT : ∀ p ∈ TT, p.1 = PK → p.2 = "_law_is_long.<locals>.<lambda>")
    (BF : BenchFns P w K mg base c CB CD) (C_take : Cf P w K mg base CX0 "_law_take" 1 ["_law_box", "_law_many"] spTake) (C_all : Cb P w K mg base CX0 30 "_law_all" 32 ["_law_works", "_law_due"] (spAll K c))
    (mkB : Mk K CB fBI) (bBI : Binds K fdBI ["self", "sizes"] []) (gBench : mg "Bench" = some (.ref CB)) (GBI : FnOk P w K mg base (L2.CX P w) 3 fBI fdBI ["self", "sizes"] (spBInit K c CB CD)) : FnOk P w K mg base CX0 34 f fd ["_law_box"] (spLong TT) := by
  obtain ⟨f_take, d_take, g_take, p_take, b_take, G_take⟩ := C_take.ex
  obtain ⟨f_all, d_all, g_all, p_all, b_all, G_all⟩ := C_all.ex
  obtain ⟨f_put, d_put, m_put, b_put, G_put⟩ := BF.put.ex
  obtain ⟨f_get, d_get, m_get, b_get, G_get⟩ := BF.get.ex
  obtain ⟨f_lay, d_lay, m_lay, b_lay, G_lay⟩ := BF.lay.ex
  obtain ⟨f_arm, d_arm, m_arm, b_arm, G_arm⟩ := BF.arm.ex
  obtain ⟨f_deeds, d_deeds, m_deeds, b_deeds, G_deeds⟩ := BF.deeds.ex
  have cB := BF.cB
  refine F.ok scLong (fun vs H Q E h => ?_) (fun A outer s H vs Q E hr h => ?_)
  · obtain ⟨b, bl, ns, s, rfl, _⟩ := h
    rfl
  obtain ⟨b, bl, ns, s, rfl, B0, nb, TA, q⟩ := h
  have hu := hu_of hr
  refine ⟨_, (pss_cons (ps_asg (pe_tup (pa_cons (pe_make mkB GBI (hr.mono (by decide)) (by rfl) gBench bBI .nil pass_cx0 (pa_cons (pe_lst (pa_cons pe_int pa_nil)) pa_nil)) (pa_cons (pe_call G_take (hr.mono (by decide)) (by rfl) g_take p_take b_take .nil pass0 (pa_cons (pv 0) (pa_cons pe_int pa_nil))) pa_nil))) (pg_tup rfl (pgs_cons (pg_name (i := 1) scLong.nd rfl (by first | exact Or.inl rfl | exact Or.inr rfl)) (pgs_cons (pg_name (i := 2) scLong.nd rfl (by first | exact Or.inl rfl | exact Or.inr rfl)) pgs_nil))))
    (pss_cons (ps_expr (pe_meth (pv 1) cB m_arm G_arm (hr.mono (by decide)) b_arm .nil pass_cx0 (pa_cons (pv 2) pa_nil)))
    (pss_cons (ps_for PassesOwn.never rfl (pi_range1 (by rfl) T.range (pa_cons (pv 2) pa_nil)) (pg_name (i := 3) scLong.nd rfl (by first | exact Or.inl rfl | exact Or.inr rfl))
      (pss_one (ps_expr (pe_meth (pv 1) cB m_put G_put (hr.mono (by decide)) b_put .nil pass_cx0 (pa_cons pe_int (pa_cons (pe_op op_mod (pv 3) pe_int) (pa_cons pe_int (pa_cons (pv 3) pa_nil))))))))
    (pss_cons (ps_set (i := 4) scLong.nd rfl (by first | exact Or.inl rfl | exact Or.inr rfl) (pe_lst (pa_cons (pe_lamV TB rfl hmT huT (lamP_by (by show lamPB ["_law_box", "_law_bench", "_law_many", "_law_turn_here", "_law_works"] (defScope sLong) _ [] = true; decide +kernel)) (by rfl)) (pa_cons (pe_lamD TB rfl hmT huT (lamP_by (by show lamPB ["_law_box", "_law_bench", "_law_many", "_law_turn_here", "_law_works"] (defScope sLong) _ ["_law_a"] = true; decide +kernel)) pe_int (by rfl)) (pa_cons (pe_lamD TB rfl hmT huT (lamP_by (by show lamPB ["_law_box", "_law_bench", "_law_many", "_law_turn_here", "_law_works"] (defScope sLong) _ ["_law_b"] = true; decide +kernel)) pe_int (by rfl)) pa_nil)))))
    (pss_one (ps_ret (pe_and (pe_cmpR op_eq (pe_meth0 (pv 1) cB m_deeds G_deeds (hr.mono (by decide)) b_deeds .nil pass0) (pv 2) (nomark _)) (pe_one (pe_callB2 G_all (hr.mono (by decide)) (by rfl) g_all p_all b_all pass0 (lth_or (lth_V (k := 29) (params := lamP (lamAt sLong 3 0)) (body := lamB (lamAt sLong 3 0)) (scope := lamSc (lamAt sLong 3 0)) (fun _ => rfl) (lamP_by (by show lamPB ["_law_box", "_law_bench", "_law_many", "_law_turn_here", "_law_works"] (defScope sLong) _ [] = true; decide +kernel)) (fun _ _ _ _ _ => by rfl) (fun A' outer' s' H' E' f' c'' hr2 => (pe_meth (pv 1) cB m_put G_put (hr2.mono (by decide)) b_put .nil pass_lam (pa_cons pe_int (pa_cons pe_int (pa_cons pe_int (pa_cons pe_int pa_nil))))))) (lth_or (lth_D (k := 29) (params := lamP (lamAt sLong 3 1)) (body := lamB (lamAt sLong 3 1)) (scope := lamSc (lamAt sLong 3 1)) (pd := "_law_a") (fun _ => rfl) (lamP_by (by show lamPB ["_law_box", "_law_bench", "_law_many", "_law_turn_here", "_law_works"] (defScope sLong) _ ["_law_a"] = true; decide +kernel)) (fun _ _ _ _ _ _ => ⟨_, by rfl, fun _ => by rfl⟩) (fun A' outer' s' H' E' f' c'' hr2 => (pe_meth (pv 1) cB m_lay G_lay (hr2.mono (by decide)) b_lay .nil pass_lam (pa_cons pe_int (pa_cons (pe_tup pa_nil) pa_nil))))) (lth_D (k := 29) (params := lamP (lamAt sLong 3 2)) (body := lamB (lamAt sLong 3 2)) (scope := lamSc (lamAt sLong 3 2)) (pd := "_law_b") (fun _ => rfl) (lamP_by (by show lamPB ["_law_box", "_law_bench", "_law_many", "_law_turn_here", "_law_works"] (defScope sLong) _ ["_law_b"] = true; decide +kernel)) (fun _ _ _ _ _ _ => ⟨_, by rfl, fun _ => by rfl⟩) (fun A' outer' s' H' E' f' c'' hr2 => (pe_meth (pv 1) cB m_get G_get (hr2.mono (by decide)) b_get .nil pass_lam (pa_cons pe_int (pa_cons pe_int (pa_cons pe_int pa_nil)))))))) (pa_cons (pv 4) (pa_cons (pe_tup (pa_cons pe_str (pa_cons pe_int pa_nil))) pa_nil))))))))))), ?_⟩
  simp only [cxK, cxK']
  walk_at "w"
  intro p np
  walk_at "w"
  intro x dx nx ndx nxd
  have npH : H p = none := np
  refine ⟨x, dx, p, [.int 2], rfl, sq_l (by rw [upd_ne (ne_of_none upd_same nx), upd_ne (ne_of_none upd_same ndx)]; exact upd_same), fun z m => by rw [List.mem_singleton.mp m]; exact True.intro, by decide, upd_same, ⟨fun ns1 e h1 h2 h3 H1 l ds k1 A1 f1 => ⟨rfl, ?_⟩, fun z => ?_⟩⟩
  rotate_left
  · exfalso
    rcases z with z | z | ⟨y, m, z⟩
    · cases z
    · exact absurd z (by decide)
    · rw [List.mem_singleton.mp m] at z
      cases z
  have e1 : ns1 = [2] := by
    match ns1, e with
    | [n], e =>
      have e : [V.int 2] = [V.int (n : Int)] := e
      injection e with e _
      injection e with e
      have : n = 2 := by omega
      rw [this]
  subst e1
  have kH1 : Kp [] H H1 := kp_app (kp_make nx ndx k1) (kp_new Kp.refl np)
  have fr1 : ∀ a ∈ fpB x l ds, H a = none := fun a m => by
    rcases f1 a m with z | z
    · rw [z]
      exact none_of_upd nx
    · exact none_of_upd (none_make z)
  have S1 : LB CB CD TT H H1 b bl x dx l ds (newBench [2]) := ⟨fun a o e _ _ => kH1.k a o e ni_nil, ⟨ns, s, B0.kp kH1 fun a m => by cases m⟩, tabs_ki TA (KI.of0 kH1), A1, fr1, fun a m => by
    rcases List.mem_cons.mp m with rfl | m
    · exact ⟨_, B0.b⟩
    · rw [List.mem_singleton.mp m]
      exact ⟨_, B0.l⟩⟩
  obtain ⟨nsa, sa, bxa⟩ := S1.box
  walk_at "w"
  refine ⟨b, bl, nsa, sa, 500, rfl, bxa, nb, by decide, by decide, fun H2 ns2 s2 mi k2 bx2 m0 m1 => ?_⟩
  obtain ⟨m, rfl⟩ : ∃ m : Nat, mi = (m : Int) := ⟨mi.toNat, by omega⟩
  walk_at "w"
  intro t nt
  have S2 := (S1.draw k2 bx2).kp0 (kp_new (o := .tup [V.ref x, V.int (m : Int)]) Kp.refl nt)
  refine w_gTup (sq_t upd_same) rfl ?_
  refine w_gCons (w_gName (w_gCons (w_gName (w_gNil ?_))))
  generalize (upd H2 t (.tup [V.ref x, V.int (m : Int)])) = H3 at S2
  have eb := S2.bench.eb
  walk_at "w"
  refine ⟨x, dx, l, ds, newBench [2], _, rfl, S2.bench, True.intro, ?_⟩
  rw [show numOk (.int (m : Int)) 0 1000000 = true from decide_eq_true (by omega)]
  intro H4 k4 A4
  have S4 := S2.stepB k4 A4
  clear eb
  walk_at "w"
  refine for_range (n := m) (fun i σ H' => ∃ (y : Option V) (B : BenchS), σ = [some (.ref b), some (.ref x), some (.int (m : Int)), y, none] ∧ LB CB CD TT H H' b bl x dx l ds B ∧ Lone B ((m : Int) - (i : Int)) (i : Int)) ⟨none, _, rfl, S4, ⟨⟨_, rfl, rfl, rfl⟩, rfl, by simp, rfl⟩⟩ (fun i σ H5 hi h => ?_) (fun σ H5 h => ?_)
  · obtain ⟨y, B, rfl, S5, L5⟩ := h
    have eb := S5.bench.eb
    walk_at "w"
    have em : (0 + (i : Int)) % 2 = ((i % 2 : Nat) : Int) := by omega
    refine ⟨x, dx, l, ds, B, _, _, _, _, rfl, S5.bench, True.intro, True.intro, True.intro, True.intro, ?_⟩
    rw [em, show B.block (.int 0) (.int ((i % 2 : Nat) : Int)) (.int 3) = .ok (0, i % 2, 3) from L5.blk (by omega) (by decide)]
    show match numOk (.int (0 + (i : Int))) 0 999, V.int (0 + (i : Int)) with | true, .int x => _ | _, _ => _
    rw [show numOk (.int (0 + (i : Int))) 0 999 = true from decide_eq_true (by omega)]
    obtain ⟨h1, h2⟩ := L5.put (by omega) (i % 2) 3 (0 + (i : Int))
    show match B.spend with | (false, B') => _ | (true, B') => _
    rw [h1]
    intro H6 k6 A6
    walk_at "w"
    refine ⟨_, _, rfl, S5.stepB k6 A6, ?_⟩
    rw [show (m : Int) - ((i + 1 : Nat) : Int) = (m : Int) - (i : Int) - 1 by omega, show ((i + 1 : Nat) : Int) = (i : Int) + 1 by omega]
    exact h2
  · obtain ⟨y, B, rfl, S5, L5⟩ := h
    rw [show (m : Int) - (m : Int) = 0 by omega] at L5
    walk_at "w"
    refine w_lamV S5.tabs (fun _ => ⟨rfl, rfl⟩) (fun g1 c1 Ha ea Ta ng1 l1 => ?_)
    have Sa := S5.exN ea Ta
    walk_at "w"
    refine w_lamD Sa.tabs (fun _ _ => ⟨rfl, rfl⟩) (fun g2 c2 t2 Hb eb2 Tb ng2 l2 => ?_)
    have Sb := Sa.exN eb2 Tb
    have l1 := l1.ext eb2
    walk_at "w"
    refine w_lamD Sb.tabs (fun _ _ => ⟨rfl, rfl⟩) (fun g3 c3 t3 Hc ec Tc ng3 l3 => ?_)
    have Sc := Sb.exN ec Tc
    have l1 := l1.ext ec
    have l2 := l2.ext ec
    walk_at "w"
    intro lw nlw
    have kw : Kp [] Hc (upd Hc lw (.lst [V.ref g1, V.ref g2, V.ref g3])) := kp_new Kp.refl nlw
    have Sd := Sc.kp0 kw
    have l1 := l1.kI (KI.of0 kw)
    have l2 := l2.kI (KI.of0 kw)
    have l3 := l3.kI (KI.of0 kw)
    have elw : (upd Hc lw (.lst [V.ref g1, V.ref g2, V.ref g3])) lw = some (.lst [V.ref g1, V.ref g2, V.ref g3]) := upd_same
    generalize (upd Hc lw (.lst [V.ref g1, V.ref g2, V.ref g3])) = Hd at Sd l1 l2 l3 elw
    have eb := Sd.bench.eb
    walk_at "w"
    refine ⟨x, dx, l, ds, B, rfl, Sd.bench, ?_⟩
    rw [L5.mn]
    walk_at "w"
    refine w_callT ?_
    walk_at "w"
    intro du ndu
    have ku : Kp [] Hd (upd Hd du (.tup [V.str "Stopped", V.int 0])) := kp_new Kp.refl ndu
    have Se := Sd.kp0 ku
    have l1 := l1.kI (KI.of0 ku)
    have l2 := l2.kI (KI.of0 ku)
    have l3 := l3.kI (KI.of0 ku)
    have elw := ku.k _ _ elw ni_nil
    have dv : IsErr (upd Hd du (.tup [V.str "Stopped", V.int 0])) (.ref du) 9 := ⟨du, rfl, upd_same⟩
    generalize (upd Hd du (.tup [V.str "Stopped", V.int 0])) = He at Se l1 l2 l3 elw dv
    walk_at "w"
    refine ⟨lw, [g1, g2, g3], .ref du, errD 9, rfl, rfl, by show 3 ≤ 1000; decide, elw, fun D nD => ?_⟩
    have kD : Kp [] He (upd He D (.lst [])) := kp_new Kp.refl nD
    have eD : (upd He D (.lst [])) D = some (.lst []) := upd_same
    have S0 := Se.kp0 kD
    have l1 := l1.kI (KI.of0 kD)
    have l2 := l2.kI (KI.of0 kD)
    have l3 := l3.kI (KI.of0 kD)
    have elw := kD.k _ _ elw ni_nil
    have dv := dv.ki (KI.of0 kD)
    have nDf : D ∉ fpB x l ds := fun m => by
      obtain ⟨o, e⟩ := Se.bench.used D m
      rw [nD] at e
      cases e
    generalize (upd He D (.lst [])) = H0' at S0 l1 l2 l3 elw dv eD
    have nlf : lw ∉ fpB x l ds := fun m => by
      obtain ⟨o, e, mu⟩ := Sc.bench.mu lw m
      rw [nlw] at e
      cases e
    clear eb
    refine ⟨_, _, .inl ⟨c1, rfl, rfl⟩, l1, fun Q' hQ => w_toldV ?_⟩
    dsimp only
    have eb := S0.bench.eb
    have hsp : B.spend = (false, { B with stands := true }) := by
      unfold BenchS.spend
      rw [L5.lf, if_pos rfl]
    walk_at "w"
    refine ⟨x, dx, l, ds, B, _, _, _, _, rfl, S0.bench, True.intro, True.intro, True.intro, True.intro, ?_⟩
    rw [show B.block (.int 0) (.int 0) (.int 0) = .ok (0, 0, 0) from L5.blk (j := 0) (k := 0) (by decide) (by decide)]
    show match B.spend with | (false, B') => _ | (true, B') => _
    rw [hsp]
    intro Hy ky By
    refine told_err (k := 9) (by decide) (by decide) fun p1 Hz kz er => ?_
    have k1 := KI.of ky S0.bench.mu
    have k2 := KI.of0 kz
    have S1 := (S0.stepB ky By).kp0 kz
    clear eb
    have eD1 := kz.k _ _ (ky.k _ _ eD nDf) ni_nil
    have elw1 := kz.k _ _ (ky.k _ _ elw nlf) ni_nil
    have dv1 := (dv.ki k1).ki k2
    refine hQ _ _ er.dp dv1.dp eD1 elw1 ?_
    refine ⟨_, _, .inr (.inl ⟨c2, t2, rfl, rfl⟩), (l2.kI k1).kI k2, fun Q2 hQ2 => w_toldV ?_⟩
    have l3 := (l3.kI k1).kI k2
    dsimp only
    have eb := S1.bench.eb
    walk_at "w"
    intro te nte
    have kte : Kp [] Hz (upd Hz te (.tup [])) := kp_new Kp.refl nte
    have S1 := S1.kp0 kte
    have eD1 := kte.k _ _ eD1 ni_nil
    have elw1 := kte.k _ _ elw1 ni_nil
    have dv1 := dv1.ki (KI.of0 kte)
    have l3 := l3.kI (KI.of0 kte)
    generalize (upd Hz te (.tup [])) = Hw at S1 eD1 elw1 dv1 l3
    clear eb
    have eb := S1.bench.eb
    walk_at "w"
    refine ⟨x, dx, l, ds, _, _, _, rfl, S1.bench, True.intro, ?_⟩
    rw [disk_stands (show ({ B with stands := true } : BenchS).stands = true from rfl)]
    refine told_err (k := 9) (by decide) (by decide) fun p2 H2 kz2 er2 => ?_
    have k3 := KI.of0 kz2
    have S2 := S1.kp0 kz2
    have eD2 := kz2.k _ _ eD1 ni_nil
    have elw2 := kz2.k _ _ elw1 ni_nil
    have dv2 := dv1.ki k3
    refine hQ2 _ _ er2.dp dv2.dp eD2 elw2 ?_
    refine ⟨_, _, .inr (.inr ⟨c3, t3, rfl, rfl⟩), l3.kI k3, fun Q3 hQ3 => w_toldV ?_⟩
    dsimp only
    clear eb
    have eb := S2.bench.eb
    walk_at "w"
    refine ⟨x, dx, l, ds, _, _, _, _, rfl, S2.bench, True.intro, True.intro, True.intro, ?_⟩
    rw [block_bad (disk_stands (show ({ B with stands := true } : BenchS).stands = true from rfl))]
    refine told_err (k := 9) (by decide) (by decide) fun p3 H3 kz3 er3 => ?_
    have S3 := S2.kp0 kz3
    refine hQ3 _ _ er3.dp (dv2.ki (KI.of0 kz3)).dp (kz3.k _ _ eD2 ni_nil) (kz3.k _ _ elw2 ni_nil) ?_
    intro Hq kq
    have S4 := S3.kp0 kq
    obtain ⟨ns', s', bx'⟩ := S4.box
    exact q _ _ _ S4.ext bx' S4.tabs
end
end VH

namespace VH
open PySem L2 LamX
local macro_rules | `(tactic| walk_at "dT") => `(tactic| first
  | ((with_reducible apply iT); (first | assumption | omega))
  | ((with_reducible apply niT); (first | assumption | omega))
  | ((with_reducible apply sT); (first | assumption | rfl))
  | ((with_reducible apply nsT); (first | assumption | decide))
  | ((with_reducible apply nbT); (first | assumption | omega))
  | ((with_reducible apply decide_eq_true); (first | assumption | omega)))
local macro_rules | `(tactic| walk_at "dF") => `(tactic| first
  | ((with_reducible apply iF); (first | assumption | omega))
  | ((with_reducible apply niF); (first | assumption | omega))
  | ((with_reducible apply sF); (first | assumption | decide))
  | ((with_reducible apply nsF); (first | assumption | rfl))
  | ((with_reducible apply nbF); (first | assumption | omega))
  | ((with_reducible apply decide_eq_false); (first | assumption | omega)))
local macro_rules | `(tactic| walk_at "ne") => `(tactic| first | assumption | (apply Ne.symm; assumption) | (apply ne_of_none <;> assumption) | (apply Ne.symm; apply ne_of_none <;> assumption) | (apply ne_new; assumption; walk_at "hg") | (apply Ne.symm; apply ne_new; assumption; walk_at "hg"))
local macro_rules | `(tactic| walk_at "ni") => `(tactic| first | exact ni_nil | (apply ni_cons; walk_at "ne"; walk_at "ni") | assumption)
local macro_rules | `(tactic| walk_at "hg") => `(tactic| first
  | assumption
  | exact upd_same
  | (apply upd_old; assumption; walk_at "hg")
  | (apply upd_oth; walk_at "ne"; walk_at "hg")
  | (apply kp_get; assumption; walk_at "hg"; walk_at "ni"))
local macro_rules | `(tactic| walk_at "mem") => `(tactic| first | exact List.mem_cons_self | (apply List.mem_cons_of_mem; walk_at "mem") | assumption)
local macro_rules | `(tactic| walk_at "no") => `(tactic| first | assumption | (apply none_of_kp2; assumption; walk_at "kp"))
local macro_rules | `(tactic| walk_at "kp") => `(tactic| first
  | assumption
  | exact Kp.refl
  | (apply kp_new'; assumption; walk_at "kp")
  | (apply kp_setn; assumption; walk_at "kp")
  | (apply kp_set'; walk_at "mem"; walk_at "kp")
  | (apply kp_app; assumption; walk_at "kp")
  | (apply kp_app2; assumption; walk_at "kp"))
local macro_rules | `(tactic| walk_at "sz") => `(tactic| first | assumption | exact sz rfl | (apply szb; omega) | (apply szbl; omega) | (apply szb; simp only [List.length_map, List.length_cons, List.length_nil, List.length_append, List.length_set]; omega) | (apply szbl; simp only [List.length_map, List.length_cons, List.length_nil, List.length_append, List.length_set]; omega))
local macro_rules | `(tactic| walk_at "sq") => `(tactic| first
  | assumption
  | (apply sq_l; walk_at "hg")
  | (apply sq_t; walk_at "hg")
  | (apply sqL_new; assumption; walk_at "sq")
  | (apply sqT_new; assumption; walk_at "sq"))
local macro_rules | `(tactic| walk_at "w1") => `(tactic| first
  | with_reducible refine w_seq ?_
  | ((with_reducible apply w_var); exact rfl)
  | with_reducible refine w_c ?_
  | with_reducible refine w_op ?_
  | with_reducible refine w_I0 ?_
  | ((with_reducible apply w_I); (first | assumption | exact Or.inr ⟨by decide, by decide⟩ | exact Or.inl ⟨by decide, by decide⟩ | exact (by show (0 : Int) < _; decide) | exact ⟨by decide, by decide⟩ | exact Or.inl ⟨by omega, by omega⟩ | exact Or.inr ⟨by omega, by omega⟩ | exact ⟨by omega, by omega⟩ | exact (by show (0 : Int) < _; omega)))
  | with_reducible refine w_cons ?_
  | with_reducible refine w_nil ?_
  | with_reducible refine w_asg ?_
  | with_reducible refine w_gName ?_
  | with_reducible refine w_gSub ?_
  | with_reducible refine w_test ?_
  | with_reducible refine w_B ?_
  | with_reducible refine w_ret ?_
  | with_reducible refine w_drop ?_
  | with_reducible refine w_ifS ?_
  | with_reducible refine w_if ?_
  | with_reducible refine w_un ?_
  | with_reducible refine w_U ?_
  | with_reducible refine w_call ?_
  | with_reducible refine w_cb ?_
  | with_reducible refine w_lst ?_
  | with_reducible refine w_tup ?_
  | with_reducible refine w_bm ?_
  | with_reducible refine w_bm0 ?_
  | with_reducible refine w_m1 ?_
  | with_reducible refine w_for ?_
  | with_reducible refine w_iList ?_
  | with_reducible refine w_iTup ?_
  | with_reducible refine w_iStr ?_
  | with_reducible refine w_iR1 ?_
  | with_reducible refine w_iEnum ?_
  | with_reducible refine w_and ?_
  | with_reducible refine w_or ?_
  | with_reducible refine w_not ?_
  | with_reducible refine w_yes ?_
  | with_reducible refine w_isN ?_
  | ((with_reducible apply w_eq); exact rfl)
  | ((with_reducible apply w_ne); exact rfl)
  | with_reducible refine w_chain ?_
  | with_reducible refine w_andV ?_
  | with_reducible refine w_orV ?_
  | with_reducible refine w_notV ?_
  | with_reducible refine w_bl ?_
  | with_reducible refine w_fld ?_
  | with_reducible refine w_sfld ?_
  | with_reducible refine w_next ?_
  | with_reducible refine w_isZ ?_
  | with_reducible refine w_notZ ?_
  | with_reducible refine w_inS ?_
  | with_reducible refine w_notInS ?_
  | ((with_reducible apply w_ifT); exact rfl)
  | ((with_reducible apply w_ifF); exact rfl)
  | ((with_reducible apply w_ifT); walk_at "dT")
  | ((with_reducible apply w_ifF); walk_at "dF")
  | with_reducible refine w_lc ?_
  | with_reducible refine w_aStr ?_
  | ((with_reducible apply w_itL); walk_at "sq")
  | ((with_reducible apply w_itT); walk_at "sq")
  | ((with_reducible apply w_rng); (first | omega | assumption); (first | omega | assumption))
  | ((with_reducible apply w_enum); walk_at "sq")
  | ((with_reducible apply w_lenS); walk_at "sz")
  | ((with_reducible apply w_split); (first | exact rfl | assumption); walk_at "sz")
  | with_reducible refine w_slice ?_
  | with_reducible refine w_part ?_
  | with_reducible refine w_noPart ?_
  | with_reducible refine w_anInt ?_
  | ((with_reducible apply w_slL); walk_at "sq")
  | ((with_reducible apply w_cat); walk_at "hg"; walk_at "hg"; walk_at "sz")
  | ((with_reducible apply w_newSz); walk_at "sz")
  | ((with_reducible apply w_append); walk_at "hg"; walk_at "sz")
  | ((with_reducible apply w_tyD); walk_at "hg")
  | ((with_reducible apply w_gTup); walk_at "sq"; exact rfl)
  | with_reducible refine w_gCons ?_
  | with_reducible refine w_gNil ?_
  | with_reducible refine w_kget2 ?_
  | with_reducible refine w_same ?_
  | ((with_reducible apply w_kat); assumption)
  | ((with_reducible apply w_in); walk_at "sq"; (first | exact rfl | assumption); (first | assumption | exact rfl))
  | ((with_reducible apply w_strI); assumption)
  | with_reducible refine w_disp ?_
  | with_reducible refine w_pcons ?_
  | with_reducible refine w_pnil ?_
  | with_reducible refine w_dget2 ?_
  | ((with_reducible apply w_isD); walk_at "hg")
  | ((with_reducible apply w_dgS); walk_at "hg")
  | ((with_reducible apply w_dupd); walk_at "ne"; walk_at "hg"; walk_at "hg"; (first | decide | walk_at "sz"))
  | ((with_reducible apply w_catS); walk_at "sz")
  | ((with_reducible apply w_slT); walk_at "sq"; assumption)
  | ((with_reducible apply w_ixS); walk_at "sz"; (first | assumption | exact rfl))
  | ((with_reducible apply w_intS); assumption; (first | assumption | omega))
  | ((with_reducible apply w_isi); (first | exact tx_N | exact tx_B | exact tx_I | exact tx_S | (apply tx_L; walk_at "sq") | (apply tx_T; walk_at "sq")); (first | (refine (?_ : _ = some true); decide +kernel) | (refine (?_ : _ = some false); decide +kernel)))
  | ((with_reducible apply w_lenL); walk_at "sq")
  | ((with_reducible apply w_lenT); walk_at "sq")
  | ((with_reducible apply w_listL); walk_at "sq")
  | ((with_reducible apply w_listT); walk_at "sq")
  | ((with_reducible apply w_tupL); walk_at "sq")
  | with_reducible refine w_intI ?_
  | with_reducible refine w_intB ?_
  | with_reducible refine w_strS ?_
  | ((with_reducible apply w_ixXL); walk_at "sq"; (first | exact rfl | exact atI_0 | assumption))
  | ((with_reducible apply w_ixXT); walk_at "sq"; (first | exact rfl | exact atI_0 | assumption))
  | ((with_reducible apply w_tyL); walk_at "sq")
  | with_reducible refine w_tyS ?_
  | ((with_reducible apply w_popAt0); walk_at "hg")
  | ((with_reducible apply w_ixL); walk_at "sq"; (first | exact rfl | exact atI_0 | assumption))
  | ((with_reducible apply w_ixT); walk_at "sq"; (first | exact rfl | exact atI_0 | assumption))
  | ((with_reducible apply w_setL); walk_at "hg"; (first | exact rfl | exact ixN_0)))
local macro_rules | `(tactic| walk_at "w") => `(tactic| repeat walk_at "w1")

local macro_rules | `(tactic| walk_at "w1") => `(tactic| first
  | ((with_reducible apply w_insF); walk_at "hg"; assumption; assumption; exact rfl)
  | with_reducible refine w_meth ?_
  | ((with_reducible apply w_insM); walk_at "hg"; exact rfl)
  | ((with_reducible apply w_setF); walk_at "hg"; assumption; assumption; exact ltF rfl; exact rfl))
local macro_rules | `(tactic| walk_at "w1") => `(tactic| first
  | with_reducible refine w_dget ?_
  | ((with_reducible apply w_dgK); walk_at "hg"; exact rfl)
  | with_reducible refine w_dput ?_
  | with_reducible refine w_rsd ?_
  | ((with_reducible apply w_dpK4); walk_at "hg"; exact szl' rfl; exact rfl)
  | ((with_reducible apply w_dpK2); walk_at "hg"; exact szl' rfl; exact rfl)
  | ((with_reducible apply w_dpK3); walk_at "hg"; exact szl' rfl; exact rfl)
  | ((with_reducible apply w_dpK1); walk_at "hg"; exact szl' rfl; exact rfl)
  | ((with_reducible apply w_dpK5); walk_at "hg"; exact szl' rfl; exact rfl)
  | ((with_reducible apply w_dpK6); walk_at "hg"; exact szl' rfl; exact rfl))

local macro_rules | `(tactic| walk_at "w1") => `(tactic| first
  | with_reducible refine w_par ?_
  | with_reducible refine w_make ?_
  | with_reducible refine w_par2 ?_)
theorem zip_some : ∀ {as : List OAd} {bs : List DiskS}, List.zipWith eT (as.map some) bs = List.zipWith odT as bs
  | [], _ => rfl
  | _ :: _, [] => rfl
  | a :: as, b :: bs => by rw [List.map_cons, List.zipWith_cons_cons, List.zipWith_cons_cons, zip_some]; rfl
theorem zip_od_val : ∀ {as : List OAd} {bs : List DiskS}, as.length = bs.length → (List.zipWith odT as bs).map AT.val = as.map fun d => V.ref d.e
  | [], [], _ => rfl
  | a :: as, b :: bs, h => by rw [List.zipWith_cons_cons, List.map_cons, List.map_cons, zip_od_val (by simpa using h)]; rfl
  | [], _ :: _, h => by simp at h
  | _ :: _, [], h => by simp at h
theorem GoodL.one {H : Hp} {t : AT} (g : Good H t) : GoodL H [t] := .cons g .nil fun b _ m => by rw [fpL_nil] at m; cases m
theorem fpL_one {t : AT} : fpL [t] = t.fp := by rw [fpL_cons, fpL_nil, List.append_nil]
mutual
theorem Im.tups {H H' : Hp} (k : ∀ a xs, H a = some (.tup xs) → H' a = some (.tup xs)) : ∀ (d : PyData) {v : V}, Im H v d → Im H' v d
  | .none, _, h => by cases h; exact .non
  | .bool _, _, h => by cases h; exact .bl _
  | .int _, _, h => by cases h; exact .int _
  | .str _, _, h => by cases h; exact .str _
  | .list _, _, h => by cases h
  | .dict _, _, h => by cases h
  | .tuple ds, _, h => by
    cases h with
    | tup e r => exact .tup (k _ _ e) (ImL.tups k ds r)
theorem ImL.tups {H H' : Hp} (k : ∀ a xs, H a = some (.tup xs) → H' a = some (.tup xs)) : ∀ (ds : List PyData) {vs : List V}, ImL H vs ds → ImL H' vs ds
  | [], _, h => by cases h; exact .nil
  | d :: ds, _, h => by
    cases h with
    | cons a r => exact .cons (Im.tups k d a) (ImL.tups k ds r)
end
theorem LS.extF {CB CD : Addr} {T : List (Addr × Str)} {H H' : Hp} {α : Ads} {B Bo : BenchS} {b bl : Addr} {ns : List Int} {s : Int} (S : LS CB CD T H α B Bo) (k : ExtF [b, bl] H H') (bx : Box H' b bl ns s) (t : Tabs T H') (hb : α.b = b) (hbl : α.bl = bl) : LS CB CD T H' α B Bo := by
  subst hb
  subst hbl
  obtain ⟨ns0, s0, b0⟩ := S.box
  have ni : ∀ a xs, H a = some (.tup xs) → a ∉ [α.b, α.bl] := fun a xs e m => by
    obtain ⟨o, e', mu⟩ := b0.mu a m
    rw [e] at e'
    cases e'
    exact mu
  have kt : ∀ (d : PyData) {v : V}, Im H v d → Im H' v d := fun d v h => Im.tups (fun a xs e => k a _ e (ni a xs e) fun ps z => by cases z) d h
  refine ⟨⟨ns, s, bx⟩, S.nb, S.bench.keep fun a m => ?_, ⟨S.own.g.keep fun a m => ?_, S.own.n, S.own.h⟩, fun D m => ?_, fun D m => ?_, t, S.d1, S.d2, S.d3⟩
  · obtain ⟨o, e, mu⟩ := S.bench.mu a m
    exact (k a o e (S.d1 a m) fun ps z => by rw [z] at mu; exact mu).trans e.symm
  · obtain ⟨o, e, mu⟩ := S.own.g.mu a m
    exact (k a o e (S.d2 a m) fun ps z => by rw [z] at mu; exact mu).trans e.symm
  · obtain ⟨h0, d, h1, h2⟩ := S.pB D m
    exact ⟨h0, d, h1, kt d h2⟩
  · obtain ⟨h0, d, h1, h2⟩ := S.pO D m
    exact ⟨h0, d, h1, kt d h2⟩
def sizeD (D : DiskS) : PyData := if D.here then .int D.pieces.length else .none
theorem dp_sizes {K : PySem.W.Frag} {H : Hp} : ∀ (Ds : List DiskS), DpAll K H (Ds.map sizeV) (Ds.map sizeD)
  | [] => .nil
  | D :: r => by
    refine .cons ?_ (dp_sizes r)
    unfold sizeV sizeD
    cases D.here
    · exact .non
    · exact .int _
theorem ok_sizes' : ∀ (Ds : List DiskS), (Ds.map sizeD).all (okD 17) = true
  | [] => rfl
  | D :: r => by
    rw [List.map_cons, List.all_cons, ok_sizes' r, Bool.and_true]
    unfold sizeD
    cases D.here <;> rfl
def rowsD (rows : List (List Int)) : List PyData := rows.map fun r => .list (r.map .int)
theorem dp_rows {K : PySem.W.Frag} {H : Hp} : ∀ {qs : List Addr} {rows : List (List Int)}, qs.length = rows.length → (∀ (t : Nat) q r, qs[t]? = some q → rows[t]? = some r → H q = some (.lst (r.map V.int))) → DpAll K H (qs.map V.ref) (rowsD rows)
  | [], [], _, _ => .nil
  | q :: qs, r :: rows, h, g => .cons (.lst (sq_l (g 0 q r rfl rfl)) (dp_ints r)) (dp_rows (by simpa using h) fun t q' r' h1 h2 => g (t + 1) q' r' (by simpa using h1) (by simpa using h2))
  | [], _ :: _, h, _ => by simp at h
  | _ :: _, [], h, _ => by simp at h
theorem ok_ints (n : Nat) (r : List Int) : (r.map PyData.int).all (okD n) = true := by
  rw [List.all_map]
  exact List.all_eq_true.mpr fun x _ => by show okD n (.int x) = true; unfold okD; rfl
theorem ok_rows : ∀ (rows : List (List Int)), (∀ r ∈ rows, r.length = 4) → (rowsD rows).all (okD 17) = true
  | [], _ => rfl
  | r :: rows, h => by
    have l := h r List.mem_cons_self
    show (okD 17 (.list (r.map .int)) && (rowsD rows).all (okD 17)) = true
    rw [ok_rows rows fun x m => h x (List.mem_cons_of_mem _ m), Bool.and_true]
    show (decide ((r.map PyData.int).length ≤ 100000) && (r.map PyData.int).all (okD 16)) = true
    rw [ok_ints, Bool.and_true]
    exact decide_eq_true (by rw [List.length_map]; omega)
theorem zip_row_val : ∀ {qs : List Addr} {ps : List (List Int)}, qs.length = ps.length → (List.zipWith rowT qs ps).map AT.val = qs.map V.ref
  | [], [], _ => rfl
  | a :: as, b :: bs, h => by rw [List.zipWith_cons_cons, List.map_cons, List.map_cons, zip_row_val (by simpa using h)]; rfl
  | [], _ :: _, h => by simp at h
  | _ :: _, [], h => by simp at h
theorem row_root {H : Hp} {q : Addr} {r : List Int} (g : Good H (rowT q r)) : H q = some (.lst (r.map V.int)) := by
  have z := g.root
  rw [List.map_map, show (AT.val ∘ AT.v) = id from rfl, List.map_id] at z
  exact z
def spLaw (K : PySem.W.Frag) (TT : List (Addr × Str)) : Sp := fun vs H Q _ => ∃ (a : Addr) (ns : List Int), vs = [.ref a] ∧ SqL K H a (ns.map V.int) ∧ ns.length ≤ 63 ∧ Tabs TT H ∧ ∀ H', Q (.bl true) H'
theorem scLaw : FnScope ["_law_script", "_law_box", "_law_sizes", "_law_k", "_law_handed", "_law_bench", "_law_own", "_law_size", "_law_turn_here", "_law_due", "_law_disk_here", "_law_found", "_law_there", "_law_blocks", "_law_piece"] ["_law_script"] (defScope sLaw) := ⟨rfl, rfl, rfl, by decide +kernel, rfl, by decide +kernel, by decide +kernel⟩
section
variable {P : Program} {w : World} {K : PySem.W.Frag} {mg : Str → Option Value} {base : Heap}
theorem ok_law {f CB CD fBI : Addr} {c : Nat → Addr} {fd fdBI : FuncData} {TT : List (Addr × Str)} (F : Fun K "law" "law" sLaw f fd) (T : Txt K mg)
    (BF : BenchFns P w K mg base c CB CD) (C_begun : Cf P w K mg base CX0 "_law_begun" 1 ["_law_script"] (spBegun K)) (C_take : Cf P w K mg base CX0 "_law_take" 1 ["_law_box", "_law_many"] spTake) (C_alike : Cf P w K mg base CX0 "_law_alike" 20 ["_law_found", "_law_due"] (spAlike K 20))
    (C_ldisk : Cf P w K mg base CX0 "_law_disk" 1 ["_law_size"] spLDisk) (C_turn : Cf P w K mg base CX0 "_law_turn" 35 ["_law_box", "_law_bench", "_law_own"] (spTurn CB CD TT)) (C_long : Cf P w K mg base CX0 "_law_is_long" 34 ["_law_box"] (spLong TT))
    (mkB : Mk K CB fBI) (bBI : Binds K fdBI ["self", "sizes"] []) (gBench : mg "Bench" = some (.ref CB)) (GBI : FnOk P w K mg base (L2.CX P w) 3 fBI fdBI ["self", "sizes"] (spBInit K c CB CD)) : FnOk P w K mg base CX0 37 f fd ["_law_script"] (spLaw K TT) := by
  obtain ⟨f_take, d_take, g_take, p_take, b_take, G_take⟩ := C_take.ex
  obtain ⟨f_begun, d_begun, g_begun, p_begun, b_begun, G_begun⟩ := C_begun.ex
  obtain ⟨f_alike, d_alike, g_alike, p_alike, b_alike, G_alike⟩ := C_alike.ex
  obtain ⟨f_ldisk, d_ldisk, g_ldisk, p_ldisk, b_ldisk, G_ldisk⟩ := C_ldisk.ex
  obtain ⟨f_turn, d_turn, g_turn, p_turn, b_turn, G_turn⟩ := C_turn.ex
  obtain ⟨f_long, d_long, g_long, p_long, b_long, G_long⟩ := C_long.ex
  obtain ⟨f_get, d_get, m_get, b_get, G_get⟩ := BF.get.ex
  obtain ⟨f_sheet, d_sheet, m_sheet, b_sheet, G_sheet⟩ := BF.sheet.ex
  obtain ⟨f_sizes, d_sizes, m_sizes, b_sizes, G_sizes⟩ := BF.sizes.ex
  obtain ⟨f_again, d_again, m_again, b_again, G_again⟩ := BF.again.ex
  obtain ⟨f_deeds, d_deeds, m_deeds, b_deeds, G_deeds⟩ := BF.deeds.ex
  have cB := BF.cB
  refine F.ok scLaw (fun vs H Q E h => ?_) (fun cdv A outer s H vs Q E hr h => ?_)
  · obtain ⟨a, ns, rfl, _⟩ := h
    rfl
  obtain ⟨a, ns, rfl, hS, hl, TA, q⟩ := h
  have hu := hu_of hr
  refine ⟨_, (pss_cons (ps_set (i := 1) scLaw.nd rfl (by first | exact Or.inl rfl | exact Or.inr rfl) (pe_call G_begun (hr.mono (by decide)) (by rfl) g_begun p_begun b_begun .nil pass0 (pa_cons (pv 0) pa_nil)))
    (pss_cons (ps_setLcD (i := 2) (own := [("_law_k", 3)]) rfl scLaw.nd rfl rfl (sw_true rfl rfl rfl (by decide +kernel)) (pi_range1 (by rfl) T.range (pa_cons (pe_op op_add pe_int (pe_call G_take (hr.mono (by decide)) (by rfl) g_take p_take b_take .nil pass0 (pa_cons (pv 1) (pa_cons pe_int pa_nil)))) pa_nil)) (blkOk_by (N := ["_law_script", "_law_box", "_law_sizes", "_law_k", "_law_handed", "_law_bench", "_law_own", "_law_size", "_law_turn_here", "_law_due", "_law_disk_here", "_law_found", "_law_there", "_law_blocks", "_law_piece"]) (sc := defScope sLaw) (by decide +kernel)) (fun _ _ _ _ _ => (pg_name (i := 3) scLaw.nd rfl (by first | exact Or.inl rfl | exact Or.inr rfl))) (fun _ _ _ _ _ => pts_nil) (fun _ _ _ _ _ => (pe_op op_add pe_int (pe_call G_take (hr.mono (by decide)) (by rfl) g_take p_take b_take .nil pass0 (pa_cons (pv 1) (pa_cons pe_int pa_nil))))))
    (pss_cons (ps_set (i := 4) scLaw.nd rfl (by first | exact Or.inl rfl | exact Or.inr rfl) (pe_callTy cr_listOf (by rfl) T.list (by decide +kernel) (pa_cons (pv 2) pa_nil)))
    (pss_cons (ps_set (i := 5) scLaw.nd rfl (by first | exact Or.inl rfl | exact Or.inr rfl) (pe_make mkB GBI (hr.mono (by decide)) (by rfl) gBench bBI .nil pass_cx0 (pa_cons (pv 4) pa_nil)))
    (pss_cons (ps_expr (pe_bm0 PySem.F.plainAttrs_list PySem.F.slot_list_clear PySem.F.type_list_clear mt_clear (pv 4)))
    (pss_cons (ps_set (i := 6) scLaw.nd rfl (by first | exact Or.inl rfl | exact Or.inr rfl) (pe_disp (pps_cons pe_str (pe_lcD (own := [("_law_size", 7)]) rfl scLaw.nd (pi_list (pv 2)) (blkOk_by (N := ["_law_script", "_law_box", "_law_sizes", "_law_k", "_law_handed", "_law_bench", "_law_own", "_law_size", "_law_turn_here", "_law_due", "_law_disk_here", "_law_found", "_law_there", "_law_blocks", "_law_piece"]) (sc := defScope sLaw) (by decide +kernel)) (fun _ _ _ _ _ => (pg_name (i := 7) scLaw.nd rfl (by first | exact Or.inl rfl | exact Or.inr rfl))) (fun _ _ _ _ _ => pts_nil) (fun _ _ _ _ _ => (pe_call G_ldisk (hr.mono (by decide)) (by rfl) g_ldisk p_ldisk b_ldisk .nil pass0 (pa_cons (pv 7) pa_nil)))) (pps_cons pe_str pe_non (pps_cons pe_str pe_bl (pps_cons pe_str pe_int pps_nil)))) (by rfl) (by rfl) (fun z => by cases z) (by decide)))
    (pss_cons (ps_for PassesOwn.never rfl (pi_range1 (by rfl) T.range (pa_cons (pe_call G_take (hr.mono (by decide)) (by rfl) g_take p_take b_take .nil pass0 (pa_cons (pv 1) (pa_cons (pe_ix ix_list (pe_lst (pa_cons pe_int (pa_cons pe_int pa_nil))) (pe_call G_take (hr.mono (by decide)) (by rfl) g_take p_take b_take .nil pass0 (pa_cons (pv 1) (pa_cons pe_int pa_nil))) (fun _ _ => rfl)) pa_nil))) pa_nil)) (pg_name (i := 8) scLaw.nd rfl (by first | exact Or.inl rfl | exact Or.inr rfl))
      (pss_cons (ps_if (pt_not (pt_val (pe_call G_turn (hr.mono (by decide)) (by rfl) g_turn p_turn b_turn .nil pass0 (pa_cons (pv 1) (pa_cons (pv 5) (pa_cons (pv 6) pa_nil)))))) (pss_one (ps_ret pe_bl)) pss_nil)
      (pss_cons (ps_setLcD (i := 9) (own := [("_law_disk_here", 10)]) rfl scLaw.nd rfl rfl (sw_true rfl rfl rfl (by decide +kernel)) (pi_list (pe_dget hu (pv 6) pe_str (fun _ _ => rfl))) (blkOk_by (N := ["_law_script", "_law_box", "_law_sizes", "_law_k", "_law_handed", "_law_bench", "_law_own", "_law_size", "_law_turn_here", "_law_due", "_law_disk_here", "_law_found", "_law_there", "_law_blocks", "_law_piece"]) (sc := defScope sLaw) (by decide +kernel)) (fun _ _ _ _ _ => (pg_name (i := 10) scLaw.nd rfl (by first | exact Or.inl rfl | exact Or.inr rfl))) (fun _ _ _ _ _ => pts_nil) (fun _ _ _ _ _ => (pe_ifExp (pt_cmpR op_notN1 (pv 10) pe_non (nomark _)) (pe_callB cr_lenL (by rfl) T.len (by decide +kernel) (pa_cons (pe_dget hu (pv 10) pe_str (fun _ _ => rfl)) pa_nil)) pe_non)))
      (pss_cons (ps_set (i := 11) scLaw.nd rfl (by first | exact Or.inl rfl | exact Or.inr rfl) (pe_meth0 (pv 5) cB m_sizes G_sizes (hr.mono (by decide)) b_sizes .nil pass0))
      (pss_cons (ps_if (pt_not (pt_val (pe_call G_alike (hr.mono (by decide)) (by rfl) g_alike p_alike b_alike .nil pass0 (pa_cons (pe_lst (pa_cons (pv 11) (pa_cons (pe_meth0 (pv 5) cB m_deeds G_deeds (hr.mono (by decide)) b_deeds .nil pass0) pa_nil))) (pa_cons (pe_lst (pa_cons (pv 9) (pa_cons (pe_dget hu (pv 6) pe_str (fun _ _ => rfl)) pa_nil))) pa_nil))))) (pss_one (ps_ret pe_bl)) pss_nil)
      (pss_one (ps_expr (pe_bm PySem.F.plainAttrs_list PySem.F.slot_list_append PySem.F.type_list_append mt_append (pv 11) (pa_cons pe_int pa_nil)))))))))
    (pss_cons (ps_if (pt_not (pt_val (pe_call G_long (hr.mono (by decide)) (by rfl) g_long p_long b_long .nil pass0 (pa_cons (pv 1) pa_nil)))) (pss_one (ps_ret pe_bl)) pss_nil)
    (pss_cons (ps_expr (pe_meth0 (pv 5) cB m_again G_again (hr.mono (by decide)) b_again .nil pass0))
    (pss_cons (ps_for PassesOwn.never rfl (pi_range1 (by rfl) T.range (pa_cons (pe_callB cr_lenL (by rfl) T.len (by decide +kernel) (pa_cons (pe_dget hu (pv 6) pe_str (fun _ _ => rfl)) pa_nil)) pa_nil)) (pg_name (i := 10) scLaw.nd rfl (by first | exact Or.inl rfl | exact Or.inr rfl))
      (pss_cons (ps_set (i := 12) scLaw.nd rfl (by first | exact Or.inl rfl | exact Or.inr rfl) (pe_ix ix_list (pe_dget hu (pv 6) pe_str (fun _ _ => rfl)) (pv 10) (fun _ _ => rfl)))
      (pss_one (ps_if (pt_cmpR op_notN1 (pv 12) pe_non (nomark _)) (pss_cons (ps_setLcD (i := 13) (own := [("_law_piece", 14)]) rfl scLaw.nd rfl rfl (sw_true rfl rfl rfl (by decide +kernel)) (pi_range1 (by rfl) T.range (pa_cons (pe_callB cr_lenL (by rfl) T.len (by decide +kernel) (pa_cons (pe_dget hu (pv 12) pe_str (fun _ _ => rfl)) pa_nil)) pa_nil)) (blkOk_by (N := ["_law_script", "_law_box", "_law_sizes", "_law_k", "_law_handed", "_law_bench", "_law_own", "_law_size", "_law_turn_here", "_law_due", "_law_disk_here", "_law_found", "_law_there", "_law_blocks", "_law_piece"]) (sc := defScope sLaw) (by decide +kernel)) (fun _ _ _ _ _ => (pg_name (i := 14) scLaw.nd rfl (by first | exact Or.inl rfl | exact Or.inr rfl))) (fun _ _ _ _ _ => pts_nil) (fun _ _ _ _ _ => (pe_lcD (own := [("_law_k", 3)]) rfl scLaw.nd (pi_range1 (by rfl) T.range (pa_cons pe_int pa_nil)) (by first | exact blkOk_free (N := ["_law_script", "_law_box", "_law_sizes", "_law_k", "_law_handed", "_law_bench", "_law_own", "_law_size", "_law_turn_here", "_law_due", "_law_disk_here", "_law_found", "_law_there", "_law_blocks", "_law_piece"]) (by decide +kernel) (by decide +kernel) | exact blkOk_by (N := ["_law_script", "_law_box", "_law_sizes", "_law_k", "_law_handed", "_law_bench", "_law_own", "_law_size", "_law_turn_here", "_law_due", "_law_disk_here", "_law_found", "_law_there", "_law_blocks", "_law_piece"]) (by dsimp only [compEnvC]; show blkC ["_law_script", "_law_box", "_law_sizes", "_law_k", "_law_handed", "_law_bench", "_law_own", "_law_size", "_law_turn_here", "_law_due", "_law_disk_here", "_law_found", "_law_there", "_law_blocks", "_law_piece"] (relabel _ (dEnv (defScope sLaw))) _ _ = true; decide +kernel)) (fun _ _ _ _ _ => (pg_name (i := 3) scLaw.nd rfl (by first | exact Or.inl rfl | exact Or.inr rfl))) (fun _ _ _ _ _ => pts_nil) (fun _ _ _ _ _ => (pe_meth (pv 5) cB m_get G_get (hr.mono (by decide)) b_get .nil pass_cx0 (pa_cons (pv 10) (pa_cons (pv 14) (pa_cons (pv 3) pa_nil))))))))
        (pss_one (ps_if (pt_not (pt_val (pe_call G_alike (hr.mono (by decide)) (by rfl) g_alike p_alike b_alike .nil pass0 (pa_cons (pe_lst (pa_cons (pv 13) (pa_cons (pe_meth (pv 5) cB m_sheet G_sheet (hr.mono (by decide)) b_sheet .nil pass_cx0 (pa_cons (pv 10) pa_nil)) pa_nil))) (pa_cons (pe_lst (pa_cons (pe_dget hu (pv 12) pe_str (fun _ _ => rfl)) (pa_cons (pe_dget hu (pv 12) pe_str (fun _ _ => rfl)) pa_nil))) pa_nil))))) (pss_one (ps_ret pe_bl)) pss_nil))) pss_nil))))
    (pss_one (ps_ret pe_bl)))))))))))), ?_⟩
  simp only [cxK, cxK']
  walk_at "w"
  refine ⟨a, ns, rfl, hS, hl, fun H1 b bl s0 k1 nb nbl nbb B1 => ?_⟩
  have T1 := tabs_ki TA (KI.of0 k1)
  walk_at "w"
  refine ⟨b, bl, ns, s0, 6, rfl, B1, nbb, by decide, by decide, fun H2 ns2 s2 r k2 B2 r0 r1 => ?_⟩
  have T2 := tabs_ki T1 (KI.of k2 B1.mu)
  walk_at "w"
  intro D nD
  have nDb : D ∉ [b, bl] := fun m => by
    obtain ⟨o, e, _⟩ := B2.mu D m
    rw [nD] at e
    cases e
  have kD : Kp [] H2 (upd H2 D (.lst [])) := kp_new Kp.refl nD
  refine lc_range (n := (1 + r).toNat) (fun i H' => ∃ (ns : List Int) (s : Int) (zs : List Nat), Box H' b bl ns s ∧ Tabs TT H' ∧ H' D = some (.lst (zs.map fun n : Nat => V.int (n : Int))) ∧ zs.length = i ∧ ∀ z ∈ zs, 1 ≤ z ∧ z ≤ 12) ⟨ns2, s2, [], B2.kp kD (fun a m => by cases m), tabs_ki T2 (KI.of0 kD), upd_same, rfl, fun z m => by cases m⟩ (fun i H3 hi h => ?_) (fun H3 h => ?_)
  · obtain ⟨ns3, s3, zs, B3, T3, eD, lz, hz⟩ := h
    walk_at "w"
    refine ⟨rfl, ?_⟩
    walk_at "w"
    refine ⟨b, bl, ns3, s3, 12, rfl, B3, nbb, by decide, by decide, fun H4 ns4 s4 z k4 B4 z0 z1 => ?_⟩
    have eD4 := k4.k _ _ eD nDb
    walk_at "w"
    refine ⟨_, eD4, by rw [List.length_map, lz]; exact szbl (by omega), ns4, s4, zs ++ [(1 + z).toNat], ?_, ?_, ?_, by rw [List.length_append, lz]; rfl, fun y m => ?_⟩
    · exact B4.kp (F := [D]) (kp_set' List.mem_cons_self Kp.refl) fun a m => by rw [List.mem_singleton.mp m]; exact nDb
    · refine tabs_ki (tabs_ki T3 (KI.of k4 B3.mu)) (KI.of (F := [D]) (kp_set' List.mem_cons_self Kp.refl) fun a m => ?_)
      rw [List.mem_singleton.mp m]
      exact ⟨_, eD4, True.intro⟩
    · rw [upd_same, List.map_append]
      show some (HO.lst (_ ++ [V.int (1 + z)])) = some (HO.lst (_ ++ [V.int (((1 + z).toNat : Nat) : Int)]))
      rw [show (((1 + z).toNat : Nat) : Int) = 1 + z by omega]
    · rcases List.mem_append.mp m with m | m
      · exact hz y m
      · rw [List.mem_singleton.mp m]
        omega
  obtain ⟨ns3, s3, zs, B3, T3, eD, lz, hz⟩ := h
  have lz1 : 1 ≤ zs.length := by omega
  have lz6 : zs.length ≤ 6 := by omega
  walk_at "w"
  intro hd nhd
  walk_at "w"
  intro x dx nx ndx nxd
  have khd : Kp [] H3 (upd H3 hd (.lst (zs.map fun n : Nat => V.int (n : Int)))) := kp_new Kp.refl nhd
  refine ⟨x, dx, hd, zs.map fun n : Nat => V.int (n : Int), rfl, sq_l (by rw [upd_ne (ne_of_none upd_same nx), upd_ne (ne_of_none upd_same ndx)]; exact upd_same), fun z m => ?_, by rw [List.length_map]; omega, upd_same, ⟨fun ns1 e h1 h2 h3 H4 l ds k4 A4 f4 => ⟨rfl, ?_⟩, fun z => ?_⟩⟩
  · obtain ⟨n, _, rfl⟩ := List.mem_map.mp m
    exact True.intro
  rotate_left
  · exfalso
    rcases z with z | z | ⟨y, m, z⟩
    · rw [List.length_map] at z
      omega
    · rw [List.length_map] at z
      omega
    · obtain ⟨n, mn, rfl⟩ := List.mem_map.mp m
      rw [show numOk (.int (n : Int)) 1 12 = true from decide_eq_true (by have := hz n mn; omega)] at z
      cases z
  have e1 : ns1 = zs := (List.map_inj_right (fun a b h => by injection h with h; omega)).mp e |>.symm
  subst e1
  have kH4 : Kp [] H3 H4 := kp_app (kp_make nx ndx k4) khd
  have frx : ∀ a ∈ fpB x l ds, H3 a = none := fun a m => by
    rcases f4 a m with z | z
    · rw [z]
      exact none_of_kp2 nx khd
    · exact none_of_kp2 (none_make z) khd
  have ehd : H4 hd = some (.lst (ns1.map fun n : Nat => V.int (n : Int))) := (kp_make nx ndx k4).k _ _ upd_same ni_nil
  walk_at "w"
  refine ⟨hd, _, rfl, rfl, ehd, ?_⟩
  have hdf : hd ∉ fpB x l ds := fun m => by
    rcases f4 hd m with z | z
    · rw [← z] at nx
      rw [upd_same] at nx
      cases nx
    · have z := none_make z
      rw [upd_same] at z
      cases z
  have k5 : Kp [hd] H4 (upd H4 hd (.lst [])) := kp_set' List.mem_cons_self Kp.refl
  have A5 := A4.kp k5 fun a m z => hdf (by rw [← List.mem_singleton.mp z]; exact m)
  have nhb : ∀ a ∈ [hd], a ∉ [b, bl] := fun a m z => by
    rw [List.mem_singleton.mp m] at z
    obtain ⟨o, e, _⟩ := B3.mu hd z
    rw [nhd] at e
    cases e
  have B5 := (B3.kp kH4 (fun a m => by cases m)).kp k5 nhb
  have T5 := tabs_ki (tabs_ki T3 (KI.of0 kH4)) (KI.of k5 fun a m => by rw [List.mem_singleton.mp m]; exact ⟨_, ehd, True.intro⟩)
  have eD5 : (upd H4 hd (.lst [])) D = some (.lst (ns1.map fun n : Nat => V.int (n : Int))) := k5.k _ _ (kH4.k _ _ eD ni_nil) fun m => by
    rw [List.mem_singleton.mp m] at eD
    rw [nhd] at eD
    cases eD
  have fr5 : ∀ a, (upd H4 hd (.lst [])) a = none → H3 a = none := fun a e => by
    by_cases z : a = hd
    · rw [z]
      exact nhd
    · rw [upd_ne z] at e
      exact none_of_kp2 e kH4
  generalize (upd H4 hd (.lst [])) = H5 at A5 B5 T5 eD5 fr5
  walk_at "w"
  intro o no
  have no3 := fr5 o no
  have k6 : Kp [] H5 (upd H5 o (.dK [])) := kp_new Kp.refl no
  have A6 := A5.kp k6 fun a m z => by cases z
  have B6 := B5.kp k6 (fun a m => by cases m)
  have T6 := tabs_ki T5 (KI.of0 k6)
  have eD6 := k6.k _ _ eD5 ni_nil
  have eo6 : (upd H5 o (.dK [])) o = some (.dK []) := upd_same
  have fr6 : ∀ a, (upd H5 o (.dK [])) a = none → H3 a = none := fun a e => fr5 a (none_of_upd e)
  generalize (upd H5 o (.dK [])) = H6 at A6 B6 T6 eD6 eo6 fr6
  clear k6
  walk_at "w"
  intro D2 nD2
  have nDD : D ≠ D2 := ne_of_none eD6 nD2
  refine lc_list (xs := ns1.map fun n : Nat => V.int (n : Int)) (fun i H' => ∃ ods : List OAd, ods.length = i ∧ H' D2 = some (.lst (ods.map fun d => V.ref d.e)) ∧ Kp [] H6 H' ∧ GoodL H' (List.zipWith odT ods ((ns1.take i).map newDisk)) ∧ (∀ a ∈ fpL (List.zipWith odT ods ((ns1.take i).map newDisk)), H6 a = none ∧ a ≠ D2) ∧ ∀ (j : Nat) (d : OAd) (n : Nat), ods[j]? = some d → ns1[j]? = some n → d.qs.length = n)
    ⟨[], rfl, upd_same, kp_new Kp.refl nD2, by rw [List.zipWith_nil_left]; exact .nil, fun a m => (by rw [List.zipWith_nil_left, fpL_nil] at m; cases m), fun j d n h => by cases h⟩ (fun i H' _ h => ?_) (fun i z H7 hi h => ?_) (fun H7 h => ?_)
  · obtain ⟨ods, _, _, k, _⟩ := h
    exact sq_l (k.k _ _ eD6 ni_nil)
  · obtain ⟨ods, lo, e2, k7, g7, f7, q7⟩ := h
    rw [List.getElem?_map] at hi
    cases en : ns1[i]? with
    | none => rw [en] at hi; cases hi
    | some n =>
      rw [en] at hi
      cases hi
      have hn := hz n (List.mem_of_getElem? en)
      walk_at "w"
      refine ⟨rfl, ?_⟩
      walk_at "w"
      refine ⟨n, rfl, hn.2, fun H8 d k8 fr nd OD => ?_⟩
      have e28 := k8.k _ _ e2 ni_nil
      have gd := od_good OD nd
      have fpd := od_fp OD.n
      have D2d : D2 ∉ (odT d (newDisk n)).fp := fun m => by
        rw [fpd] at m
        rw [fr D2 m] at e2
        cases e2
      have ez : List.zipWith odT (ods ++ [d]) ((ns1.take (i + 1)).map newDisk) = List.zipWith odT ods ((ns1.take i).map newDisk) ++ [odT d (newDisk n)] := by
        rw [List.take_add_one, en, List.map_append, List.zipWith_append (by rw [lo, List.length_map, List.length_take]; have := (List.getElem?_eq_some_iff.mp en).1; omega)]
        rfl
      have g8 : GoodL H8 (List.zipWith odT ods ((ns1.take i).map newDisk) ++ [odT d (newDisk n)]) := (g7.kp0 k8).app (.one gd) fun a m z => by
        rw [fpL_one, fpd] at z
        obtain ⟨o', e'⟩ := g7.used a m
        rw [fr a z] at e'
        cases e'
      have f8 : ∀ a ∈ fpL (List.zipWith odT ods ((ns1.take i).map newDisk) ++ [odT d (newDisk n)]), H6 a = none ∧ a ≠ D2 := fun a m => by
        rw [fpL_app, fpL_one] at m
        rcases List.mem_append.mp m with m | m
        · exact f7 a m
        · exact ⟨none_of_kp2 (fr a (by rw [← fpd]; exact m)) k7, fun z => D2d (by rw [← z]; exact m)⟩
      refine ⟨_, e28, by rw [List.length_map, lo]; exact szbl (by have := (List.getElem?_eq_some_iff.mp en).1; omega), ods ++ [d], by rw [List.length_append, lo]; rfl, ?_, kp_setn nD2 (kp_app k8 k7), ?_, ?_, fun j d' n' h1 h2 => ?_⟩
      · rw [upd_same, List.map_append]
        rfl
      · rw [ez]
        exact g8.keep fun a m => upd_ne (f8 a m).2
      · rw [ez]
        exact f8
      · by_cases hj : j < ods.length
        · rw [List.getElem?_append_left hj] at h1
          exact q7 j d' n' h1 h2
        · rw [List.getElem?_append_right (by omega)] at h1
          have hj2 : j - ods.length = 0 := by
            have := (List.getElem?_eq_some_iff.mp h1).1
            simp at this
            omega
          rw [hj2] at h1
          cases h1
          have : j = i := by omega
          rw [this, en] at h2
          cases h2
          exact OD.n.trans (List.length_replicate ..)
  obtain ⟨ods, lo, e2, k7, g7, f7, q7⟩ := h
  rw [List.length_map] at lo g7 f7
  rw [List.take_length] at g7 f7
  walk_at "w"
  have eo7 := k7.k _ _ eo6 ni_nil
  refine ⟨eo7, [(Sum.inr "disks", .ref D2), (Sum.inr "left", .non), (Sum.inr "stands", .bl false), (Sum.inr "many", .int 0)], rfl, (by decide : 4 ≤ 15), ?_⟩
  have lz8 : ods.length = (ns1.map newDisk).length := by rw [List.length_map, lo]
  have ndis : (newBench ns1).disks = ns1.map newDisk := rfl
  have no7 : o ∉ fpL (List.zipWith odT ods (ns1.map newDisk)) := fun m => by
    rw [(f7 o m).1] at eo6
    cases eo6
  have A8 : OwnAt (upd H7 o (ownO D2 (newBench ns1))) o D2 (ods.map some) (newBench ns1) := by
    refine ⟨?_, by rw [List.length_map, ndis, lz8], fun i e D h1 h2 => ?_⟩
    · unfold ownT
      rw [ndis, zip_some]
      have gl : Good H7 (.n D2 .lst (List.zipWith odT ods (ns1.map newDisk))) := .node (by rw [e2, zip_od_val lz8]; rfl) g7 fun m => (f7 D2 m).2 rfl
      have oD2 : o ≠ D2 := ne_of_none eo6 nD2
      have gk : GoodL H7 [AT.n D2 .lst (List.zipWith odT ods (ns1.map newDisk)), .v (leftV none), .v (.bl false), .v (.int 0)] := .cons gl (GoodL.vs (vs := [leftV none, .bl false, .int 0])) fun b _ m => by rw [show [AT.v (leftV none), .v (.bl false), .v (.int 0)] = [leftV none, V.bl false, V.int 0].map AT.v from rfl, fpL_vs] at m; cases m
      have fo : o ∉ fpL [AT.n D2 .lst (List.zipWith odT ods (ns1.map newDisk)), .v (leftV none), .v (.bl false), .v (.int 0)] := fun m => by
        simp only [fpL_cons, fp_n, fp_v, fpL_nil, List.append_nil, List.nil_append] at m
        rcases List.mem_cons.mp m with z | m
        · exact oD2 z
        · exact no7 m
      exact .node upd_same (gk.keep fun a m => upd_ne fun z => fo (by rw [← z]; exact m)) fo
    · rw [List.getElem?_map] at h1
      cases e1 : ods[i]? with
      | none => rw [e1] at h1; cases h1
      | some d =>
        rw [e1] at h1
        cases h1
        rw [ndis, List.getElem?_map] at h2
        cases e2 : ns1[i]? with
        | none => rw [e2] at h2; cases h2
        | some n =>
          rw [e2] at h2
          cases h2
          refine ⟨rfl, fun d' z => ?_⟩
          cases z
          rw [q7 i d n e1 e2]
          exact (List.length_replicate ..).symm
  have fpo : ∀ a ∈ (ownT o D2 (ods.map some) (newBench ns1)).fp, a = o ∨ H6 a = none := fun a m => by
    unfold ownT at m
    rw [ndis, zip_some] at m
    simp only [fpL_cons, fp_n, fp_v, fpL_nil, List.append_nil, List.nil_append] at m
    rcases List.mem_cons.mp m with z | m
    · exact .inl z
    · rcases List.mem_cons.mp m with z | m
      · exact .inr (by rw [z]; exact nD2)
      · exact .inr (f7 a m).1
  have fpo3 : ∀ a ∈ (ownT o D2 (ods.map some) (newBench ns1)).fp, H3 a = none := fun a m => by
    rcases fpo a m with z | z
    · rw [z]
      exact no3
    · exact fr6 a z
  have kH7 : Kp [o] H7 (upd H7 o (ownO D2 (newBench ns1))) := kp_set' List.mem_cons_self Kp.refl
  have nbo : ∀ a ∈ [b, bl], H3 a ≠ none := fun a m z => by
    obtain ⟨o, e, _⟩ := B3.mu a m
    rw [z] at e
    cases e
  have papers : ∀ Hh, PapersOk Hh (newBench ns1) := fun Hh D m => by
    obtain ⟨n, mn, rfl⟩ := List.mem_map.mp m
    exact ⟨by show 0 < (List.replicate n _).length; rw [List.length_replicate]; exact (hz n mn).1, .none, rfl, .non⟩
  have S8 : LS CB CD TT (upd H7 o (ownO D2 (newBench ns1))) ⟨b, bl, x, dx, l, o, D2, ds, ods.map some⟩ (newBench ns1) (newBench ns1) := by
    refine ⟨⟨ns3, s3, (B6.kp k7 (fun a m => by cases m)).kp kH7 fun a m z => ?_⟩, nbb, (A6.kp k7 (fun a m z => by cases z)).kp kH7 fun a m z => ?_, A8, papers _, papers _, tabs_ki (tabs_ki T6 (KI.of0 k7)) (KI.of kH7 fun a m => ?_), fun a m z => nbo a z (frx a m), fun a m z => nbo a z (fpo3 a m), fun a m z => ?_⟩
    · rw [List.mem_singleton.mp m] at z
      exact nbo o z no3
    · rw [List.mem_singleton.mp z] at m
      obtain ⟨o', e'⟩ := A5.used o m
      rw [no] at e'
      cases e'
    · rw [List.mem_singleton.mp m]
      exact ⟨_, eo7, True.intro⟩
    · rcases fpo a z with y | y
      · obtain ⟨o', e'⟩ := A5.used a m
        rw [y, no] at e'
        cases e'
      · obtain ⟨o', e'⟩ := A6.used a m
        rw [y] at e'
        cases e'
  rw [show mergeK [] [((Sum.inr "disks" : Key), V.ref D2), (Sum.inr "left", .non), (Sum.inr "stands", .bl false), (Sum.inr "many", .int 0)] = [((Sum.inr "disks" : Key), V.ref D2), (Sum.inr "left", .non), (Sum.inr "stands", .bl false), (Sum.inr "many", .int 0)] from rfl]
  generalize hH8 : (upd H7 o (.dK [(Sum.inr "disks", .ref D2), (Sum.inr "left", .non), (Sum.inr "stands", .bl false), (Sum.inr "many", .int 0)])) = H8
  have S8 : LS CB CD TT H8 ⟨b, bl, x, dx, l, o, D2, ds, ods.map some⟩ (newBench ns1) (newBench ns1) := by
    rw [← hH8]
    exact S8
  have hlen : (newBench ns1).disks.length = ns1.length := List.length_map ..
  obtain ⟨ns9, s9, B9⟩ := S8.box
  walk_at "w"
  intro p20 np20
  have S9 := S8.kp0 (kp_new (o := .lst [V.int 20, V.int 81]) Kp.refl np20)
  have e20 : (upd H8 p20 (.lst [V.int 20, V.int 81])) p20 = some (.lst [V.int 20, V.int 81]) := upd_same
  generalize (upd H8 p20 (.lst [V.int 20, V.int 81])) = H9 at S9 e20
  obtain ⟨nsa, sa, Ba⟩ := S9.box
  walk_at "w"
  refine ⟨b, bl, nsa, sa, 2, rfl, Ba, nbb, by decide, by decide, fun H10 ns10 s10 r2 k10 B10 r20 r21 => ?_⟩
  have S10 := S9.draw k10 B10
  have e20 := k10.k _ _ e20 fun m => by
    obtain ⟨o', e', _⟩ := S8.box.choose_spec.choose_spec.mu p20 m
    rw [np20] at e'
    cases e'
  obtain ⟨mx, hmx, mx0, mx1⟩ : ∃ m : Int, atI [V.int 20, V.int 81] r2 = some (.int m) ∧ 0 < m ∧ m ≤ 81 := by
    obtain h | h : r2 = 0 ∨ r2 = 1 := by omega
    · exact ⟨20, by rw [h]; rfl, by decide, by decide⟩
    · exact ⟨81, by rw [h]; rfl, by decide, by decide⟩
  refine w_ixL (sq_l e20) hmx ?_
  walk_at "w"
  refine ⟨b, bl, ns10, s10, mx, rfl, B10, nbb, mx0, by omega, fun H11 ns11 s11 tn k11 B11 tn0 tn1 => ?_⟩
  have S11 := S10.draw k11 B11
  clear e20 eo6 eo7 A6 A5 A4 B6 B5 B3 B2 B1 T6 T5 T3 T2 T1 eD eD5 eD6
  generalize hα : (⟨b, bl, x, dx, l, o, D2, ds, ods.map some⟩ : Ads) = α at S11
  have hb : α.b = b := by rw [← hα]
  have hbl : α.bl = bl := by rw [← hα]
  have hx : α.bn = x := by rw [← hα]
  have ho : α.o = o := by rw [← hα]
  walk_at "w"
  refine for_range (n := tn.toNat) (fun i σ H' => ∃ (ds : List DAd) (es : List (Option OAd)) (B : BenchS) (y3 y7 y8 y9 y10 y11 y12 y13 y14 : Option V), σ = [some (.ref a), some (.ref b), some (.ref D), y3, some (.ref hd), some (.ref x), some (.ref o), y7, y8, y9, y10, y11, y12, y13, y14] ∧ LS CB CD TT H' (α.with_ ds es) B B ∧ B.disks.length = ns1.length) ⟨α.ds, α.es, newBench ns1, none, none, none, none, none, none, none, none, none, rfl, S11, hlen⟩ (fun i σ H12 hi h => ?_) (fun σ H12 h => ?_)
  · obtain ⟨ds2, es2, B, y3, y7, y8, y9, y10, y11, y12, y13, y14, rfl, S12, l12⟩ := h
    generalize hβ : α.with_ ds2 es2 = β at S12
    have hb' : β.b = b := by rw [← hβ, ← hb]; rfl
    have hbl' : β.bl = bl := by rw [← hβ, ← hbl]; rfl
    have hx' : β.bn = x := by rw [← hβ, ← hx]; rfl
    have ho' : β.o = o := by rw [← hβ, ← ho]; rfl
    walk_at "w"
    refine ⟨β, B, by rw [hb', hx', ho']; rfl, S12, by omega, fun H13 ds3 es3 B3 S13 l13 => ?_⟩
    generalize hγ : β.with_ ds3 es3 = γ at S13
    have hb3 : γ.b = b := by rw [← hγ, ← hb']; rfl
    have hbl3 : γ.bl = bl := by rw [← hγ, ← hbl']; rfl
    have hx3 : γ.bn = x := by rw [← hγ, ← hx']; rfl
    have ho3 : γ.o = o := by rw [← hγ, ← ho']; rfl
    have eo : H13 o = some (ownO γ.ol B3) := by rw [← ho3]; exact S13.own.g.root
    unfold ownO at eo
    have el : H13 γ.ol = some (.lst ((List.zipWith eT γ.es B3.disks).map AT.val)) := (S13.own.g.kid (i := 0) rfl).root
    have few := S13.bench.few
    have lv : ((List.zipWith eT γ.es B3.disks).map AT.val).length = B3.disks.length := by rw [List.length_map, List.length_zipWith, S13.own.n, Nat.min_self]
    walk_at "w"
    intro Dd nDd
    refine lc_list (xs := (List.zipWith eT γ.es B3.disks).map AT.val) (fun i H' => Kp [] H13 H' ∧ H' Dd = some (.lst ((B3.disks.take i).map sizeV))) ⟨kp_new Kp.refl nDd, upd_same⟩ (fun i H' _ h => sq_l (h.1.k _ _ el ni_nil)) (fun i z H' hi h => ?_) (fun H14 h => ?_)
    · obtain ⟨kz, eDd⟩ := h
      rw [List.getElem?_map] at hi
      cases ez : (List.zipWith eT γ.es B3.disks)[i]? with
      | none => rw [ez] at hi; cases hi
      | some t =>
        rw [ez] at hi
        cases hi
        have li : i < B3.disks.length := by
          have := (List.getElem?_eq_some_iff.mp ez).1
          rw [List.length_zipWith] at this
          omega
        have hDi := List.getElem?_eq_getElem li
        obtain ⟨e, he⟩ : ∃ e, γ.es[i]? = some e := ⟨_, List.getElem?_eq_getElem (by rw [S13.own.n]; exact li)⟩
        rw [List.getElem?_zipWith, he, hDi] at ez
        cases ez
        obtain ⟨hh, hq⟩ := S13.own.h i e _ he hDi
        have eDs : (B3.disks.take (i + 1)).map sizeV = (B3.disks.take i).map sizeV ++ [sizeV B3.disks[i]] := (take_snoc hDi sizeV).symm
        have fin : ∀ v, v = sizeV B3.disks[i] → ∃ acc, H' Dd = some (HO.lst acc) ∧ acc.length < sizeLine ∧ Kp [] H13 (upd H' Dd (.lst (acc ++ [v]))) ∧ (upd H' Dd (.lst (acc ++ [v]))) Dd = some (.lst ((B3.disks.take (i + 1)).map sizeV)) := fun v hv => by
          refine ⟨_, eDd, by rw [List.length_map, List.length_take]; exact szbl (by omega), kp_setn nDd kz, ?_⟩
          rw [upd_same, eDs, hv]
        cases e with
        | none =>
          walk_at "w"
          refine ⟨rfl, ?_⟩
          walk_at "w"
          refine fin _ ?_
          unfold sizeV
          rw [← hh]
          rfl
        | some d =>
          have gd : Good H' (odT d B3.disks[i]) := ((S13.own.g.kid (i := 0) rfl).kid (by rw [List.getElem?_zipWith, he, hDi]; rfl) : Good H13 (odT d B3.disks[i])).kp0 kz
          have ed : H' d.e = some (.dK [(Sum.inr "blocks", .ref d.p), (Sum.inr "sheet", (B3.disks[i]).paper)]) := gd.root
          have ep : H' d.p = some (.lst ((List.zipWith rowT d.qs (B3.disks[i]).pieces).map AT.val)) := (gd.kid (i := 0) rfl).root
          rw [show (eT (some d) B3.disks[i]).val = V.ref d.e from rfl]
          walk_at "w"
          refine ⟨rfl, ?_⟩
          walk_at "w"
          refine fin _ ?_
          unfold sizeV
          rw [← hh, List.length_map, List.length_zipWith, hq d rfl, Nat.min_self]
          rfl
    obtain ⟨k14, eDd⟩ := h
    rw [lv, List.take_length] at eDd
    have S14 := S13.kp0 k14
    have eb : H14 x = some (.ins CB γ.dx (benchF γ.l B3)) := by rw [← hx3]; exact S14.bench.eb
    walk_at "w"
    refine ⟨γ.bn, γ.dx, γ.l, γ.ds, B3, by rw [hx3]; rfl, S14.bench, fun H15 p k15 np ep => ?_⟩
    have S15 := S14.kp0 k15
    have eb : H15 x = some (.ins CB γ.dx (benchF γ.l B3)) := by rw [← hx3]; exact S15.bench.eb
    walk_at "w"
    refine ⟨γ.bn, γ.dx, γ.l, γ.ds, B3, by rw [hx3]; rfl, S15.bench, ?_⟩
    walk_at "w"
    intro p1 np1
    walk_at "w"
    intro p2 np2
    have kp1 : Kp [] H15 (upd (upd H15 p1 (.lst [V.ref p, V.int B3.many])) p2 (.lst [V.ref Dd, V.int B3.many])) := kp_new (kp_new Kp.refl np1) np2
    have e1 : (upd (upd H15 p1 (.lst [V.ref p, V.int B3.many])) p2 (.lst [V.ref Dd, V.int B3.many])) p1 = some (.lst [V.ref p, V.int B3.many]) := upd_old np2 upd_same
    have e2 : (upd (upd H15 p1 (.lst [V.ref p, V.int B3.many])) p2 (.lst [V.ref Dd, V.int B3.many])) p2 = some (.lst [V.ref Dd, V.int B3.many]) := upd_same
    have ep' := kp1.k _ _ ep ni_nil
    have ed' := kp1.k _ _ (k15.k _ _ eDd ni_nil) ni_nil
    walk_at "w"
    refine ⟨.ref p1, .ref p2, .list [.list (B3.disks.map sizeD), .int B3.many], rfl, .lst (sq_l e1) (.cons (.lst (sq_l ep') (dp_sizes _)) (.cons (.int _) .nil)), .lst (sq_l e2) (.cons (.lst (sq_l ed') (dp_sizes _)) (.cons (.int _) .nil)), ?_, ?_⟩
    · show (decide (2 ≤ 100000) && ((decide ((B3.disks.map sizeD).length ≤ 100000) && (B3.disks.map sizeD).all (okD 17)) && (okD 18 (.int B3.many) && true))) = true
      rw [ok_sizes', decide_eq_true (p := (B3.disks.map sizeD).length ≤ 100000) (by rw [List.length_map]; omega)]
      rfl
    walk_at "w"
    have np13 : H13 p = none := none_of_kp2 np k14
    have kfin : ∀ o, Kp [] H13 (upd (upd (upd H15 p1 (.lst [V.ref p, V.int B3.many])) p2 (.lst [V.ref Dd, V.int B3.many])) p o) := fun o => kp_setn np13 (kp_app kp1 (kp_app k15 k14))
    refine ⟨ds3, es3, B3, _, _, _, _, _, _, _, _, _, rfl, ?_, by rw [l13, l12]⟩
    have z := S13.kp0 (kfin (.lst (B3.disks.map sizeV ++ [V.int 0])))
    rw [← hγ, ← hβ] at z
    exact z
  · obtain ⟨ds2, es2, B, y3, y7, y8, y9, y10, y11, y12, y13, y14, rfl, S12, l12⟩ := h
    generalize hβ : α.with_ ds2 es2 = β at S12
    have hb' : β.b = b := by rw [← hβ, ← hb]; rfl
    have hbl' : β.bl = bl := by rw [← hβ, ← hbl]; rfl
    have hx' : β.bn = x := by rw [← hβ, ← hx]; rfl
    have ho' : β.o = o := by rw [← hβ, ← ho]; rfl
    obtain ⟨nsb, sb, Bb⟩ := S12.box
    rw [hb', hbl'] at Bb
    walk_at "w"
    refine ⟨b, bl, nsb, sb, rfl, Bb, nbb, S12.tabs, fun H13 ns13 s13 ex13 B13 T13 => ?_⟩
    have S13 := S12.extF ex13 B13 T13 hb' hbl'
    have eb : H13 x = some (.ins CB β.dx (benchF β.l B)) := by rw [← hx']; exact S13.bench.eb
    walk_at "w"
    refine ⟨β.bn, β.dx, β.l, β.ds, B, by rw [hx']; rfl, S13.bench, fun H14 k14 A14 => ?_⟩
    have S14 := S13.stepB k14 A14 (fun a m => .inl m) S13.pB
    generalize hB : ({ B with left := none, stands := false } : BenchS) = Bq at S14
    have hst : Bq.stands = false := by rw [← hB]
    have hdq : Bq.disks = B.disks := by rw [← hB]
    have few := S14.bench.few
    generalize hγ : β.with_ β.ds β.es = γ at S14
    have hx3 : γ.bn = x := by rw [← hγ, ← hx']; rfl
    have ho3 : γ.o = o := by rw [← hγ, ← ho']; rfl
    clear eb
    have lv : ((List.zipWith eT γ.es B.disks).map AT.val).length = B.disks.length := by rw [List.length_map, List.length_zipWith, S14.own.n, Nat.min_self]
    have eo : H14 o = some (ownO γ.ol B) := by rw [← ho3]; exact S14.own.g.root
    unfold ownO at eo
    have el : H14 γ.ol = some (.lst ((List.zipWith eT γ.es B.disks).map AT.val)) := (S14.own.g.kid (i := 0) rfl).root
    walk_at "w"
    refine for_range (n := ((List.zipWith eT γ.es B.disks).map AT.val).length) (fun i σ H' => ∃ (y3 y7 y8 y9 y10 y11 y12 y13 y14 : Option V), σ = [some (.ref a), some (.ref b), some (.ref D), y3, some (.ref hd), some (.ref x), some (.ref o), y7, y8, y9, y10, y11, y12, y13, y14] ∧ Kp [] H14 H') ⟨y3, y7, y8, y9, y10, y11, y12, y13, y14, rfl, Kp.refl⟩ (fun i σ H15 hi h => ?_) (fun σ H15 h => ?_)
    rotate_left
    · obtain ⟨y3, y7, y8, y9, y10, y11, y12, y13, y14, rfl, k15⟩ := h
      walk_at "w"
      exact q _
    obtain ⟨y3, y7, y8, y9, y10, y11, y12, y13, y14, rfl, k15⟩ := h
    rw [lv] at hi
    have S15 := S14.kp0 k15
    have eo15 := k15.k _ _ eo ni_nil
    have el15 := k15.k _ _ el ni_nil
    have hDi := List.getElem?_eq_getElem hi
    obtain ⟨e, he⟩ : ∃ e, γ.es[i]? = some e := ⟨_, List.getElem?_eq_getElem (by rw [S15.own.n]; exact hi)⟩
    have ez : (List.zipWith eT γ.es B.disks)[i]? = some (eT e B.disks[i]) := by rw [List.getElem?_zipWith, he, hDi]
    have ei : atI ((List.zipWith eT γ.es B.disks).map AT.val) (0 + (i : Int)) = some (eT e B.disks[i]).val := by
      rw [Int.zero_add]
      exact atI_nat (by rw [List.getElem?_map, ez]; rfl)
    obtain ⟨hh, hq⟩ := S15.own.h i e _ he hDi
    have hdisk : Bq.disk (.int (i : Int)) = if e.isSome then .ok i else .bad 7 := by rw [disk_at hst (by rw [hdq]; exact hDi), hh]
    walk_at "w"
    cases e with
    | none =>
      walk_at "w"
      exact ⟨_, _, _, _, _, _, _, _, _, rfl, k15⟩
    | some d =>
      have gd : Good H15 (odT d B.disks[i]) := (S15.own.g.kid (i := 0) rfl).kid ez
      have ed : H15 d.e = some (.dK [(Sum.inr "blocks", .ref d.p), (Sum.inr "sheet", (B.disks[i]).paper)]) := gd.root
      have ep : H15 d.p = some (.lst (d.qs.map V.ref)) := by
        have z := (gd.kid (i := 0) rfl).root
        rw [zip_row_val (hq d rfl)] at z
        exact z
      have erow : ∀ (t : Nat) q r, d.qs[t]? = some q → (B.disks[i]).pieces[t]? = some r → H15 q = some (.lst (r.map V.int)) := fun t q r h1 h2 => row_root ((gd.kid (i := 0) rfl).kid (i := t) (by rw [List.getElem?_zipWith, h1, h2]))
      have ldq : (d.qs.map V.ref).length = (B.disks[i]).pieces.length := by rw [List.length_map, hq d rfl]
      have DA := S15.bench.ed i (γ.ds[i]'(by rw [S15.bench.en, hdq]; exact hi)) B.disks[i] (List.getElem?_eq_getElem _) (by rw [hdq]; exact hDi)
      have l12 := DA.few
      rw [show (eT (some d) B.disks[i]).val = V.ref d.e from rfl]
      walk_at "w"
      intro D3 nD3
      refine lc_range (n := (d.qs.map V.ref).length) (fun j H' => Kp [] H15 H' ∧ ∃ qs : List Addr, H' D3 = some (.lst (qs.map V.ref)) ∧ qs.length = j ∧ ∀ (t : Nat) q r, qs[t]? = some q → (B.disks[i]).pieces[t]? = some r → H' q = some (.lst (r.map V.int)) ∧ q ≠ D3) ⟨kp_new Kp.refl nD3, [], upd_same, rfl, fun t q r h => by cases h⟩ (fun j H16 hj h => ?_) (fun H16 h => ?_)
      · obtain ⟨k16, qs, eD3, lqs, hqs⟩ := h
        rw [ldq] at hj
        have hr := List.getElem?_eq_getElem hj
        have l4 := DA.four _ (List.mem_of_getElem? hr)
        walk_at "w"
        refine ⟨rfl, ?_⟩
        walk_at "w"
        intro D4 nD4
        have n34 : D3 ≠ D4 := ne_of_none eD3 nD4
        refine lc_range (n := (4 : Int).toNat) (fun k H' => Kp [] H16 H' ∧ H' D4 = some (.lst (((B.disks[i]).pieces[j].take k).map V.int))) ⟨kp_new Kp.refl nD4, upd_same⟩ (fun k H17 hk h => ?_) (fun H17 h => ?_)
        · obtain ⟨k17, eD4⟩ := h
          have hk4 : k < 4 := hk
          have hx1 : (B.disks[i]).pieces[j][k]? = some ((B.disks[i]).pieces[j][k]'(by omega)) := List.getElem?_eq_getElem (by omega)
          have S17 := S15.kp0 (kp_app k17 k16)
          have eb : H17 x = some (.ins CB γ.dx (benchF γ.l Bq)) := by rw [← hx3]; exact S17.bench.eb
          walk_at "w"
          refine ⟨rfl, ?_⟩
          walk_at "w"
          refine ⟨γ.bn, γ.dx, γ.l, γ.ds, Bq, .int (0 + (i : Int)), .int (0 + (j : Int)), .int (0 + (k : Int)), by rw [hx3]; rfl, S17.bench, True.intro, True.intro, True.intro, ?_⟩
          rw [Int.zero_add, Int.zero_add, Int.zero_add, show Bq.block (.int (i : Int)) (.int (j : Int)) (.int (k : Int)) = .ok (i, j, k) from block_at hdisk (by rw [hdq]; exact hDi) hj hk4]
          intro D' r' x' g1 g2 g3
          rw [hdq, hDi] at g1
          cases g1
          rw [hr] at g2
          cases g2
          rw [hx1] at g3
          cases g3
          refine ⟨_, eD4, by rw [List.length_map, List.length_take]; exact szbl (by omega), kp_setn nD4 k17, ?_⟩
          rw [upd_same, take_snoc hx1 V.int]
        · obtain ⟨k17, eD4⟩ := h
          have e4 : (B.disks[i]).pieces[j].take (4 : Int).toNat = (B.disks[i]).pieces[j] := List.take_of_length_le (by rw [l4]; decide)
          rw [e4] at eD4
          have nD4' : H15 D4 = none := none_of_kp2 nD4 k16
          refine ⟨_, k17.k _ _ eD3 ni_nil, by rw [List.length_map, lqs]; exact szbl (by omega), kp_setn nD3 (kp_app k17 k16), qs ++ [D4], ?_, by rw [List.length_append, lqs]; rfl, fun t q r h1 h2 => ?_⟩
          · rw [upd_same, List.map_append]
            rfl
          · by_cases ht : t < qs.length
            · rw [List.getElem?_append_left ht] at h1
              obtain ⟨g1, g2⟩ := hqs t q r h1 h2
              exact ⟨by rw [upd_ne g2]; exact k17.k _ _ g1 ni_nil, g2⟩
            · rw [List.getElem?_append_right (by omega)] at h1
              have ht2 : t - qs.length = 0 := by
                have := (List.getElem?_eq_some_iff.mp h1).1
                simp at this
                omega
              rw [ht2] at h1
              cases h1
              have : t = j := by omega
              rw [this, hr] at h2
              cases h2
              exact ⟨by rw [upd_ne (Ne.symm n34)]; exact eD4, Ne.symm n34⟩
      obtain ⟨k16, qs, eD3, lqs, hqs⟩ := h
      rw [ldq] at lqs
      have S16 := S15.kp0 k16
      have ed16 := k16.k _ _ ed ni_nil
      have eb : H16 x = some (.ins CB γ.dx (benchF γ.l Bq)) := by rw [← hx3]; exact S16.bench.eb
      walk_at "w"
      refine ⟨γ.bn, γ.dx, γ.l, γ.ds, Bq, .int (0 + (i : Int)), by rw [hx3]; rfl, S16.bench, True.intro, ?_⟩
      rw [Int.zero_add, show Bq.disk (.int (i : Int)) = .ok i from hdisk]
      intro D' g1
      rw [hdq, hDi] at g1
      cases g1
      walk_at "w"
      intro p1 np1
      walk_at "w"
      intro p2 np2
      have kp1 : Kp [] H16 (upd (upd H16 p1 (.lst [V.ref D3, (B.disks[i]).paper])) p2 (.lst [V.ref d.p, (B.disks[i]).paper])) := kp_new (kp_new Kp.refl np1) np2
      have e1 : (upd (upd H16 p1 (.lst [V.ref D3, (B.disks[i]).paper])) p2 (.lst [V.ref d.p, (B.disks[i]).paper])) p1 = some (.lst [V.ref D3, (B.disks[i]).paper]) := upd_old np2 upd_same
      have e2 : (upd (upd H16 p1 (.lst [V.ref D3, (B.disks[i]).paper])) p2 (.lst [V.ref d.p, (B.disks[i]).paper])) p2 = some (.lst [V.ref d.p, (B.disks[i]).paper]) := upd_same
      obtain ⟨_, pd, hpd, hpm⟩ := S16.pO _ (List.mem_of_getElem? hDi)
      have hpm := (hpm.ki (KI.of0 kp1)).dp (K := K)
      have hrows1 := dp_rows (K := K) (qs := qs) (rows := (B.disks[i]).pieces) (H := (upd (upd H16 p1 (.lst [V.ref D3, (B.disks[i]).paper])) p2 (.lst [V.ref d.p, (B.disks[i]).paper]))) lqs fun t q r h1 h2 => kp1.k _ _ (hqs t q r h1 h2).1 ni_nil
      have hrows2 := dp_rows (K := K) (qs := d.qs) (rows := (B.disks[i]).pieces) (H := (upd (upd H16 p1 (.lst [V.ref D3, (B.disks[i]).paper])) p2 (.lst [V.ref d.p, (B.disks[i]).paper]))) (hq d rfl) fun t q r h1 h2 => kp1.k _ _ (k16.k _ _ (erow t q r h1 h2) ni_nil) ni_nil
      have eD3' := kp1.k _ _ eD3 ni_nil
      have ep' := kp1.k _ _ (k16.k _ _ ep ni_nil) ni_nil
      walk_at "w"
      refine ⟨.ref p1, .ref p2, .list [.list (rowsD (B.disks[i]).pieces), pd], rfl, .lst (sq_l e1) (.cons (.lst (sq_l eD3') hrows1) (.cons hpm .nil)), .lst (sq_l e2) (.cons (.lst (sq_l ep') hrows2) (.cons hpm .nil)), ?_, ?_⟩
      · have h18 := okD_more (m := 18) hpd (by decide)
        show (decide (2 ≤ 100000) && ((decide ((rowsD (B.disks[i]).pieces).length ≤ 100000) && (rowsD (B.disks[i]).pieces).all (okD 17)) && (okD 18 pd && true))) = true
        rw [ok_rows _ DA.four, h18, decide_eq_true (p := (rowsD (B.disks[i]).pieces).length ≤ 100000) (by unfold rowsD; rw [List.length_map]; omega)]
        rfl
      walk_at "w"
      exact ⟨_, _, _, _, _, _, _, _, _, rfl, kp_app kp1 (kp_app k16 k15)⟩
end
end VH

namespace VH
open PySem L2 TL LamX
/-! ### the ten classes, as they stand behind the top -/
structure ClsF (K : PySem.W.Frag) (C CV : Addr) : Prop where
  cls : ∃ cd, PySem.W.clsIn K C = some cd ∧ cd.mro = [.ref C, .ref CV, .type "ValueError", .type "Exception", .type "BaseException", .type "object"] ∧ cd.hasDict = true
  ty : PySem.W.typeIn K (.ref C) = some (.type "type")
  ga : PySem.W.findIn K (.ref C) "__getattribute__" = some (some (.builtin "BaseException.__getattribute__"))
  gg : PySem.W.findIn K (.ref C) "__getattr__" = some none
  cl : PySem.W.findIn K (.ref C) "__class__" = some (some (.builtin "object.__class__"))
section
variable {K : PySem.W.Frag} {C D CV : Addr}
theorem ClsF.sub (c : ClsF K C CV) {b : Value} {r : Bool} (h : ([.ref C, .ref CV, .type "ValueError", .type "Exception", .type "BaseException", .type "object"] : List Value).contains b = r) : PySem.W.subIn K (.ref C) b = some r := by
  obtain ⟨cd, h1, h2, _⟩ := c.cls
  show PySem.W.mroIn K C b = _
  unfold PySem.W.mroIn
  rw [h1, Option.bind_some, h2, h]
  rfl
theorem ClsF.exc (c : ClsF K C CV) (hn : PySem.W.specialIn K (.builtin "object.__class__") "__get__" = some (some (.builtin "getset_descriptor.__get__"))) (ht : PySem.W.takesIn K (.builtin "object.__class__") = some true) : ExcC K C := by
  obtain ⟨cd, h1, h2, h3⟩ := c.cls
  refine ⟨c.ga, c.gg, c.sub ?_, ?_, c.cl, hn, ht, c.sub ?_⟩
  · simp
  · unfold PySem.W.hasDictIn
    rw [h1]
    exact h3
  · simp
theorem ClsF.kit (c : ClsF K C CV) (d : ClsF K D CV) (hv : D ≠ CV) : PySem.W.kitOne K (.ref C) (.ref D) = some (decide (C = D)) := by
  unfold PySem.W.kitOne
  by_cases h : C = D
  · rw [h, decide_eq_true rfl, if_pos (by simp)]
  · have hne : ¬ (Value.ref C == Value.ref D) = true := fun q => h (Value.ref.inj (beq_iff_eq.mp q))
    rw [decide_eq_false h, if_neg hne]
    obtain ⟨cd, h1, _⟩ := d.cls
    show (if ((PySem.W.clsIn K D).isSome && PySem.W.typeIn K (.ref D) == some (.type "type")) = true then PySem.W.subIn K (.ref C) (.ref D) else none) = some false
    rw [if_pos (by rw [h1, d.ty]; rfl)]
    refine c.sub ?_
    simp
    exact ⟨fun q => h q.symm, hv⟩
theorem ClsF.kitV (c : ClsF K C CV) : PySem.W.kitOne K (.ref C) (.type "ValueError") = some true := by
  unfold PySem.W.kitOne
  rw [if_neg (fun q => nomatch (beq_iff_eq.mp q : Value.ref C = Value.type "ValueError"))]
  show (if PySem.W.kitMeta "ValueError" = true then PySem.W.subIn K (.ref C) (.type "ValueError") else none) = some true
  rw [if_pos (by decide +kernel)]
  exact c.sub (by simp)
theorem ClsF.exm (c : ClsF K C CV) (e1 : PySem.W.subIn K (.ref CV) (.type "BaseException") = some true) (e2 : PySem.W.isClsIn K CV = true) (e3 : PySem.W.typeIn K (.ref CV) = some (.type "type")) : PySem.W.exmOne K (.ref C) (.ref CV) = some true := by
  unfold PySem.W.exmOne
  rw [if_pos (by rw [e1]; rfl)]
  show (if ((PySem.W.clsIn K CV).isSome && PySem.W.typeIn K (.ref CV) == some (.type "type")) = true then PySem.W.subIn K (.ref C) (.ref CV) else none) = some true
  rw [if_pos (by have e2 : (PySem.W.clsIn K CV).isSome = true := e2; rw [e2, e3]; rfl)]
  exact c.sub (by simp)
end
abbrev cAt (l : List Addr) (i : Nat) : Addr := l.getD i 0
theorem toldK_mk {K : PySem.W.Frag} {mg : Str → Option Value} {l : List Addr} {CV : Addr} (hl : l.length = 10) (nd : (l ++ [CV]).Nodup) (hc : ∀ C ∈ l, ClsF K C CV)
    (hn : PySem.W.specialIn K (.builtin "object.__class__") "__get__" = some (some (.builtin "getset_descriptor.__get__"))) (ht : PySem.W.takesIn K (.builtin "object.__class__") = some true)
    (e1 : PySem.W.subIn K (.ref CV) (.type "BaseException") = some true) (e2 : PySem.W.isClsIn K CV = true) (e3 : PySem.W.typeIn K (.ref CV) = some (.type "type"))
    (g : ∀ i < 10, ∃ n, clsNames[i]? = some n ∧ mg n = some (.ref (cAt l i))) (gVE : mg "VolumeError" = some (.ref CV)) (nVE : mg "ValueError" = none) (nf : PySem.W.findIn K (.ref (cAt l 2)) "row" = some none) : ToldK K mg (cAt l) CV := by
  have at_ : ∀ i < 10, cAt l i ∈ l ∧ l[i]? = some (cAt l i) := fun i hi => by
    have h : i < l.length := by omega
    have e : l[i]? = some l[i] := List.getElem?_eq_getElem h
    have e2 : cAt l i = l[i] := by unfold cAt; rw [List.getD_eq_getElem?_getD, e]; rfl
    rw [e2]
    exact ⟨List.getElem_mem h, e⟩
  have nd1 := (List.nodup_append.mp nd)
  have inj : ∀ i < 10, ∀ j < 10, (cAt l i = cAt l j) ↔ i = j := fun i hi j hj => by
    refine ⟨fun h => ?_, fun h => by rw [h]⟩
    have a := (at_ i hi).2
    have b := (at_ j hj).2
    rw [← h, ← a] at b
    exact (List.getElem?_inj (by omega) nd1.1).mp b.symm
  have nv : ∀ i < 10, cAt l i ≠ CV := fun i hi => nd1.2.2 _ (at_ i hi).1 CV List.mem_cons_self
  have G : ∀ i < 10, ∀ n, clsNames[i]? = some n → mg n = some (.ref (cAt l i)) := fun i hi n hn => by
    obtain ⟨m, h1, h2⟩ := g i hi
    rw [hn] at h1
    cases h1
    exact h2
  have F2 := hc _ (at_ 2 (by decide)).1
  obtain ⟨cd, h1, h2, h3⟩ := F2.cls
  exact ⟨G 0 (by decide) _ rfl, G 1 (by decide) _ rfl, G 2 (by decide) _ rfl, G 3 (by decide) _ rfl, G 4 (by decide) _ rfl, G 5 (by decide) _ rfl, G 6 (by decide) _ rfl, G 7 (by decide) _ rfl, G 8 (by decide) _ rfl, G 9 (by decide) _ rfl, nVE, gVE,
    fun i hi => (hc _ (at_ i hi).1).exc hn ht, fun i hi => (hc _ (at_ i hi).1).exm e1 e2 e3,
    fun i hi j hj => by rw [(hc _ (at_ i hi).1).kit (hc _ (at_ j hj).1) (nv j hj)]; congr 1; exact decide_eq_decide.mpr (inj i hi j hj),
    fun i hi => (hc _ (at_ i hi).1).kitV, ⟨F2.ga, F2.gg, F2.sub (by simp), by unfold PySem.W.hasDictIn; rw [h1]; exact h3⟩, nf⟩

theorem tab_uniq {cs : List (Addr × Str)} {ps : List Addr} {P : Addr} {q : Str} (nd : ps.Nodup) (i : Nat) (h : cs.map (·.1) = ps ∧ cs[i]? = some (P, q)) : ∀ p ∈ cs, p.1 = P → p.2 = q := fun p hp e => by
  obtain ⟨h1, h2⟩ := h
  obtain ⟨j, hj⟩ := List.mem_iff_getElem?.mp hp
  have a1 : ps[i]? = some P := by rw [← h1, List.getElem?_map, h2]; rfl
  have a2 : ps[j]? = some P := by rw [← h1, List.getElem?_map, hj, ← e]; rfl
  have lt := (List.getElem?_eq_some_iff.mp a1).1
  have ij := (List.getElem?_inj lt nd).mp (a1.trans a2.symm)
  rw [← ij, h2] at hj
  cases hj
  rfl
end VH

namespace VH
open PySem L2 TL LamX
theorem all_mk {l : PySem.W.OpenLaw} {w : World} {K : PySem.W.Frag} {h : Heap} {mg : Str → Option Value} {fa : Addr} (X : K.In h) (G : h.Ns mainGlobals mg) (hfa : mg "law" = some (.ref fa))
    {fBe : Addr} {odBe anBe : Option Addr} {slBe : Array (Option Value)} {ocBe kVBe dcBe pmBe cdBe ctBe : Value}
    {fTa : Addr} {odTa anTa : Option Addr} {slTa : Array (Option Value)} {ocTa kVTa dcTa pmTa cdTa ctTa : Value}
    {fAl : Addr} {odAl anAl : Option Addr} {slAl : Array (Option Value)} {ocAl kVAl dcAl pmAl cdAl ctAl : Value}
    {fTo : Addr} {odTo anTo : Option Addr} {slTo : Array (Option Value)} {ocTo kVTo dcTo pmTo cdTo ctTo : Value}
    {fAa : Addr} {odAa anAa : Option Addr} {slAa : Array (Option Value)} {ocAa kVAa dcAa pmAa cdAa ctAa : Value}
    {fDe : Addr} {odDe anDe : Option Addr} {slDe : Array (Option Value)} {ocDe kVDe dcDe pmDe cdDe ctDe : Value}
    {fLd : Addr} {odLd anLd : Option Addr} {slLd : Array (Option Value)} {ocLd kVLd dcLd pmLd cdLd ctLd : Value}
    {fNu : Addr} {odNu anNu : Option Addr} {slNu : Array (Option Value)} {ocNu kVNu dcNu pmNu cdNu ctNu : Value}
    {fLa : Addr} {odLa anLa : Option Addr} {slLa : Array (Option Value)} {ocLa kVLa dcLa pmLa cdLa ctLa : Value}
    {fCo : Addr} {odCo anCo : Option Addr} {slCo : Array (Option Value)} {ocCo kVCo dcCo pmCo cdCo ctCo : Value}
    {qCo PCo : Addr} {oxCo : Option Addr} {sxCo : Array (Option Value)} {exCo : Value} {vsCo : Array Value}
    {fTu : Addr} {odTu anTu : Option Addr} {slTu : Array (Option Value)} {ocTu kVTu dcTu pmTu cdTu ctTu : Value}
    {qTu PTu : Addr} {oxTu : Option Addr} {sxTu : Array (Option Value)} {exTu : Value} {vsTu : Array Value}
    {fLo : Addr} {odLo anLo : Option Addr} {slLo : Array (Option Value)} {ocLo kVLo dcLo pmLo cdLo ctLo : Value}
    {qLo PLo : Addr} {oxLo : Option Addr} {sxLo : Array (Option Value)} {exLo : Value} {vsLo : Array Value}
    {CB : Addr}
    {fBI : Addr} {odBI anBI : Option Addr} {slBI : Array (Option Value)} {ocBI kVBI dcBI pmBI cdBI ctBI : Value}
    {CD : Addr}
    {fDI : Addr} {odDI anDI : Option Addr} {slDI : Array (Option Value)} {ocDI kVDI dcDI pmDI cdDI ctDI : Value}
    {fBdisk : Addr} {odBdisk anBdisk : Option Addr} {slBdisk : Array (Option Value)} {ocBdisk kVBdisk dcBdisk pmBdisk cdBdisk ctBdisk : Value}
    {fBblocks : Addr} {odBblocks anBblocks : Option Addr} {slBblocks : Array (Option Value)} {ocBblocks kVBblocks dcBblocks pmBblocks cdBblocks ctBblocks : Value}
    {fBspend : Addr} {odBspend anBspend : Option Addr} {slBspend : Array (Option Value)} {ocBspend kVBspend dcBspend pmBspend cdBspend ctBspend : Value}
    {fBget : Addr} {odBget anBget : Option Addr} {slBget : Array (Option Value)} {ocBget kVBget dcBget pmBget cdBget ctBget : Value}
    {fBput : Addr} {odBput anBput : Option Addr} {slBput : Array (Option Value)} {ocBput kVBput dcBput pmBput cdBput ctBput : Value}
    {fBsheet : Addr} {odBsheet anBsheet : Option Addr} {slBsheet : Array (Option Value)} {ocBsheet kVBsheet dcBsheet pmBsheet cdBsheet ctBsheet : Value}
    {fBlay : Addr} {odBlay anBlay : Option Addr} {slBlay : Array (Option Value)} {ocBlay kVBlay dcBlay pmBlay cdBlay ctBlay : Value}
    {fBlose : Addr} {odBlose anBlose : Option Addr} {slBlose : Array (Option Value)} {ocBlose kVBlose dcBlose pmBlose cdBlose ctBlose : Value}
    {fBbring : Addr} {odBbring anBbring : Option Addr} {slBbring : Array (Option Value)} {ocBbring kVBbring dcBbring pmBbring cdBbring ctBbring : Value}
    {fBsizes : Addr} {odBsizes anBsizes : Option Addr} {slBsizes : Array (Option Value)} {ocBsizes kVBsizes dcBsizes pmBsizes cdBsizes ctBsizes : Value}
    {fBarm : Addr} {odBarm anBarm : Option Addr} {slBarm : Array (Option Value)} {ocBarm kVBarm dcBarm pmBarm cdBarm ctBarm : Value}
    {fBagain : Addr} {odBagain anBagain : Option Addr} {slBagain : Array (Option Value)} {ocBagain kVBagain dcBagain pmBagain cdBagain ctBagain : Value}
    {fBdeeds : Addr} {odBdeeds anBdeeds : Option Addr} {slBdeeds : Array (Option Value)} {ocBdeeds kVBdeeds dcBdeeds pmBdeeds cdBdeeds ctBdeeds : Value}
    {uBLOCKS : Tok}
    {uMP : Tok}
    {uMD : Tok}
    {uMN : Tok}
    {uMC : Tok}
    {C0 : Addr} {d0 : ClassData}
    {C1 : Addr} {d1 : ClassData}
    {C2 : Addr} {d2 : ClassData}
    {C3 : Addr} {d3 : ClassData}
    {C4 : Addr} {d4 : ClassData}
    {C5 : Addr} {d5 : ClassData}
    {C6 : Addr} {d6 : ClassData}
    {C7 : Addr} {d7 : ClassData}
    {C8 : Addr} {d8 : ClassData}
    {C9 : Addr} {d9 : ClassData}
    {CV : Addr}
    (aBe : PySem.W.nsIn K mainGlobals "_law_begun" = some (some (.ref fBe)))
    (lBe : K.lookup fBe = some ⟨ocBe, odBe, .func (PySem.W.fnOf "_law_begun" "_law_begun" (defArgs sBegun) (defBody sBegun) (defScope sBegun) .none kVBe dcBe pmBe anBe cdBe ctBe), slBe⟩)
    (c_Be : PySem.W.codeIn K cdBe "_law_begun" = true)
    (kBe : PySem.W.keepIn K (.ref fBe) = true)
    (aTa : PySem.W.nsIn K mainGlobals "_law_take" = some (some (.ref fTa)))
    (lTa : K.lookup fTa = some ⟨ocTa, odTa, .func (PySem.W.fnOf "_law_take" "_law_take" (defArgs sTake) (defBody sTake) (defScope sTake) .none kVTa dcTa pmTa anTa cdTa ctTa), slTa⟩)
    (c_Ta : PySem.W.codeIn K cdTa "_law_take" = true)
    (kTa : PySem.W.keepIn K (.ref fTa) = true)
    (aAl : PySem.W.nsIn K mainGlobals "_law_alike" = some (some (.ref fAl)))
    (lAl : K.lookup fAl = some ⟨ocAl, odAl, .func (PySem.W.fnOf "_law_alike" "_law_alike" (defArgs sAlike) (defBody sAlike) (defScope sAlike) .none kVAl dcAl pmAl anAl cdAl ctAl), slAl⟩)
    (c_Al : PySem.W.codeIn K cdAl "_law_alike" = true)
    (kAl : PySem.W.keepIn K (.ref fAl) = true)
    (aTo : PySem.W.nsIn K mainGlobals "_law_told" = some (some (.ref fTo)))
    (lTo : K.lookup fTo = some ⟨ocTo, odTo, .func (PySem.W.fnOf "_law_told" "_law_told" (defArgs sTold) (defBody sTold) (defScope sTold) .none kVTo dcTo pmTo anTo cdTo ctTo), slTo⟩)
    (c_To : PySem.W.codeIn K cdTo "_law_told" = true)
    (kTo : PySem.W.keepIn K (.ref fTo) = true)
    (aAa : PySem.W.nsIn K mainGlobals "_law_all" = some (some (.ref fAa)))
    (lAa : K.lookup fAa = some ⟨ocAa, odAa, .func (PySem.W.fnOf "_law_all" "_law_all" (defArgs sAll) (defBody sAll) (defScope sAll) .none kVAa dcAa pmAa anAa cdAa ctAa), slAa⟩)
    (c_Aa : PySem.W.codeIn K cdAa "_law_all" = true)
    (kAa : PySem.W.keepIn K (.ref fAa) = true)
    (aDe : PySem.W.nsIn K mainGlobals "_law_deed" = some (some (.ref fDe)))
    (lDe : K.lookup fDe = some ⟨ocDe, odDe, .func (PySem.W.fnOf "_law_deed" "_law_deed" (defArgs sDeed) (defBody sDeed) (defScope sDeed) .none kVDe dcDe pmDe anDe cdDe ctDe), slDe⟩)
    (c_De : PySem.W.codeIn K cdDe "_law_deed" = true)
    (kDe : PySem.W.keepIn K (.ref fDe) = true)
    (aLd : PySem.W.nsIn K mainGlobals "_law_disk" = some (some (.ref fLd)))
    (lLd : K.lookup fLd = some ⟨ocLd, odLd, .func (PySem.W.fnOf "_law_disk" "_law_disk" (defArgs sLDisk) (defBody sLDisk) (defScope sLDisk) .none kVLd dcLd pmLd anLd cdLd ctLd), slLd⟩)
    (c_Ld : PySem.W.codeIn K cdLd "_law_disk" = true)
    (kLd : PySem.W.keepIn K (.ref fLd) = true)
    (aNu : PySem.W.nsIn K mainGlobals "is_number" = some (some (.ref fNu)))
    (lNu : K.lookup fNu = some ⟨ocNu, odNu, .func (PySem.W.fnOf "is_number" "is_number" (defArgs sIsNum) (defBody sIsNum) (defScope sIsNum) .none kVNu dcNu pmNu anNu cdNu ctNu), slNu⟩)
    (c_Nu : PySem.W.codeIn K cdNu "is_number" = true)
    (kNu : PySem.W.keepIn K (.ref fNu) = true)
    (aLa : PySem.W.nsIn K mainGlobals "law" = some (some (.ref fLa)))
    (lLa : K.lookup fLa = some ⟨ocLa, odLa, .func (PySem.W.fnOf "law" "law" (defArgs sLaw) (defBody sLaw) (defScope sLaw) .none kVLa dcLa pmLa anLa cdLa ctLa), slLa⟩)
    (c_La : PySem.W.codeIn K cdLa "law" = true)
    (kLa : PySem.W.keepIn K (.ref fLa) = true)
    (aCo : PySem.W.nsIn K mainGlobals "_law_comes" = some (some (.ref fCo)))
    (lCo : K.lookup fCo = some ⟨ocCo, odCo, .func (PySem.W.fnOf "_law_comes" "_law_comes" (defArgs sComes) (defBody sComes) (defScope sComes) .none kVCo dcCo pmCo anCo cdCo ctCo), slCo⟩)
    (c_Co : PySem.W.codeIn K cdCo "_law_comes" = true)
    (kCo : PySem.W.keepIn K (.ref fCo) = true)
    (elCo : cdCo = .ref qCo)
    (kcCo : K.lookup qCo = some ⟨exCo, oxCo, .fields vsCo, sxCo⟩)
    (vCo : vsCo[11]? = some (.ref PCo))
    (nPCo : K.lookup PCo = none)
    (chdCo : PySem.W.codeHdIn K qCo PCo = true)
    (tbCo : h.get? PCo = some (PySem.W.tabObj #[]))
    (aTu : PySem.W.nsIn K mainGlobals "_law_turn" = some (some (.ref fTu)))
    (lTu : K.lookup fTu = some ⟨ocTu, odTu, .func (PySem.W.fnOf "_law_turn" "_law_turn" (defArgs sTurn) (defBody sTurn) (defScope sTurn) .none kVTu dcTu pmTu anTu cdTu ctTu), slTu⟩)
    (c_Tu : PySem.W.codeIn K cdTu "_law_turn" = true)
    (kTu : PySem.W.keepIn K (.ref fTu) = true)
    (elTu : cdTu = .ref qTu)
    (kcTu : K.lookup qTu = some ⟨exTu, oxTu, .fields vsTu, sxTu⟩)
    (vTu : vsTu[11]? = some (.ref PTu))
    (nPTu : K.lookup PTu = none)
    (chdTu : PySem.W.codeHdIn K qTu PTu = true)
    (tbTu : h.get? PTu = some (PySem.W.tabObj #[]))
    (aLo : PySem.W.nsIn K mainGlobals "_law_is_long" = some (some (.ref fLo)))
    (lLo : K.lookup fLo = some ⟨ocLo, odLo, .func (PySem.W.fnOf "_law_is_long" "_law_is_long" (defArgs sLong) (defBody sLong) (defScope sLong) .none kVLo dcLo pmLo anLo cdLo ctLo), slLo⟩)
    (c_Lo : PySem.W.codeIn K cdLo "_law_is_long" = true)
    (kLo : PySem.W.keepIn K (.ref fLo) = true)
    (elLo : cdLo = .ref qLo)
    (kcLo : K.lookup qLo = some ⟨exLo, oxLo, .fields vsLo, sxLo⟩)
    (vLo : vsLo[11]? = some (.ref PLo))
    (nPLo : K.lookup PLo = none)
    (chdLo : PySem.W.codeHdIn K qLo PLo = true)
    (tbLo : h.get? PLo = some (PySem.W.tabObj #[]))
    (gCB : PySem.W.nsIn K mainGlobals "Bench" = some (some (.ref CB)))
    (pgCB : PySem.W.plainGet K CB Str.empty = true)
    (hdCB : PySem.W.hasDictIn K CB = true)
    (poCB : PySem.W.plainOver K CB = true)
    (saCB : PySem.W.findIn K (.ref CB) "__setattr__" = some (some (.builtin "object.__setattr__")))
    (mkCB : PySem.W.makesIn K CB = true)
    (kcCB : PySem.W.keepIn K (.ref CB) = true)
    (nCB_disks : PySem.W.findIn K (.ref CB) "disks" = some none)
    (nCB_left : PySem.W.findIn K (.ref CB) "left" = some none)
    (nCB_stands : PySem.W.findIn K (.ref CB) "stands" = some none)
    (nCB_many : PySem.W.findIn K (.ref CB) "many" = some none)
    (aBI : PySem.W.findIn K (.ref CB) "__init__" = some (some (.ref fBI)))
    (lBI : K.lookup fBI = some ⟨ocBI, odBI, .func (PySem.W.fnOf "__init__" "Bench.__init__" (defArgs sBInit) (defBody sBInit) (defScope sBInit) .none kVBI dcBI pmBI anBI cdBI ctBI), slBI⟩)
    (c_BI : PySem.W.codeIn K cdBI "Bench.__init__" = true)
    (kBI : PySem.W.keepIn K (.ref fBI) = true)
    (iBI : PySem.W.isFn K (.ref fBI) = true)
    (gCD : PySem.W.nsIn K mainGlobals "Disk" = some (some (.ref CD)))
    (pgCD : PySem.W.plainGet K CD Str.empty = true)
    (hdCD : PySem.W.hasDictIn K CD = true)
    (poCD : PySem.W.plainOver K CD = true)
    (saCD : PySem.W.findIn K (.ref CD) "__setattr__" = some (some (.builtin "object.__setattr__")))
    (mkCD : PySem.W.makesIn K CD = true)
    (kcCD : PySem.W.keepIn K (.ref CD) = true)
    (nCD_pieces : PySem.W.findIn K (.ref CD) "pieces" = some none)
    (nCD_paper : PySem.W.findIn K (.ref CD) "paper" = some none)
    (nCD_here : PySem.W.findIn K (.ref CD) "here" = some none)
    (aDI : PySem.W.findIn K (.ref CD) "__init__" = some (some (.ref fDI)))
    (lDI : K.lookup fDI = some ⟨ocDI, odDI, .func (PySem.W.fnOf "__init__" "Disk.__init__" (defArgs sDInit) (defBody sDInit) (defScope sDInit) .none kVDI dcDI pmDI anDI cdDI ctDI), slDI⟩)
    (c_DI : PySem.W.codeIn K cdDI "Disk.__init__" = true)
    (kDI : PySem.W.keepIn K (.ref fDI) = true)
    (iDI : PySem.W.isFn K (.ref fDI) = true)
    (aBdisk : PySem.W.findIn K (.ref CB) "disk" = some (some (.ref fBdisk)))
    (lBdisk : K.lookup fBdisk = some ⟨ocBdisk, odBdisk, .func (PySem.W.fnOf "disk" "Bench.disk" (defArgs sBDisk) (defBody sBDisk) (defScope sBDisk) .none kVBdisk dcBdisk pmBdisk anBdisk cdBdisk ctBdisk), slBdisk⟩)
    (c_Bdisk : PySem.W.codeIn K cdBdisk "Bench.disk" = true)
    (kBdisk : PySem.W.keepIn K (.ref fBdisk) = true)
    (iBdisk : PySem.W.isFn K (.ref fBdisk) = true)
    (aBblocks : PySem.W.findIn K (.ref CB) "blocks" = some (some (.ref fBblocks)))
    (lBblocks : K.lookup fBblocks = some ⟨ocBblocks, odBblocks, .func (PySem.W.fnOf "blocks" "Bench.blocks" (defArgs sBBlocks) (defBody sBBlocks) (defScope sBBlocks) .none kVBblocks dcBblocks pmBblocks anBblocks cdBblocks ctBblocks), slBblocks⟩)
    (c_Bblocks : PySem.W.codeIn K cdBblocks "Bench.blocks" = true)
    (kBblocks : PySem.W.keepIn K (.ref fBblocks) = true)
    (iBblocks : PySem.W.isFn K (.ref fBblocks) = true)
    (aBspend : PySem.W.findIn K (.ref CB) "spend" = some (some (.ref fBspend)))
    (lBspend : K.lookup fBspend = some ⟨ocBspend, odBspend, .func (PySem.W.fnOf "spend" "Bench.spend" (defArgs sBSpend) (defBody sBSpend) (defScope sBSpend) .none kVBspend dcBspend pmBspend anBspend cdBspend ctBspend), slBspend⟩)
    (c_Bspend : PySem.W.codeIn K cdBspend "Bench.spend" = true)
    (kBspend : PySem.W.keepIn K (.ref fBspend) = true)
    (iBspend : PySem.W.isFn K (.ref fBspend) = true)
    (aBget : PySem.W.findIn K (.ref CB) "get" = some (some (.ref fBget)))
    (lBget : K.lookup fBget = some ⟨ocBget, odBget, .func (PySem.W.fnOf "get" "Bench.get" (defArgs sBGet) (defBody sBGet) (defScope sBGet) .none kVBget dcBget pmBget anBget cdBget ctBget), slBget⟩)
    (c_Bget : PySem.W.codeIn K cdBget "Bench.get" = true)
    (kBget : PySem.W.keepIn K (.ref fBget) = true)
    (iBget : PySem.W.isFn K (.ref fBget) = true)
    (aBput : PySem.W.findIn K (.ref CB) "put" = some (some (.ref fBput)))
    (lBput : K.lookup fBput = some ⟨ocBput, odBput, .func (PySem.W.fnOf "put" "Bench.put" (defArgs sBPut) (defBody sBPut) (defScope sBPut) .none kVBput dcBput pmBput anBput cdBput ctBput), slBput⟩)
    (c_Bput : PySem.W.codeIn K cdBput "Bench.put" = true)
    (kBput : PySem.W.keepIn K (.ref fBput) = true)
    (iBput : PySem.W.isFn K (.ref fBput) = true)
    (aBsheet : PySem.W.findIn K (.ref CB) "sheet" = some (some (.ref fBsheet)))
    (lBsheet : K.lookup fBsheet = some ⟨ocBsheet, odBsheet, .func (PySem.W.fnOf "sheet" "Bench.sheet" (defArgs sBSheet) (defBody sBSheet) (defScope sBSheet) .none kVBsheet dcBsheet pmBsheet anBsheet cdBsheet ctBsheet), slBsheet⟩)
    (c_Bsheet : PySem.W.codeIn K cdBsheet "Bench.sheet" = true)
    (kBsheet : PySem.W.keepIn K (.ref fBsheet) = true)
    (iBsheet : PySem.W.isFn K (.ref fBsheet) = true)
    (aBlay : PySem.W.findIn K (.ref CB) "lay" = some (some (.ref fBlay)))
    (lBlay : K.lookup fBlay = some ⟨ocBlay, odBlay, .func (PySem.W.fnOf "lay" "Bench.lay" (defArgs sBLay) (defBody sBLay) (defScope sBLay) .none kVBlay dcBlay pmBlay anBlay cdBlay ctBlay), slBlay⟩)
    (c_Blay : PySem.W.codeIn K cdBlay "Bench.lay" = true)
    (kBlay : PySem.W.keepIn K (.ref fBlay) = true)
    (iBlay : PySem.W.isFn K (.ref fBlay) = true)
    (aBlose : PySem.W.findIn K (.ref CB) "lose" = some (some (.ref fBlose)))
    (lBlose : K.lookup fBlose = some ⟨ocBlose, odBlose, .func (PySem.W.fnOf "lose" "Bench.lose" (defArgs sBLose) (defBody sBLose) (defScope sBLose) .none kVBlose dcBlose pmBlose anBlose cdBlose ctBlose), slBlose⟩)
    (c_Blose : PySem.W.codeIn K cdBlose "Bench.lose" = true)
    (kBlose : PySem.W.keepIn K (.ref fBlose) = true)
    (iBlose : PySem.W.isFn K (.ref fBlose) = true)
    (aBbring : PySem.W.findIn K (.ref CB) "bring" = some (some (.ref fBbring)))
    (lBbring : K.lookup fBbring = some ⟨ocBbring, odBbring, .func (PySem.W.fnOf "bring" "Bench.bring" (defArgs sBBring) (defBody sBBring) (defScope sBBring) .none kVBbring dcBbring pmBbring anBbring cdBbring ctBbring), slBbring⟩)
    (c_Bbring : PySem.W.codeIn K cdBbring "Bench.bring" = true)
    (kBbring : PySem.W.keepIn K (.ref fBbring) = true)
    (iBbring : PySem.W.isFn K (.ref fBbring) = true)
    (aBsizes : PySem.W.findIn K (.ref CB) "sizes" = some (some (.ref fBsizes)))
    (lBsizes : K.lookup fBsizes = some ⟨ocBsizes, odBsizes, .func (PySem.W.fnOf "sizes" "Bench.sizes" (defArgs sBSizes) (defBody sBSizes) (defScope sBSizes) .none kVBsizes dcBsizes pmBsizes anBsizes cdBsizes ctBsizes), slBsizes⟩)
    (c_Bsizes : PySem.W.codeIn K cdBsizes "Bench.sizes" = true)
    (kBsizes : PySem.W.keepIn K (.ref fBsizes) = true)
    (iBsizes : PySem.W.isFn K (.ref fBsizes) = true)
    (aBarm : PySem.W.findIn K (.ref CB) "arm" = some (some (.ref fBarm)))
    (lBarm : K.lookup fBarm = some ⟨ocBarm, odBarm, .func (PySem.W.fnOf "arm" "Bench.arm" (defArgs sBArm) (defBody sBArm) (defScope sBArm) .none kVBarm dcBarm pmBarm anBarm cdBarm ctBarm), slBarm⟩)
    (c_Barm : PySem.W.codeIn K cdBarm "Bench.arm" = true)
    (kBarm : PySem.W.keepIn K (.ref fBarm) = true)
    (iBarm : PySem.W.isFn K (.ref fBarm) = true)
    (aBagain : PySem.W.findIn K (.ref CB) "again" = some (some (.ref fBagain)))
    (lBagain : K.lookup fBagain = some ⟨ocBagain, odBagain, .func (PySem.W.fnOf "again" "Bench.again" (defArgs sBAgain) (defBody sBAgain) (defScope sBAgain) .none kVBagain dcBagain pmBagain anBagain cdBagain ctBagain), slBagain⟩)
    (c_Bagain : PySem.W.codeIn K cdBagain "Bench.again" = true)
    (kBagain : PySem.W.keepIn K (.ref fBagain) = true)
    (iBagain : PySem.W.isFn K (.ref fBagain) = true)
    (aBdeeds : PySem.W.findIn K (.ref CB) "deeds" = some (some (.ref fBdeeds)))
    (lBdeeds : K.lookup fBdeeds = some ⟨ocBdeeds, odBdeeds, .func (PySem.W.fnOf "deeds" "Bench.deeds" (defArgs sBDeeds) (defBody sBDeeds) (defScope sBDeeds) .none kVBdeeds dcBdeeds pmBdeeds anBdeeds cdBdeeds ctBdeeds), slBdeeds⟩)
    (c_Bdeeds : PySem.W.codeIn K cdBdeeds "Bench.deeds" = true)
    (kBdeeds : PySem.W.keepIn K (.ref fBdeeds) = true)
    (iBdeeds : PySem.W.isFn K (.ref fBdeeds) = true)
    (zBLOCKS : PySem.W.nsIn K mainGlobals "BLOCKS" = some (some (.int 4 uBLOCKS)))
    (zMP : PySem.W.nsIn K mainGlobals "MOST_PIECES" = some (some (.int 12 uMP)))
    (zMD : PySem.W.nsIn K mainGlobals "MOST_DISKS" = some (some (.int 6 uMD)))
    (zMN : PySem.W.nsIn K mainGlobals "MOST_NUMBER" = some (some (.int 999 uMN)))
    (zMC : PySem.W.nsIn K mainGlobals "MOST_COUNT" = some (some (.int 1000000 uMC)))
    (z_list : PySem.W.nsIn K mainGlobals "list" = some none)
    (z_int : PySem.W.nsIn K mainGlobals "int" = some none)
    (z_len : PySem.W.nsIn K mainGlobals "len" = some none)
    (z_isinstance : PySem.W.nsIn K mainGlobals "isinstance" = some none)
    (z_bool : PySem.W.nsIn K mainGlobals "bool" = some none)
    (z_str : PySem.W.nsIn K mainGlobals "str" = some none)
    (z_tuple : PySem.W.nsIn K mainGlobals "tuple" = some none)
    (z_range : PySem.W.nsIn K mainGlobals "range" = some none)
    (z_enumerate : PySem.W.nsIn K mainGlobals "enumerate" = some none)
    (z_ValueError : PySem.W.nsIn K mainGlobals "ValueError" = some none)
    (ge0 : PySem.W.nsIn K mainGlobals "BadNumber" = some (some (.ref C0)))
    (x0 : PySem.W.clsIn K C0 = some d0)
    (y0 : d0.mro = [.ref C0, .ref CV, .type "ValueError", .type "Exception", .type "BaseException", .type "object"] ∧ d0.hasDict = true)
    (t0 : PySem.W.typeIn K (.ref C0) = some (.type "type"))
    (ga0 : PySem.W.findIn K (.ref C0) "__getattribute__" = some (some (.builtin "BaseException.__getattribute__")))
    (gg0 : PySem.W.findIn K (.ref C0) "__getattr__" = some none)
    (cc0 : PySem.W.findIn K (.ref C0) "__class__" = some (some (.builtin "object.__class__")))
    (xq0 : PySem.W.excIn K C0 [.type "ValueError", .type "Exception", .type "BaseException", .type "object"] "ValueError.__new__" = true)
    (xk0 : PySem.W.keepIn K (.ref C0) = true)
    (ge1 : PySem.W.nsIn K mainGlobals "BadSizes" = some (some (.ref C1)))
    (x1 : PySem.W.clsIn K C1 = some d1)
    (y1 : d1.mro = [.ref C1, .ref CV, .type "ValueError", .type "Exception", .type "BaseException", .type "object"] ∧ d1.hasDict = true)
    (t1 : PySem.W.typeIn K (.ref C1) = some (.type "type"))
    (ga1 : PySem.W.findIn K (.ref C1) "__getattribute__" = some (some (.builtin "BaseException.__getattribute__")))
    (gg1 : PySem.W.findIn K (.ref C1) "__getattr__" = some none)
    (cc1 : PySem.W.findIn K (.ref C1) "__class__" = some (some (.builtin "object.__class__")))
    (xq1 : PySem.W.excIn K C1 [.type "ValueError", .type "Exception", .type "BaseException", .type "object"] "ValueError.__new__" = true)
    (xk1 : PySem.W.keepIn K (.ref C1) = true)
    (ge2 : PySem.W.nsIn K mainGlobals "BadText" = some (some (.ref C2)))
    (x2 : PySem.W.clsIn K C2 = some d2)
    (y2 : d2.mro = [.ref C2, .ref CV, .type "ValueError", .type "Exception", .type "BaseException", .type "object"] ∧ d2.hasDict = true)
    (t2 : PySem.W.typeIn K (.ref C2) = some (.type "type"))
    (ga2 : PySem.W.findIn K (.ref C2) "__getattribute__" = some (some (.builtin "BaseException.__getattribute__")))
    (gg2 : PySem.W.findIn K (.ref C2) "__getattr__" = some none)
    (cc2 : PySem.W.findIn K (.ref C2) "__class__" = some (some (.builtin "object.__class__")))
    (ge3 : PySem.W.nsIn K mainGlobals "BadVolume" = some (some (.ref C3)))
    (x3 : PySem.W.clsIn K C3 = some d3)
    (y3 : d3.mro = [.ref C3, .ref CV, .type "ValueError", .type "Exception", .type "BaseException", .type "object"] ∧ d3.hasDict = true)
    (t3 : PySem.W.typeIn K (.ref C3) = some (.type "type"))
    (ga3 : PySem.W.findIn K (.ref C3) "__getattribute__" = some (some (.builtin "BaseException.__getattribute__")))
    (gg3 : PySem.W.findIn K (.ref C3) "__getattr__" = some none)
    (cc3 : PySem.W.findIn K (.ref C3) "__class__" = some (some (.builtin "object.__class__")))
    (ge4 : PySem.W.nsIn K mainGlobals "Full" = some (some (.ref C4)))
    (x4 : PySem.W.clsIn K C4 = some d4)
    (y4 : d4.mro = [.ref C4, .ref CV, .type "ValueError", .type "Exception", .type "BaseException", .type "object"] ∧ d4.hasDict = true)
    (t4 : PySem.W.typeIn K (.ref C4) = some (.type "type"))
    (ga4 : PySem.W.findIn K (.ref C4) "__getattribute__" = some (some (.builtin "BaseException.__getattribute__")))
    (gg4 : PySem.W.findIn K (.ref C4) "__getattr__" = some none)
    (cc4 : PySem.W.findIn K (.ref C4) "__class__" = some (some (.builtin "object.__class__")))
    (ge5 : PySem.W.nsIn K mainGlobals "Lost" = some (some (.ref C5)))
    (x5 : PySem.W.clsIn K C5 = some d5)
    (y5 : d5.mro = [.ref C5, .ref CV, .type "ValueError", .type "Exception", .type "BaseException", .type "object"] ∧ d5.hasDict = true)
    (t5 : PySem.W.typeIn K (.ref C5) = some (.type "type"))
    (ga5 : PySem.W.findIn K (.ref C5) "__getattribute__" = some (some (.builtin "BaseException.__getattribute__")))
    (gg5 : PySem.W.findIn K (.ref C5) "__getattr__" = some none)
    (cc5 : PySem.W.findIn K (.ref C5) "__class__" = some (some (.builtin "object.__class__")))
    (ge6 : PySem.W.nsIn K mainGlobals "NoBlock" = some (some (.ref C6)))
    (x6 : PySem.W.clsIn K C6 = some d6)
    (y6 : d6.mro = [.ref C6, .ref CV, .type "ValueError", .type "Exception", .type "BaseException", .type "object"] ∧ d6.hasDict = true)
    (t6 : PySem.W.typeIn K (.ref C6) = some (.type "type"))
    (ga6 : PySem.W.findIn K (.ref C6) "__getattribute__" = some (some (.builtin "BaseException.__getattribute__")))
    (gg6 : PySem.W.findIn K (.ref C6) "__getattr__" = some none)
    (cc6 : PySem.W.findIn K (.ref C6) "__class__" = some (some (.builtin "object.__class__")))
    (xq6 : PySem.W.excIn K C6 [.type "ValueError", .type "Exception", .type "BaseException", .type "object"] "ValueError.__new__" = true)
    (xk6 : PySem.W.keepIn K (.ref C6) = true)
    (ge7 : PySem.W.nsIn K mainGlobals "NoDisk" = some (some (.ref C7)))
    (x7 : PySem.W.clsIn K C7 = some d7)
    (y7 : d7.mro = [.ref C7, .ref CV, .type "ValueError", .type "Exception", .type "BaseException", .type "object"] ∧ d7.hasDict = true)
    (t7 : PySem.W.typeIn K (.ref C7) = some (.type "type"))
    (ga7 : PySem.W.findIn K (.ref C7) "__getattribute__" = some (some (.builtin "BaseException.__getattribute__")))
    (gg7 : PySem.W.findIn K (.ref C7) "__getattr__" = some none)
    (cc7 : PySem.W.findIn K (.ref C7) "__class__" = some (some (.builtin "object.__class__")))
    (xq7 : PySem.W.excIn K C7 [.type "ValueError", .type "Exception", .type "BaseException", .type "object"] "ValueError.__new__" = true)
    (xk7 : PySem.W.keepIn K (.ref C7) = true)
    (ge8 : PySem.W.nsIn K mainGlobals "NoVolume" = some (some (.ref C8)))
    (x8 : PySem.W.clsIn K C8 = some d8)
    (y8 : d8.mro = [.ref C8, .ref CV, .type "ValueError", .type "Exception", .type "BaseException", .type "object"] ∧ d8.hasDict = true)
    (t8 : PySem.W.typeIn K (.ref C8) = some (.type "type"))
    (ga8 : PySem.W.findIn K (.ref C8) "__getattribute__" = some (some (.builtin "BaseException.__getattribute__")))
    (gg8 : PySem.W.findIn K (.ref C8) "__getattr__" = some none)
    (cc8 : PySem.W.findIn K (.ref C8) "__class__" = some (some (.builtin "object.__class__")))
    (ge9 : PySem.W.nsIn K mainGlobals "Stopped" = some (some (.ref C9)))
    (x9 : PySem.W.clsIn K C9 = some d9)
    (y9 : d9.mro = [.ref C9, .ref CV, .type "ValueError", .type "Exception", .type "BaseException", .type "object"] ∧ d9.hasDict = true)
    (t9 : PySem.W.typeIn K (.ref C9) = some (.type "type"))
    (ga9 : PySem.W.findIn K (.ref C9) "__getattribute__" = some (some (.builtin "BaseException.__getattribute__")))
    (gg9 : PySem.W.findIn K (.ref C9) "__getattr__" = some none)
    (cc9 : PySem.W.findIn K (.ref C9) "__class__" = some (some (.builtin "object.__class__")))
    (xq9 : PySem.W.excIn K C9 [.type "ValueError", .type "Exception", .type "BaseException", .type "object"] "ValueError.__new__" = true)
    (xk9 : PySem.W.keepIn K (.ref C9) = true)
    (gV : PySem.W.nsIn K mainGlobals "VolumeError" = some (some (.ref CV)))
    (nde : ([C0, C1, C2, C3, C4, C5, C6, C7, C8, C9] ++ [CV]).Nodup)
    (hn : PySem.W.specialIn K (.builtin "object.__class__") "__get__" = some (some (.builtin "getset_descriptor.__get__")))
    (ht : PySem.W.takesIn K (.builtin "object.__class__") = some true)
    (e1 : PySem.W.subIn K (.ref CV) (.type "BaseException") = some true)
    (e2 : PySem.W.isClsIn K CV = true)
    (e3 : PySem.W.typeIn K (.ref CV) = some (.type "type"))
    (nf : PySem.W.findIn K (.ref C2) "row" = some none)
    (ndP : [PCo, PTu, PLo].Nodup) :
    LamX.LawAtS l w K CX0 37 63 "_law_script" mg fa h := by
  have e := hfa.symm.trans (PySem.W.mg_of X G aLa)
  cases e
  have T : Txt K mg := ⟨PySem.W.mg_none_of X G z_list, PySem.W.mg_none_of X G z_int, PySem.W.mg_none_of X G z_len, PySem.W.mg_none_of X G z_isinstance, PySem.W.mg_none_of X G z_bool, PySem.W.mg_none_of X G z_str, PySem.W.mg_none_of X G z_tuple, PySem.W.mg_none_of X G z_range, PySem.W.mg_none_of X G z_enumerate⟩
  have FBe := fun_mk (st := sBegun) lBe c_Be kBe
  have gBe := PySem.W.mg_of X G aBe
  have bBe := FBe.binds (ps := ["_law_script"]) fun _ _ _ _ _ _ us hl => match us, hl with | [_], _ => rfl
  have FTa := fun_mk (st := sTake) lTa c_Ta kTa
  have gTa := PySem.W.mg_of X G aTa
  have bTa := FTa.binds (ps := ["_law_box", "_law_many"]) fun _ _ _ _ _ _ us hl => match us, hl with | [_, _], _ => rfl
  have FAl := fun_mk (st := sAlike) lAl c_Al kAl
  have gAl := PySem.W.mg_of X G aAl
  have bAl := FAl.binds (ps := ["_law_found", "_law_due"]) fun _ _ _ _ _ _ us hl => match us, hl with | [_, _], _ => rfl
  have FTo := fun_mk (st := sTold) lTo c_To kTo
  have gTo := PySem.W.mg_of X G aTo
  have bTo := FTo.binds (ps := ["_law_work"]) fun _ _ _ _ _ _ us hl => match us, hl with | [_], _ => rfl
  have FAa := fun_mk (st := sAll) lAa c_Aa kAa
  have gAa := PySem.W.mg_of X G aAa
  have bAa := FAa.binds (ps := ["_law_works", "_law_due"]) fun _ _ _ _ _ _ us hl => match us, hl with | [_, _], _ => rfl
  have FDe := fun_mk (st := sDeed) lDe c_De kDe
  have gDe := PySem.W.mg_of X G aDe
  have bDe := FDe.binds (ps := ["_law_own", "_law_disk_here"]) fun _ _ _ _ _ _ us hl => match us, hl with | [_, _], _ => rfl
  have FLd := fun_mk (st := sLDisk) lLd c_Ld kLd
  have gLd := PySem.W.mg_of X G aLd
  have bLd := FLd.binds (ps := ["_law_size"]) fun _ _ _ _ _ _ us hl => match us, hl with | [_], _ => rfl
  have FNu := fun_mk (st := sIsNum) lNu c_Nu kNu
  have gNu := PySem.W.mg_of X G aNu
  have bNu := FNu.binds (ps := ["part", "low", "high"]) fun _ _ _ _ _ _ us hl => match us, hl with | [_, _, _], _ => rfl
  have FLa := fun_mk (st := sLaw) lLa c_La kLa
  have gLa := PySem.W.mg_of X G aLa
  have bLa := FLa.binds (ps := ["_law_script"]) fun _ _ _ _ _ _ us hl => match us, hl with | [_], _ => rfl
  subst elCo
  have FCo := funC_mk (st := sComes) lCo c_Co kCo
  have gCo := PySem.W.mg_of X G aCo
  have bCo := (fun_mk (st := sComes) lCo c_Co kCo).binds (ps := ["_law_box", "_law_bench", "_law_own", "_law_disk_here", "_law_way"]) fun _ _ _ _ _ _ us hl => match us, hl with | [_, _, _, _, _], _ => rfl
  subst elTu
  have FTu := funC_mk (st := sTurn) lTu c_Tu kTu
  have gTu := PySem.W.mg_of X G aTu
  have bTu := (fun_mk (st := sTurn) lTu c_Tu kTu).binds (ps := ["_law_box", "_law_bench", "_law_own"]) fun _ _ _ _ _ _ us hl => match us, hl with | [_, _, _], _ => rfl
  subst elLo
  have FLo := funC_mk (st := sLong) lLo c_Lo kLo
  have gLo := PySem.W.mg_of X G aLo
  have bLo := (fun_mk (st := sLong) lLo c_Lo kLo).binds (ps := ["_law_box"]) fun _ _ _ _ _ _ us hl => match us, hl with | [_], _ => rfl
  have gcCB := PySem.W.mg_of X G gCB
  have clCB : Cls K CB := ⟨pgCB, hdCB, poCB, saCB⟩
  have FBI := fun_mk (st := sBInit) lBI c_BI kBI
  have mBI : Meth K CB "__init__" fBI := ⟨aBI, iBI, kBI⟩
  have bBI := FBI.binds (ps := ["self", "sizes"]) fun _ _ _ _ _ _ us hl => match us, hl with | [_, _], _ => rfl
  have mkBI : Mk K CB fBI := ⟨mkCB, aBI, iBI, kcCB⟩
  have gcCD := PySem.W.mg_of X G gCD
  have clCD : Cls K CD := ⟨pgCD, hdCD, poCD, saCD⟩
  have FDI := fun_mk (st := sDInit) lDI c_DI kDI
  have mDI : Meth K CD "__init__" fDI := ⟨aDI, iDI, kDI⟩
  have bDI := FDI.binds (ps := ["self", "size"]) fun _ _ _ _ _ _ us hl => match us, hl with | [_, _], _ => rfl
  have mkDI : Mk K CD fDI := ⟨mkCD, aDI, iDI, kcCD⟩
  have FBdisk := fun_mk (st := sBDisk) lBdisk c_Bdisk kBdisk
  have mBdisk : Meth K CB "disk" fBdisk := ⟨aBdisk, iBdisk, kBdisk⟩
  have bBdisk := FBdisk.binds (ps := ["self", "number"]) fun _ _ _ _ _ _ us hl => match us, hl with | [_, _], _ => rfl
  have FBblocks := fun_mk (st := sBBlocks) lBblocks c_Bblocks kBblocks
  have mBblocks : Meth K CB "blocks" fBblocks := ⟨aBblocks, iBblocks, kBblocks⟩
  have bBblocks := FBblocks.binds (ps := ["self", "number", "piece", "block"]) fun _ _ _ _ _ _ us hl => match us, hl with | [_, _, _, _], _ => rfl
  have FBspend := fun_mk (st := sBSpend) lBspend c_Bspend kBspend
  have mBspend : Meth K CB "spend" fBspend := ⟨aBspend, iBspend, kBspend⟩
  have bBspend := FBspend.binds (ps := ["self"]) fun _ _ _ _ _ _ us hl => match us, hl with | [_], _ => rfl
  have FBget := fun_mk (st := sBGet) lBget c_Bget kBget
  have mBget : Meth K CB "get" fBget := ⟨aBget, iBget, kBget⟩
  have bBget := FBget.binds (ps := ["self", "number", "piece", "block"]) fun _ _ _ _ _ _ us hl => match us, hl with | [_, _, _, _], _ => rfl
  have FBput := fun_mk (st := sBPut) lBput c_Bput kBput
  have mBput : Meth K CB "put" fBput := ⟨aBput, iBput, kBput⟩
  have bBput := FBput.binds (ps := ["self", "number", "piece", "block", "worth"]) fun _ _ _ _ _ _ us hl => match us, hl with | [_, _, _, _, _], _ => rfl
  have FBsheet := fun_mk (st := sBSheet) lBsheet c_Bsheet kBsheet
  have mBsheet : Meth K CB "sheet" fBsheet := ⟨aBsheet, iBsheet, kBsheet⟩
  have bBsheet := FBsheet.binds (ps := ["self", "number"]) fun _ _ _ _ _ _ us hl => match us, hl with | [_, _], _ => rfl
  have FBlay := fun_mk (st := sBLay) lBlay c_Blay kBlay
  have mBlay : Meth K CB "lay" fBlay := ⟨aBlay, iBlay, kBlay⟩
  have bBlay := FBlay.binds (ps := ["self", "number", "sheet"]) fun _ _ _ _ _ _ us hl => match us, hl with | [_, _, _], _ => rfl
  have FBlose := fun_mk (st := sBLose) lBlose c_Blose kBlose
  have mBlose : Meth K CB "lose" fBlose := ⟨aBlose, iBlose, kBlose⟩
  have bBlose := FBlose.binds (ps := ["self", "number"]) fun _ _ _ _ _ _ us hl => match us, hl with | [_, _], _ => rfl
  have FBbring := fun_mk (st := sBBring) lBbring c_Bbring kBbring
  have mBbring : Meth K CB "bring" fBbring := ⟨aBbring, iBbring, kBbring⟩
  have bBbring := FBbring.binds (ps := ["self", "number", "size"]) fun _ _ _ _ _ _ us hl => match us, hl with | [_, _, _], _ => rfl
  have FBsizes := fun_mk (st := sBSizes) lBsizes c_Bsizes kBsizes
  have mBsizes : Meth K CB "sizes" fBsizes := ⟨aBsizes, iBsizes, kBsizes⟩
  have bBsizes := FBsizes.binds (ps := ["self"]) fun _ _ _ _ _ _ us hl => match us, hl with | [_], _ => rfl
  have FBarm := fun_mk (st := sBArm) lBarm c_Barm kBarm
  have mBarm : Meth K CB "arm" fBarm := ⟨aBarm, iBarm, kBarm⟩
  have bBarm := FBarm.binds (ps := ["self", "count"]) fun _ _ _ _ _ _ us hl => match us, hl with | [_, _], _ => rfl
  have FBagain := fun_mk (st := sBAgain) lBagain c_Bagain kBagain
  have mBagain : Meth K CB "again" fBagain := ⟨aBagain, iBagain, kBagain⟩
  have bBagain := FBagain.binds (ps := ["self"]) fun _ _ _ _ _ _ us hl => match us, hl with | [_], _ => rfl
  have FBdeeds := fun_mk (st := sBDeeds) lBdeeds c_Bdeeds kBdeeds
  have mBdeeds : Meth K CB "deeds" fBdeeds := ⟨aBdeeds, iBdeeds, kBdeeds⟩
  have bBdeeds := FBdeeds.binds (ps := ["self"]) fun _ _ _ _ _ _ us hl => match us, hl with | [_], _ => rfl
  have gBLOCKS := PySem.W.mg_of X G zBLOCKS
  have gMP := PySem.W.mg_of X G zMP
  have gMD := PySem.W.mg_of X G zMD
  have gMN := PySem.W.mg_of X G zMN
  have gMC := PySem.W.mg_of X G zMC
  have TK : ToldK K mg (cAt [C0, C1, C2, C3, C4, C5, C6, C7, C8, C9]) CV := toldK_mk rfl nde (fun C hC => by
      simp only [List.mem_cons, List.not_mem_nil, or_false] at hC
      rcases hC with rfl | rfl | rfl | rfl | rfl | rfl | rfl | rfl | rfl | rfl
      · exact ⟨⟨d0, x0, y0.1, y0.2⟩, t0, ga0, gg0, cc0⟩
      · exact ⟨⟨d1, x1, y1.1, y1.2⟩, t1, ga1, gg1, cc1⟩
      · exact ⟨⟨d2, x2, y2.1, y2.2⟩, t2, ga2, gg2, cc2⟩
      · exact ⟨⟨d3, x3, y3.1, y3.2⟩, t3, ga3, gg3, cc3⟩
      · exact ⟨⟨d4, x4, y4.1, y4.2⟩, t4, ga4, gg4, cc4⟩
      · exact ⟨⟨d5, x5, y5.1, y5.2⟩, t5, ga5, gg5, cc5⟩
      · exact ⟨⟨d6, x6, y6.1, y6.2⟩, t6, ga6, gg6, cc6⟩
      · exact ⟨⟨d7, x7, y7.1, y7.2⟩, t7, ga7, gg7, cc7⟩
      · exact ⟨⟨d8, x8, y8.1, y8.2⟩, t8, ga8, gg8, cc8⟩
      · exact ⟨⟨d9, x9, y9.1, y9.2⟩, t9, ga9, gg9, cc9⟩) hn ht e1 e2 e3 (fun i hi => by
      match i, hi with
      | 0, _ => exact ⟨_, rfl, PySem.W.mg_of X G ge0⟩
      | 1, _ => exact ⟨_, rfl, PySem.W.mg_of X G ge1⟩
      | 2, _ => exact ⟨_, rfl, PySem.W.mg_of X G ge2⟩
      | 3, _ => exact ⟨_, rfl, PySem.W.mg_of X G ge3⟩
      | 4, _ => exact ⟨_, rfl, PySem.W.mg_of X G ge4⟩
      | 5, _ => exact ⟨_, rfl, PySem.W.mg_of X G ge5⟩
      | 6, _ => exact ⟨_, rfl, PySem.W.mg_of X G ge6⟩
      | 7, _ => exact ⟨_, rfl, PySem.W.mg_of X G ge7⟩
      | 8, _ => exact ⟨_, rfl, PySem.W.mg_of X G ge8⟩
      | 9, _ => exact ⟨_, rfl, PySem.W.mg_of X G ge9⟩) (PySem.W.mg_of X G gV) (PySem.W.mg_none_of X G z_ValueError) nf
  have er0 : ErrC K mg "BadNumber" (cAt [C0, C1, C2, C3, C4, C5, C6, C7, C8, C9] 0) := ⟨PySem.W.mg_of X G ge0, xq0, xk0, (ClsF.mk (CV := CV) ⟨d0, x0, y0.1, y0.2⟩ t0 ga0 gg0 cc0).sub (by simp), t0⟩
  have er1 : ErrC K mg "BadSizes" (cAt [C0, C1, C2, C3, C4, C5, C6, C7, C8, C9] 1) := ⟨PySem.W.mg_of X G ge1, xq1, xk1, (ClsF.mk (CV := CV) ⟨d1, x1, y1.1, y1.2⟩ t1 ga1 gg1 cc1).sub (by simp), t1⟩
  have er6 : ErrC K mg "NoBlock" (cAt [C0, C1, C2, C3, C4, C5, C6, C7, C8, C9] 6) := ⟨PySem.W.mg_of X G ge6, xq6, xk6, (ClsF.mk (CV := CV) ⟨d6, x6, y6.1, y6.2⟩ t6 ga6 gg6 cc6).sub (by simp), t6⟩
  have er7 : ErrC K mg "NoDisk" (cAt [C0, C1, C2, C3, C4, C5, C6, C7, C8, C9] 7) := ⟨PySem.W.mg_of X G ge7, xq7, xk7, (ClsF.mk (CV := CV) ⟨d7, x7, y7.1, y7.2⟩ t7 ga7 gg7 cc7).sub (by simp), t7⟩
  have er9 : ErrC K mg "Stopped" (cAt [C0, C1, C2, C3, C4, C5, C6, C7, C8, C9] 9) := ⟨PySem.W.mg_of X G ge9, xq9, xk9, (ClsF.mk (CV := CV) ⟨d9, x9, y9.1, y9.2⟩ t9 ga9 gg9 cc9).sub (by simp), t9⟩
  have memT : ∀ p : Addr × Addr, p ∈ [(qCo, PCo), (qTu, PTu), (qLo, PLo)] → p = (qCo, PCo) ∨ p = (qTu, PTu) ∨ p = (qLo, PLo) := fun p hp => by simpa using hp
  refine ⟨PySem.W.fnOf "law" "law" (defArgs sLaw) (defBody sLaw) (defScope sLaw) .none kVLa dcLa pmLa anLa cdLa ctLa, [(qCo, PCo), (qTu, PTu), (qLo, PLo)], (spLaw K [(PCo, ("_law_comes.<locals>.<lambda>" : Str)), (PTu, ("_law_turn.<locals>.<lambda>" : Str)), (PLo, ("_law_is_long.<locals>.<lambda>" : Str))]), fun p hp => ?_, fun p hp => ?_, fun p hp => ?_, fun s v => .of_eq rfl, fun H a ns hl hb hT hS => ⟨a, ns, rfl, hS, hl, fun p hp => ?_, fun _ => rfl⟩, fun base _ _ hTB => ?_⟩
  · rcases memT p hp with rfl | rfl | rfl
    · exact tbCo
    · exact tbTu
    · exact tbLo
  · rcases memT p hp with rfl | rfl | rfl
    · exact nPCo
    · exact nPTu
    · exact nPLo
  · rcases memT p hp with rfl | rfl | rfl
    · exact PySem.W.codeHd_of_K X chdCo
    · exact PySem.W.codeHd_of_K X chdTu
    · exact PySem.W.codeHd_of_K X chdLo
  · have hp : p = (PCo, ("_law_comes.<locals>.<lambda>" : Str)) ∨ p = (PTu, ("_law_turn.<locals>.<lambda>" : Str)) ∨ p = (PLo, ("_law_is_long.<locals>.<lambda>" : Str)) := by simpa using hp
    rcases hp with rfl | rfl | rfl
    · exact TabS.nil (hT (qCo, PCo) (by simp))
    · exact TabS.nil (hT (qTu, PTu) (by simp))
    · exact TabS.nil (hT (qLo, PLo) (by simp))
  have TBCo := hTB (qCo, PCo) (by simp)
  have TBTu := hTB (qTu, PTu) (by simp)
  have TBLo := hTB (qLo, PLo) (by simp)
  have hmCo : (PCo, ("_law_comes.<locals>.<lambda>" : Str)) ∈ [(PCo, ("_law_comes.<locals>.<lambda>" : Str)), (PTu, ("_law_turn.<locals>.<lambda>" : Str)), (PLo, ("_law_is_long.<locals>.<lambda>" : Str))] := by simp
  have hmTu : (PTu, ("_law_turn.<locals>.<lambda>" : Str)) ∈ [(PCo, ("_law_comes.<locals>.<lambda>" : Str)), (PTu, ("_law_turn.<locals>.<lambda>" : Str)), (PLo, ("_law_is_long.<locals>.<lambda>" : Str))] := by simp
  have hmLo : (PLo, ("_law_is_long.<locals>.<lambda>" : Str)) ∈ [(PCo, ("_law_comes.<locals>.<lambda>" : Str)), (PTu, ("_law_turn.<locals>.<lambda>" : Str)), (PLo, ("_law_is_long.<locals>.<lambda>" : Str))] := by simp
  have huCo : ∀ p ∈ [(PCo, ("_law_comes.<locals>.<lambda>" : Str)), (PTu, ("_law_turn.<locals>.<lambda>" : Str)), (PLo, ("_law_is_long.<locals>.<lambda>" : Str))], p.1 = PCo → p.2 = ("_law_comes.<locals>.<lambda>" : Str) := tab_uniq ndP 0 ⟨rfl, rfl⟩
  have huTu : ∀ p ∈ [(PCo, ("_law_comes.<locals>.<lambda>" : Str)), (PTu, ("_law_turn.<locals>.<lambda>" : Str)), (PLo, ("_law_is_long.<locals>.<lambda>" : Str))], p.1 = PTu → p.2 = ("_law_turn.<locals>.<lambda>" : Str) := tab_uniq ndP 1 ⟨rfl, rfl⟩
  have huLo : ∀ p ∈ [(PCo, ("_law_comes.<locals>.<lambda>" : Str)), (PTu, ("_law_turn.<locals>.<lambda>" : Str)), (PLo, ("_law_is_long.<locals>.<lambda>" : Str))], p.1 = PLo → p.2 = ("_law_is_long.<locals>.<lambda>" : Str) := tab_uniq ndP 2 ⟨rfl, rfl⟩
  have BK : BenchK K CB CD := ⟨clCB, clCD, nCB_disks, nCB_left, nCB_stands, nCB_many, nCD_pieces, nCD_paper, nCD_here⟩
  have ER : Errs K mg (cAt [C0, C1, C2, C3, C4, C5, C6, C7, C8, C9]) := ⟨er0, er1, er6, er7, er9⟩
  have GN := ok_isnum (P := l.prog) (w := w) (base := base) FNu T
  have Gdisk := ok_disk (P := l.prog) (w := w) (base := base) FBdisk T BK er9 er7 FNu bNu gNu GN
  have Gblocks := ok_blocks (P := l.prog) (w := w) (base := base) FBblocks T BK ER gBLOCKS FNu bNu gNu GN mBdisk bBdisk Gdisk
  have Gspend := ok_spend (P := l.prog) (w := w) (mg := mg) (base := base) FBspend T BK ER
  have Gget := ok_get (P := l.prog) (w := w) (base := base) FBget T BK mBblocks bBblocks Gblocks
  have Gput := ok_put (P := l.prog) (w := w) (base := base) FBput T BK ER gMN FNu bNu gNu GN mBblocks bBblocks Gblocks mBspend bBspend Gspend
  have Gsheet := ok_sheet (P := l.prog) (w := w) (base := base) FBsheet T BK mBdisk bBdisk Gdisk
  have Glay := ok_lay (P := l.prog) (w := w) (base := base) FBlay T BK mBdisk bBdisk Gdisk mBspend bBspend Gspend
  have Glose := ok_lose (P := l.prog) (w := w) (base := base) FBlose T BK mBdisk bBdisk Gdisk
  have Gagain := ok_again (P := l.prog) (w := w) (mg := mg) (base := base) FBagain BK
  have Gdeeds := ok_deeds (P := l.prog) (w := w) (mg := mg) (base := base) FBdeeds BK
  have Garm := ok_arm (P := l.prog) (w := w) (base := base) FBarm BK ER gMC FNu bNu gNu GN
  have Gsizes := ok_sizes (P := l.prog) (w := w) (base := base) FBsizes T BK
  have GDI := ok_dinit (P := l.prog) (w := w) (base := base) FDI T clCD nCD_pieces nCD_paper nCD_here gBLOCKS
  have Gbring := ok_bring (P := l.prog) (w := w) (base := base) FBbring T BK ER gMP FNu bNu gNu GN mkDI bDI gcCD GDI
  have GBI := ok_binit (P := l.prog) (w := w) (base := base) FBI T BK ER gMP gMD FNu bNu gNu GN mkDI bDI gcCD GDI
  have BF : BenchFns l.prog w K mg base (cAt [C0, C1, C2, C3, C4, C5, C6, C7, C8, C9]) CB CD := ⟨⟨_, _, mBget, bBget, Gget⟩, ⟨_, _, mBput, bBput, Gput⟩, ⟨_, _, mBsheet, bBsheet, Gsheet⟩, ⟨_, _, mBlay, bBlay, Glay⟩, ⟨_, _, mBlose, bBlose, Glose⟩, ⟨_, _, mBbring, bBbring, Gbring⟩,
    ⟨_, _, mBsizes, bBsizes, Gsizes⟩, ⟨_, _, mBarm, bBarm, Garm⟩, ⟨_, _, mBagain, bBagain, Gagain⟩, ⟨_, _, mBdeeds, bBdeeds, Gdeeds⟩, clCB⟩
  have GA : ∀ base n, FnOk l.prog w K mg base CX0 n fAl _ ["_law_found", "_law_due"] (spAlike K n) := fun base n => ok_alike FAl T gAl bAl n
  have GTo : ∀ base, FnOkT l.prog w K mg base CX0 30 31 fTo _ ["_law_work"] (spTold (cAt [C0, C1, C2, C3, C4, C5, C6, C7, C8, C9])) := fun base => ok_told FTo T TK
  have C_take : Cf l.prog w K mg base CX0 "_law_take" 1 ["_law_box", "_law_many"] spTake := ⟨_, _, gTa, kTa, bTa, ok_take FTa⟩
  have C_begun : Cf l.prog w K mg base CX0 "_law_begun" 1 ["_law_script"] (spBegun K) := ⟨_, _, gBe, kBe, bBe, ok_begun FBe T⟩
  have C_alike : Cf l.prog w K mg base CX0 "_law_alike" 20 ["_law_found", "_law_due"] (spAlike K 20) := ⟨_, _, gAl, kAl, bAl, GA base 20⟩
  have C_told : Ct l.prog w K mg base CX0 30 "_law_told" 31 ["_law_work"] (spTold (cAt [C0, C1, C2, C3, C4, C5, C6, C7, C8, C9])) := ⟨_, _, gTo, kTo, bTo, GTo base⟩
  have C_all : Cb l.prog w K mg base CX0 30 "_law_all" 32 ["_law_works", "_law_due"] (spAll K (cAt [C0, C1, C2, C3, C4, C5, C6, C7, C8, C9])) := ⟨_, _, gAa, kAa, bAa, ok_all FAa T FTo gTo bTo GTo FAl gAl bAl GA⟩
  have C_ldisk : Cf l.prog w K mg base CX0 "_law_disk" 1 ["_law_size"] spLDisk := ⟨_, _, gLd, kLd, bLd, ok_ldisk FLd T⟩
  have C_deed : Cf l.prog w K mg base CX0 "_law_deed" 1 ["_law_own", "_law_disk_here"] spDeed := ⟨_, _, gDe, kDe, bDe, ok_deed FDe T⟩
  have C_comes : Cf l.prog w K mg base CX0 "_law_comes" 33 ["_law_box", "_law_bench", "_law_own", "_law_disk_here", "_law_way"] (spComes CB CD [(PCo, ("_law_comes.<locals>.<lambda>" : Str)), (PTu, ("_law_turn.<locals>.<lambda>" : Str)), (PLo, ("_law_is_long.<locals>.<lambda>" : Str))]) := ⟨_, _, gCo, kCo, bCo, ok_comes FCo T TBCo hmCo huCo BF C_take C_alike C_told C_ldisk⟩
  have C_turn : Cf l.prog w K mg base CX0 "_law_turn" 35 ["_law_box", "_law_bench", "_law_own"] (spTurn CB CD [(PCo, ("_law_comes.<locals>.<lambda>" : Str)), (PTu, ("_law_turn.<locals>.<lambda>" : Str)), (PLo, ("_law_is_long.<locals>.<lambda>" : Str))]) := ⟨_, _, gTu, kTu, bTu, ok_turn FTu T TBTu hmTu huTu BF C_take C_alike C_told C_deed C_comes⟩
  have C_long : Cf l.prog w K mg base CX0 "_law_is_long" 34 ["_law_box"] (spLong [(PCo, ("_law_comes.<locals>.<lambda>" : Str)), (PTu, ("_law_turn.<locals>.<lambda>" : Str)), (PLo, ("_law_is_long.<locals>.<lambda>" : Str))]) := ⟨_, _, gLo, kLo, bLo, ok_long FLo T TBLo hmLo huLo BF C_take C_all mkBI bBI gcCB GBI⟩
  exact ok_law FLa T BF C_begun C_take C_alike C_ldisk C_turn C_long mkBI bBI gcCB GBI

end VH
open PySem PySem.W PyProof.Rows
set_option maxRecDepth 100000 in
set_option maxHeartbeats 0 in
theorem PySem.Challenge.cw_volumehall_k02_benches_holds : PySem.Challenge.rw_volumehall_k02_benches.Holds := by
  w_on; o_law; k_head; (case hw => w_witness2)
  k_fill
  refine LamX.walk_ofTs (l := PySem.Challenge.rw_volumehall_k02_benches) (n := 63) (k := 37) (x := "_law_script") (CX := fun _ => L2.CX0) rfl (by decide) rfl ⟨rfl, by decide, by decide⟩ (fun w h Y => PySem.W.km_in_of Y) ?F (fun _ _ _ _ _ z => z)
  case F =>
    intro w mg fa h Y KX G hmg
    refine' VH.all_mk KX G hmg ?u_aBe ?u_lBe ?u_c_Be ?u_kBe ?u_aTa ?u_lTa ?u_c_Ta ?u_kTa ?u_aAl ?u_lAl ?u_c_Al ?u_kAl ?u_aTo ?u_lTo ?u_c_To ?u_kTo ?u_aAa ?u_lAa ?u_c_Aa ?u_kAa ?u_aDe ?u_lDe ?u_c_De ?u_kDe ?u_aLd ?u_lLd ?u_c_Ld ?u_kLd ?u_aNu ?u_lNu ?u_c_Nu ?u_kNu ?u_aLa ?u_lLa ?u_c_La ?u_kLa ?u_aCo ?u_lCo ?u_c_Co ?u_kCo ?u_elCo ?u_kcCo ?u_vCo ?u_nPCo ?u_chdCo ?u_tbCo ?u_aTu ?u_lTu ?u_c_Tu ?u_kTu ?u_elTu ?u_kcTu ?u_vTu ?u_nPTu ?u_chdTu ?u_tbTu ?u_aLo ?u_lLo ?u_c_Lo ?u_kLo ?u_elLo ?u_kcLo ?u_vLo ?u_nPLo ?u_chdLo ?u_tbLo ?u_gCB ?u_pgCB ?u_hdCB ?u_poCB ?u_saCB ?u_mkCB ?u_kcCB ?u_nCB_disks ?u_nCB_left ?u_nCB_stands ?u_nCB_many ?u_aBI ?u_lBI ?u_c_BI ?u_kBI ?u_iBI ?u_gCD ?u_pgCD ?u_hdCD ?u_poCD ?u_saCD ?u_mkCD ?u_kcCD ?u_nCD_pieces ?u_nCD_paper ?u_nCD_here ?u_aDI ?u_lDI ?u_c_DI ?u_kDI ?u_iDI ?u_aBdisk ?u_lBdisk ?u_c_Bdisk ?u_kBdisk ?u_iBdisk ?u_aBblocks ?u_lBblocks ?u_c_Bblocks ?u_kBblocks ?u_iBblocks ?u_aBspend ?u_lBspend ?u_c_Bspend ?u_kBspend ?u_iBspend ?u_aBget ?u_lBget ?u_c_Bget ?u_kBget ?u_iBget ?u_aBput ?u_lBput ?u_c_Bput ?u_kBput ?u_iBput ?u_aBsheet ?u_lBsheet ?u_c_Bsheet ?u_kBsheet ?u_iBsheet ?u_aBlay ?u_lBlay ?u_c_Blay ?u_kBlay ?u_iBlay ?u_aBlose ?u_lBlose ?u_c_Blose ?u_kBlose ?u_iBlose ?u_aBbring ?u_lBbring ?u_c_Bbring ?u_kBbring ?u_iBbring ?u_aBsizes ?u_lBsizes ?u_c_Bsizes ?u_kBsizes ?u_iBsizes ?u_aBarm ?u_lBarm ?u_c_Barm ?u_kBarm ?u_iBarm ?u_aBagain ?u_lBagain ?u_c_Bagain ?u_kBagain ?u_iBagain ?u_aBdeeds ?u_lBdeeds ?u_c_Bdeeds ?u_kBdeeds ?u_iBdeeds ?u_zBLOCKS ?u_zMP ?u_zMD ?u_zMN ?u_zMC ?u_z_list ?u_z_int ?u_z_len ?u_z_isinstance ?u_z_bool ?u_z_str ?u_z_tuple ?u_z_range ?u_z_enumerate ?u_z_ValueError ?u_ge0 ?u_x0 ?u_y0 ?u_t0 ?u_ga0 ?u_gg0 ?u_cc0 ?u_xq0 ?u_xk0 ?u_ge1 ?u_x1 ?u_y1 ?u_t1 ?u_ga1 ?u_gg1 ?u_cc1 ?u_xq1 ?u_xk1 ?u_ge2 ?u_x2 ?u_y2 ?u_t2 ?u_ga2 ?u_gg2 ?u_cc2 ?u_ge3 ?u_x3 ?u_y3 ?u_t3 ?u_ga3 ?u_gg3 ?u_cc3 ?u_ge4 ?u_x4 ?u_y4 ?u_t4 ?u_ga4 ?u_gg4 ?u_cc4 ?u_ge5 ?u_x5 ?u_y5 ?u_t5 ?u_ga5 ?u_gg5 ?u_cc5 ?u_ge6 ?u_x6 ?u_y6 ?u_t6 ?u_ga6 ?u_gg6 ?u_cc6 ?u_xq6 ?u_xk6 ?u_ge7 ?u_x7 ?u_y7 ?u_t7 ?u_ga7 ?u_gg7 ?u_cc7 ?u_xq7 ?u_xk7 ?u_ge8 ?u_x8 ?u_y8 ?u_t8 ?u_ga8 ?u_gg8 ?u_cc8 ?u_ge9 ?u_x9 ?u_y9 ?u_t9 ?u_ga9 ?u_gg9 ?u_cc9 ?u_xq9 ?u_xk9 ?u_gV ?u_nde ?u_hn ?u_ht ?u_e1 ?u_e2 ?u_e3 ?u_nf ?u_ndP
    (case u_aBe => k_is)
    (case u_lBe => k_is)
    (case u_c_Be => k_is)
    (case u_kBe => k_is)
    (case u_aTa => k_is)
    (case u_lTa => k_is)
    (case u_c_Ta => k_is)
    (case u_kTa => k_is)
    (case u_aAl => k_is)
    (case u_lAl => k_is)
    (case u_c_Al => k_is)
    (case u_kAl => k_is)
    (case u_aTo => k_is)
    (case u_lTo => k_is)
    (case u_c_To => k_is)
    (case u_kTo => k_is)
    (case u_aAa => k_is)
    (case u_lAa => k_is)
    (case u_c_Aa => k_is)
    (case u_kAa => k_is)
    (case u_aDe => k_is)
    (case u_lDe => k_is)
    (case u_c_De => k_is)
    (case u_kDe => k_is)
    (case u_aLd => k_is)
    (case u_lLd => k_is)
    (case u_c_Ld => k_is)
    (case u_kLd => k_is)
    (case u_aNu => k_is)
    (case u_lNu => k_is)
    (case u_c_Nu => k_is)
    (case u_kNu => k_is)
    (case u_aLa => k_is)
    (case u_lLa => k_is)
    (case u_c_La => k_is)
    (case u_kLa => k_is)
    (case u_aCo => k_is)
    (case u_lCo => k_is)
    (case u_c_Co => k_is)
    (case u_kCo => k_is)
    (case u_elCo => rfl)
    (case u_kcCo => k_is)
    (case u_vCo => rfl)
    (case u_nPCo => rfl)
    (case u_chdCo => rfl)
    (case u_tbCo => exact PySem.W.km_tabs_of Y _ (by decide))
    (case u_aTu => k_is)
    (case u_lTu => k_is)
    (case u_c_Tu => k_is)
    (case u_kTu => k_is)
    (case u_elTu => rfl)
    (case u_kcTu => k_is)
    (case u_vTu => rfl)
    (case u_nPTu => rfl)
    (case u_chdTu => rfl)
    (case u_tbTu => exact PySem.W.km_tabs_of Y _ (by decide))
    (case u_aLo => k_is)
    (case u_lLo => k_is)
    (case u_c_Lo => k_is)
    (case u_kLo => k_is)
    (case u_elLo => rfl)
    (case u_kcLo => k_is)
    (case u_vLo => rfl)
    (case u_nPLo => rfl)
    (case u_chdLo => rfl)
    (case u_tbLo => exact PySem.W.km_tabs_of Y _ (by decide))
    (case u_gCB => k_is)
    (case u_pgCB => k_is)
    (case u_hdCB => k_is)
    (case u_poCB => k_is)
    (case u_saCB => k_is)
    (case u_mkCB => k_is)
    (case u_kcCB => k_is)
    (case u_nCB_disks => k_is)
    (case u_nCB_left => k_is)
    (case u_nCB_stands => k_is)
    (case u_nCB_many => k_is)
    (case u_aBI => k_is)
    (case u_lBI => k_is)
    (case u_c_BI => k_is)
    (case u_kBI => k_is)
    (case u_iBI => k_is)
    (case u_gCD => k_is)
    (case u_pgCD => k_is)
    (case u_hdCD => k_is)
    (case u_poCD => k_is)
    (case u_saCD => k_is)
    (case u_mkCD => k_is)
    (case u_kcCD => k_is)
    (case u_nCD_pieces => k_is)
    (case u_nCD_paper => k_is)
    (case u_nCD_here => k_is)
    (case u_aDI => k_is)
    (case u_lDI => k_is)
    (case u_c_DI => k_is)
    (case u_kDI => k_is)
    (case u_iDI => k_is)
    (case u_aBdisk => k_is)
    (case u_lBdisk => k_is)
    (case u_c_Bdisk => k_is)
    (case u_kBdisk => k_is)
    (case u_iBdisk => k_is)
    (case u_aBblocks => k_is)
    (case u_lBblocks => k_is)
    (case u_c_Bblocks => k_is)
    (case u_kBblocks => k_is)
    (case u_iBblocks => k_is)
    (case u_aBspend => k_is)
    (case u_lBspend => k_is)
    (case u_c_Bspend => k_is)
    (case u_kBspend => k_is)
    (case u_iBspend => k_is)
    (case u_aBget => k_is)
    (case u_lBget => k_is)
    (case u_c_Bget => k_is)
    (case u_kBget => k_is)
    (case u_iBget => k_is)
    (case u_aBput => k_is)
    (case u_lBput => k_is)
    (case u_c_Bput => k_is)
    (case u_kBput => k_is)
    (case u_iBput => k_is)
    (case u_aBsheet => k_is)
    (case u_lBsheet => k_is)
    (case u_c_Bsheet => k_is)
    (case u_kBsheet => k_is)
    (case u_iBsheet => k_is)
    (case u_aBlay => k_is)
    (case u_lBlay => k_is)
    (case u_c_Blay => k_is)
    (case u_kBlay => k_is)
    (case u_iBlay => k_is)
    (case u_aBlose => k_is)
    (case u_lBlose => k_is)
    (case u_c_Blose => k_is)
    (case u_kBlose => k_is)
    (case u_iBlose => k_is)
    (case u_aBbring => k_is)
    (case u_lBbring => k_is)
    (case u_c_Bbring => k_is)
    (case u_kBbring => k_is)
    (case u_iBbring => k_is)
    (case u_aBsizes => k_is)
    (case u_lBsizes => k_is)
    (case u_c_Bsizes => k_is)
    (case u_kBsizes => k_is)
    (case u_iBsizes => k_is)
    (case u_aBarm => k_is)
    (case u_lBarm => k_is)
    (case u_c_Barm => k_is)
    (case u_kBarm => k_is)
    (case u_iBarm => k_is)
    (case u_aBagain => k_is)
    (case u_lBagain => k_is)
    (case u_c_Bagain => k_is)
    (case u_kBagain => k_is)
    (case u_iBagain => k_is)
    (case u_aBdeeds => k_is)
    (case u_lBdeeds => k_is)
    (case u_c_Bdeeds => k_is)
    (case u_kBdeeds => k_is)
    (case u_iBdeeds => k_is)
    (case u_zBLOCKS => k_is)
    (case u_zMP => k_is)
    (case u_zMD => k_is)
    (case u_zMN => k_is)
    (case u_zMC => k_is)
    (case u_z_list => k_is)
    (case u_z_int => k_is)
    (case u_z_len => k_is)
    (case u_z_isinstance => k_is)
    (case u_z_bool => k_is)
    (case u_z_str => k_is)
    (case u_z_tuple => k_is)
    (case u_z_range => k_is)
    (case u_z_enumerate => k_is)
    (case u_z_ValueError => k_is)
    (case u_ge0 => k_is)
    (case u_x0 => k_is)
    (case u_y0 => exact ⟨rfl, rfl⟩)
    (case u_t0 => k_is)
    (case u_ga0 => k_is)
    (case u_gg0 => k_is)
    (case u_cc0 => k_is)
    (case u_xq0 => k_exc)
    (case u_xk0 => k_is)
    (case u_ge1 => k_is)
    (case u_x1 => k_is)
    (case u_y1 => exact ⟨rfl, rfl⟩)
    (case u_t1 => k_is)
    (case u_ga1 => k_is)
    (case u_gg1 => k_is)
    (case u_cc1 => k_is)
    (case u_xq1 => k_exc)
    (case u_xk1 => k_is)
    (case u_ge2 => k_is)
    (case u_x2 => k_is)
    (case u_y2 => exact ⟨rfl, rfl⟩)
    (case u_t2 => k_is)
    (case u_ga2 => k_is)
    (case u_gg2 => k_is)
    (case u_cc2 => k_is)
    (case u_ge3 => k_is)
    (case u_x3 => k_is)
    (case u_y3 => exact ⟨rfl, rfl⟩)
    (case u_t3 => k_is)
    (case u_ga3 => k_is)
    (case u_gg3 => k_is)
    (case u_cc3 => k_is)
    (case u_ge4 => k_is)
    (case u_x4 => k_is)
    (case u_y4 => exact ⟨rfl, rfl⟩)
    (case u_t4 => k_is)
    (case u_ga4 => k_is)
    (case u_gg4 => k_is)
    (case u_cc4 => k_is)
    (case u_ge5 => k_is)
    (case u_x5 => k_is)
    (case u_y5 => exact ⟨rfl, rfl⟩)
    (case u_t5 => k_is)
    (case u_ga5 => k_is)
    (case u_gg5 => k_is)
    (case u_cc5 => k_is)
    (case u_ge6 => k_is)
    (case u_x6 => k_is)
    (case u_y6 => exact ⟨rfl, rfl⟩)
    (case u_t6 => k_is)
    (case u_ga6 => k_is)
    (case u_gg6 => k_is)
    (case u_cc6 => k_is)
    (case u_xq6 => k_exc)
    (case u_xk6 => k_is)
    (case u_ge7 => k_is)
    (case u_x7 => k_is)
    (case u_y7 => exact ⟨rfl, rfl⟩)
    (case u_t7 => k_is)
    (case u_ga7 => k_is)
    (case u_gg7 => k_is)
    (case u_cc7 => k_is)
    (case u_xq7 => k_exc)
    (case u_xk7 => k_is)
    (case u_ge8 => k_is)
    (case u_x8 => k_is)
    (case u_y8 => exact ⟨rfl, rfl⟩)
    (case u_t8 => k_is)
    (case u_ga8 => k_is)
    (case u_gg8 => k_is)
    (case u_cc8 => k_is)
    (case u_ge9 => k_is)
    (case u_x9 => k_is)
    (case u_y9 => exact ⟨rfl, rfl⟩)
    (case u_t9 => k_is)
    (case u_ga9 => k_is)
    (case u_gg9 => k_is)
    (case u_cc9 => k_is)
    (case u_xq9 => k_exc)
    (case u_xk9 => k_is)
    (case u_gV => k_is)
    (case u_nde => decide)
    (case u_hn => k_is)
    (case u_ht => k_is)
    (case u_e1 => k_is)
    (case u_e2 => k_is)
    (case u_e3 => k_is)
    (case u_nf => k_is)
    (case u_ndP => decide)

#print axioms PySem.Challenge.cw_volumehall_k02_benches_holds
