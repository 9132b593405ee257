import PyProof.Rows.All
import Wide.All
import OpenK.AllK
import Wide.FinOn
import HandS.ForMost
import HandS.ForExc
import HandS.EndBits
import HandS.Evl
import HandS.WideBits
import HandS.IsInst
import HandS.RevRange
import HandS.Conv
import HandS.SortInts
import PySem.Challenge.RW_laidwords_k01_overlaps
set_option Elab.async false
set_option linter.all false
set_option maxRecDepth 100000
set_option maxHeartbeats 4000000
namespace Lw
open PySem PySem.Spec PyProof.Rows L2 Evl TL

/-! ### texts by their codes -/
def T (l : List Nat) : V := .str ⟨l.toArray⟩
theorem T_of (z : Str) : V.str z = T (tl z) := by unfold T; rw [mk_tl]
theorem T_inj {a b : List Nat} (h : T a = T b) : a = b := by
  have h1 : (⟨a.toArray⟩ : Str) = ⟨b.toArray⟩ := V.str.inj h
  have h2 := congrArg tl h1
  exact h2
theorem dec_T (a b : List Nat) : decide (T a = T b) = decide (a = b) := by
  by_cases h : a = b
  · subst h; simp
  · rw [decide_eq_false h, decide_eq_false fun e => h (T_inj e)]
theorem T_of_string (s : String) : V.str (Str.ofString s) = T (s.toList.map Char.toNat) := by rw [T_of, tl_ofString]
theorem len_T (a : List Nat) : (⟨a.toArray⟩ : Str).length = a.length := by rw [len_tl]

/-! ### the builtins that the text leaves alone -/
structure Blt (mg : Str → Option Value) : Prop where
  len_ : mg "len" = none
  range_ : mg "range" = none
  min_ : mg "min" = none
  sorted_ : mg "sorted" = none
  reversed_ : mg "reversed" = none
  isinstance_ : mg "isinstance" = none
  set_ : mg "set" = none
  tuple_ : mg "tuple" = none
  list_ : mg "list" = none
  sum_ : mg "sum" = none
  all_ : mg "all" = none
  int_ : mg "int" = none
  bool_ : mg "bool" = none
  str_ : mg "str" = none
  verr_ : mg "ValueError" = none

/-! ### defs that are called -/
section
variable {P : Program} {w : World} {K : PySem.W.Frag} {mg : Str → Option Value} {base : Heap}
structure Cal (P : Program) (w : World) (K : PySem.W.Frag) (mg : Str → Option Value) (base : Heap) (x : Str) (k : Nat) (ps : List Str) (sp : Sp) : Prop where
  ex : ∃ (f : Addr) (fd : FuncData), FnOk P w K mg base (L2.CX P w) k f fd ps sp ∧ mg x = some (.ref f) ∧ PySem.W.keepIn K (.ref f) = true ∧ Binds K fd ps []
structure Dfn (K : PySem.W.Frag) (mg : Str → Option Value) (x : Str) (st : Stmt) : Prop where
  ex : ∃ (f : Addr) (fd : FuncData), Fun K x x st f fd ∧ mg x = some (.ref f)
theorem Dfn.cal {x : Str} {st : Stmt} {N ps : List Str} {k : Nat} {sp : Sp} (D : Dfn K mg x st) (S : FnScope N ps (defScope st))
    (hb : ∀ (kV doc pm : Value) (an : Option Addr) (cdv ct : Value) (us : List Value), us.length = ps.length → bindArgs (PySem.W.fnOf x x (defArgs st) (defBody st) (defScope st) .none kV doc pm an cdv ct) ⟨us, []⟩ = pure (ps.zip us))
    (len : ∀ vs H Q E, sp vs H Q E → vs.length = ps.length)
    (hbody : ∀ (f : Addr) (cdv : Value) (A : Around) (outer : List Env) (s : Shared) (H : Hp) (vs : List V) (Q : VK) (E : XK), Room k (A.deeper (envOfC x (defScope st) s.heap.objs.size f cdv)) → sp vs H Q E →
      ∃ t, PSs (cxOf (L2.CX P w) P w K mg base N x (defScope st) f cdv A outer s H E).nox (defBody st) t ∧ t { nx := fun _ H' => Q .non H', rt := Q } (start N vs) H) : Cal P w K mg base x (k + 1) ps sp := by
  obtain ⟨f, fd, F, hm⟩ := D.ex
  refine ⟨f, fd, F.okX S len (fun cdv A outer s H vs Q E hr h => ?_), hm, F.kp, F.binds hb⟩
  obtain ⟨t, h1, h2⟩ := hbody f cdv A outer s H vs Q E hr h
  exact ⟨t, h1.nox, h2⟩
theorem Dfn.calX {x : Str} {st : Stmt} {N ps : List Str} {k : Nat} {sp : Sp} (D : Dfn K mg x st) (S : FnScope N ps (defScope st))
    (hb : ∀ (kV doc pm : Value) (an : Option Addr) (cdv ct : Value) (us : List Value), us.length = ps.length → bindArgs (PySem.W.fnOf x x (defArgs st) (defBody st) (defScope st) .none kV doc pm an cdv ct) ⟨us, []⟩ = pure (ps.zip us))
    (len : ∀ vs H Q E, sp vs H Q E → vs.length = ps.length)
    (hbody : ∀ (f : Addr) (cdv : Value) (A : Around) (outer : List Env) (s : Shared) (H : Hp) (vs : List V) (Q : VK) (E : XK), Room k (A.deeper (envOfC x (defScope st) s.heap.objs.size f cdv)) → sp vs H Q E →
      ∃ t, PSs (cxOf (L2.CX P w) P w K mg base N x (defScope st) f cdv A outer s H E) (defBody st) t ∧ t { nx := fun _ H' => Q .non H', rt := Q } (start N vs) H) : Cal P w K mg base x (k + 1) ps sp := by
  obtain ⟨f, fd, F, hm⟩ := D.ex
  exact ⟨f, fd, F.okX S len (hbody f), hm, F.kp, F.binds hb⟩
theorem dfn_mk {x : Str} {st : Stmt} {h : Heap} (X : K.In h) (G : h.Ns mainGlobals mg) {f : Addr} {oc : Value} {od an : Option Addr} {osl : Array (Option Value)} {kV doc pm cdv ct : Value} (a : PySem.W.nsIn K mainGlobals x = some (some (.ref f)))
    (l : K.lookup f = some ⟨oc, od, .func (PySem.W.fnOf x x (defArgs st) (defBody st) (defScope st) .none kV doc pm an cdv ct), osl⟩) (c : PySem.W.codeIn K cdv x = true) (k : PySem.W.keepIn K (.ref f) = true) : Dfn K mg x st :=
  ⟨f, _, fun_mk l c k, PySem.W.mg_of X G a⟩
theorem Cal.mono {x : Str} {j k : Nat} {ps : List Str} {sp : Sp} (C : Cal P w K mg base x j ps sp) (h : j ≤ k) : Cal P w K mg base x k ps sp := by
  obtain ⟨f, fd, F, a, b, c⟩ := C.ex
  exact ⟨f, fd, F.mono h, a, b, c⟩
theorem Cal.imp {x : Str} {k : Nat} {ps : List Str} {sp sp' : Sp} (C : Cal P w K mg base x k ps sp) (h : ∀ vs H Q E, sp' vs H Q E → sp vs H Q E) : Cal P w K mg base x k ps sp' := by
  obtain ⟨f, fd, F, a, b, c⟩ := C.ex
  exact ⟨f, fd, F.imp h, a, b, c⟩
end
theorem pe_callC {X : Cx} {x : Str} {k : Nat} {ps : List Str} {sp : Sp} {p pos : Pos} {e : Expr} {es : List Expr} {t : TA} (C : Cal X.prog X.w X.K X.mg X.base x k ps sp) (hr : Room k X.A) (hg : Gl X x) (ha : PA X (e :: es) t)
    (hdb : (x == ("__debug__" : Str)) = false := by decide) (he : starEach (e :: es) X.env = (false, eval e X.env) :: starEach es X.env := by rfl) (hpl : (backTo pos (starEach es X.env)).any (·.1) = false := by rfl) :
    PE X (.Call (.Name x p) (e :: es) [] pos) (tCall sp [] E0 t) := by
  obtain ⟨f, fd, F, hm, hk, hb⟩ := C.ex
  exact pe_call F hr hg hm hk hb .nil passL ha hdb he hpl
/-- a constant of the module -/
structure Cst (mg : Str → Option Value) (x : Str) (v : V) : Prop where
  ex : ∃ u, mg x = some u ∧ RelV v u
theorem pe_cst {X : Cx} {x : Str} {v : V} {pos : Pos} (hg : Gl X x) (c : Cst X.mg x v) (hd : (x == ("__debug__" : Str)) = false := by decide) : PE X (.Name x pos) (tC v) := by
  obtain ⟨u, h, r⟩ := c.ex
  exact pe_glob hg h r hd
/-- isinstance(e, T), T a built-in class -/
theorem pe_isi {X : Cx} {e : Expr} {n : Str} {T : String} {p q pos : Pos} {te : TE} (he : PE X e te) (hg : Gl X "isinstance") (hm : X.mg "isinstance" = none) (hgT : Gl X n) (hmT : X.mg n = none) (hbT : bootBuiltins n = some (.type T)) (hn : n ≠ "__name__" := by decide) (hd : (n == ("__debug__" : Str)) = false := by decide)
    (h1 : starEach (e :: [.Name n q]) X.env = (false, eval e X.env) :: starEach [.Name n q] X.env := by rfl) (hpl : (backTo pos (starEach [.Name n q] X.env)).any (·.1) = false := by rfl)
    (h2 : starEach [.Name n q] X.env = (false, eval (.Name n q) X.env) :: starEach [] X.env := by rfl) (hpl2 : (backTo pos (starEach [] X.env)).any (·.1) = false := by rfl) :
    PE X (.Call (.Name "isinstance" p) [e, .Name n q] [] pos) (tCB (rIsi X.K) (tCons te (tCons (tC (.ty T)) tNil))) :=
  pe_callB call_isi hg hm (by decide +kernel) (pa_cons he (pa_cons (pe_bltn hgT hmT hbT rfl hn hd) pa_nil h2) h1) (by decide) (by decide) h1 hpl

/-! ### what expressions evaluate to -/
section
variable {K : PySem.W.Frag} {σ : L2.St} {H : Hp} {ta tb te : TE} {x y z v : V}
theorem rv_add {i j : Int} : RV (rI0 fun i j => .int (i + j)) (.int i) (.int j) H (.int (i + j)) := rv_I0
theorem rv_sub {i j : Int} : RV (rI0 fun i j => .int (i - j)) (.int i) (.int j) H (.int (i - j)) := rv_I0
theorem rv_lt {i j : Int} : RV (rI0 fun i j => .bl (decide (i < j))) (.int i) (.int j) H (.bl (decide (i < j))) := rv_I0
theorem rv_le {i j : Int} : RV (rI0 fun i j => .bl (decide (i ≤ j))) (.int i) (.int j) H (.bl (decide (i ≤ j))) := rv_I0
theorem rv_gt {i j : Int} : RV (rI0 fun i j => .bl (decide (j < i))) (.int i) (.int j) H (.bl (decide (j < i))) := rv_I0
theorem rv_ge {i j : Int} : RV (rI0 fun i j => .bl (decide (j ≤ i))) (.int i) (.int j) H (.bl (decide (j ≤ i))) := rv_I0
theorem rv_div {i j : Int} (h : 0 < j ∧ j < 1073741824) : RV (rI CDiv fun i j => .int (i / j)) (.int i) (.int j) H (.int (i / j)) := rv_I h
theorem rv_mod {i j : Int} (h : 0 < j) : RV (rI (fun _ j => 0 < j) fun i j => .int (i % j)) (.int i) (.int j) H (.int (i % j)) := rv_I h
theorem rv_mulX {i j : Int} (h : CMulX i j) : RV (rI CMulX fun i j => .int (i * j)) (.int i) (.int j) H (.int (i * j)) := rv_I h
theorem dec_int2 (i j : Int) : decide (V.int i = V.int j) = decide (i = j) := by
  by_cases h : i = j
  · subst h; simp
  · rw [decide_eq_false h, decide_eq_false fun e => h (V.int.inj e)]
theorem rv_eqI {i j : Int} : RV rEq (.int i) (.int j) H (.bl (decide (i = j))) := by
  rw [← dec_int2]; exact rv_eq rfl
theorem rv_neI {i j : Int} : RV rNe (.int i) (.int j) H (.bl (!decide (i = j))) := by
  rw [← dec_int2]; exact rv_ne rfl
theorem rv_eqT {a b : List Nat} : RV rEq (T a) (T b) H (.bl (decide (a = b))) := by
  rw [← dec_T]; exact rv_eq rfl
theorem rv_neT {a b : List Nat} : RV rNe (T a) (T b) H (.bl (!decide (a = b))) := by
  rw [← dec_T]; exact rv_ne rfl
theorem T_app (a b : List Nat) : (⟨a.toArray⟩ : Str) ++ ⟨b.toArray⟩ = ⟨(a ++ b).toArray⟩ := by
  apply ext_tl
  exact tl_append _ _
theorem rv_cat {a b : List Nat} (h : a.length + b.length ≤ 100000) : RV (fun x y H Q => ∃ i j, x = .str i ∧ y = .str j ∧ i.length + j.length ≤ sizeLine ∧ Q (.str (i ++ j)) H) (T a) (T b) H (T (a ++ b)) := fun H1 _ Q q =>
  ⟨_, _, rfl, rfl, by rw [len_T, len_T]; exact sz_of h, by rw [T_app]; exact q H1 (Ex.refl H1)⟩
theorem ev_lenT {a : List Nat} (h : Ev te σ H (T a)) (hz : a.length ≤ 100000) : Ev (tCB (fun xs H Q => ∃ z, xs = [.str z] ∧ z.length ≤ sizeLine ∧ Q (.int z.length) H) (tCons te tNil)) σ H (.int (a.length : Int)) := fun H1 e Q q =>
  h H1 e _ fun H2 e2 => ⟨_, rfl, by rw [len_T]; exact sz_of hz, by rw [len_T]; exact q H2 e2⟩
theorem ev_lenL {p : Addr} {xs : List V} (ha : Ev te σ H (.ref p)) (h : SqL K H p xs) : Ev (tCB (fun xs H Q => ∃ p ys, xs = [.ref p] ∧ (SqL K H p ys ∨ SqT K H p ys) ∧ Q (.int ys.length) H) (tCons te tNil)) σ H (.int (xs.length : Int)) := ev_len ha h
theorem ev_lenNL {xs : List V} (ha : EvL te σ H xs) : Ev (tCB (fun xs H Q => ∃ p ys, xs = [.ref p] ∧ (SqL K H p ys ∨ SqT K H p ys) ∧ Q (.int ys.length) H) (tCons te tNil)) σ H (.int (xs.length : Int)) := ev_lenN ha
theorem ev_min2 {i j : Int} (ha : Ev ta σ H (.int i)) (hb : Ev tb σ H (.int j)) : Ev (tCB (fun xs H Q => ∃ i j, xs = [.int i, .int j] ∧ Q (.int (if j < i then j else i)) H) (tCons ta (tCons tb tNil))) σ H (.int (min i j)) := fun H1 e Q q =>
  ha H1 e _ fun H2 e2 => hb H2 (e.trans e2) _ fun H3 e3 => ⟨i, j, rfl, by
    have h : (if j < i then j else i) = min i j := by split <;> omega
    rw [h]; exact q H3 (e2.trans e3)⟩
/-- a slice of a text -/
def cutL (a : List Nat) (lo hi : Option Int) : List Nat := (a.drop (HT.sIx a.length 0 lo)).take (HT.sIx a.length a.length hi - HT.sIx a.length 0 lo)
theorem cut_T (a : List Nat) (lo hi : Option Int) : V.str (cutS ⟨a.toArray⟩ lo hi) = T (cutL a lo hi) := by
  unfold cutS T cutL
  rw [len_T]
theorem ev_slT {tl th : TO} {a : List Nat} {lo hi : Option Int} (h : Ev te σ H (T a)) (h1 : EvO tl σ H lo) (h2 : EvO th σ H hi) (hz : a.length ≤ 100000) : Ev (tSl rSlS te tl th) σ H (T (cutL a lo hi)) := fun H1 e Q q =>
  h H1 e _ fun H2 e2 => h1 H2 (e.trans e2) _ fun H3 e3 => h2 H3 ((e.trans e2).trans e3) _ fun H4 e4 => ⟨_, rfl, by rw [len_T]; exact sz_of hz, by
    rw [cut_T]; exact q H4 ((e2.trans e3).trans e4)⟩
theorem cut_from (a : List Nat) (k : Nat) : cutL a (some (k : Int)) none = a.drop k := by
  unfold cutL
  rw [HT.sIx_nat, HT.sIx_none]
  rcases Nat.le_total k a.length with h | h
  · rw [Nat.min_eq_left h, List.take_of_length_le (by rw [List.length_drop]; omega)]
  · rw [Nat.min_eq_right h, List.drop_of_length_le (Nat.le_refl _), List.drop_of_length_le h, List.take_nil]
theorem cut_to (a : List Nat) (k : Nat) : cutL a none (some (k : Int)) = a.take k := by
  unfold cutL
  rw [HT.sIx_nat, HT.sIx_none, List.drop_zero, Nat.sub_zero]
  rcases Nat.le_total k a.length with h | h
  · rw [Nat.min_eq_left h]
  · rw [Nat.min_eq_right h, List.take_of_length_le (Nat.le_refl _), List.take_of_length_le h]
theorem cut_both (a : List Nat) (j k : Nat) : cutL a (some (j : Int)) (some (k : Int)) = (a.drop j).take (k - j) := by
  unfold cutL
  rw [HT.sIx_nat, HT.sIx_nat]
  rcases Nat.le_total j a.length with h | h
  · rw [Nat.min_eq_left h]
    rcases Nat.le_total k a.length with h' | h'
    · rw [Nat.min_eq_left h']
    · rw [Nat.min_eq_right h', List.take_of_length_le (by rw [List.length_drop]; omega), List.take_of_length_le (by rw [List.length_drop]; omega)]
  · rw [Nat.min_eq_right h, List.drop_of_length_le (Nat.le_refl _), List.drop_of_length_le h, List.take_nil, List.take_nil]
theorem ev_T {a b : List Nat} (h : Ev te σ H (T a)) (e : a = b) : Ev te σ H (T b) := e ▸ h
theorem ev_I {a b : Int} (h : Ev te σ H (.int a)) (e : a = b) : Ev te σ H (.int b) := e ▸ h
theorem et_b {t : TT} {a b : Bool} (h : EvT t σ H a) (e : a = b) : EvT t σ H b := e ▸ h
theorem atI_of {α : Type} {xs : List α} {i : Int} {j : Nat} {v : α} (h : i = (j : Int)) (g : xs[j]? = some v) : atI xs i = some v := by
  subst h
  unfold atI
  rw [ixN_nat (List.getElem?_eq_some_iff.mp g).1]
  exact g
theorem ev_ixL {p : Addr} {xs : List V} {i : Int} {j : Nat} (ha : Ev ta σ H (.ref p)) (h : SqL K H p xs) (hb : Ev tb σ H (.int i)) (e : i = (j : Int)) (g : xs[j]? = some v) : Ev (tOp (rIxL K) ta tb) σ H v :=
  ev_op ha hb (rv_ixL h (atI_of e g))
/-- an item of a list that is written where it is read -/
theorem ev_ixNL {xs : List V} {i : Int} {j : Nat} (ha : EvL ta σ H xs) (hb : ∀ H1, Ex H H1 → Ev tb σ H1 (.int i)) (e : i = (j : Int)) (g : xs[j]? = some v) : Ev (tOp (rIxL K) ta tb) σ H v :=
  ev_opL1 ha hb fun p H1 hp _ => rv_ixL (sq_of hp) (atI_of e g)
theorem ev_ixT {a : List Nat} {i : Int} {j c : Nat} (ha : Ev ta σ H (T a)) (hz : a.length ≤ 100000) (hb : Ev tb σ H (.int i)) (e : i = (j : Int)) (g : a[j]? = some c) : Ev (tOp rIxS ta tb) σ H (T [c]) :=
  ev_op ha hb (rv_ixS (by rw [len_T]; exact hz) (atI_of e g))
theorem ev_neg {i : Int} (h : Ev te σ H (.int i)) : Ev (tUn (rU fun i => .int (-i)) te) σ H (.int (-i)) := ev_un h ru_neg
theorem ev_isiI {b : Bool} {i : Int} {n : String} (h : Ev te σ H (.int i)) (hk : kitB "int" n = some b) : Ev (tCB (rIsi K) (tCons te (tCons (tC (.ty n)) tNil))) σ H (.bl b) := fun H1 e Q q =>
  h H1 e _ fun H2 e2 => ⟨_, _, _, _, b, rfl, .ty n, .base (.int i), kit_ty hk, q H2 e2⟩
theorem ev_isiT {b : Bool} {a : List Nat} {n : String} (h : Ev te σ H (T a)) (hk : kitB "str" n = some b) : Ev (tCB (rIsi K) (tCons te (tCons (tC (.ty n)) tNil))) σ H (.bl b) := fun H1 e Q q =>
  h H1 e _ fun H2 e2 => ⟨_, _, _, _, b, rfl, .ty n, .base (.str _), kit_ty hk, q H2 e2⟩
end
/-! ### promises -/
section
variable {σ : L2.St} {H : Hp} {ta te : TE} {v : V}
theorem ev_callV {sp : Sp} {vs : List V} {E : XK} {t : TA} (h : EvA t σ H vs) (hs : SpV sp vs H v) : Ev (tCall sp [] E t) σ H v := ev_call h (by rw [List.append_nil]; exact hs)
theorem el_callV {sp : Sp} {vs xs : List V} {E : XK} {t : TA} (h : EvA t σ H vs) (hs : SpL sp vs H xs) : EvL (tCall sp [] E t) σ H xs := el_call h (by rw [List.append_nil]; exact hs)
end
/-! ### values told by what holds of them -/
def Stab (Φ : V → Hp → Prop) : Prop := ∀ v H H', Ex H H' → Φ v H → Φ v H'
def StabA (Φ : List V → Hp → Prop) : Prop := ∀ vs H H', Ex H H' → Φ vs H → Φ vs H'
def EvD (te : TE) (σ : L2.St) (H : Hp) (Φ : V → Hp → Prop) : Prop := ∀ H1, Ex H H1 → ∀ Q : VK, (∀ v H2, Ex H1 H2 → Φ v H2 → Q v H2) → te σ H1 Q
def EvAD (ta : TA) (σ : L2.St) (H : Hp) (Φ : List V → Hp → Prop) : Prop := ∀ H1, Ex H H1 → ∀ Q : List V → Hp → Prop, (∀ vs H2, Ex H1 H2 → Φ vs H2 → Q vs H2) → ta σ H1 Q
/-- a tuple, a list that is tracked -/
def IsTu (xs : List V) : V → Hp → Prop := fun v H => ∃ p, v = .ref p ∧ H p = some (.tup xs)
def IsLi (xs : List V) : V → Hp → Prop := fun v H => ∃ p, v = .ref p ∧ H p = some (.lst xs)
theorem stab_tu {xs : List V} : Stab (IsTu xs) := fun _ _ _ e ⟨p, h1, h2⟩ => ⟨p, h1, e p _ h2⟩
theorem stab_li {xs : List V} : Stab (IsLi xs) := fun _ _ _ e ⟨p, h1, h2⟩ => ⟨p, h1, e p _ h2⟩
section
variable {K : PySem.W.Frag} {σ : L2.St} {H : Hp} {ta te tl : TE} {tr : TA} {v : V} {Φ : V → Hp → Prop} {Ψ : List V → Hp → Prop}
theorem evd_of (h : Ev te σ H v) : EvD te σ H (fun u _ => u = v) := fun H1 e Q q => h H1 e Q fun H2 e2 => q v H2 e2 rfl
theorem evd_tu {xs : List V} (h : EvU te σ H xs) : EvD te σ H (IsTu xs) := fun H1 e Q q => h H1 e Q fun p H2 _ e2 h2 => q _ H2 e2 ⟨p, rfl, h2⟩
theorem evd_li {xs : List V} (h : EvL te σ H xs) : EvD te σ H (IsLi xs) := fun H1 e Q q => h H1 e Q fun p H2 _ e2 h2 => q _ H2 e2 ⟨p, rfl, h2⟩
theorem evd_imp {Φ' : V → Hp → Prop} (h : EvD te σ H Φ) (i : ∀ v H1, Ex H H1 → Φ v H1 → Φ' v H1) : EvD te σ H Φ' := fun H1 e Q q => h H1 e Q fun v H2 e2 p => q v H2 e2 (i v H2 (e.trans e2) p)
theorem evd_mono {H' : Hp} (e : Ex H H') (h : EvD te σ H Φ) : EvD te σ H' Φ := fun H1 a Q q => h H1 (e.trans a) Q q
theorem ead_nil : EvAD tNil σ H (fun vs _ => vs = []) := fun H1 _ Q q => q [] H1 (Ex.refl H1) rfl
theorem ead_cons (h : EvD te σ H Φ) (hr : EvAD tr σ H Ψ) (st : Stab Φ) : EvAD (tCons te tr) σ H (fun vs H' => ∃ v r, vs = v :: r ∧ Φ v H' ∧ Ψ r H') := fun H1 e Q q =>
  h H1 e _ fun v H2 e2 p => hr H2 (e.trans e2) _ fun r H3 e3 p3 => q _ H3 (e2.trans e3) ⟨v, r, rfl, st v H2 H3 e3 p, p3⟩
theorem ead_of {vs : List V} (h : EvA tr σ H vs) : EvAD tr σ H (fun us _ => us = vs) := fun H1 e Q q => h H1 e Q fun H2 e2 => q vs H2 e2 rfl
theorem evd_lst (h : EvAD tr σ H Ψ) (st : StabA Ψ) (hz : ∀ vs H1, Ψ vs H1 → vs.length ≤ 100000) : EvD (tLst tr) σ H (fun v H' => ∃ xs, IsLi xs v H' ∧ Ψ xs H') := fun H1 e Q q =>
  h H1 e _ fun vs H2 e2 p => ⟨sz_of (hz vs H2 p), fun l hl => q _ _ (e2.trans (Ex.new hl)) ⟨vs, ⟨l, rfl, upd_same⟩, st _ _ _ (Ex.new hl) p⟩⟩
theorem evd_tup (h : EvAD tr σ H Ψ) (st : StabA Ψ) (hz : ∀ vs H1, Ψ vs H1 → vs.length ≤ 100000) : EvD (tTup tr) σ H (fun v H' => ∃ xs, IsTu xs v H' ∧ Ψ xs H') := fun H1 e Q q =>
  h H1 e _ fun vs H2 e2 p => ⟨sz_of (hz vs H2 p), fun l hl => q _ _ (e2.trans (Ex.new hl)) ⟨vs, ⟨l, rfl, upd_same⟩, st _ _ _ (Ex.new hl) p⟩⟩
variable {tu tz : TS} {g : TG} {D : Ends}
theorem q_asgD {i : Nat} (h : EvD te σ H Φ) (k : ∀ v H1, Ex H H1 → Φ v H1 → tz D (σ.set i (some v)) H1) : tSeq (tAsg te (gName i)) tz D σ H := h H (Ex.refl H) _ fun v H1 e p => k v H1 e p
theorem q_forD (h : EvD tl σ H Φ) (k : ∀ v H1, Ex H H1 → Φ v H1 → tSeq (tFor (iList K (tC v)) g tu) tz D σ H1) : tSeq (tFor (iList K tl) g tu) tz D σ H := h H (Ex.refl H) _ fun v H1 e p => k v H1 e p
end
/-! ### loops downwards -/
section
variable {K : PySem.W.Frag} {σ : L2.St} {H : Hp} {g : TG} {tu tz : TS} {D : Ends}
theorem q_forC {wi : TI} {lo c : Int} {n j : Nat} (hw : ∀ R : It → Hp → Prop, (∀ H1, Ex H H1 → R (Itc lo c n) H1) → wi σ H R) (Pv : Nat → L2.St → Hp → Prop) (h0 : ∀ H1, Ex H H1 → Pv 0 σ H1)
    (hs : ∀ (i : Nat) σ' H', i < n → Pv i σ' H' → tu { D with nx := Pv (i + 1), ct := Pv (i + 1), bk := tz D } (σ'.set j (some (.int (lo + (i : Nat) * c)))) H') (hd : ∀ σ' H', Pv n σ' H' → tz D σ' H') : tSeq (tFor wi (gName j) tu) tz D σ H :=
  hw _ fun H1 e => for_rangeC (lo := lo) (c := c) (n := n) Pv (h0 H1 e) (fun i σ' H' hi p => hs i σ' H' hi p) hd
end
end Lw
/-! ### the mathematics: words, overlaps -/
namespace Lw
abbrev W := List Nat
def ovF (a b : W) : Nat → Nat
  | 0 => 0
  | k + 1 => if a.drop (a.length - (k + 1)) = b.take (k + 1) then k + 1 else ovF a b k
/-- the overlap of a word and a next one -/
def ov (a b : W) : Nat := ovF a b (min a.length b.length - 1)
theorem ovF_hit {a b : W} {k : Nat} (h : a.drop (a.length - (k + 1)) = b.take (k + 1)) : ovF a b (k + 1) = k + 1 := by
  show (if _ then _ else _) = _
  rw [if_pos h]
theorem ovF_miss {a b : W} {k : Nat} (h : ¬ a.drop (a.length - (k + 1)) = b.take (k + 1)) : ovF a b (k + 1) = ovF a b k := by
  show (if _ then _ else _) = _
  rw [if_neg h]
theorem ovF_le (a b : W) : ∀ k, ovF a b k ≤ k
  | 0 => Nat.le_refl _
  | k + 1 => by
    by_cases h : a.drop (a.length - (k + 1)) = b.take (k + 1)
    · rw [ovF_hit h]
      exact Nat.le_refl _
    · rw [ovF_miss h]
      exact Nat.le_succ_of_le (ovF_le a b k)
theorem ov_le (a b : W) : ov a b ≤ min a.length b.length - 1 := ovF_le a b _
/-- the drawn words -/
def IsW (m : Nat) (w : W) : Prop := 1 ≤ w.length ∧ w.length ≤ m ∧ ∀ c ∈ w, 97 ≤ c ∧ c ≤ 122
/-- one turn of a drawn word's loop: what is left of the cell, the word so far -/
def wstep (l : Int) (i : Nat) (s : Int × W) : Int × W :=
  (if 4 < l then ((s.1 / l) * (s.1 / l) + 48271 * (s.1 / l + (i : Int)) + 69621) % 2147483647 else s.1 / l, s.2 ++ [97 + (s.1 % l).toNat])
def wrun (l c : Int) : Nat → Int × W
  | 0 => (c, [])
  | i + 1 => wstep l i (wrun l c i)
def wordOf (c l : Int) (m : Nat) : W := (wrun l (c / (m : Int)) (1 + c % (m : Int)).toNat).2
theorem wrun_len (l c : Int) : ∀ i, (wrun l c i).2.length = i
  | 0 => rfl
  | i + 1 => by
    show ((wrun l c i).2 ++ [_]).length = i + 1
    rw [List.length_append, wrun_len l c i]
    rfl
theorem wrun_mem {l : Int} (h1 : 1 ≤ l) (h2 : l ≤ 26) (c : Int) : ∀ i, ∀ d ∈ (wrun l c i).2, 97 ≤ d ∧ d ≤ 122
  | 0 => fun d hd => by cases hd
  | i + 1 => fun d hd => by
    rcases List.mem_append.mp (show d ∈ (wrun l c i).2 ++ [97 + ((wrun l c i).1 % l).toNat] from hd) with h | h
    · exact wrun_mem h1 h2 c i d h
    · rw [List.mem_singleton.mp h]
      have r0 : 0 ≤ (wrun l c i).1 % l := Int.emod_nonneg _ (by omega)
      have r1 : (wrun l c i).1 % l < l := Int.emod_lt_of_pos _ (by omega)
      omega
theorem wordOf_is {c l : Int} {m : Nat} (h1 : 1 ≤ l) (h2 : l ≤ 26) (hm : 1 ≤ m) : IsW m (wordOf c l m) := by
  have m0 : 0 ≤ c % (m : Int) := Int.emod_nonneg _ (by omega)
  have m1 : c % (m : Int) < (m : Int) := Int.emod_lt_of_pos _ (by omega)
  refine ⟨?_, ?_, wrun_mem h1 h2 _ _⟩
  · unfold wordOf
    rw [wrun_len]
    omega
  · unfold wordOf
    rw [wrun_len]
    omega
/-- the drawn texts -/
def textOf (ns : List Int) (start : Nat) : Nat → W
  | 0 => []
  | i + 1 => textOf ns start i ++ wordOf (ns.getD (start + 1 + i) 0) (([2, 3, 1, 26] : List Int).getD (ns.getD start 0 % 4).toNat 1) 10
def lawText (ns : List Int) (start : Nat) : W := textOf ns start (1 + (ns.getD start 0 / 4 % 3)).toNat
theorem four_ok (j : Nat) : 1 ≤ ([2, 3, 1, 26] : List Int).getD j 1 ∧ ([2, 3, 1, 26] : List Int).getD j 1 ≤ 26 := by
  match j with
  | 0 => decide
  | 1 => decide
  | 2 => decide
  | 3 => decide
  | j + 4 => exact ⟨Int.le_refl 1, (show (1 : Int) ≤ 26 by decide)⟩
theorem textOf_len (ns : List Int) (start : Nat) : ∀ i, i ≤ (textOf ns start i).length ∧ (textOf ns start i).length ≤ 10 * i
  | 0 => ⟨Nat.le_refl _, Nat.le_refl _⟩
  | i + 1 => by
    have h := textOf_len ns start i
    have g := four_ok (ns.getD start 0 % 4).toNat
    have h2 : IsW 10 (wordOf (ns.getD (start + 1 + i) 0) (([2, 3, 1, 26] : List Int).getD (ns.getD start 0 % 4).toNat 1) 10) := wordOf_is g.1 g.2 (by decide)
    show i + 1 ≤ (textOf ns start i ++ _).length ∧ (textOf ns start i ++ _).length ≤ 10 * (i + 1)
    rw [List.length_append]
    have := h2.1
    have := h2.2.1
    omega
theorem lawText_len (ns : List Int) (start : Nat) : 1 ≤ (lawText ns start).length ∧ (lawText ns start).length ≤ 30 := by
  have h := textOf_len ns start (1 + (ns.getD start 0 / 4 % 3)).toNat
  unfold lawText
  omega
end Lw
namespace Lw
open PySem PySem.Spec PyProof.Rows L2 Evl TL
/-! ### numbers that are not too great to be multiplied -/
def Sm (c : Int) : Prop := ∃ b : Nat, b ≤ 60000000 ∧ c.natAbs < 2 ^ b
theorem Sm.mul {c d : Int} (h : Sm c) (h' : Sm d) : CMulX c d := by
  obtain ⟨a, a1, a2⟩ := h
  obtain ⟨b, b1, b2⟩ := h'
  exact mulx_ok a2 b2 (by omega)
theorem Sm.le {c d : Int} (h : Sm c) (e : d.natAbs ≤ c.natAbs) : Sm d := by
  obtain ⟨a, a1, a2⟩ := h
  exact ⟨a, a1, Nat.lt_of_le_of_lt e a2⟩
theorem Sm.div {c l : Int} (h : Sm c) : Sm (c / l) := h.le (Int.natAbs_ediv_le_natAbs c l)
theorem Sm.small {c : Int} (h : c.natAbs < 2147483648) : Sm c := ⟨31, by decide, h⟩
theorem sm_bits {c : Int} (h : Builtin.Int.intBits c ≤ 1048576) : Sm c := by
  refine ⟨1048576, by decide, ?_⟩
  unfold Builtin.Int.intBits at h
  split at h
  · rename_i h0
    have e : c.natAbs = 0 := by
      first
        | omega
        | (simp at h0; omega)
    rw [e]
    exact Nat.two_pow_pos _
  · rename_i h0
    have e : c.natAbs ≠ 0 := by
      first
        | omega
        | (simp at h0; omega)
    exact (Nat.log2_lt e).mp (by omega)
theorem sm_cell {ns : List Int} (h : ∀ z ∈ ns, Sm z) (j : Nat) : Sm (ns.getD j 0) := by
  rw [List.getD_eq_getElem?_getD]
  cases e : ns[j]? with
  | none => exact Sm.small (by decide)
  | some v => exact h v (List.mem_of_getElem? e)
theorem sm_step {l c : Int} {i : Nat} {x : W} (hl : 0 < l) (h : Sm c) : Sm (wstep l i (c, x)).1 := by
  show Sm (if 4 < l then ((c / l) * (c / l) + 48271 * (c / l + (i : Int)) + 69621) % 2147483647 else c / l)
  split
  · have q0 : 0 ≤ ((c / l) * (c / l) + 48271 * (c / l + (i : Int)) + 69621) % 2147483647 := Int.emod_nonneg _ (by decide)
    have q1 : ((c / l) * (c / l) + 48271 * (c / l + (i : Int)) + 69621) % 2147483647 < 2147483647 := Int.emod_lt_of_pos _ (by decide)
    exact Sm.small (by omega)
  · exact h.div
theorem sm_run {l c : Int} (hl : 0 < l) (h : Sm c) : ∀ i, Sm (wrun l c i).1
  | 0 => h
  | i + 1 => sm_step (x := (wrun l c i).2) hl (sm_run hl h i)
theorem sz1 {x : V} : [x].length ≤ 100000 := (show 1 ≤ 100000 by decide)
theorem sz2 {x y : V} : [x, y].length ≤ 100000 := (show 2 ≤ 100000 by decide)
theorem sz3 {x y z : V} : [x, y, z].length ≤ 100000 := (show 3 ≤ 100000 by decide)
theorem cx_out {P : Program} {w : World} {H : Hp} {s : Shared} {e : Value} {s' : Shared} (h : L2.CX P w [] H s (fun _ _ _ => False) e s') : False := by
  obtain ⟨_, _, _, _, _, _, _, _, _, _, _, _, z⟩ := h
  exact z
/-! ### the alphabet -/
def alpha : List Nat := [97, 98, 99, 100, 101, 102, 103, 104, 105, 106, 107, 108, 109, 110, 111, 112, 113, 114, 115, 116, 117, 118, 119, 120, 121, 122]
theorem alpha_at : ∀ j : Nat, j < 26 → alpha[j]? = some (97 + j) := by decide
theorem alpha_str : V.str (Str.ofString "abcdefghijklmnopqrstuvwxyz") = T alpha := by
  rw [T_of_string]
  exact congrArg T (by decide +kernel)
theorem rel_int (i : Int) (t : Tok) : RelV (.int i) (.int i t) := ⟨t, rfl⟩
theorem empty_str : V.str (Str.ofString "") = T [] := by
  rw [T_of_string]
  rfl
section
variable {P : Program} {w : World} {K : PySem.W.Frag} {mg : Str → Option Value} {base : Heap}
/-! ### promises -/
def spCellAt (K : PySem.W.Frag) : Sp := fun vs H Q _ => ∃ (l : Addr) (ns : List Int) (j : Nat), vs = [.ref l, .int (j : Int)] ∧ SqL K H l (ns.map V.int) ∧ RetV (.int (ns.getD j 0)) H Q
def spWord : Sp := fun vs H Q _ => ∃ (c l : Int) (m : Nat), vs = [.int c, .int l, .int (m : Int)] ∧ Sm c ∧ 1 ≤ l ∧ l ≤ 26 ∧ 1 ≤ m ∧ m ≤ 10 ∧ RetV (T (wordOf c l m)) H Q
theorem spv_word {H : Hp} {c l : Int} {m : Nat} (h : Sm c) (h1 : 1 ≤ l) (h2 : l ≤ 26) (h3 : 1 ≤ m) (h4 : m ≤ 10) : SpV spWord [.int c, .int l, .int (m : Int)] H (T (wordOf c l m)) :=
  fun H1 e Q q E => ⟨c, l, m, rfl, h, h1, h2, h3, h4, fun H2 e2 => q H2 e2⟩
def spOv : Sp := fun vs H Q _ => ∃ a b : W, vs = [T a, T b] ∧ a.length ≤ 1000 ∧ b.length ≤ 1000 ∧ RetV (.int (ov a b : Nat)) H Q
def spWhole : Sp := fun vs H Q _ => ∃ i : Int, vs = [.int i] ∧ RetV (.bl true) H Q
theorem spv_cell {H : Hp} {l : Addr} {ns : List Int} {j : Nat} (h : SqL K H l (ns.map V.int)) : SpV (spCellAt K) [.ref l, .int (j : Int)] H (.int (ns.getD j 0)) :=
  fun H1 e Q q E => ⟨l, ns, j, rfl, ex_l e h, fun H2 e2 => q H2 e2⟩
theorem spv_ov {H : Hp} {a b : W} (ha : a.length ≤ 1000) (hb : b.length ≤ 1000) : SpV spOv [T a, T b] H (.int (ov a b : Nat)) :=
  fun H1 e Q q E => ⟨a, b, rfl, ha, hb, fun H2 e2 => q H2 e2⟩
theorem spv_whole {H : Hp} {i : Int} : SpV spWhole [.int i] H (.bl true) := fun H1 e Q q E => ⟨i, rfl, fun H2 e2 => q H2 e2⟩
/-- downwards by ones -/
theorem q_forDown {ta : TA} {lo hi : Int} {j : Nat} {σ : L2.St} {H : Hp} {tu tz : TS} {D : Ends} (h : EvA ta σ H [.int lo, .int hi, .int (-1)]) (b1 : -100000 ≤ lo ∧ lo ≤ 100000 ∧ -100000 ≤ hi ∧ hi ≤ 100000) (Pv : Nat → L2.St → Hp → Prop) (h0 : ∀ H1, Ex H H1 → Pv 0 σ H1)
    (hs : ∀ (i : Nat) σ' H', i < (lo - hi).toNat → Pv i σ' H' → tu { D with nx := Pv (i + 1), ct := Pv (i + 1), bk := tz D } (σ'.set j (some (.int (lo - (i : Nat))))) H') (hd : ∀ σ' H', Pv (lo - hi).toNat σ' H' → tz D σ' H') : tSeq (tFor (iRng3 ta) (gName j) tu) tz D σ H :=
  q_forC (lo := lo) (c := -1) (n := (lo - hi).toNat) (fun R q => h H (Ex.refl H) _ fun H1 e => ⟨lo, hi, -1, _, rfl, RgC.neg (by omega) (by omega) (by omega) (by omega), q H1 e⟩) Pv h0
    (fun i σ' H' hi p => by
      have e : lo + (i : Nat) * (-1 : Int) = lo - (i : Nat) := by omega
      rw [e]
      exact hs i σ' H' hi p) hd
theorem q_forRev {ta tb : TE} {lo hi : Int} {j : Nat} {σ : L2.St} {H : Hp} {tu tz : TS} {D : Ends} (ha : Ev ta σ H (.int lo)) (hb : Ev tb σ H (.int hi)) (b1 : -100000 ≤ lo ∧ lo ≤ 100000 ∧ -100000 ≤ hi ∧ hi ≤ 100000) (Pv : Nat → L2.St → Hp → Prop) (h0 : ∀ H1, Ex H H1 → Pv 0 σ H1)
    (hs : ∀ (i : Nat) σ' H', i < (hi - lo).toNat → Pv i σ' H' → tu { D with nx := Pv (i + 1), ct := Pv (i + 1), bk := tz D } (σ'.set j (some (.int (hi - 1 - (i : Nat))))) H') (hd : ∀ σ' H', Pv (hi - lo).toNat σ' H' → tz D σ' H') : tSeq (tFor (iRevR (tRg2 ta tb)) (gName j) tu) tz D σ H :=
  q_forC (lo := lo + (((hi - lo).toNat : Nat) : Int) - 1) (c := -1) (n := (hi - lo).toNat) (fun R q => ha H (Ex.refl H) _ fun H1 e => hb H1 e _ fun H2 e2 => ⟨lo, hi, rfl, rfl, by omega, by omega, by omega, by omega, q H2 (e.trans e2)⟩) Pv h0
    (fun i σ' H' hi' p => by
      have e : lo + (((hi - lo).toNat : Nat) : Int) - 1 + (i : Nat) * (-1 : Int) = hi - 1 - (i : Nat) := by omega
      rw [e]
      exact hs i σ' H' hi' p) hd
theorem endsT (a b : W) : Txt.endswith ⟨a.toArray⟩ ⟨b.toArray⟩ = (decide (b.length ≤ a.length) && (a.drop (a.length - b.length) == b)) := by
  unfold Txt.endswith
  rw [StrLaws.subAt_eq, len_T, len_T, Nat.zero_add]
  by_cases h : b.length ≤ a.length
  · rw [decide_eq_true h, Bool.true_and, Bool.true_and]
    have e : ((a.drop (a.length - b.length)).take b.length) = a.drop (a.length - b.length) := List.take_of_length_le (by rw [List.length_drop]; omega)
    show (((a.drop (a.length - b.length)).take b.length) == b) = _
    rw [e]
  · rw [decide_eq_false h, Bool.false_and, Bool.false_and]
def rEnds : V → List V → Hp → VK → Prop := fun x xs H Q => ∃ a b, x = .str a ∧ xs = [.str b] ∧ Q (.bl (Txt.endswith a b)) H
theorem ev_ends {σ : L2.St} {H : Hp} {ta tb : TE} {a b : W} (ha : Ev ta σ H (T a)) (hb : Ev tb σ H (T b)) : Ev (tM1 (fun x xs H Q => ∃ a b, x = .str a ∧ xs = [.str b] ∧ Q (.bl (Txt.endswith a b)) H) ta tb) σ H (.bl (decide (b.length ≤ a.length) && (a.drop (a.length - b.length) == b))) := fun H1 e Q q =>
  ha H1 e _ fun H2 e2 => ⟨⟨_, rfl⟩, hb H2 (e.trans e2) _ fun H3 e3 => ⟨_, _, rfl, rfl, by
    rw [endsT]
    exact q H3 (e2.trans e3)⟩⟩
end
end Lw
namespace Lw
open PySem PySem.Spec PyProof.Rows L2 Evl TL
def topS (i : Nat) : Stmt := PySem.Challenge.pw_laidwords_k01_overlaps.main.body.getD i (.Pass ⟨0, 0, 0, 0⟩)
abbrev s_law_cell_at : Stmt := topS 3
theorem sc_law_cell_at : FnScope ["script", "k"] ["script", "k"] (defScope s_law_cell_at) := ⟨rfl, rfl, rfl, by decide +kernel, rfl, by decide +kernel, by decide +kernel⟩

abbrev s_law_word : Stmt := topS 4
theorem sc_law_word : FnScope ["cell", "letters", "most", "size", "word", "k"] ["cell", "letters", "most"] (defScope s_law_word) := ⟨rfl, rfl, rfl, by decide +kernel, rfl, by decide +kernel, by decide +kernel⟩

section
variable {P : Program} {w : World} {K : PySem.W.Frag} {mg : Str → Option Value} {base : Heap}
theorem ok_law_cell_at (Bn : Blt mg) (D : Dfn K mg "_law_cell_at" s_law_cell_at) : Cal P w K mg base "_law_cell_at" 1 ["script", "k"] (spCellAt K) := by
  refine D.cal sc_law_cell_at (fun _ _ _ _ _ _ us hl => match us, hl with | [_, _], _ => rfl) (fun vs H Q E h => ?_) (fun f cdv A outer s H vs Q E hr h => ?_)
  · obtain ⟨l, ns, j, rfl, _⟩ := h
    rfl
  · obtain ⟨l, ns, j, rfl, hS, q⟩ := h
    refine ⟨_, (pss_cons (ps_if (pt_cmpR op_lt (pv 1) (pe_callB call_len_seq (by rfl) Bn.len_ (by decide +kernel) (pa_cons (pv 0) pa_nil)) (nomark _))
      (pss_one (ps_ret (pe_ix ix_list (pv 0) (pv 1) (fun _ _ => rfl)))) pss_nil)
    (pss_one (ps_ret pe_int))), ?_⟩
    refine q_when (b := decide ((j : Int) < ((ns.map V.int).length : Nat))) (et_test (ev_op (ev_var rfl) (ev_lenL (ev_var rfl) hS) rv_lt)) (fun hb H1 e1 => ?_) (fun hb H1 e1 => ?_)
    · have hj : j < ns.length := by
        have h1 := of_decide_eq_true hb
        rw [List.length_map] at h1
        omega
      refine s_ret (ev_ixL (ev_var rfl) (ex_l e1 hS) (ev_var rfl) rfl (v := .int (ns.getD j 0)) ?_) fun H2 e2 => q H2 (e1.trans e2)
      rw [List.getElem?_map, List.getD_eq_getElem?_getD, List.getElem?_eq_getElem hj]
      rfl
    · have hj : ¬ j < ns.length := fun z => by
        have h1 := of_decide_eq_false hb
        rw [List.length_map] at h1
        omega
      have e0 : ns.getD j 0 = 0 := by
        rw [List.getD_eq_getElem?_getD, List.getElem?_eq_none (by omega)]
        rfl
      rw [e0] at q
      exact s_ret ev_c fun H2 e2 => q H2 (e1.trans e2)
theorem ok_law_word (Bn : Blt mg) (D : Dfn K mg "_law_word" s_law_word) : Cal P w K mg base "_law_word" 1 ["cell", "letters", "most"] spWord := by
  refine D.cal sc_law_word (fun _ _ _ _ _ _ us hl => match us, hl with | [_, _, _], _ => rfl) (fun vs H Q E h => ?_) (fun f cdv A outer s H vs Q E hr h => ?_)
  · obtain ⟨c, l, m, rfl, _⟩ := h
    rfl
  · obtain ⟨c, l, m, rfl, hc, hl1, hl2, hm1, hm2, q⟩ := h
    refine ⟨_, (pss_cons (ps_set (i := 3) sc_law_word.nd rfl (Or.inl rfl) (pe_op op_add pe_int (pe_op op_mod (pv 0) (pv 2))))
    (pss_cons (ps_set (i := 0) sc_law_word.nd rfl (Or.inl rfl) (pe_op op_fdiv (pv 0) (pv 2)))
    (pss_cons (ps_set (i := 4) sc_law_word.nd rfl (Or.inl rfl) pe_str)
    (pss_cons (ps_for PassesOwn.never rfl (pi_range1 (by rfl) Bn.range_ (pa_cons (pv 3) pa_nil)) (pg_name (i := 5) sc_law_word.nd rfl (Or.inl rfl))
      (pss_cons (ps_set (i := 4) sc_law_word.nd rfl (Or.inl rfl) (pe_op op_add_str (pv 4) (pe_ix ix_str pe_str (pe_op op_mod (pv 0) (pv 1)) (fun _ _ => rfl))))
      (pss_cons (ps_set (i := 0) sc_law_word.nd rfl (Or.inl rfl) (pe_op op_fdiv (pv 0) (pv 1)))
      (pss_one (ps_if (pt_cmpR op_gt (pv 1) pe_int (nomark _))
        (pss_one (ps_set (i := 0) sc_law_word.nd rfl (Or.inl rfl) (pe_op op_mod (pe_op op_add (pe_op op_add (pe_op op_mulX (pv 0) (pv 0)) (pe_op op_mulX pe_int (pe_op op_add (pv 0) (pv 5)))) pe_int) pe_int))) pss_nil)))))
    (pss_one (ps_ret (pv 4))))))), ?_⟩
    have m0 : 0 ≤ c % (m : Int) := Int.emod_nonneg _ (by omega)
    have m1 : c % (m : Int) < (m : Int) := Int.emod_lt_of_pos _ (by omega)
    refine q_asg (v := .int (1 + c % m)) (ev_op ev_c (ev_op (ev_var rfl) (ev_var rfl) (rv_mod (by omega))) rv_add) fun H1 e1 => ?_
    refine q_asg (v := .int (c / m)) (ev_op (ev_var rfl) (ev_var rfl) (rv_div ⟨by omega, by omega⟩)) fun H2 e2 => ?_
    refine q_asg (v := T []) (ev_is ev_c empty_str) fun H3 e3 => ?_
    refine q_forR1 (n := 1 + c % m) (ea_cons (ev_var rfl) ea_nil) ⟨by omega, by omega⟩ (fun i σ' H' => ∃ y5 : Option V, σ' = [some (.int (wrun l (c / m) i).1), some (.int l), some (.int (m : Int)), some (.int (1 + c % m)), some (T (wrun l (c / m) i).2), y5] ∧ Ex H3 H')
      (fun H4 e4 => ⟨none, rfl, e4⟩) ?_ ?_
    · rintro i σ' H' hi ⟨y5, rfl, e4⟩
      have hs : (wrun l (c / m) (i + 1)) = wstep l i (wrun l (c / m) i) := rfl
      have hx : (wrun l (c / m) i).2.length = i := wrun_len _ _ _
      have hc' : Sm (wrun l (c / m) i).1 := sm_run (by omega) hc.div i
      rw [hs]
      generalize wrun l (c / m) i = s at *
      obtain ⟨c', x⟩ := s
      replace hx : x.length = i := hx
      replace hc' : Sm c' := hc'
      have r0 : 0 ≤ c' % l := Int.emod_nonneg _ (by omega)
      have r1 : c' % l < l := Int.emod_lt_of_pos _ (by omega)
      refine q_asg (v := T (x ++ [97 + (c' % l).toNat])) (ev_op (ev_var rfl) (ev_ixT (ev_is ev_c alpha_str) (by decide) (ev_op (ev_var rfl) (ev_var rfl) (rv_mod (by omega))) (Int.toNat_of_nonneg r0).symm (alpha_at _ (by omega))) (rv_cat (by simp only [List.length_singleton]; omega))) fun H5 e5 => ?_
      refine q_asg (v := .int (c' / l)) (ev_op (ev_var rfl) (ev_var rfl) (rv_div ⟨by omega, by omega⟩)) fun H6 e6 => ?_
      have e46 := (e4.trans e5).trans e6
      refine s_when (b := decide (4 < l)) (et_test (ev_op (ev_var rfl) ev_c rv_gt)) (fun hb H7 e7 => ?_) (fun hb H7 e7 => ?_)
      · refine s_asg (v := .int (((c' / l) * (c' / l) + 48271 * (c' / l + (i : Int)) + 69621) % 2147483647)) ?_ fun H8 e8 => ?_
        · refine ev_op (ev_op (ev_op (ev_op (ev_var rfl) (ev_var rfl) (rv_mulX (hc'.div.mul hc'.div))) (ev_op ev_c (ev_op (ev_var rfl) (ev_var rfl) rv_add) (rv_mulX ?_)) rv_add) ev_c rv_add) ev_c (rv_mod (by decide))
          obtain ⟨b, b1, b2⟩ := hc'.div (l := l)
          have h1 : 1 ≤ 2 ^ b := Nat.one_le_two_pow
          have h2 : 2 ^ (b + 7) = 2 ^ b * 128 := Nat.pow_add 2 b 7
          exact mulx_ok (a := 16) (b := b + 7) (by decide) (by omega) (by omega)
        · refine ⟨some (.int (i : Int)), ?_, (e46.trans e7).trans e8⟩
          unfold wstep
          rw [if_pos (of_decide_eq_true hb)]
          rfl
      · refine ⟨some (.int (i : Int)), ?_, e46.trans e7⟩
        unfold wstep
        rw [if_neg (of_decide_eq_false hb)]
        rfl
    · rintro σ' H' ⟨y5, rfl, e4⟩
      refine s_ret (ev_var rfl) fun H5 e5 => q H5 ((((e1.trans e2).trans e3).trans e4).trans e5)
end
abbrev s_overlap : Stmt := topS 1
theorem sc_overlap : FnScope ["one", "next_one", "many"] ["one", "next_one"] (defScope s_overlap) := ⟨rfl, rfl, rfl, by decide +kernel, rfl, by decide +kernel, by decide +kernel⟩

section
variable {P : Program} {w : World} {K : PySem.W.Frag} {mg : Str → Option Value} {base : Heap}
theorem ok_overlap (Bn : Blt mg) (D : Dfn K mg "overlap" s_overlap) : Cal P w K mg base "overlap" 1 ["one", "next_one"] spOv := by
  refine D.cal sc_overlap (fun _ _ _ _ _ _ us hl => match us, hl with | [_, _], _ => rfl) (fun vs H Q E h => ?_) (fun f cdv A outer s H vs Q E hr h => ?_)
  · obtain ⟨a, b, rfl, _⟩ := h
    rfl
  · obtain ⟨a, b, rfl, ha, hb, q⟩ := h
    refine ⟨_, (pss_cons (ps_for PassesOwn.never rfl (pi_range3 (by rfl) Bn.range_ (pa_cons (pe_op op_sub (pe_callB (call_min2 rfl) (by rfl) Bn.min_ (by decide +kernel) (pa_cons (pe_callB call_len_str (by rfl) Bn.len_ (by decide +kernel) (pa_cons (pv 0) pa_nil)) (pa_cons (pe_callB call_len_str (by rfl) Bn.len_ (by decide +kernel) (pa_cons (pv 1) pa_nil)) pa_nil))) pe_int) (pa_cons pe_int (pa_cons (pe_un un_neg pe_int) pa_nil)))) (pg_name (i := 2) sc_overlap.nd rfl (Or.inl rfl))
      (pss_one (ps_if (pt_cmpR op_eq (pe_slice sl_str (pv 0) (po_some (pe_op op_sub (pe_callB call_len_str (by rfl) Bn.len_ (by decide +kernel) (pa_cons (pv 0) pa_nil)) (pv 2))) po_none) (pe_slice sl_str (pv 1) po_none (po_some (pv 2))) (nomark _))
        (pss_one (ps_ret (pv 2))) pss_nil)))
    (pss_one (ps_ret pe_int))), ?_⟩
    refine q_forDown (lo := min (a.length : Int) (b.length : Int) - 1) (hi := 0) (ea_cons (ev_op (ev_min2 (ev_lenT (ev_var rfl) (by omega)) (ev_lenT (ev_var rfl) (by omega))) ev_c rv_sub) (ea_cons ev_c (ea_cons (ev_neg ev_c) ea_nil))) (by omega)
      (fun i σ' H' => ∃ y2 : Option V, σ' = [some (T a), some (T b), y2] ∧ Ex H H' ∧ ov a b = ovF a b (min a.length b.length - 1 - i)) (fun H1 e1 => ⟨none, rfl, e1, rfl⟩) ?_ ?_
    · rintro i σ' H' hi ⟨y2, rfl, e1, ho⟩
      obtain ⟨k, hk⟩ : ∃ k, min a.length b.length - 1 - i = k + 1 := ⟨min a.length b.length - 1 - i - 1, by omega⟩
      have em : min (a.length : Int) (b.length : Int) - 1 - (i : Nat) = ((k + 1 : Nat) : Int) := by omega
      rw [em]
      have hk2 : k + 1 < a.length := by omega
      rw [hk] at ho
      refine s_when (b := decide (a.drop (a.length - (k + 1)) = b.take (k + 1))) (et_test ?_) (fun hb' H2 e2 => ?_) (fun hb' H2 e2 => ?_)
      · refine ev_op (ev_T (ev_slT (ev_var rfl) (eo_some (ev_I (ev_op (ev_lenT (ev_var rfl) (by omega)) (ev_var rfl) rv_sub) (b := ((a.length - (k + 1) : Nat) : Int)) (by omega))) eo_none (by omega)) (cut_from a _)) (ev_T (ev_slT (ev_var rfl) eo_none (eo_some (ev_var rfl)) (by omega)) (cut_to b _)) rv_eqT
      · rw [ovF_hit (of_decide_eq_true hb')] at ho
        rw [ho] at q
        exact s_ret (ev_var rfl) fun H3 e3 => q H3 ((e1.trans e2).trans e3)
      · rw [ovF_miss (of_decide_eq_false hb')] at ho
        refine ⟨_, rfl, e1.trans e2, ?_⟩
        have : min a.length b.length - 1 - (i + 1) = k := by omega
        rw [this]
        exact ho
    · rintro σ' H' ⟨y2, rfl, e1, ho⟩
      have : min a.length b.length - 1 - (min (a.length : Int) (b.length : Int) - 1 - 0).toNat = 0 := by omega
      rw [this] at ho
      rw [ho] at q
      exact s_ret ev_c fun H3 e3 => q H3 (e1.trans e3)
end
abbrev s_law_overlap : Stmt := topS 8
theorem sc_law_overlap : FnScope ["one", "other", "many"] ["one", "other"] (defScope s_law_overlap) := ⟨rfl, rfl, rfl, by decide +kernel, rfl, by decide +kernel, by decide +kernel⟩

section
variable {P : Program} {w : World} {K : PySem.W.Frag} {mg : Str → Option Value} {base : Heap}
theorem ok_law_overlap (Bn : Blt mg) (D : Dfn K mg "_law_overlap" s_law_overlap) : Cal P w K mg base "_law_overlap" 1 ["one", "other"] spOv := by
  refine D.cal sc_law_overlap (fun _ _ _ _ _ _ us hl => match us, hl with | [_, _], _ => rfl) (fun vs H Q E h => ?_) (fun f cdv A outer s H vs Q E hr h => ?_)
  · obtain ⟨a, b, rfl, _⟩ := h
    rfl
  · obtain ⟨a, b, rfl, ha, hb, q⟩ := h
    refine ⟨_, (pss_cons (ps_for PassesOwn.never rfl (pi_revR (by rfl) Bn.reversed_ (prg_2 (by rfl) Bn.range_ pe_int (pe_callB (call_min2 rfl) (by rfl) Bn.min_ (by decide +kernel) (pa_cons (pe_callB call_len_str (by rfl) Bn.len_ (by decide +kernel) (pa_cons (pv 0) pa_nil)) (pa_cons (pe_callB call_len_str (by rfl) Bn.len_ (by decide +kernel) (pa_cons (pv 1) pa_nil)) pa_nil))))) (pg_name (i := 2) sc_law_overlap.nd rfl (Or.inl rfl))
      (pss_one (ps_if (pt_val (pe_m1 PySem.F.slot_str_endswith PySem.F.type_str_endswith mt_endswith (pv 0) (pe_slice sl_str (pv 1) po_none (po_some (pv 2)))))
        (pss_one (ps_ret (pv 2))) pss_nil)))
    (pss_one (ps_ret pe_int))), ?_⟩
    refine q_forRev (lo := 1) (hi := min (a.length : Int) (b.length : Int)) ev_c (ev_min2 (ev_lenT (ev_var rfl) (by omega)) (ev_lenT (ev_var rfl) (by omega))) (by omega)
      (fun i σ' H' => ∃ y2 : Option V, σ' = [some (T a), some (T b), y2] ∧ Ex H H' ∧ ov a b = ovF a b (min a.length b.length - 1 - i)) (fun H1 e1 => ⟨none, rfl, e1, rfl⟩) ?_ ?_
    · rintro i σ' H' hi ⟨y2, rfl, e1, ho⟩
      obtain ⟨k, hk⟩ : ∃ k, min a.length b.length - 1 - i = k + 1 := ⟨min a.length b.length - 1 - i - 1, by omega⟩
      have em : min (a.length : Int) (b.length : Int) - 1 - (i : Nat) = ((k + 1 : Nat) : Int) := by omega
      rw [em]
      have hk2 : k + 1 < a.length := by omega
      have hk3 : k + 1 < b.length := by omega
      rw [hk] at ho
      have hl : (b.take (k + 1)).length = k + 1 := by rw [List.length_take]; omega
      refine s_when (b := decide (a.drop (a.length - (k + 1)) = b.take (k + 1))) (et_b (et_B (ev_ends (ev_var rfl) (ev_T (ev_slT (ev_var rfl) eo_none (eo_some (ev_var rfl)) (by omega)) (cut_to b _)))) ?_) (fun hb' H2 e2 => ?_) (fun hb' H2 e2 => ?_)
      · rw [hl, decide_eq_true (by omega), Bool.true_and, Bool.eq_iff_iff]
        simp
      · rw [ovF_hit (of_decide_eq_true hb')] at ho
        rw [ho] at q
        exact s_ret (ev_var rfl) fun H3 e3 => q H3 ((e1.trans e2).trans e3)
      · rw [ovF_miss (of_decide_eq_false hb')] at ho
        refine ⟨_, rfl, e1.trans e2, ?_⟩
        have : min a.length b.length - 1 - (i + 1) = k := by omega
        rw [this]
        exact ho
    · rintro σ' H' ⟨y2, rfl, e1, ho⟩
      have : min a.length b.length - 1 - (min (a.length : Int) (b.length : Int) - 1).toNat = 0 := by omega
      rw [this] at ho
      rw [ho] at q
      exact s_ret ev_c fun H3 e3 => q H3 (e1.trans e3)
end
abbrev s_law_whole : Stmt := topS 10
theorem sc_law_whole : FnScope ["found"] ["found"] (defScope s_law_whole) := ⟨rfl, rfl, rfl, by decide +kernel, rfl, by decide +kernel, by decide +kernel⟩

section
variable {P : Program} {w : World} {K : PySem.W.Frag} {mg : Str → Option Value} {base : Heap}
theorem ok_law_whole (Bn : Blt mg) (D : Dfn K mg "_law_whole" s_law_whole) : Cal P w K mg base "_law_whole" 1 ["found"] spWhole := by
  refine D.cal sc_law_whole (fun _ _ _ _ _ _ us hl => match us, hl with | [_], _ => rfl) (fun vs H Q E h => ?_) (fun f cdv A outer s H vs Q E hr h => ?_)
  · obtain ⟨i, rfl, _⟩ := h
    rfl
  · obtain ⟨i, rfl, q⟩ := h
    refine ⟨_, (pss_one (ps_ret (pe_and (pe_isi (T := "int") (pv 0) (by rfl) Bn.isinstance_ (by rfl) Bn.int_ (by decide +kernel)) (pe_one (pe_not (pe_isi (T := "bool") (pv 0) (by rfl) Bn.isinstance_ (by rfl) Bn.bool_ (by decide +kernel))))))), ?_⟩
    exact s_ret (ev_andV (ev_isiI (ev_var rfl) (b := true) (by decide +kernel)) fun _ => ev_notV (ev_isiI (ev_var rfl) (b := false) (by decide +kernel))) fun H1 e1 => q H1 e1
end
abbrev s_law_text : Stmt := topS 11
theorem sc_law_text : FnScope ["script", "start", "letters", "text", "k"] ["script", "start"] (defScope s_law_text) := ⟨rfl, rfl, rfl, by decide +kernel, rfl, by decide +kernel, by decide +kernel⟩

section
variable {P : Program} {w : World} {K : PySem.W.Frag} {mg : Str → Option Value} {base : Heap}
def spLText (K : PySem.W.Frag) : Sp := fun vs H Q _ => ∃ (a : Addr) (ns : List Int) (j : Nat), vs = [.ref a, .int (j : Int)] ∧ SqL K H a (ns.map V.int) ∧ (∀ z ∈ ns, Sm z) ∧ RetV (T (lawText ns j)) H Q
theorem spv_text {H : Hp} {a : Addr} {ns : List Int} {j : Nat} (h : SqL K H a (ns.map V.int)) (hs : ∀ z ∈ ns, Sm z) : SpV (spLText K) [.ref a, .int (j : Int)] H (T (lawText ns j)) :=
  fun H1 e Q q E => ⟨a, ns, j, rfl, ex_l e h, hs, fun H2 e2 => q H2 e2⟩
theorem four_at (i : Int) (h0 : 0 ≤ i) (h1 : i < 4) : ([V.int 2, V.int 3, V.int 1, V.int 26])[i.toNat]? = some (V.int (([2, 3, 1, 26] : List Int).getD i.toNat 1)) := by
  have h : i.toNat = 0 ∨ i.toNat = 1 ∨ i.toNat = 2 ∨ i.toNat = 3 := by omega
  rcases h with h | h | h | h <;> rw [h] <;> rfl
theorem ok_law_text (Bn : Blt mg) (D : Dfn K mg "_law_text" s_law_text) (C_law_cell_at : Cal P w K mg base "_law_cell_at" 1 ["script", "k"] (spCellAt K)) (C_law_word : Cal P w K mg base "_law_word" 1 ["cell", "letters", "most"] spWord) :
    Cal P w K mg base "_law_text" 2 ["script", "start"] (spLText K) := by
  refine D.cal sc_law_text (fun _ _ _ _ _ _ us hl => match us, hl with | [_, _], _ => rfl) (fun vs H Q E h => ?_) (fun f cdv A outer s H vs Q E hr h => ?_)
  · obtain ⟨a, ns, j, rfl, _⟩ := h
    rfl
  · obtain ⟨a, ns, j, rfl, hS, hsm, q⟩ := h
    refine ⟨_, (pss_cons (ps_set (i := 2) sc_law_text.nd rfl (Or.inl rfl) (pe_ix ix_list (pe_lst (pa_cons pe_int (pa_cons pe_int (pa_cons pe_int (pa_cons pe_int pa_nil))))) (pe_op op_mod (pe_callC C_law_cell_at (hr.mono (by decide)) (by rfl) (pa_cons (pv 0) (pa_cons (pv 1) pa_nil))) pe_int) (fun _ _ => rfl)))
    (pss_cons (ps_set (i := 3) sc_law_text.nd rfl (Or.inl rfl) pe_str)
    (pss_cons (ps_for PassesOwn.never rfl (pi_range1 (by rfl) Bn.range_ (pa_cons (pe_op op_add pe_int (pe_op op_mod (pe_op op_fdiv (pe_callC C_law_cell_at (hr.mono (by decide)) (by rfl) (pa_cons (pv 0) (pa_cons (pv 1) pa_nil))) pe_int) pe_int)) pa_nil)) (pg_name (i := 4) sc_law_text.nd rfl (Or.inl rfl))
      (pss_one (ps_set (i := 3) sc_law_text.nd rfl (Or.inl rfl) (pe_op op_add_str (pv 3) (pe_callC C_law_word (hr.mono (by decide)) (by rfl) (pa_cons (pe_callC C_law_cell_at (hr.mono (by decide)) (by rfl) (pa_cons (pv 0) (pa_cons (pe_op op_add (pe_op op_add (pv 1) pe_int) (pv 4)) pa_nil))) (pa_cons (pv 2) (pa_cons pe_int pa_nil))))))))
    (pss_one (ps_ret (pv 3)))))), ?_⟩
    have m0 : 0 ≤ ns.getD j 0 % 4 := Int.emod_nonneg _ (by decide)
    have m1 : ns.getD j 0 % 4 < 4 := Int.emod_lt_of_pos _ (by decide)
    have t0 : 0 ≤ ns.getD j 0 / 4 % 3 := Int.emod_nonneg _ (by decide)
    have t1 : ns.getD j 0 / 4 % 3 < 3 := Int.emod_lt_of_pos _ (by decide)
    have g4 := four_ok (ns.getD j 0 % 4).toNat
    have hcell : ∀ H1, Ex H H1 → ∀ σ : L2.St, σ[0]? = some (some (.ref a)) → σ[1]? = some (some (.int (j : Int))) → Ev (tCall (spCellAt K) [] E0 (tCons (tVar 0) (tCons (tVar 1) tNil))) σ H1 (.int (ns.getD j 0)) := fun H1 e σ h0 h1 =>
      ev_callV (ea_cons (ev_var h0) (ea_cons (ev_var h1) ea_nil)) (spv_cell (ex_l e hS))
    refine q_asg (v := .int (([2, 3, 1, 26] : List Int).getD (ns.getD j 0 % 4).toNat 1)) ?_ fun H1 e1 => ?_
    · exact ev_ixNL (el_lst (ea_cons ev_c (ea_cons ev_c (ea_cons ev_c (ea_cons ev_c ea_nil)))) (by decide)) (fun H1 e1 => ev_op (hcell H1 e1 _ rfl rfl) ev_c (rv_mod (by decide))) (Int.toNat_of_nonneg m0).symm (four_at _ m0 m1)
    refine q_asg (v := T []) (ev_is ev_c empty_str) fun H2 e2 => ?_
    refine q_forR1 (n := 1 + ns.getD j 0 / 4 % 3) (ea_cons (ev_op ev_c (ev_op (ev_op (hcell H2 (e1.trans e2) _ rfl rfl) ev_c (rv_div ⟨by decide, by decide⟩)) ev_c (rv_mod (by decide))) rv_add) ea_nil) ⟨by omega, by omega⟩
      (fun i σ' H' => ∃ y4 : Option V, σ' = [some (.ref a), some (.int (j : Int)), some (.int (([2, 3, 1, 26] : List Int).getD (ns.getD j 0 % 4).toNat 1)), some (T (textOf ns j i)), y4] ∧ Ex H2 H') (fun H3 e3 => ⟨none, rfl, e3⟩) ?_ ?_
    · rintro i σ' H' hi ⟨y4, rfl, e3⟩
      have eH := (e1.trans e2).trans e3
      have hl := textOf_len ns j i
      have hw : IsW 10 (wordOf (ns.getD (j + 1 + i) 0) (([2, 3, 1, 26] : List Int).getD (ns.getD j 0 % 4).toNat 1) 10) := wordOf_is g4.1 g4.2 (by decide)
      have hw2 := hw.2.1
      refine s_asg (v := T (textOf ns j (i + 1))) ?_ fun H4 e4 => ⟨some (.int (i : Int)), rfl, e3.trans e4⟩
      refine ev_op (ev_var rfl) (ev_callV (ea_cons (ev_callV (ea_cons (ev_var rfl) (ea_cons (ev_I (ev_op (ev_op (ev_var rfl) ev_c rv_add) (ev_var rfl) rv_add) (b := ((j + 1 + i : Nat) : Int)) (by omega)) ea_nil)) (spv_cell (ex_l eH hS))) (ea_cons (ev_var rfl) (ea_cons ev_c ea_nil)))
        (spv_word (m := 10) (sm_cell hsm _) g4.1 g4.2 (by decide) (by decide))) (rv_cat (by omega))
    · rintro σ' H' ⟨y4, rfl, e3⟩
      exact s_ret (ev_var rfl) fun H4 e4 => q H4 (((e1.trans e2).trans e3).trans e4)
end
abbrev s_law : Stmt := topS 12
theorem sc_law : FnScope ["script", "one", "other", "first", "second", "found"] ["script"] (defScope s_law) := ⟨rfl, rfl, rfl, by decide +kernel, rfl, by decide +kernel, by decide +kernel⟩

section
variable {P : Program} {w : World} {K : PySem.W.Frag} {mg : Str → Option Value} {base : Heap}
def spLaw (K : PySem.W.Frag) : Sp := fun vs H Q _ => ∃ (a : Addr) (ns : List Int), vs = [.ref a] ∧ SqL K H a (ns.map V.int) ∧ (∀ z ∈ ns, Sm z) ∧ ∀ H', Q (.bl true) H'
theorem ok_law (Bn : Blt mg) {f : Addr} {fd : FuncData} (F : Fun K "law" "law" s_law f fd) (C_law_cell_at : Cal P w K mg base "_law_cell_at" 1 ["script", "k"] (spCellAt K)) (C_law_text : Cal P w K mg base "_law_text" 2 ["script", "start"] (spLText K))
    (C_overlap : Cal P w K mg base "overlap" 1 ["one", "next_one"] spOv) (C_law_overlap : Cal P w K mg base "_law_overlap" 1 ["one", "other"] spOv) (C_law_whole : Cal P w K mg base "_law_whole" 1 ["found"] spWhole) :
    FnOk P w K mg base (L2.CX P w) 3 f fd ["script"] (spLaw K) := by
  refine F.okX sc_law (fun vs H Q E h => ?_) (fun cdv A outer s H vs Q E hr h => ?_)
  · obtain ⟨a, ns, rfl, _⟩ := h
    rfl
  · obtain ⟨a, ns, rfl, hS, hsm, q⟩ := h
    suffices hh : ∃ t, PSs (cxOf (L2.CX P w) P w K mg base _ "law" (defScope s_law) f cdv A outer s H E).nox (defBody s_law) t ∧ t { nx := fun _ H' => Q .non H', rt := Q } (start _ [.ref a]) H by
      obtain ⟨t, h1, h2⟩ := hh
      exact ⟨t, h1.nox, h2⟩
    refine ⟨_, (pss_cons (ps_set (i := 1) sc_law.nd rfl (Or.inl rfl) (pe_callC C_law_text (hr.mono (by decide)) (by rfl) (pa_cons (pv 0) (pa_cons pe_int pa_nil))))
    (pss_cons (ps_set (i := 2) sc_law.nd rfl (Or.inl rfl) (pe_callC C_law_text (hr.mono (by decide)) (by rfl) (pa_cons (pv 0) (pa_cons pe_int pa_nil))))
    (pss_cons (ps_if (pt_cmpR op_eq (pe_op op_mod (pe_callC C_law_cell_at (hr.mono (by decide)) (by rfl) (pa_cons (pv 0) (pa_cons pe_int pa_nil))) pe_int) pe_int (nomark _))
      (pss_one (ps_set (i := 2) sc_law.nd rfl (Or.inl rfl) (pe_op op_add_str (pe_slice sl_str (pv 1) (po_some (pe_op op_mod (pe_callC C_law_cell_at (hr.mono (by decide)) (by rfl) (pa_cons (pv 0) (pa_cons pe_int pa_nil))) (pe_callB call_len_str (by rfl) Bn.len_ (by decide +kernel) (pa_cons (pv 1) pa_nil)))) po_none) (pv 2)))) pss_nil)
    (pss_cons (ps_for PassesOwn.never rfl (pi_list (pe_lst (pa_cons (pe_tup (pa_cons (pv 1) (pa_cons (pv 2) pa_nil))) (pa_cons (pe_tup (pa_cons (pv 2) (pa_cons (pv 1) pa_nil))) (pa_cons (pe_tup (pa_cons (pv 1) (pa_cons (pv 1) pa_nil))) (pa_cons (pe_tup (pa_cons (pv 2) (pa_cons (pv 2) pa_nil))) pa_nil)))))) (pg_tup (by rfl) (pgs_cons (pg_name (i := 3) sc_law.nd rfl (Or.inl rfl)) (pgs_cons (pg_name (i := 4) sc_law.nd rfl (Or.inl rfl)) pgs_nil)))
      (pss_cons (ps_set (i := 5) sc_law.nd rfl (Or.inl rfl) (pe_callC C_overlap (hr.mono (by decide)) (by rfl) (pa_cons (pv 3) (pa_cons (pv 4) pa_nil))))
      (pss_one (ps_if (PW.pt (pw_or (pt_not (pt_val (pe_callC C_law_whole (hr.mono (by decide)) (by rfl) (pa_cons (pv 5) pa_nil)))) (pw_or1 (pt_cmpR op_ne (pv 5) (pe_callC C_law_overlap (hr.mono (by decide)) (by rfl) (pa_cons (pv 3) (pa_cons (pv 4) pa_nil))) (nomark _)))))
        (pss_one (ps_ret pe_bl)) pss_nil))))
    (pss_one (ps_ret pe_bl)))))), ?_⟩
    have l0 := lawText_len ns 0
    have l4 := lawText_len ns 4
    refine q_asg (v := T (lawText ns 0)) (ev_callV (ea_cons (ev_var rfl) (ea_cons ev_c ea_nil)) (spv_text (j := 0) hS hsm)) fun H1 e1 => ?_
    refine q_asg (v := T (lawText ns 4)) (ev_callV (ea_cons (ev_var rfl) (ea_cons ev_c ea_nil)) (spv_text (j := 4) (ex_l e1 hS) hsm)) fun H2 e2 => ?_
    have hS2 := ex_l e2 (ex_l e1 hS)
    have o0 : 0 ≤ ns.getD 9 0 % ((lawText ns 0).length : Int) := Int.emod_nonneg _ (by omega)
    have o1 : ns.getD 9 0 % ((lawText ns 0).length : Int) < ((lawText ns 0).length : Int) := Int.emod_lt_of_pos _ (by omega)
    -- the second text, in one word
    obtain ⟨a2, ha2, ea2, eb2⟩ : ∃ a2 : W, a2.length ≤ 60 ∧ (ns.getD 8 0 % 2 = 1 → (lawText ns 0).drop (ns.getD 9 0 % ((lawText ns 0).length : Int)).toNat ++ lawText ns 4 = a2) ∧ (¬ ns.getD 8 0 % 2 = 1 → lawText ns 4 = a2) := by
      by_cases hc : ns.getD 8 0 % 2 = 1
      · exact ⟨_, by rw [List.length_append, List.length_drop]; omega, fun _ => rfl, fun z => absurd hc z⟩
      · exact ⟨_, by omega, fun z => absurd z hc, fun _ => rfl⟩
    refine q_ifAsg (v := T a2) (b := decide (ns.getD 8 0 % 2 = 1)) (et_test (ev_op (ev_op (ev_callV (ea_cons (ev_var rfl) (ea_cons ev_c ea_nil)) (spv_cell (j := 8) hS2)) ev_c (rv_mod (by decide))) ev_c rv_eqI))
      (fun hb => ev_T (ev_op (ev_T (ev_slT (ev_var rfl) (eo_some (ev_I (ev_op (ev_callV (ea_cons (ev_var rfl) (ea_cons ev_c ea_nil)) (spv_cell (j := 9) hS2)) (ev_lenT (ev_var rfl) (by omega)) (rv_mod (by omega))) (Int.toNat_of_nonneg o0).symm)) eo_none (by omega)) (cut_from _ _)) (ev_var rfl) (rv_cat (by rw [List.length_drop]; omega))) (ea2 (of_decide_eq_true hb)))
      (fun hb => by rw [← eb2 (of_decide_eq_false hb)]; rfl) fun H3 e3 => ?_
    refine q_forD (Φ := fun v H' => ∃ xs, IsLi xs v H' ∧ ∀ x ∈ xs, ∃ b c : W, b.length ≤ 60 ∧ c.length ≤ 60 ∧ IsTu [T b, T c] x H') (evd_imp (evd_lst (ead_cons (evd_tu (eu_tup (ea_cons (ev_var rfl) (ea_cons (ev_var rfl) ea_nil)) sz2))
      (ead_cons (evd_tu (eu_tup (ea_cons (ev_var rfl) (ea_cons (ev_var rfl) ea_nil)) sz2)) (ead_cons (evd_tu (eu_tup (ea_cons (ev_var rfl) (ea_cons (ev_var rfl) ea_nil)) sz2)) (ead_cons (evd_tu (eu_tup (ea_cons (ev_var rfl) (ea_cons (ev_var rfl) ea_nil)) sz2)) ead_nil stab_tu) stab_tu) stab_tu) stab_tu) ?_ ?_) ?_) ?_
    · rintro vs G G' e ⟨v1, r1, rfl, p1, v2, r2, rfl, p2, v3, r3, rfl, p3, v4, r4, rfl, p4, rfl⟩
      exact ⟨v1, _, rfl, stab_tu _ _ _ e p1, v2, _, rfl, stab_tu _ _ _ e p2, v3, _, rfl, stab_tu _ _ _ e p3, v4, _, rfl, stab_tu _ _ _ e p4, rfl⟩
    · rintro vs G ⟨v1, r1, rfl, p1, v2, r2, rfl, p2, v3, r3, rfl, p3, v4, r4, rfl, p4, rfl⟩
      show 4 ≤ 100000
      decide
    · rintro v G _ ⟨xs, hl, v1, r1, rfl, p1, v2, r2, rfl, p2, v3, r3, rfl, p3, v4, r4, rfl, p4, rfl⟩
      refine ⟨_, hl, fun x hx => ?_⟩
      simp only [List.mem_cons, List.not_mem_nil, or_false] at hx
      rcases hx with rfl | rfl | rfl | rfl
      · exact ⟨_, _, by omega, ha2, p1⟩
      · exact ⟨_, _, ha2, by omega, p2⟩
      · exact ⟨_, _, by omega, by omega, p3⟩
      · exact ⟨_, _, ha2, ha2, p4⟩
    · rintro v H4 e4 ⟨xs, ⟨p, rfl, hp⟩, hxs⟩
      refine q_forL (a := p) (xs := xs) ev_c (sq_of hp) (fun i σ' H' => ∃ y3 y4 y5 : Option V, σ' = [some (.ref a), some (T (lawText ns 0)), some (T a2), y3, y4, y5] ∧ Ex H4 H') (fun H5 e5 => ⟨none, none, none, rfl, e5⟩)
        (fun i σ' H' _ hP => by
          obtain ⟨y3, y4, y5, _, e⟩ := hP
          exact ex_l e (sq_of hp)) ?_ ?_
      · rintro i x σ' H' hi ⟨y3, y4, y5, rfl, e5⟩
        obtain ⟨b, c, hb, hc, t, rfl, ht⟩ := hxs x (List.mem_of_getElem? hi)
        refine ⟨t, [T b, T c], rfl, .inl (.inl (e5 t _ ht)), rfl, T b, [T c], rfl, T c, [], rfl, rfl, ?_⟩
        refine q_asg (v := .int (ov b c : Nat)) (ev_callV (ea_cons (ev_var rfl) (ea_cons (ev_var rfl) ea_nil)) (spv_ov (by omega) (by omega))) fun H6 e6 => ?_
        refine s_when (b := false) (et_b (et_or (et_not (et_B (ev_callV (ea_cons (ev_var rfl) ea_nil) spv_whole))) fun _ => et_test (ev_op (ev_var rfl) (ev_callV (ea_cons (ev_var rfl) (ea_cons (ev_var rfl) ea_nil)) (spv_ov (by omega) (by omega))) rv_neI)) (by simp)) (fun hb => by cases hb) (fun _ H7 e7 => ?_)
        exact ⟨_, _, _, rfl, (e5.trans e6).trans e7⟩
      · rintro σ' H' ⟨y3, y4, y5, rfl, e5⟩
        exact s_ret ev_c fun H6 e6 => q H6
end
theorem all_mk {l : PySem.W.OpenLaw} {w : World} {K : PySem.W.Frag} {h : Heap} {mg : Str → Option Value} {fa : Addr} (X : K.In h) (G : h.Ns mainGlobals mg) (hfa : mg "law" = some (.ref fa))
    {f0 : Addr} {od0 an0 : Option Addr} {sl0 : Array (Option Value)} {oc0 kV0 dc0 pm0 cd0 ct0 : Value}
    (a0 : PySem.W.nsIn K mainGlobals "_law_cell_at" = some (some (.ref f0))) (l0 : K.lookup f0 = some ⟨oc0, od0, .func (PySem.W.fnOf "_law_cell_at" "_law_cell_at" (defArgs s_law_cell_at) (defBody s_law_cell_at) (defScope s_law_cell_at) .none kV0 dc0 pm0 an0 cd0 ct0), sl0⟩) (c0 : PySem.W.codeIn K cd0 "_law_cell_at" = true) (k0 : PySem.W.keepIn K (.ref f0) = true)
    {f1 : Addr} {od1 an1 : Option Addr} {sl1 : Array (Option Value)} {oc1 kV1 dc1 pm1 cd1 ct1 : Value}
    (a1 : PySem.W.nsIn K mainGlobals "_law_word" = some (some (.ref f1))) (l1 : K.lookup f1 = some ⟨oc1, od1, .func (PySem.W.fnOf "_law_word" "_law_word" (defArgs s_law_word) (defBody s_law_word) (defScope s_law_word) .none kV1 dc1 pm1 an1 cd1 ct1), sl1⟩) (c1 : PySem.W.codeIn K cd1 "_law_word" = true) (k1 : PySem.W.keepIn K (.ref f1) = true)
    {f2 : Addr} {od2 an2 : Option Addr} {sl2 : Array (Option Value)} {oc2 kV2 dc2 pm2 cd2 ct2 : Value}
    (a2 : PySem.W.nsIn K mainGlobals "_law_text" = some (some (.ref f2))) (l2 : K.lookup f2 = some ⟨oc2, od2, .func (PySem.W.fnOf "_law_text" "_law_text" (defArgs s_law_text) (defBody s_law_text) (defScope s_law_text) .none kV2 dc2 pm2 an2 cd2 ct2), sl2⟩) (c2 : PySem.W.codeIn K cd2 "_law_text" = true) (k2 : PySem.W.keepIn K (.ref f2) = true)
    {f3 : Addr} {od3 an3 : Option Addr} {sl3 : Array (Option Value)} {oc3 kV3 dc3 pm3 cd3 ct3 : Value}
    (a3 : PySem.W.nsIn K mainGlobals "overlap" = some (some (.ref f3))) (l3 : K.lookup f3 = some ⟨oc3, od3, .func (PySem.W.fnOf "overlap" "overlap" (defArgs s_overlap) (defBody s_overlap) (defScope s_overlap) .none kV3 dc3 pm3 an3 cd3 ct3), sl3⟩) (c3 : PySem.W.codeIn K cd3 "overlap" = true) (k3 : PySem.W.keepIn K (.ref f3) = true)
    {f4 : Addr} {od4 an4 : Option Addr} {sl4 : Array (Option Value)} {oc4 kV4 dc4 pm4 cd4 ct4 : Value}
    (a4 : PySem.W.nsIn K mainGlobals "_law_whole" = some (some (.ref f4))) (l4 : K.lookup f4 = some ⟨oc4, od4, .func (PySem.W.fnOf "_law_whole" "_law_whole" (defArgs s_law_whole) (defBody s_law_whole) (defScope s_law_whole) .none kV4 dc4 pm4 an4 cd4 ct4), sl4⟩) (c4 : PySem.W.codeIn K cd4 "_law_whole" = true) (k4 : PySem.W.keepIn K (.ref f4) = true)
    {f5 : Addr} {od5 an5 : Option Addr} {sl5 : Array (Option Value)} {oc5 kV5 dc5 pm5 cd5 ct5 : Value}
    (a5 : PySem.W.nsIn K mainGlobals "_law_overlap" = some (some (.ref f5))) (l5 : K.lookup f5 = some ⟨oc5, od5, .func (PySem.W.fnOf "_law_overlap" "_law_overlap" (defArgs s_law_overlap) (defBody s_law_overlap) (defScope s_law_overlap) .none kV5 dc5 pm5 an5 cd5 ct5), sl5⟩) (c5 : PySem.W.codeIn K cd5 "_law_overlap" = true) (k5 : PySem.W.keepIn K (.ref f5) = true)
    {f6 : Addr} {od6 an6 : Option Addr} {sl6 : Array (Option Value)} {oc6 kV6 dc6 pm6 cd6 ct6 : Value}
    (a6 : PySem.W.nsIn K mainGlobals "law" = some (some (.ref f6))) (l6 : K.lookup f6 = some ⟨oc6, od6, .func (PySem.W.fnOf "law" "law" (defArgs s_law) (defBody s_law) (defScope s_law) .none kV6 dc6 pm6 an6 cd6 ct6), sl6⟩) (c6 : PySem.W.codeIn K cd6 "law" = true) (k6 : PySem.W.keepIn K (.ref f6) = true)
    (z_len : PySem.W.nsIn K mainGlobals "len" = some none)
    (z_range : PySem.W.nsIn K mainGlobals "range" = some none)
    (z_min : PySem.W.nsIn K mainGlobals "min" = some none)
    (z_sorted : PySem.W.nsIn K mainGlobals "sorted" = some none)
    (z_reversed : PySem.W.nsIn K mainGlobals "reversed" = some none)
    (z_isinstance : PySem.W.nsIn K mainGlobals "isinstance" = some none)
    (z_set : PySem.W.nsIn K mainGlobals "set" = some none)
    (z_tuple : PySem.W.nsIn K mainGlobals "tuple" = some none)
    (z_list : PySem.W.nsIn K mainGlobals "list" = some none)
    (z_sum : PySem.W.nsIn K mainGlobals "sum" = some none)
    (z_all : PySem.W.nsIn K mainGlobals "all" = some none)
    (z_int : PySem.W.nsIn K mainGlobals "int" = some none)
    (z_bool : PySem.W.nsIn K mainGlobals "bool" = some none)
    (z_str : PySem.W.nsIn K mainGlobals "str" = some none)
    (z_ValueError : PySem.W.nsIn K mainGlobals "ValueError" = some none)
    : ∃ fd : FuncData, (∀ (s : Shared) (v : Value), BindsTo s fd ⟨[v], []⟩ [("script", v)]) ∧ ∀ base : Heap, K.In base → base.Ns mainGlobals mg → FnOk l.prog w K mg base (L2.CX l.prog w) 3 fa fd ["script"] (spLaw K) := by
  have e := hfa.symm.trans (PySem.W.mg_of X G a6)
  cases e
  have Bn : Blt mg := ⟨PySem.W.mg_none_of X G z_len, PySem.W.mg_none_of X G z_range, PySem.W.mg_none_of X G z_min, PySem.W.mg_none_of X G z_sorted, PySem.W.mg_none_of X G z_reversed, PySem.W.mg_none_of X G z_isinstance, PySem.W.mg_none_of X G z_set, PySem.W.mg_none_of X G z_tuple, PySem.W.mg_none_of X G z_list, PySem.W.mg_none_of X G z_sum, PySem.W.mg_none_of X G z_all, PySem.W.mg_none_of X G z_int, PySem.W.mg_none_of X G z_bool, PySem.W.mg_none_of X G z_str, PySem.W.mg_none_of X G z_ValueError⟩
  refine ⟨PySem.W.fnOf "law" "law" (defArgs s_law) (defBody s_law) (defScope s_law) .none kV6 dc6 pm6 an6 cd6 ct6, fun s v => .of_eq rfl, fun base _ _ => ?_⟩
  have C_law_cell_at := ok_law_cell_at (P := l.prog) (w := w) (base := base) Bn (dfn_mk (st := s_law_cell_at) X G a0 l0 c0 k0) 
  have C_law_word := ok_law_word (P := l.prog) (w := w) (base := base) Bn (dfn_mk (st := s_law_word) X G a1 l1 c1 k1) 
  have C_law_text := ok_law_text (P := l.prog) (w := w) (base := base) Bn (dfn_mk (st := s_law_text) X G a2 l2 c2 k2) (C_law_cell_at := C_law_cell_at) (C_law_word := C_law_word)
  have C_overlap := ok_overlap (P := l.prog) (w := w) (base := base) Bn (dfn_mk (st := s_overlap) X G a3 l3 c3 k3) 
  have C_law_whole := ok_law_whole (P := l.prog) (w := w) (base := base) Bn (dfn_mk (st := s_law_whole) X G a4 l4 c4 k4) 
  have C_law_overlap := ok_law_overlap (P := l.prog) (w := w) (base := base) Bn (dfn_mk (st := s_law_overlap) X G a5 l5 c5 k5) 
  exact ok_law (P := l.prog) (w := w) (base := base) Bn (fun_mk (st := s_law) l6 c6 k6) (C_law_text := C_law_text) (C_overlap := C_overlap) (C_law_cell_at := C_law_cell_at) (C_law_whole := C_law_whole) (C_law_overlap := C_law_overlap)
end Lw
open PySem PySem.W PyProof.Rows
set_option maxHeartbeats 0 in
theorem PySem.Challenge.cw_laidwords_k01_overlaps_holds : PySem.Challenge.rw_laidwords_k01_overlaps.Holds := by
  w_on; o_law; k_head; (case hw => w_witness2)
  k_fill
  refine L2.walk_ofB (l := PySem.Challenge.rw_laidwords_k01_overlaps) (n := 63) (k := 3) (x := "script") (CX := fun w => L2.CX PySem.Challenge.rw_laidwords_k01_overlaps.prog w) (sp := fun w => Lw.spLaw _) rfl (by decide) rfl ⟨rfl, by decide, by decide⟩ (fun w h Y => PySem.W.kIn_of Y) ?F (fun _ _ a ns hl hb _ hS => ⟨a, ns, rfl, hS, fun z hz => Lw.sm_bits (hb z hz), fun _ => rfl⟩) (fun _ _ _ _ _ h => Lw.cx_out h)
  case F =>
    intro w mg fa h KX G hmg
    refine' Lw.all_mk KX G hmg ?a0 ?l0 ?c0 ?k0 ?a1 ?l1 ?c1 ?k1 ?a2 ?l2 ?c2 ?k2 ?a3 ?l3 ?c3 ?k3 ?a4 ?l4 ?c4 ?k4 ?a5 ?l5 ?c5 ?k5 ?a6 ?l6 ?c6 ?k6 ?z_len ?z_range ?z_min ?z_sorted ?z_reversed ?z_isinstance ?z_set ?z_tuple ?z_list ?z_sum ?z_all ?z_int ?z_bool ?z_str ?z_ValueError
    (case a0 => k_is)
    (case l0 => k_is)
    (case c0 => k_is)
    (case k0 => k_is)
    (case a1 => k_is)
    (case l1 => k_is)
    (case c1 => k_is)
    (case k1 => k_is)
    (case a2 => k_is)
    (case l2 => k_is)
    (case c2 => k_is)
    (case k2 => k_is)
    (case a3 => k_is)
    (case l3 => k_is)
    (case c3 => k_is)
    (case k3 => k_is)
    (case a4 => k_is)
    (case l4 => k_is)
    (case c4 => k_is)
    (case k4 => k_is)
    (case a5 => k_is)
    (case l5 => k_is)
    (case c5 => k_is)
    (case k5 => k_is)
    (case a6 => k_is)
    (case l6 => k_is)
    (case c6 => k_is)
    (case k6 => k_is)
    (case z_len => k_is)
    (case z_range => k_is)
    (case z_min => k_is)
    (case z_sorted => k_is)
    (case z_reversed => k_is)
    (case z_isinstance => k_is)
    (case z_set => k_is)
    (case z_tuple => k_is)
    (case z_list => k_is)
    (case z_sum => k_is)
    (case z_all => k_is)
    (case z_int => k_is)
    (case z_bool => k_is)
    (case z_str => k_is)
    (case z_ValueError => k_is)
