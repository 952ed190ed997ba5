import PyProof.Rows.All
import Wide.All
import OpenK.AllK
import Wide.FinOn
import HandS.ForMost
import HandS.Evl
import HandS.Steps
import HandS.IsInst
import HandS.Defaults
import HandS.Head0
import HandS.Head1
import HandS.Head2
import HandS.HeadEnd
import HandS.HeadHook1
import HandS.HeadHook2
import KE.KeyNested
import PyProof.DictRoadsH
import HandS.Dict
import KE.LtSeq
import PySem.Challenge.RW_foldrule_k05_whole_numbers_of_greater_ru
set_option Elab.async false
set_option linter.all false
set_option maxRecDepth 100000
set_option maxHeartbeats 4000000
/-! Generic part: defs as data, calls by them, more of what evaluates to what. -/
namespace Fo
open PySem PySem.Spec PyProof.Rows L2 Evl
/-! ### a def of the top, its promise -/
/-- the def x of the text stands behind the top -/
structure Pd (K : PySem.W.Frag) (mg : Str → Option Value) (x : Str) (st : Stmt) (ps : List Str) : Prop where
  ex : ∃ f fd, FunD K x x (defArgs st) (defBody st) (defScope st) [] [] f fd ∧ mg x = some (.ref f) ∧ Binds K fd ps []
/-- it keeps a promise -/
structure Df (P : Program) (w : World) (K : PySem.W.Frag) (mg : Str → Option Value) (base : Heap) (k : Nat) (x : Str) (ps : List Str) (sp : Sp) : Prop where
  ex : ∃ f fd, FnOk P w K mg base CX0 k f fd ps sp ∧ mg x = some (.ref f) ∧ PySem.W.keepIn K (.ref f) = true ∧ Binds K fd ps []
section
variable {P : Program} {w : World} {K : PySem.W.Frag} {mg : Str → Option Value} {base : Heap} {x : Str} {st : Stmt} {ps N : List Str} {k : Nat} {sp : Sp}
theorem Pd.df (F : Pd K mg x st ps) (S : FnScope N ps (defScope st)) (len : ∀ vs H Q E, sp vs H Q E → vs.length = ps.length)
    (hbody : ∀ (f : Addr) (cdv : Value) (A : Around) (outer : List Env) (s : Shared) (H : Hp) (vs : List V) (Q : VK) (E : XK), Room k (A.deeper (envOfC x (defScope st) s.heap.objs.size f cdv)) → sp vs H Q E →
      ∃ t, PSs (cxOf CX0 P w K mg base N x (defScope st) f cdv A outer s H E).nox (defBody st) t ∧ t { nx := fun _ H' => Q .non H', rt := Q } (start N vs) H) : Df P w K mg base (k + 1) x ps sp := by
  obtain ⟨f, fd, F1, hm, hb⟩ := F.ex
  exact ⟨f, fd, F1.ok S len fun cdv A outer s H vs Q E hr h => let ⟨t, d, r⟩ := hbody f cdv A outer s H vs Q E hr h; ⟨t, d.nox, r⟩, hm, F1.kp, hb⟩
theorem Df.mono {j : Nat} (D : Df P w K mg base j x ps sp) (h : j ≤ k) : Df P w K mg base k x ps sp := by
  obtain ⟨f, fd, F, r⟩ := D.ex
  exact ⟨f, fd, F.mono h, r⟩
end
section
variable {X : Cx}
theorem pe_callD {k : Nat} {x : Str} {ps : List Str} {sp : Sp} {e : Expr} {es : List Expr} {t : TA} {p pos : Pos} (D : Df X.prog X.w X.K X.mg X.base k x ps sp) (hr : Room k X.A) (hg : Gl X x) (ha : PA X (e :: es) t) (hdb : (x == ("__debug__" : Str)) = false := by decide)
    (he : starEach (e :: es) X.env = (false, eval e X.env) :: starEach es X.env := by rfl) (hpl : (backTo pos (starEach es X.env)).any (·.1) = false := by rfl) :
    PE X (.Call (.Name x p) (e :: es) [] pos) (tCall sp [] E0 t) := by
  obtain ⟨f, fd, F, hm, hk, hb⟩ := D.ex
  exact pe_call F hr hg hm hk hb .nil pass0 ha hdb he hpl
theorem pe_gint {x : Str} {i : Int} {pos : Pos} (hg : Gl X x) (hm : ∃ t, X.mg x = some (.int i t)) (hd : (x == ("__debug__" : Str)) = false := by decide) : PE X (.Name x pos) (tC (.int i)) := by
  obtain ⟨t, h⟩ := hm
  exact pe_glob hg h ⟨t, rfl⟩ hd
theorem pe_gstr {x z : Str} {pos : Pos} (hg : Gl X x) (hm : ∃ t, X.mg x = some (.str z t)) (hd : (x == ("__debug__" : Str)) = false := by decide) : PE X (.Name x pos) (tC (.str z)) := by
  obtain ⟨t, h⟩ := hm
  exact pe_glob hg h ⟨t, rfl⟩ hd
end
/-! ### readings by short names -/
abbrev rAddI : R2 := rI0 fun i j => .int (i + j)
abbrev rSubI : R2 := rI0 fun i j => .int (i - j)
abbrev rMulI : R2 := rI CMul fun i j => .int (i * j)
abbrev rModI : R2 := rI (fun _ j => 0 < j) fun i j => .int (i % j)
abbrev rDivI : R2 := rI CDiv fun i j => .int (i / j)
abbrev rLtI : R2 := rI0 fun i j => .bl (decide (i < j))
abbrev rLeI : R2 := rI0 fun i j => .bl (decide (i ≤ j))
abbrev rGtI : R2 := rI0 fun i j => .bl (decide (j < i))
abbrev rGeI : R2 := rI0 fun i j => .bl (decide (j ≤ i))
abbrev rNegI : V → Hp → VK → Prop := rU fun i => .int (-i)
end Fo

namespace Fo
open PySem PySem.Spec PyProof.Rows L2 Evl
/-! ### lists of ints -/
abbrev iv (ns : List Int) : List V := ns.map V.int
theorem iv_get {ns : List Int} {i : Nat} {v : V} (h : (iv ns)[i]? = some v) : ∃ n, ns[i]? = some n ∧ v = .int n := by
  rw [List.getElem?_map] at h
  cases e : ns[i]? with
  | none => rw [e] at h; cases h
  | some n => rw [e] at h; exact ⟨n, rfl, (Option.some.inj h).symm⟩
theorem iv_at {ns : List Int} {i : Nat} {n : Int} (h : ns[i]? = some n) : (iv ns)[i]? = some (.int n) := by
  rw [List.getElem?_map, h]; rfl
theorem iv_len (ns : List Int) : (iv ns).length = ns.length := List.length_map _
/-! ### data -/
def dI (ns : List Int) : PyData := .list (ns.map PyData.int)
theorem dpAll_ints {K : PySem.W.Frag} {H : Hp} : ∀ ns : List Int, DpAll K H (iv ns) (ns.map PyData.int)
  | [] => .nil
  | n :: ns => .cons (.int n) (dpAll_ints ns)
theorem dp_ints {K : PySem.W.Frag} {H : Hp} {a : Addr} {ns : List Int} (h : SqL K H a (iv ns)) : Dp K H (.ref a) (dI ns) := .lst h (dpAll_ints ns)
theorem lay_ints : ∀ ns : List Int, PyData.canLayAll0 (ns.map PyData.int) = true
  | [] => by simp [PyData.canLayAll0]
  | n :: ns => by simp [PyData.canLayAll0, PyData.canLay0, lay_ints ns]
theorem depth_ints : ∀ ns : List Int, PyData.depthAll (ns.map PyData.int) ≤ 1
  | [] => by simp [PyData.depthAll]
  | n :: ns => by
    have := depth_ints ns
    simp only [List.map_cons, PyData.depthAll, PyData.depth]
    omega
theorem shaped_dI (ns : List Int) : SeqAt.shaped (dI ns) = true := by
  have := depth_ints ns
  simp only [SeqAt.shaped, dI, PyData.canLay0, lay_ints, PyData.depth, Bool.true_and, decide_eq_true_eq]
  omega
theorem eqvAll_ints : ∀ ns ms : List Int, PyData.eqvAll (ns.map PyData.int) (ms.map PyData.int) = decide (ns = ms)
  | [], [] => by simp [PyData.eqvAll]
  | [], _ :: _ => by simp [PyData.eqvAll]
  | _ :: _, [] => by simp [PyData.eqvAll]
  | n :: ns, m :: ms => by
    simp only [List.map_cons, PyData.eqvAll, PyData.eqv, eqvAll_ints ns ms]
    by_cases e : n = m
    · subst e; by_cases e2 : ns = ms <;> simp [e2]
    · simp [e]
theorem eqv_dI (ns ms : List Int) : PyData.eqv (dI ns) (dI ms) = decide (ns = ms) := by
  unfold dI
  rw [PyData.eqv]
  exact eqvAll_ints ns ms
/-- lists of lists of ints -/
def dLL (xs : List (List Int)) : PyData := .list (xs.map dI)
theorem lay_LL : ∀ xs : List (List Int), PyData.canLayAll0 (xs.map dI) = true
  | [] => by simp [PyData.canLayAll0]
  | n :: ns => by simp [PyData.canLayAll0, PyData.canLay0, dI, lay_ints, lay_LL ns]
theorem depth_LL : ∀ xs : List (List Int), PyData.depthAll (xs.map dI) ≤ 3
  | [] => by simp [PyData.depthAll]
  | n :: ns => by
    have h1 := depth_LL ns
    have h2 := depth_ints n
    simp only [List.map_cons, PyData.depthAll, dI, PyData.depth]
    omega
theorem shaped_dLL (xs : List (List Int)) : SeqAt.shaped (dLL xs) = true := by
  have := depth_LL xs
  simp only [SeqAt.shaped, dLL, PyData.canLay0, lay_LL, PyData.depth, Bool.true_and, decide_eq_true_eq]
  omega
theorem eqvAll_LL : ∀ xs ys : List (List Int), PyData.eqvAll (xs.map dI) (ys.map dI) = decide (xs = ys)
  | [], [] => by simp [PyData.eqvAll]
  | [], _ :: _ => by simp [PyData.eqvAll]
  | _ :: _, [] => by simp [PyData.eqvAll]
  | n :: ns, m :: ms => by
    simp only [List.map_cons, PyData.eqvAll, eqv_dI, eqvAll_LL ns ms]
    by_cases e : n = m
    · subst e; by_cases e2 : ns = ms <;> simp [e2]
    · simp [e]
theorem eqv_dLL (xs ys : List (List Int)) : PyData.eqv (dLL xs) (dLL ys) = decide (xs = ys) := by
  unfold dLL
  rw [PyData.eqv]
  exact eqvAll_LL xs ys
/-! ### more of what evaluates to what -/
section
variable {K : PySem.W.Frag} {σ : L2.St} {H H' : Hp} {ta tb tc te tx : TE} {t u : TT} {x y z v : V} {r r' : R2} {D : Ends} {tu tw tz : TS} {g : TG}
theorem ev_chain {a b : Bool} (ha : Ev ta σ H x) (hb : Ev tb σ H y) (h1 : RV r x y H (.bl a)) (hc : a = true → Ev tc σ H z) (h2 : a = true → RV r' y z H (.bl b)) : Ev (tChain r r' ta tb tc) σ H (.bl (a && b)) := fun H1 e Q q =>
  ha H1 e _ fun H2 e2 => hb H2 (e.trans e2) _ fun H3 e3 => h1 H3 ((e.trans e2).trans e3) _ fun H4 e4 => ⟨a, rfl, by
    cases a with
    | true =>
      rw [if_pos rfl]
      exact hc rfl H4 (((e.trans e2).trans e3).trans e4) _ fun H5 e5 => h2 rfl H5 ((((e.trans e2).trans e3).trans e4).trans e5) Q fun H6 e6 => q H6 ((((e2.trans e3).trans e4).trans e5).trans e6)
    | false =>
      rw [if_neg Bool.false_ne_true]
      exact q H4 ((e2.trans e3).trans e4)⟩
theorem rv_neI {a b : Addr} {ns ms : List Int} (h1 : SqL K H a (iv ns)) (h2 : SqL K H b (iv ms)) : RV (rNeD K) (.ref a) (.ref b) H (.bl (!decide (ns = ms))) := fun H1 e Q q =>
  ⟨dI ns, dI ms, dp_ints (ex_l e h1), dp_ints (ex_l e h2), shaped_dI _, shaped_dI _, by rw [eqv_dI]; exact q H1 (Ex.refl _)⟩
theorem rv_eqI {a b : Addr} {ns ms : List Int} (h1 : SqL K H a (iv ns)) (h2 : SqL K H b (iv ms)) : RV (rEqD K) (.ref a) (.ref b) H (.bl (decide (ns = ms))) := fun H1 e Q q =>
  ⟨dI ns, dI ms, dp_ints (ex_l e h1), dp_ints (ex_l e h2), shaped_dI _, shaped_dI _, by rw [eqv_dI]; exact q H1 (Ex.refl _)⟩
/-- a list of refs to lists of ints -/
def RowsAt (K : PySem.W.Frag) (H : Hp) : List V → List (List Int) → Prop := Paired fun v ns => ∃ a, v = .ref a ∧ SqL K H a (iv ns)
theorem RowsAt.mono (e : Ex H H') : ∀ {vs : List V} {xs : List (List Int)}, RowsAt K H vs xs → RowsAt K H' vs xs
  | _, _, .nil => .nil
  | _, _, .cons ⟨a, h1, h2⟩ t => .cons ⟨a, h1, ex_l e h2⟩ (RowsAt.mono e t)
theorem RowsAt.dp : ∀ {vs : List V} {xs : List (List Int)}, RowsAt K H vs xs → DpAll K H vs (xs.map dI)
  | _, _, .nil => .nil
  | _, _, .cons ⟨a, h1, h2⟩ t => by rw [h1]; exact .cons (dp_ints h2) (RowsAt.dp t)
theorem rv_neLL {a b : Addr} {vs ws : List V} {xs ys : List (List Int)} (h1 : SqL K H a vs) (r1 : RowsAt K H vs xs) (h2 : SqL K H b ws) (r2 : RowsAt K H ws ys) : RV (rNeD K) (.ref a) (.ref b) H (.bl (!decide (xs = ys))) := fun H1 e Q q =>
  ⟨dLL xs, dLL ys, .lst (ex_l e h1) (r1.mono e).dp, .lst (ex_l e h2) (r2.mono e).dp, shaped_dLL _, shaped_dLL _, by rw [eqv_dLL]; exact q H1 (Ex.refl _)⟩
theorem rv_eqLL {a b : Addr} {vs ws : List V} {xs ys : List (List Int)} (h1 : SqL K H a vs) (r1 : RowsAt K H vs xs) (h2 : SqL K H b ws) (r2 : RowsAt K H ws ys) : RV (rEqD K) (.ref a) (.ref b) H (.bl (decide (xs = ys))) := fun H1 e Q q =>
  ⟨dLL xs, dLL ys, .lst (ex_l e h1) (r1.mono e).dp, .lst (ex_l e h2) (r2.mono e).dp, shaped_dLL _, shaped_dLL _, by rw [eqv_dLL]; exact q H1 (Ex.refl _)⟩
/-- a comprehension without a test over range(n): all turns give -/
theorem given_all (n : Nat) (v : Nat → V) : given n (fun _ => true) v = (List.range n).map v := by
  unfold given
  rw [List.filter_eq_self.mpr (fun _ _ => rfl)]
theorem et_yes : EvT tYes σ H true := fun H1 _ Q q => q H1 (Ex.refl H1)
theorem el_lcRy {ta : TA} {j : Nat} {vs : List Nat} {n : Nat} (v : Nat → V) (h : EvA ta σ H [.int (n : Int)]) (hn : n ≤ 40000) (hw : ∀ x, wipe ((wipe σ vs).set j (some x)) vs = wipe σ vs)
    (he : ∀ (i : Nat) H1, Ex H H1 → i < n → Ev te ((wipe σ vs).set j (some (.int (i : Int)))) H1 (v i)) : EvL (tLc (iRng1 ta) (gName j) tYes te vs) σ H ((List.range n).map v) := by
  have h1 := el_lcR1 (te := te) (fun _ => true) v h ⟨by omega, by omega⟩ hw (fun i H1 e hi => et_yes) (fun i H1 e hi _ => he i H1 e (by omega))
  rw [given_all] at h1
  exact h1
theorem el_lcLy {a : Addr} {xs : List V} {tl : TE} {j : Nat} {vs : List Nat} (v : Nat → V) (h : Ev tl σ H (.ref a)) (hx : SqL K H a xs) (hz : xs.length ≤ 40000) (hw : ∀ x, wipe ((wipe σ vs).set j (some x)) vs = wipe σ vs)
    (he : ∀ (i : Nat) (x : V) H1, Ex H H1 → xs[i]? = some x → Ev te ((wipe σ vs).set j (some x)) H1 (v i)) : EvL (tLc (iList K tl) (gName j) tYes te vs) σ H ((List.range xs.length).map v) := by
  have h1 := el_lcL (te := te) (fun _ => true) v h hx hz hw (fun i x H1 e hi => et_yes) (fun i x H1 e hi _ => he i x H1 e hi)
  rw [given_all] at h1
  exact h1
/-- nothing is given where no turn's test holds; something where one does -/
theorem given_nil {n : Nat} {f : Nat → Bool} {v : Nat → V} (h : ∀ i, i < n → f i = false) : given n f v = [] := by
  unfold given
  rw [List.filter_eq_nil_iff.mpr (fun i hi => by rw [h i (List.mem_range.mp hi)]; exact Bool.false_ne_true)]
  rfl
theorem given_ints {n : Nat} {f : Nat → Bool} {g : Nat → Int} : given n f (fun i => V.int (g i)) = iv (((List.range n).filter f).map g) := by
  show (((List.range n).filter f).map fun i => V.int (g i)) = (((List.range n).filter f).map g).map V.int
  rw [List.map_map]
  rfl
theorem ev_maxL {a : Addr} {ns : List Int} {m : Int} (h : Ev te σ H (.ref a)) (hs : SqL K H a (iv ns)) (hm : m ∈ ns) (hle : ∀ y ∈ ns, y ≤ m) : Ev (tCB (rMax K) (tCons te tNil)) σ H (.int m) := fun H1 e Q q =>
  h H1 e _ fun H2 e2 => ⟨a, ns, rfl, ex_l (e.trans e2) hs, List.length_pos_of_mem hm, fun m' h1 h2 => by
    have e3 : m' = m := by have := hle m' h1; have := h2 m hm; omega
    rw [e3]
    exact q H2 e2⟩
theorem ev_minL {a : Addr} {ns : List Int} {m : Int} (h : Ev te σ H (.ref a)) (hs : SqL K H a (iv ns)) (hm : m ∈ ns) (hle : ∀ y ∈ ns, m ≤ y) : Ev (tCB (rMin K) (tCons te tNil)) σ H (.int m) := fun H1 e Q q =>
  h H1 e _ fun H2 e2 => ⟨a, ns, rfl, ex_l (e.trans e2) hs, List.length_pos_of_mem hm, fun m' h1 h2 => by
    have e3 : m' = m := by have := hle m' h1; have := h2 m hm; omega
    rw [e3]
    exact q H2 e2⟩
/-- isinstance -/
theorem ev_isi {c : V} {ty uu : Value} {b : Bool} (h : Ev te σ H x) (hc : Ev tc σ H c) (k : ClsV c uu) (ht : ∀ H1, Ex H H1 → TyX K H1 x ty) (hb : PySem.W.kitOne K ty uu = some b) : Ev (tCB (rIsi K) (tCons te (tCons tc tNil))) σ H (.bl b) := fun H1 e Q q =>
  h H1 e _ fun H2 e2 => hc H2 (e.trans e2) _ fun H3 e3 => ⟨x, c, ty, uu, b, rfl, k, ht H3 ((e.trans e2).trans e3), hb, q H3 (e2.trans e3)⟩
/-- a new list of values, the promise's shapes -/
def SqV (K : PySem.W.Frag) (H : Hp) (v : V) (ns : List Int) : Prop := ∃ a, v = .ref a ∧ SqL K H a (iv ns)
theorem SqV.mono {ns : List Int} (e : Ex H H') (h : SqV K H v ns) : SqV K H' v ns := let ⟨a, h1, h2⟩ := h; ⟨a, h1, ex_l e h2⟩
theorem sqv {a : Addr} {ns : List Int} (h : SqL K H a (iv ns)) : SqV K H (.ref a) ns := ⟨a, rfl, h⟩
end
end Fo

namespace Fo
open PySem PySem.Spec PyProof.Rows L2 Evl
/-! ### readings of the defs: printed by gen.py -/
def t__law_cell_at (K : PySem.W.Frag) (E : XK) : TS := (tSeq (tIfS (tTest (tOp rLtI (tVar 1) (tCB (rLenS K) (tCons (tVar 0) tNil)))) (tRet (tOp (rIxL K) (tVar 0) (tVar 1))) tNext)
    (tRet (tC (.int 0))))
def t__law_draw (K : PySem.W.Frag) (E : XK) (p__law_cell_at : Sp) : TS := (tSeq (tAsg (tOp rModI (tOp rMulI (tOp rAddI (tOp rAddI (tCall p__law_cell_at [] E (tCons (tVar 0) (tCons (tOp rModI (tVar 1) (tC (.int 61))) tNil))) (tOp rMulI (tC (.int 7919)) (tVar 1))) (tC (.int 104729))) (tC (.int 48271))) (tC (.int 2147483647))) (gName 2))
    (tSeq (tAsg (tOp rModI (tOp rMulI (tVar 2) (tVar 2)) (tC (.int 2147483647))) (gName 2))
    (tRet (tOp rDivI (tOp rModI (tOp rMulI (tVar 2) (tC (.int 16807))) (tC (.int 2147483647))) (tC (.int 8))))))
def t__law_whole (K : PySem.W.Frag) (E : XK) : TS := (tRet (tAndV (tCB (rIsi K) (tCons (tVar 0) (tCons (tC (.ty "int")) tNil))) (tNotV (tCB (rIsi K) (tCons (tVar 0) (tCons (tC (.ty "bool")) tNil))))))
def t__law_rule (K : PySem.W.Frag) (E : XK) (p__law_draw : Sp) : TS := (tSeq (tAsg (tOp (rIxL K) (tLst (tCons (tC (.int 4)) (tCons (tC (.int 9)) (tCons (tC (.int 60)) (tCons (tC (.int 20)) tNil))))) (tOp rModI (tCall p__law_draw [] E (tCons (tVar 0) (tCons (tC (.int 2)) tNil))) (tC (.int 4)))) (gName 2))
    (tSeq (tAsg (tLc (iRng1 (tCons (tVar 1) tNil)) (gName 4) tYes (tOp rAddI (tC (.int 1)) (tOp rModI (tCall p__law_draw [] E (tCons (tVar 0) (tCons (tOp rAddI (tC (.int 10)) (tVar 4)) tNil))) (tVar 2))) [4]) (gName 3))
    (tSeq (tIfS (tTest (tOp rEq (tOp rModI (tCall p__law_draw [] E (tCons (tVar 0) (tCons (tC (.int 3)) tNil))) (tC (.int 4))) (tC (.int 1)))) (tAsg (tLc (iRng1 (tCons (tVar 1) tNil)) (gName 4) tYes (tOp (rIxL K) (tVar 3) (tOp rModI (tVar 4) (tC (.int 2)))) [4]) (gName 3)) tNext)
    (tRet (tVar 3)))))
def t__law_folding (K : PySem.W.Frag) (E : XK) (p__law_draw : Sp) : TS := (tRet (tLc (iRng1 (tCons (tOp rSubI (tVar 2) (tC (.int 1))) tNil)) (gName 3) tYes (tOp rModI (tCall p__law_draw [] E (tCons (tVar 0) (tCons (tOp rAddI (tVar 1) (tVar 3)) tNil))) (tC (.int 2))) [3]))
def t__law_joints (K : PySem.W.Frag) (E : XK) : TS := (tSeq (tAsg (tLst (tCons (tC (.int 0)) tNil)) (gName 2))
    (tSeq (tAsg (tC (.bl true)) (gName 3))
    (tSeq (tFor (iRng1 (tCons (tCB (rLenS K) (tCons (tVar 0) tNil)) tNil)) (gName 4) (tSeq (tIfS (tAnd (tTest (tOp rGtI (tVar 4) (tC (.int 0)))) (tTest (tOp rEq (tOp (rIxL K) (tVar 1) (tOp rSubI (tVar 4) (tC (.int 1)))) (tC (.int 1))))) (tAsg (tNotV (tVar 3)) (gName 3)) tNext)
    (tIfS (tB (tVar 3)) (tDrop (tBM K "list" rAppend (tVar 2) (tCons (tOp rAddI (tOp (rIxL K) (tVar 2) (tUn rNegI (tC (.int 1)))) (tOp (rIxL K) (tVar 0) (tVar 4))) tNil))) (tDrop (tBM K "list" rAppend (tVar 2) (tCons (tOp rSubI (tOp (rIxL K) (tVar 2) (tUn rNegI (tC (.int 1)))) (tOp (rIxL K) (tVar 0) (tVar 4))) tNil))))))
    (tRet (tVar 2)))))
def t__law_span (K : PySem.W.Frag) (E : XK) (p__law_joints : Sp) : TS := (tSeq (tAsg (tCB (rSorted K) (tCons (tCall p__law_joints [] E (tCons (tVar 0) (tCons (tVar 1) tNil))) tNil)) (gName 2))
    (tRet (tOp rSubI (tOp (rIxL K) (tVar 2) (tUn rNegI (tC (.int 1)))) (tOp (rIxL K) (tVar 2) (tC (.int 0))))))
def t__law_numbers (K : PySem.W.Frag) (E : XK) (p__law_whole : Sp) : TS := (tSeq (tIfS (tOr (tNot (tB (tCB (rIsi K) (tCons (tVar 0) (tCons (tC (.ty "list")) tNil))))) (tTest (tOp (rNeD K) (tVar 0) (tVar 1)))) (tRet (tC (.bl false))) tNext)
    (tRet (tOp (rIn K true) (tC (.bl false)) (tLc (iList K (tVar 0)) (gName 2) tYes (tCall p__law_whole [] E (tCons (tVar 2) tNil)) [2]))))
def t_see_rule (K : PySem.W.Frag) (E : XK) (x_0 : TS) (x_1 : TS) : TS := (tSeq (tIfS (tNot (tTest (tChain rLeI rLeI (tC (.int 1)) (tCB (rLenS K) (tCons (tVar 0) tNil)) (tC (.int 12))))) x_0 tNext)
    (tIfS (tTest (tOp (rNeD K) (tLc (iList K (tVar 0)) (gName 1) (tNot (tTest (tChain rLeI rLeI (tC (.int 1)) (tVar 1) (tC (.int 60))))) (tVar 1) [1]) (tLst tNil))) x_1 tNext))
def t_see_folding (K : PySem.W.Frag) (E : XK) (p_see_rule : Sp) (x_0 : TS) : TS := (tSeq (tDrop (tCall p_see_rule [] E (tCons (tVar 0) tNil)))
    (tIfS (tOr (tTest (tOp rNe (tCB (rLenS K) (tCons (tVar 1) tNil)) (tOp rSubI (tCB (rLenS K) (tCons (tVar 0) tNil)) (tC (.int 1))))) (tTest (tOp (rNeD K) (tLc (iList K (tVar 1)) (gName 2) (tAnd (tTest (tOp rNe (tVar 2) (tC (.int 0)))) (tTest (tOp rNe (tVar 2) (tC (.int 1))))) (tVar 2) [2]) (tLst tNil)))) x_0 tNext))
def t_places_of (K : PySem.W.Frag) (E : XK) : TS := (tSeq (tAsg (tLst (tCons (tC (.int 0)) (tCons (tOp (rIxL K) (tVar 0) (tC (.int 0))) tNil))) (gName 2))
    (tSeq (tAsg (tC (.int 1)) (gName 3))
    (tSeq (tFor (iRng1 (tCons (tCB (rLenS K) (tCons (tVar 1) tNil)) tNil)) (gName 4) (tSeq (tIfS (tTest (tOp rEq (tOp (rIxL K) (tVar 1) (tVar 4)) (tC (.int 1)))) (tAsg (tOp rSubI (tC (.int 0)) (tVar 3)) (gName 3)) tNext)
    (tDrop (tBM K "list" rAppend (tVar 2) (tCons (tOp rAddI (tOp (rIxL K) (tVar 2) (tUn rNegI (tC (.int 1)))) (tOp rMulI (tVar 3) (tOp (rIxL K) (tVar 0) (tOp rAddI (tVar 4) (tC (.int 1)))))) tNil)))))
    (tRet (tVar 2)))))
def t_joints (K : PySem.W.Frag) (E : XK) (p_see_folding : Sp) (p_places_of : Sp) : TS := (tSeq (tDrop (tCall p_see_folding [] E (tCons (tVar 0) (tCons (tVar 1) tNil))))
    (tRet (tCall p_places_of [] E (tCons (tVar 0) (tCons (tVar 1) tNil)))))
def t_span (K : PySem.W.Frag) (E : XK) (p_see_folding : Sp) (p_places_of : Sp) : TS := (tSeq (tDrop (tCall p_see_folding [] E (tCons (tVar 0) (tCons (tVar 1) tNil))))
    (tSeq (tAsg (tCall p_places_of [] E (tCons (tVar 0) (tCons (tVar 1) tNil))) (gName 2))
    (tRet (tOp rSubI (tCB (rMax K) (tCons (tVar 2) tNil)) (tCB (rMin K) (tCons (tVar 2) tNil))))))
def t_fits (K : PySem.W.Frag) (E : XK) (p_see_folding : Sp) (p_span : Sp) : TS := (tSeq (tDrop (tCall p_see_folding [] E (tCons (tVar 0) (tCons (tVar 1) tNil))))
    (tRet (tOp rLeI (tCall p_span [] E (tCons (tVar 0) (tCons (tVar 1) tNil))) (tVar 2))))
def t_law_k01 (K : PySem.W.Frag) (E : XK) (p__law_draw : Sp) (p__law_rule : Sp) (p__law_folding : Sp) (p__law_joints : Sp) (p_joints : Sp) (p__law_numbers : Sp) (p_span : Sp) (p__law_whole : Sp) (p_fits : Sp) : TS := (tSeq (tAsg (tOp rAddI (tC (.int 1)) (tOp rModI (tCall p__law_draw [] E (tCons (tVar 0) (tCons (tC (.int 1)) tNil))) (tC (.int 12)))) (gName 1))
    (tSeq (tAsg (tCall p__law_rule [] E (tCons (tVar 0) (tCons (tVar 1) tNil))) (gName 2))
    (tSeq (tAsg (tCall p__law_folding [] E (tCons (tVar 0) (tCons (tC (.int 30)) (tCons (tVar 1) tNil)))) (gName 3))
    (tSeq (tAsg (tLst (tCons (tCB (rListS K) (tCons (tVar 2) tNil)) (tCons (tCB (rListS K) (tCons (tVar 3) tNil)) tNil))) (gName 4))
    (tSeq (tAsg (tCall p__law_joints [] E (tCons (tVar 2) (tCons (tVar 3) tNil))) (gName 5))
    (tSeq (tFor (iRng1 (tCons (tC (.int 2)) tNil)) (gName 6) (tSeq (tAsg (tCall p_joints [] E (tCons (tOp (rIxL K) (tVar 4) (tC (.int 0))) (tCons (tOp (rIxL K) (tVar 4) (tC (.int 1))) tNil))) (gName 7))
    (tSeq (tIfS (tOr (tNot (tB (tCall p__law_numbers [] E (tCons (tVar 7) (tCons (tVar 5) tNil))))) (tTest (tOp (rNeD K) (tVar 4) (tLst (tCons (tVar 2) (tCons (tVar 3) tNil)))))) (tRet (tC (.bl false))) tNext)
    (tDrop (tBM0 K "list" rClear (tVar 7))))))
    (tSeq (tAsg (tCall p_span [] E (tCons (tOp (rIxL K) (tVar 4) (tC (.int 0))) (tCons (tOp (rIxL K) (tVar 4) (tC (.int 1))) tNil))) (gName 8))
    (tSeq (tIfS (tOr (tNot (tB (tCall p__law_whole [] E (tCons (tVar 8) tNil)))) (tTest (tOp rNe (tVar 8) (tOp rSubI (tCB (rMax K) (tCons (tVar 5) tNil)) (tCB (rMin K) (tCons (tVar 5) tNil)))))) (tRet (tC (.bl false))) tNext)
    (tSeq (tFor (iList K (tLst (tCons (tVar 8) (tCons (tOp rSubI (tVar 8) (tC (.int 1))) (tCons (tOp rModI (tCall p__law_draw [] E (tCons (tVar 0) (tCons (tC (.int 50)) tNil))) (tC (.int 801))) tNil))))) (gName 9) (tSeq (tAsg (tCall p_fits [] E (tCons (tOp (rIxL K) (tVar 4) (tC (.int 0))) (tCons (tOp (rIxL K) (tVar 4) (tC (.int 1))) (tCons (tVar 9) tNil)))) (gName 7))
    (tIfS (tOr (tNot (tB (tCB (rIsi K) (tCons (tVar 7) (tCons (tC (.ty "bool")) tNil))))) (tTest (tOp rNe (tVar 7) (tOp rLeI (tVar 8) (tVar 9))))) (tRet (tC (.bl false))) tNext)))
    (tRet (tOp (rEqD K) (tVar 4) (tLst (tCons (tVar 2) (tCons (tVar 3) tNil))))))))))))))
end Fo

namespace Fo
open PySem PySem.Spec PyProof.Rows L2 Evl
abbrev En (Q : VK) : Ends := { nx := fun _ H' => Q .non H', rt := Q }
section
variable {K : PySem.W.Frag} {H : Hp} {Q : VK} {E E1 : XK} {vs : List V}
/-! ### a cell of the script, a draw -/
def cellAt (ns : List Int) (k : Nat) : Int := ns.getD k 0
def p__law_cell_at (K : PySem.W.Frag) : Sp := fun vs H Q _ => ∃ a ns, ∃ k : Nat, vs = [.ref a, .int k] ∧ SqL K H a (iv ns) ∧ RetV (.int (cellAt ns k)) H Q
theorem r__law_cell_at (h : p__law_cell_at K vs H Q E) : t__law_cell_at K E1 (En Q) (start ["script", "k"] vs) H := by
  obtain ⟨a, ns, k, rfl, hS, q⟩ := h
  refine q_when (et_test (ev_op (ev_var rfl) (ev_len (ev_var rfl) hS) rv_I0)) (fun hb H1 e => ?_) (fun hb H1 e => ?_)
  · rw [iv_len] at hb
    have hk : k < ns.length := by have := of_decide_eq_true hb; omega
    refine s_ret (ev_op (ev_var rfl) (ev_var rfl) (rv_ixL (ex_l e hS) (atI_nat (iv_at (List.getElem?_eq_getElem hk))))) fun H2 e2 => ?_
    have e3 : cellAt ns k = ns[k] := by unfold cellAt; rw [List.getD_eq_getElem?_getD, List.getElem?_eq_getElem hk]; rfl
    rw [← e3]
    exact q.go (e.trans e2)
  · rw [iv_len] at hb
    have hk : ¬ k < ns.length := by have := of_decide_eq_false hb; omega
    refine s_ret ev_c fun H2 e2 => ?_
    have e3 : cellAt ns k = 0 := by unfold cellAt; rw [List.getD_eq_getElem?_getD, List.getElem?_eq_none (by omega)]; rfl
    have q' := q.go (e.trans e2)
    rw [e3] at q'
    exact q'
theorem sp_cell {a : Addr} {ns : List Int} {k : Nat} (h : SqL K H a (iv ns)) : SpV (p__law_cell_at K) [.ref a, .int k] H (.int (cellAt ns k)) := fun H1 e Q q E => ⟨a, ns, k, rfl, ex_l e h, fun H2 e2 => q H2 e2⟩
def drawA (c : Int) : Int := c * 48271 % 2147483647
def drawB (s : Int) : Int := s * s % 2147483647
def drawC (s : Int) : Int := s * 16807 % 2147483647 / 8
def draw (ns : List Int) (k : Nat) : Int := drawC (drawB (drawA (cellAt ns (k % 61) + 7919 * k + 104729)))
theorem draw_nn (ns : List Int) (k : Nat) : 0 ≤ draw ns k := by
  unfold draw drawC
  omega
theorem draw_lt (ns : List Int) (k : Nat) : draw ns k < 268435456 := by
  unfold draw drawC
  omega
def p__law_draw (K : PySem.W.Frag) : Sp := fun vs H Q _ => ∃ a ns, ∃ k : Nat, vs = [.ref a, .int k] ∧ SqL K H a (iv ns) ∧ k ≤ 1000 ∧ RetV (.int (draw ns k)) H Q
theorem r__law_draw (h : p__law_draw K vs H Q E) : t__law_draw K E1 (p__law_cell_at K) (En Q) (start ["script", "k", "stir"] vs) H := by
  obtain ⟨a, ns, k, rfl, hS, hk, q⟩ := h
  have e61 : ((k : Int) % 61) = ((k % 61 : Nat) : Int) := by omega
  have hA : ∀ c : Int, 0 ≤ drawA c ∧ drawA c < 2147483647 := fun c => by unfold drawA; omega
  have hB : ∀ c : Int, 0 ≤ drawB c ∧ drawB c < 2147483647 := fun c => by unfold drawB; omega
  refine q_asg (v := .int (drawA (cellAt ns (k % 61) + 7919 * k + 104729))) ?_ fun H1 e1 => ?_
  · refine ev_op (ev_op (ev_op (ev_op (ev_call (vs := [.ref a, .int ((k % 61 : Nat) : Int)]) (ea_cons (ev_var rfl) (ea_cons (ev_is (ev_op (ev_var rfl) ev_c (rv_I (by decide))) (congrArg V.int e61)) ea_nil)) (sp_cell hS)) (ev_op ev_c (ev_var rfl) (rv_I (.inl ⟨by decide, by decide⟩))) rv_I0) ev_c rv_I0) ev_c (rv_I (.inr ⟨by decide, by decide⟩))) ev_c (rv_I (by decide))
  have hA1 := hA (cellAt ns (k % 61) + 7919 * k + 104729)
  refine q_asg (v := .int (drawB (drawA (cellAt ns (k % 61) + 7919 * k + 104729)))) ?_ fun H2 e2 => ?_
  · exact ev_op (ev_op (ev_var rfl) (ev_var rfl) (rv_I (.inl ⟨by omega, by omega⟩))) ev_c (rv_I (by decide))
  have hB1 := hB (drawA (cellAt ns (k % 61) + 7919 * k + 104729))
  refine s_ret (v := .int (draw ns k)) (ev_op (ev_op (ev_op (ev_var rfl) ev_c (rv_I (.inr ⟨by decide, by decide⟩))) ev_c (rv_I (by decide))) ev_c (rv_I ⟨by decide, by decide⟩)) fun H3 e3 => q.go ((e1.trans e2).trans e3)
theorem sp_draw {a : Addr} {ns : List Int} {k : Nat} (h : SqL K H a (iv ns)) (hk : k ≤ 1000) : SpV (p__law_draw K) [.ref a, .int k] H (.int (draw ns k)) := fun H1 e Q q E => ⟨a, ns, k, rfl, ex_l e h, hk, fun H2 e2 => q H2 e2⟩
end
end Fo

/-! Mathematics of folded rules: plain Lean. -/
namespace Fo
/-- does the k-th piece go upward -/
def upAt (f : List Int) : Nat → Bool
  | 0 => true
  | k + 1 => if f.getD k 0 = 1 then !(upAt f k) else upAt f k
def upU (f : List Int) : Nat → Bool
  | 0 => true
  | k + 1 => upAt f k
/-- the place behind k pieces -/
def plAt (r f : List Int) : Nat → Int
  | 0 => 0
  | k + 1 => if upAt f k then plAt r f k + r.getD k 0 else plAt r f k - r.getD k 0
def plTo (r f : List Int) (n : Nat) : List Int := (List.range n).map (plAt r f)
def jointsOf (r f : List Int) : List Int := plTo r f (r.length + 1)
theorem plTo_succ (r f : List Int) (n : Nat) : plTo r f (n + 1) = plTo r f n ++ [plAt r f n] := by
  unfold plTo
  rw [List.range_succ, List.map_append]
  rfl
theorem plTo_len (r f : List Int) (n : Nat) : (plTo r f n).length = n := by simp [plTo]
/-- the greatest, the least of a list that has nought in it -/
def mx (l : List Int) : Int := l.foldr max 0
def mn (l : List Int) : Int := l.foldr min 0
theorem mx_ge (l : List Int) : 0 ≤ mx l ∧ ∀ x ∈ l, x ≤ mx l := by
  induction l with
  | nil => exact ⟨Int.le_refl 0, fun x h => by cases h⟩
  | cons a l ih =>
    have e : mx (a :: l) = max a (mx l) := rfl
    rw [e]
    refine ⟨by omega, fun x h => ?_⟩
    rcases List.mem_cons.mp h with rfl | h
    · omega
    · have := ih.2 x h; omega
theorem mn_le (l : List Int) : mn l ≤ 0 ∧ ∀ x ∈ l, mn l ≤ x := by
  induction l with
  | nil => exact ⟨Int.le_refl 0, fun x h => by cases h⟩
  | cons a l ih =>
    have e : mn (a :: l) = min a (mn l) := rfl
    rw [e]
    refine ⟨by omega, fun x h => ?_⟩
    rcases List.mem_cons.mp h with rfl | h
    · omega
    · have := ih.2 x h; omega
theorem mx_mem' (l : List Int) : mx l = 0 ∨ mx l ∈ l := by
  induction l with
  | nil => exact .inl rfl
  | cons a l ih =>
    have e : mx (a :: l) = max a (mx l) := rfl
    rw [e]
    by_cases h : mx l ≤ a
    · rw [Int.max_eq_left h]; exact .inr List.mem_cons_self
    · rw [Int.max_eq_right (by omega)]
      rcases ih with h | h
      · exact .inl h
      · exact .inr (List.mem_cons_of_mem _ h)
theorem mn_mem' (l : List Int) : mn l = 0 ∨ mn l ∈ l := by
  induction l with
  | nil => exact .inl rfl
  | cons a l ih =>
    have e : mn (a :: l) = min a (mn l) := rfl
    rw [e]
    by_cases h : a ≤ mn l
    · rw [Int.min_eq_left h]; exact .inr List.mem_cons_self
    · rw [Int.min_eq_right (by omega)]
      rcases ih with h | h
      · exact .inl h
      · exact .inr (List.mem_cons_of_mem _ h)
theorem mx_mem {l : List Int} (h : (0 : Int) ∈ l) : mx l ∈ l := by
  rcases mx_mem' l with e | e
  · rw [e]; exact h
  · exact e
theorem mn_mem {l : List Int} (h : (0 : Int) ∈ l) : mn l ∈ l := by
  rcases mn_mem' l with e | e
  · rw [e]; exact h
  · exact e
theorem zero_joints (r f : List Int) : (0 : Int) ∈ jointsOf r f := List.mem_map.mpr ⟨0, List.mem_range.mpr (by omega), rfl⟩
def spanOf (r f : List Int) : Int := mx (jointsOf r f) - mn (jointsOf r f)
theorem mx_is {l : List Int} {m : Int} (h0 : (0 : Int) ∈ l) (hm : m ∈ l) (h : ∀ y ∈ l, y ≤ m) : mx l = m := by
  have h1 := (mx_ge l).2 m hm
  have h2 := h _ (mx_mem h0)
  omega
theorem mn_is {l : List Int} {m : Int} (h0 : (0 : Int) ∈ l) (hm : m ∈ l) (h : ∀ y ∈ l, m ≤ y) : mn l = m := by
  have h1 := (mn_le l).2 m hm
  have h2 := h _ (mn_mem h0)
  omega
/-- what a rule is, what a folding of it -/
structure OkR (r : List Int) : Prop where
  l1 : 1 ≤ r.length
  l12 : r.length ≤ 12
  all : ∀ x ∈ r, 1 ≤ x ∧ x ≤ 60
structure OkF (r f : List Int) : Prop where
  len : f.length + 1 = r.length
  all : ∀ t ∈ f, t = 0 ∨ t = 1
theorem getD_of {l : List Int} {i : Nat} (h : i < l.length) : l[i]? = some (l.getD i 0) := by
  rw [List.getD_eq_getElem?_getD, List.getElem?_eq_getElem h]; rfl
theorem getD_mem {l : List Int} {i : Nat} (h : i < l.length) : l.getD i 0 ∈ l := List.mem_of_getElem? (getD_of h)
end Fo

namespace Fo
open PySem PySem.Spec PyProof.Rows L2 Evl
/-- behind H a new list stands at l, all else as it was -/
structure Mk (H : Hp) (l : Addr) (H' : Hp) (xs : List V) : Prop where
  new : H l = none
  ex : Ex H H'
  at_ : H' l = some (.lst xs)
theorem Mk.app {H H' H1 : Hp} {l : Addr} {xs ys : List V} (m : Mk H l H' xs) (e : Ex H' H1) : Mk H l (upd H1 l (.lst ys)) ys := ⟨m.new, Ex.mut (m.ex.trans e) m.new, upd_same⟩
theorem Mk.mono {H H' H1 : Hp} {l : Addr} {xs : List V} (m : Mk H l H' xs) (e : Ex H' H1) : Mk H l H1 xs := ⟨m.new, m.ex.trans e, e _ _ m.at_⟩
theorem Mk.back {H0 H H' : Hp} {l : Addr} {xs : List V} (m : Mk H l H' xs) (e : Ex H0 H) : Mk H0 l H' xs := ⟨fresh_back e m.new, e.trans m.ex, m.at_⟩
theorem Mk.ret {H H' : Hp} {l : Addr} {xs : List V} {Q : VK} (m : Mk H l H' xs) (q : RetL xs H Q) : Q (.ref l) H' := q l H' m.new m.ex m.at_
section
variable {K : PySem.W.Frag} {H : Hp} {Q : VK} {E E1 : XK} {vs : List V}
/-! ### is it a whole number -/
def p__law_whole : Sp := fun vs H Q _ => ∃ n : Int, vs = [.int n] ∧ RetV (.bl true) H Q
theorem r__law_whole (h : p__law_whole vs H Q E) : t__law_whole K E1 (En Q) (start ["found"] vs) H := by
  obtain ⟨n, rfl, q⟩ := h
  refine s_ret (v := .bl true) ?_ fun H1 e => q.go e
  exact ev_andV (a := true) (b := true) (ev_isi (ev_var rfl) ev_c (.ty _) (fun H1 e => .base (.int n)) (kit_ty (by decide +kernel))) fun _ =>
    ev_notV (a := false) (ev_isi (ev_var rfl) ev_c (.ty _) (fun H1 e => .base (.int n)) (kit_ty (by decide +kernel)))
theorem sp_whole {n : Int} : SpV p__law_whole [.int n] H (.bl true) := fun H1 e Q q E => ⟨n, rfl, fun H2 e2 => q H2 e2⟩
/-! ### the joints, as the law walks them -/
def p__law_joints (K : PySem.W.Frag) : Sp := fun vs H Q _ => ∃ a b r f, vs = [.ref a, .ref b] ∧ SqL K H a (iv r) ∧ SqL K H b (iv f) ∧ f.length + 1 = r.length ∧ r.length ≤ 1000 ∧ RetL (iv (jointsOf r f)) H Q
theorem pl_last {r f : List Int} {i : Nat} : atI (iv (plTo r f (i + 1))) (-1) = some (.int (plAt r f i)) := by
  rw [plTo_succ]
  show atI ((plTo r f i ++ [plAt r f i]).map V.int) (-1) = _
  rw [List.map_append]
  exact atI_last _ _
theorem iv_app {xs : List Int} {y : Int} : iv xs ++ [V.int y] = iv (xs ++ [y]) := by simp [iv]
theorem r__law_joints (h : p__law_joints K vs H Q E) : t__law_joints K E1 (En Q) (start ["rule", "folding", "places", "up", "k"] vs) H := by
  obtain ⟨a, b, r, f, rfl, hr, hf, hl, hz, q⟩ := h
  refine q_asgL (el_lst (ea_cons ev_c ea_nil) (by decide)) fun p H1 hp e1 h1 => ?_
  refine q_asg ev_c fun H2 e2 => ?_
  refine q_forR1 (n := (r.length : Int)) (ea_cons (ev_is (ev_len (ev_var rfl) (ex_l (e1.trans e2) hr)) (by rw [iv_len])) ea_nil) ⟨by omega, by omega⟩
    (fun i σ' H' => ∃ kv, σ' = [some (.ref a), some (.ref b), some (.ref p), some (.bl (upU f i)), kv] ∧ Mk H p H' (iv (plTo r f (i + 1))))
    (fun H3 e3 => ⟨_, rfl, hp, (e1.trans e2).trans e3, e3 _ _ (e2 _ _ h1)⟩) ?_ ?_
  · rintro i σ' H' hi ⟨kv, rfl, m⟩
    have hi' : i < r.length := by omega
    have hr' := ex_l m.ex hr
    have hf' := ex_l m.ex hf
    -- if k > 0 and folding[k - 1] == 1: up = not up
    refine q_ifAsg (v := .bl (upAt f i)) (b := decide ((0 : Int) < i) && decide ((if 0 < i then f.getD (i - 1) 0 else 0) = 1)) ?_ ?_ ?_ ?_
    · refine et_and (et_test (ev_op (ev_var rfl) ev_c rv_I0)) fun hb => et_test ?_
      have h0 : 0 < i := by have := of_decide_eq_true hb; omega
      rw [if_pos h0]
      refine ev_is (ev_op (ev_op (ev_var rfl) (ev_is (ev_op (ev_var rfl) ev_c rv_I0) (congrArg V.int (show (i : Int) - 1 = ((i - 1 : Nat) : Int) by omega))) (rv_ixL hf' (atI_nat (iv_at (getD_of (i := i - 1) (by omega)))))) ev_c (rv_eq rfl)) ?_
      rw [dec_int]
      rfl
    · intro hb
      refine ev_is (ev_notV (a := upU f i) (ev_var rfl)) ?_
      obtain ⟨h1, h2⟩ := Bool.and_eq_true_iff.mp hb
      have h0 : 0 < i := by have := of_decide_eq_true h1; omega
      obtain ⟨j, rfl⟩ : ∃ j, i = j + 1 := ⟨i - 1, by omega⟩
      have h3 := of_decide_eq_true h2
      rw [if_pos h0] at h3
      show V.bl (!(upAt f j)) = V.bl (if f.getD j 0 = 1 then !(upAt f j) else upAt f j)
      rw [if_pos (show f.getD j 0 = 1 from h3)]
    · intro hb
      have e : upU f i = upAt f i := by
        cases i with
        | zero => rfl
        | succ j =>
          show upAt f j = if f.getD j 0 = 1 then !(upAt f j) else upAt f j
          have h2 : ¬ f.getD j 0 = 1 := fun z => by
            have : (decide ((0 : Int) < (j + 1 : Nat)) && decide ((if 0 < j + 1 then f.getD (j + 1 - 1) 0 else 0) = 1)) = true := by
              rw [if_pos (Nat.succ_pos j)]
              simp only [Bool.and_eq_true, decide_eq_true_eq]
              exact ⟨by omega, z⟩
            rw [this] at hb
            cases hb
          rw [if_neg h2]
      show List.set [some (V.ref a), some (V.ref b), some (V.ref p), some (V.bl (upU f i)), some (V.int (i : Int))] 3 (some (V.bl (upAt f i))) = _
      rw [← e]
      rfl
    · intro H3 e3
      refine s_if (et_B (ev_var rfl)) (fun hu H4 e4 => ?_) (fun hu H4 e4 => ?_)
      · refine s_app ((m.mono (e3.trans e4)).at_) (ev_var rfl) (ev_op (ev_op (ev_var rfl) (ev_un ev_c ru_neg) (rv_ixL (sq_of (m.mono (e3.trans e4)).at_) pl_last)) (ev_op (ev_var rfl) (ev_var rfl) (rv_ixL (ex_l (e3.trans e4) hr') (atI_nat (iv_at (getD_of hi'))))) rv_I0) (by rw [iv_len, plTo_len]; omega) fun H5 e5 => ?_
        refine ⟨_, rfl, ?_⟩
        have e : plTo r f (i + 1 + 1) = plTo r f (i + 1) ++ [plAt r f i + r.getD i 0] := by
          rw [plTo_succ r f (i + 1)]
          show _ ++ [if upAt f i then _ else _] = _
          rw [if_pos hu]
        rw [e, ← iv_app]
        exact (m.mono (e3.trans e4)).app e5
      · refine s_app ((m.mono (e3.trans e4)).at_) (ev_var rfl) (ev_op (ev_op (ev_var rfl) (ev_un ev_c ru_neg) (rv_ixL (sq_of (m.mono (e3.trans e4)).at_) pl_last)) (ev_op (ev_var rfl) (ev_var rfl) (rv_ixL (ex_l (e3.trans e4) hr') (atI_nat (iv_at (getD_of hi'))))) rv_I0) (by rw [iv_len, plTo_len]; omega) fun H5 e5 => ?_
        refine ⟨_, rfl, ?_⟩
        have e : plTo r f (i + 1 + 1) = plTo r f (i + 1) ++ [plAt r f i - r.getD i 0] := by
          rw [plTo_succ r f (i + 1)]
          show _ ++ [if upAt f i then _ else _] = _
          rw [if_neg (by rw [hu]; exact Bool.false_ne_true)]
        rw [e, ← iv_app]
        exact (m.mono (e3.trans e4)).app e5
  · rintro σ' H' ⟨kv, rfl, m⟩
    refine s_ret (ev_var rfl) fun H3 e3 => ?_
    exact (m.mono e3).ret q
theorem sl_joints {a b : Addr} {r f : List Int} (hr : SqL K H a (iv r)) (hf : SqL K H b (iv f)) (hl : f.length + 1 = r.length) (hz : r.length ≤ 1000) : SpL (p__law_joints K) [.ref a, .ref b] H (iv (jointsOf r f)) := fun H1 e Q q E =>
  ⟨a, b, r, f, rfl, ex_l e hr, ex_l e hf, hl, hz, fun p H2 hp e2 h2 => q p H2 hp e2 h2⟩
end
end Fo

namespace Fo
open PySem PySem.Spec PyProof.Rows L2 Evl
section
variable {K : PySem.W.Frag} {H : Hp} {Q : VK} {E E1 : XK} {vs : List V}
/-! ### the drawn rule, the drawn folding -/
def mostOf (ns : List Int) : Int := [(4 : Int), 9, 60, 20].getD (draw ns 2 % 4).toNat 0
theorem most_ok (ns : List Int) : 1 ≤ mostOf ns ∧ mostOf ns ≤ 60 := by
  unfold mostOf
  have h : (draw ns 2 % 4).toNat < 4 := by omega
  generalize (draw ns 2 % 4).toNat = i at h
  match i, h with
  | 0, _ => decide
  | 1, _ => decide
  | 2, _ => decide
  | 3, _ => decide
def baseOf (ns : List Int) (p : Nat) : List Int := (List.range p).map fun i => 1 + draw ns (10 + i) % mostOf ns
def ruleOf (ns : List Int) (p : Nat) : List Int := if draw ns 3 % 4 = 1 then (List.range p).map fun i => (baseOf ns p).getD (i % 2) 0 else baseOf ns p
theorem base_len (ns : List Int) (p : Nat) : (baseOf ns p).length = p := by simp [baseOf]
theorem rule_len (ns : List Int) (p : Nat) : (ruleOf ns p).length = p := by
  unfold ruleOf
  split
  · simp
  · exact base_len ns p
theorem base_ok (ns : List Int) (p : Nat) : ∀ x ∈ baseOf ns p, 1 ≤ x ∧ x ≤ 60 := by
  intro x hx
  obtain ⟨i, _, rfl⟩ := List.mem_map.mp hx
  have hm := most_ok ns
  have h1 : 0 ≤ draw ns (10 + i) % mostOf ns := Int.emod_nonneg _ (by omega)
  have h2 : draw ns (10 + i) % mostOf ns < mostOf ns := Int.emod_lt_of_pos _ (by omega)
  omega
theorem rule_ok (ns : List Int) (p : Nat) (h1 : 1 ≤ p) (h2 : p ≤ 12) : OkR (ruleOf ns p) := by
  refine ⟨by rw [rule_len]; exact h1, by rw [rule_len]; exact h2, fun x hx => ?_⟩
  unfold ruleOf at hx
  split at hx
  · obtain ⟨i, hi, rfl⟩ := List.mem_map.mp hx
    have hi' := List.mem_range.mp hi
    refine base_ok ns p _ (getD_mem ?_)
    rw [base_len]
    have : i % 2 ≤ i := Nat.mod_le _ _
    omega
  · exact base_ok ns p x hx
def p__law_rule (K : PySem.W.Frag) : Sp := fun vs H Q _ => ∃ a ns, ∃ p : Nat, vs = [.ref a, .int p] ∧ SqL K H a (iv ns) ∧ 1 ≤ p ∧ p ≤ 12 ∧ RetL (iv (ruleOf ns p)) H Q
theorem map_int {n : Nat} {g : Nat → Int} : (List.range n).map (fun i => V.int (g i)) = iv ((List.range n).map g) := by
  show _ = List.map V.int (List.map g _)
  rw [List.map_map]
  rfl
theorem r__law_rule (h : p__law_rule K vs H Q E) : t__law_rule K E1 (p__law_draw K) (En Q) (start ["script", "pieces", "most", "rule", "k"] vs) H := by
  obtain ⟨a, ns, p, rfl, hS, hp1, hp2, q⟩ := h
  have hm := most_ok ns
  refine q_asg (v := .int (mostOf ns)) ?_ fun H1 e1 => ?_
  · refine ev_opL1 (xs := iv [4, 9, 60, 20]) (y := .int (((draw ns 2 % 4).toNat : Nat) : Int)) (el_lst (ea_cons ev_c (ea_cons ev_c (ea_cons ev_c (ea_cons ev_c ea_nil)))) (by decide)) (fun H1 e => ?_) (fun p' H1 hp' e => rv_ixL (sq_of hp') (atI_nat (iv_at (getD_of (by have := draw_nn ns 2; simp; omega)))))
    refine ev_is (ev_op (ev_call (vs := [.ref a, .int ((2 : Nat) : Int)]) (ea_cons (ev_var rfl) (ea_cons ev_c ea_nil)) (sp_draw (ex_l e hS) (by decide))) ev_c (rv_I (by decide))) (congrArg V.int ?_)
    have := draw_nn ns 2
    omega
  refine q_asgL (xs := iv (baseOf ns p)) ?_ fun q1 H2 hq1 e2 h2 => ?_
  · have h := el_lcRy (te := tOp rAddI (tC (.int 1)) (tOp rModI (tCall (p__law_draw K) [] E0 (tCons (tVar 0) (tCons (tOp rAddI (tC (.int 10)) (tVar 4)) tNil))) (tVar 2))) (ta := tCons (tVar 1) tNil) (j := 4) (vs := [4]) (n := p) (σ := [some (.ref a), some (.int p), some (.int (mostOf ns)), none, none]) (H := H1) (fun i => V.int (1 + draw ns (10 + i) % mostOf ns)) (ea_cons (ev_var rfl) ea_nil) (by omega) (fun x => rfl) (fun i H2 e hi =>
      ev_op ev_c (ev_op (ev_call (vs := [.ref a, .int ((10 + i : Nat) : Int)]) (ea_cons (ev_var rfl) (ea_cons (ev_is (ev_op ev_c (ev_var rfl) rv_I0) (congrArg V.int (by omega))) ea_nil)) (sp_draw (ex_l (e1.trans e) hS) (by omega))) (ev_var rfl) (rv_I (by omega))) rv_I0)
    rw [map_int] at h
    exact h
  have S2 := ex_l (e1.trans e2) hS
  refine q_when (b := decide (draw ns 3 % 4 = 1)) (et_test ?_) (fun hb H3 e3 => ?_) (fun hb H3 e3 => ?_)
  · refine ev_is (ev_op (ev_op (ev_call (vs := [.ref a, .int ((3 : Nat) : Int)]) (ea_cons (ev_var rfl) (ea_cons ev_c ea_nil)) (sp_draw S2 (by decide))) ev_c (rv_I (by decide))) ev_c (rv_eq rfl)) ?_
    rw [dec_int]; rfl
  · have hb' := of_decide_eq_true hb
    refine s_asgL (xs := iv (ruleOf ns p)) ?_ fun q2 H4 hq2 e4 h4 => ?_
    · have h := el_lcRy (te := tOp (rIxL K) (tVar 3) (tOp rModI (tVar 4) (tC (.int 2)))) (ta := tCons (tVar 1) tNil) (j := 4) (vs := [4]) (n := p) (σ := [some (.ref a), some (.int p), some (.int (mostOf ns)), some (.ref q1), none]) (H := H3) (fun i => V.int ((baseOf ns p).getD (i % 2) 0)) (ea_cons (ev_var rfl) ea_nil) (by omega) (fun x => rfl) (fun i H4 e hi =>
        ev_op (ev_var rfl) (ev_is (ev_op (ev_var rfl) ev_c (rv_I (by decide))) (congrArg V.int (show (i : Int) % 2 = ((i % 2 : Nat) : Int) by omega))) (rv_ixL (sq_of ((e3.trans e) _ _ h2)) (atI_nat (iv_at (getD_of (by rw [base_len]; have : i % 2 ≤ i := Nat.mod_le _ _; omega))))))
      rw [map_int] at h
      have e : ruleOf ns p = (List.range p).map fun i => (baseOf ns p).getD (i % 2) 0 := if_pos hb'
      rw [e]
      exact h
    · exact s_ret (ev_var rfl) fun H5 e5 => q q2 H5 (fresh_back ((e1.trans e2).trans e3) hq2) ((((e1.trans e2).trans e3).trans e4).trans e5) (e5 _ _ h4)
  · have hb' := of_decide_eq_false hb
    have e : ruleOf ns p = baseOf ns p := if_neg hb'
    rw [e] at q
    exact s_ret (ev_var rfl) fun H5 e5 => q q1 H5 (fresh_back e1 hq1) (((e1.trans e2).trans e3).trans e5) ((e3.trans e5) _ _ h2)
theorem sl_rule {a : Addr} {ns : List Int} {p : Nat} (h : SqL K H a (iv ns)) (h1 : 1 ≤ p) (h2 : p ≤ 12) : SpL (p__law_rule K) [.ref a, .int p] H (iv (ruleOf ns p)) := fun H1 e Q q E => ⟨a, ns, p, rfl, ex_l e h, h1, h2, fun l H2 hl e2 h2 => q l H2 hl e2 h2⟩
def foldOf (ns : List Int) (start p : Nat) : List Int := (List.range (p - 1)).map fun i => draw ns (start + i) % 2
theorem fold_ok (ns : List Int) (s p : Nat) (r : List Int) (h : r.length = p) (h1 : 1 ≤ p) : OkF r (foldOf ns s p) := by
  refine ⟨by simp [foldOf]; omega, fun t ht => ?_⟩
  obtain ⟨i, _, rfl⟩ := List.mem_map.mp ht
  omega
def p__law_folding (K : PySem.W.Frag) : Sp := fun vs H Q _ => ∃ a ns, ∃ s p : Nat, vs = [.ref a, .int s, .int p] ∧ SqL K H a (iv ns) ∧ 1 ≤ p ∧ p ≤ 12 ∧ s ≤ 100 ∧ RetL (iv (foldOf ns s p)) H Q
theorem r__law_folding (h : p__law_folding K vs H Q E) : t__law_folding K E1 (p__law_draw K) (En Q) (start ["script", "start", "pieces", "k"] vs) H := by
  obtain ⟨a, ns, s, p, rfl, hS, h1, h2, hs, q⟩ := h
  refine s_retL (xs := iv (foldOf ns s p)) ?_ fun l H1 hl e hl1 => q l H1 hl e hl1
  have h := el_lcRy (te := tOp rModI (tCall (p__law_draw K) [] E0 (tCons (tVar 0) (tCons (tOp rAddI (tVar 1) (tVar 3)) tNil))) (tC (.int 2))) (ta := tCons (tOp rSubI (tVar 2) (tC (.int 1))) tNil) (j := 3) (vs := [3]) (n := p - 1) (σ := [some (.ref a), some (.int s), some (.int p), none]) (H := H) (fun i => V.int (draw ns (s + i) % 2)) (ea_cons (ev_is (ev_op (ev_var rfl) ev_c rv_I0) (congrArg V.int (by omega))) ea_nil) (by omega) (fun x => rfl) (fun i H2 e hi =>
    ev_op (ev_call (vs := [.ref a, .int ((s + i : Nat) : Int)]) (ea_cons (ev_var rfl) (ea_cons (ev_is (ev_op (ev_var rfl) (ev_var rfl) rv_I0) (congrArg V.int (by omega))) ea_nil)) (sp_draw (ex_l e hS) (by omega))) ev_c (rv_I (by decide)))
  rw [map_int] at h
  exact h
theorem sl_folding {a : Addr} {ns : List Int} {s p : Nat} (h : SqL K H a (iv ns)) (h1 : 1 ≤ p) (h2 : p ≤ 12) (hs : s ≤ 100) : SpL (p__law_folding K) [.ref a, .int s, .int p] H (iv (foldOf ns s p)) := fun H1 e Q q E => ⟨a, ns, s, p, rfl, ex_l e h, h1, h2, hs, fun l H2 hl e2 h2 => q l H2 hl e2 h2⟩
/-! ### the span, as the law reckons it -/
theorem srt_last {l : List Int} (h : l.Pairwise (· ≤ ·)) {i : Nat} (hi : i < l.length) : ∀ y ∈ l, l.getD 0 0 ≤ y ∧ y ≤ l.getD (l.length - 1) 0 := by
  intro y hy
  obtain ⟨j, hj, rfl⟩ := List.getElem_of_mem hy
  have p := List.pairwise_iff_getElem.mp h
  have e0 : l.getD 0 0 = l[0] := by rw [List.getD_eq_getElem?_getD, List.getElem?_eq_getElem (by omega)]; rfl
  have e1 : l.getD (l.length - 1) 0 = l[l.length - 1] := by rw [List.getD_eq_getElem?_getD, List.getElem?_eq_getElem (by omega)]; rfl
  rw [e0, e1]
  constructor
  · by_cases e : j = 0
    · subst e; exact Int.le_refl _
    · exact p 0 j (by omega) hj (by omega)
  · by_cases e : j = l.length - 1
    · subst e; exact Int.le_refl _
    · exact p j (l.length - 1) hj (by omega) (by omega)
def p__law_span (K : PySem.W.Frag) : Sp := fun vs H Q _ => ∃ a b r f, vs = [.ref a, .ref b] ∧ SqL K H a (iv r) ∧ SqL K H b (iv f) ∧ f.length + 1 = r.length ∧ r.length ≤ 40 ∧ RetV (.int (spanOf r f)) H Q
theorem r__law_span (h : p__law_span K vs H Q E) : t__law_span K E1 (p__law_joints K) (En Q) (start ["rule", "folding", "places"] vs) H := by
  obtain ⟨a, b, r, f, rfl, hr, hf, hl, hz, q⟩ := h
  have jl : (jointsOf r f).length = r.length + 1 := plTo_len _ _ _
  refine (el_call (vs := [.ref a, .ref b]) (ea_cons (ev_var rfl) (ea_cons (ev_var rfl) ea_nil)) (sl_joints hr hf hl (by omega))) H (Ex.refl H) _ fun p H1 hp e1 h1 => ?_
  refine ⟨p, jointsOf r f, rfl, sq_of h1, by rw [jl]; omega, fun ns' p' perm srt np => ?_⟩
  have e2 : Ex H1 (upd H1 p' (.lst (iv ns'))) := Ex.new np
  have nl : ns'.length = r.length + 1 := by rw [perm.length_eq, jl]
  have hs := srt_last srt (i := 0) (by omega)
  have hmx : mx (jointsOf r f) = ns'.getD (ns'.length - 1) 0 := mx_is (zero_joints r f) (perm.mem_iff.mp (getD_mem (by omega))) fun y hy => (hs y (perm.mem_iff.mpr hy)).2
  have hmn : mn (jointsOf r f) = ns'.getD 0 0 := mn_is (zero_joints r f) (perm.mem_iff.mp (getD_mem (by omega))) fun y hy => (hs y (perm.mem_iff.mpr hy)).1
  refine s_ret (v := .int (ns'.getD (ns'.length - 1) 0 - ns'.getD 0 0)) (ev_op (ev_op (ev_var rfl) (ev_un ev_c ru_neg) (rv_ixL (sq_of upd_same) ?_)) (ev_op (ev_var rfl) ev_c (rv_ixL (sq_of upd_same) (atI_nat (j := 0) (iv_at (getD_of (by omega)))))) rv_I0) fun H3 e3 => ?_
  · have e : ns' = ns'.dropLast ++ [ns'.getD (ns'.length - 1) 0] := by
      have hne : ns' ≠ [] := by intro z; rw [z] at nl; simp at nl
      have e1 := List.dropLast_concat_getLast hne
      have e2 : ns'.getD (ns'.length - 1) 0 = ns'.getLast hne := by
        rw [List.getLast_eq_getElem, List.getD_eq_getElem?_getD, List.getElem?_eq_getElem (by omega)]; rfl
      rw [e2, e1]
    have e3 : iv ns' = iv ns'.dropLast ++ [V.int (ns'.getD (ns'.length - 1) 0)] := by
      rw [iv_app]
      exact congrArg iv e
    rw [e3]
    exact atI_last _ _
  · have e4 : spanOf r f = ns'.getD (ns'.length - 1) 0 - ns'.getD 0 0 := by unfold spanOf; rw [hmx, hmn]
    rw [← e4]
    exact q.go ((e1.trans e2).trans e3)
theorem sp_lspan {a b : Addr} {r f : List Int} (hr : SqL K H a (iv r)) (hf : SqL K H b (iv f)) (hl : f.length + 1 = r.length) (hz : r.length ≤ 40) : SpV (p__law_span K) [.ref a, .ref b] H (.int (spanOf r f)) := fun H1 e Q q E =>
  ⟨a, b, r, f, rfl, ex_l e hr, ex_l e hf, hl, hz, fun H2 e2 => q H2 e2⟩
end
end Fo

namespace Fo
open PySem PySem.Spec PyProof.Rows L2 Evl
section
variable {K : PySem.W.Frag} {H : Hp} {Q : VK} {E E1 : XK} {vs : List V}
/-! ### two lists of whole numbers are one -/
theorem no_false (n : Nat) : inV (.bl false) ((List.range n).map fun _ => V.bl true) = false := by
  unfold inV
  rw [List.any_eq_false]
  intro x hx
  obtain ⟨_, _, rfl⟩ := List.mem_map.mp hx
  decide
theorem all_flat (n : Nat) : ((List.range n).map fun _ => V.bl true).all flatV = true := by
  rw [List.all_eq_true]
  intro x hx
  obtain ⟨_, _, rfl⟩ := List.mem_map.mp hx
  rfl
def p__law_numbers (K : PySem.W.Frag) : Sp := fun vs H Q _ => ∃ a b xs ys, vs = [.ref a, .ref b] ∧ H a = some (.lst (iv xs)) ∧ SqL K H b (iv ys) ∧ xs.length ≤ 10000 ∧ RetV (.bl (decide (xs = ys))) H Q
theorem r__law_numbers (h : p__law_numbers K vs H Q E) : t__law_numbers K E1 p__law_whole (En Q) (start ["found", "due", "number"] vs) H := by
  obtain ⟨a, b, xs, ys, rfl, ha, hb, hz, q⟩ := h
  have sa := SqL.of (K := K) ha
  refine q_when (b := false || !decide (xs = ys)) (et_or (et_not (a := true) (et_B (ev_isi (ev_var rfl) ev_c (.ty _) (fun H1 e => .base (.lst (e _ _ ha))) (kit_ty (by decide +kernel))))) fun _ => et_test (ev_op (ev_var rfl) (ev_var rfl) (rv_neI sa hb))) (fun hc H1 e => ?_) (fun hc H1 e => ?_)
  · have e1 : decide (xs = ys) = false := by simpa using hc
    rw [e1] at q
    exact s_ret ev_c fun H2 e2 => q.go (e.trans e2)
  · have e1 : decide (xs = ys) = true := by simpa using hc
    rw [e1] at q
    refine s_ret (v := .bl true) ?_ fun H2 e2 => q.go (e.trans e2)
    refine ev_opL (xs := (List.range xs.length).map fun _ => V.bl true) ev_c ?_ fun p H2 hp e2 => ?_
    · have h := el_lcLy (te := tCall p__law_whole [] E1 (tCons (tVar 2) tNil)) (tl := tVar 0) (j := 2) (vs := [2]) (xs := iv xs) (σ := [some (.ref a), some (.ref b), none]) (H := H1) (fun _ => V.bl true) (ev_var rfl) (ex_l e sa) (by rw [iv_len]; omega) (fun x => rfl) (fun i x H3 e3 hi => by
        obtain ⟨n, hn, rfl⟩ := iv_get hi
        exact ev_call (vs := [.int n]) (ea_cons (ev_var rfl) ea_nil) sp_whole)
      rw [iv_len] at h
      exact h
    · have h := rv_niL (K := K) (x := .bl false) (sq_of hp) rfl (all_flat xs.length)
      rw [no_false] at h
      exact h
theorem sp_numbers {a b : Addr} {xs ys : List Int} (ha : H a = some (.lst (iv xs))) (hb : SqL K H b (iv ys)) (hz : xs.length ≤ 10000) : SpV (p__law_numbers K) [.ref a, .ref b] H (.bl (decide (xs = ys))) := fun H1 e Q q E =>
  ⟨a, b, xs, ys, rfl, e _ _ ha, ex_l e hb, hz, fun H2 e2 => q H2 e2⟩
/-! ### the refusals, where nothing is to be refused -/
def p_see_rule0 (K : PySem.W.Frag) : Sp := fun vs H Q _ => ∃ a r, vs = [.ref a] ∧ SqL K H a (iv r) ∧ OkR r ∧ RetV .non H Q
theorem ok_at {r : List Int} (h : OkR r) {i : Nat} {x : V} (e : (iv r)[i]? = some x) : ∃ n, x = .int n ∧ 1 ≤ n ∧ n ≤ 60 := by
  obtain ⟨n, hn, rfl⟩ := iv_get e
  exact ⟨n, rfl, h.all n (List.mem_of_getElem? hn)⟩
theorem r_see_rule0 {x0 x1 : TS} (h : p_see_rule0 K vs H Q E) : t_see_rule K E1 x0 x1 (En Q) (start ["rule", "length"] vs) H := by
  obtain ⟨a, r, rfl, hr, ok, q⟩ := h
  have l1 := ok.l1
  have l2 := ok.l12
  refine q_when (b := !(true && true)) (et_not (et_test (ev_chain (x := .int 1) (y := .int r.length) (z := .int 12) ev_c (ev_is (ev_len (ev_var rfl) hr) (by rw [iv_len])) ?_ (fun _ => ev_c) fun _ => ?_))) (fun hc => by cases hc) (fun _ H1 e1 => ?_)
  · have h := rv_I0 (H := H) (g := fun i j => V.bl (decide (i ≤ j))) (i := 1) (j := (r.length : Int))
    rw [show decide ((1 : Int) ≤ (r.length : Int)) = true from decide_eq_true (by omega)] at h
    exact h
  · have h := rv_I0 (H := H) (g := fun i j => V.bl (decide (i ≤ j))) (i := (r.length : Int)) (j := 12)
    rw [show decide ((r.length : Int) ≤ (12 : Int)) = true from decide_eq_true (by omega)] at h
    exact h
  have hr1 := ex_l e1 hr
  refine s_when (b := !decide (([] : List Int) = [])) (et_test ?_) (fun hc => by simp at hc) (fun _ H2 e2 => q.go (e1.trans e2))
  refine ev_opLL (xs := iv []) (ys := iv []) ?_ (el_lst ea_nil (by decide)) fun p p' H2 hp hp' e2 => rv_neI (sq_of hp) (sq_of hp')
  have h := el_lcL (te := tVar 1) (t := tNot (tTest (tChain rLeI rLeI (tC (.int 1)) (tVar 1) (tC (.int 60))))) (tl := tVar 0) (j := 1) (vs := [1]) (σ := [some (.ref a), none]) (H := H1) (fun _ => false) (fun i => V.int (r.getD i 0)) (ev_var rfl) hr1 (by rw [iv_len]; omega) (fun x => rfl) (fun i x H2 e2 hi => by
    obtain ⟨n, rfl, n1, n2⟩ := ok_at ok hi
    refine et_not (a := true && true) (et_test (ev_chain (x := .int 1) (y := .int n) (z := .int 60) ev_c (ev_var rfl) ?_ (fun _ => ev_c) fun _ => ?_))
    · have h := rv_I0 (H := H2) (g := fun i j => V.bl (decide (i ≤ j))) (i := 1) (j := n)
      rw [show decide ((1 : Int) ≤ n) = true from decide_eq_true n1] at h
      exact h
    · have h := rv_I0 (H := H2) (g := fun i j => V.bl (decide (i ≤ j))) (i := n) (j := 60)
      rw [show decide (n ≤ (60 : Int)) = true from decide_eq_true n2] at h
      exact h) (fun i x H2 e2 hi hf => by cases hf)
  rw [given_nil (fun _ _ => rfl)] at h
  exact h
theorem sp_see_rule0 {a : Addr} {r : List Int} (hr : SqL K H a (iv r)) (ok : OkR r) : SpV (p_see_rule0 K) [.ref a] H .non := fun H1 e Q q E => ⟨a, r, rfl, ex_l e hr, ok, fun H2 e2 => q H2 e2⟩
def p_see_folding0 (K : PySem.W.Frag) : Sp := fun vs H Q _ => ∃ a b r f, vs = [.ref a, .ref b] ∧ SqL K H a (iv r) ∧ SqL K H b (iv f) ∧ OkR r ∧ OkF r f ∧ RetV .non H Q
theorem r_see_folding0 {x0 : TS} (h : p_see_folding0 K vs H Q E) : t_see_folding K E1 (p_see_rule0 K) x0 (En Q) (start ["rule", "folding", "turn"] vs) H := by
  obtain ⟨a, b, r, f, rfl, hr, hf, ok, okf, q⟩ := h
  have l1 := ok.l1
  have l2 := ok.l12
  have l3 := okf.len
  refine q_drop (ev_call (vs := [.ref a]) (ea_cons (ev_var rfl) ea_nil) (sp_see_rule0 hr ok)) fun H1 e1 => ?_
  have hr1 := ex_l e1 hr
  have hf1 := ex_l e1 hf
  refine s_when (b := false || !decide (([] : List Int) = [])) (et_or (et_test ?_) fun _ => et_test ?_) (fun hc => by simp at hc) (fun _ H2 e2 => q.go (e1.trans e2))
  · refine ev_is (ev_op (ev_len (ev_var rfl) hf1) (ev_op (ev_len (ev_var rfl) hr1) ev_c rv_I0) (rv_ne rfl)) ?_
    rw [dec_int, iv_len, iv_len]
    have e : ((f.length : Int) == (r.length : Int) - 1) = true := by rw [beq_iff_eq]; omega
    rw [e]
    rfl
  refine ev_opLL (xs := iv []) (ys := iv []) ?_ (el_lst ea_nil (by decide)) fun p p' H2 hp hp' e2 => rv_neI (sq_of hp) (sq_of hp')
  have h := el_lcL (te := tVar 2) (t := tAnd (tTest (tOp rNe (tVar 2) (tC (.int 0)))) (tTest (tOp rNe (tVar 2) (tC (.int 1))))) (tl := tVar 1) (j := 2) (vs := [2]) (σ := [some (.ref a), some (.ref b), none]) (H := H1) (fun _ => false) (fun i => V.int (f.getD i 0)) (ev_var rfl) hf1 (by rw [iv_len]; omega) (fun x => rfl) (fun i x H2 e2 hi => by
    obtain ⟨n, hn, rfl⟩ := iv_get hi
    have ht := okf.all n (List.mem_of_getElem? hn)
    refine et_is (et_and (a := !decide (n = 0)) (b := !decide (n = 1)) (et_test (ev_is (ev_op (ev_var rfl) ev_c (rv_ne rfl)) (by rw [dec_int]; rfl))) fun _ => et_test (ev_is (ev_op (ev_var rfl) ev_c (rv_ne rfl)) (by rw [dec_int]; rfl))) ?_
    rcases ht with rfl | rfl <;> decide) (fun i x H2 e2 hi hf => by cases hf)
  rw [given_nil (fun _ _ => rfl)] at h
  exact h
theorem sp_see_folding0 {a b : Addr} {r f : List Int} (hr : SqL K H a (iv r)) (hf : SqL K H b (iv f)) (ok : OkR r) (okf : OkF r f) : SpV (p_see_folding0 K) [.ref a, .ref b] H .non := fun H1 e Q q E => ⟨a, b, r, f, rfl, ex_l e hr, ex_l e hf, ok, okf, fun H2 e2 => q H2 e2⟩
/-! ### the places, the joints, the span, fits -/
def p_places_of (K : PySem.W.Frag) : Sp := fun vs H Q _ => ∃ a b r f, vs = [.ref a, .ref b] ∧ SqL K H a (iv r) ∧ SqL K H b (iv f) ∧ OkR r ∧ OkF r f ∧ RetL (iv (jointsOf r f)) H Q
def wayI (u : Bool) : Int := if u then 1 else -1
theorem wayI_not (u : Bool) : wayI (!u) = 0 - wayI u := by cases u <;> rfl
theorem r_places_of (h : p_places_of K vs H Q E) : t_places_of K E1 (En Q) (start ["rule", "folding", "places", "way", "k"] vs) H := by
  obtain ⟨a, b, r, f, rfl, hr, hf, ok, okf, q⟩ := h
  have l1 := ok.l1
  have l2 := ok.l12
  have l3 := okf.len
  refine q_asgL (xs := iv (plTo r f 2)) ?_ fun p H1 hp e1 h1 => ?_
  · have e : iv (plTo r f 2) = [V.int 0, V.int (r.getD 0 0)] := by
      show [V.int (plAt r f 0), V.int (plAt r f 1)] = _
      have e2 : plAt r f 1 = r.getD 0 0 := by show 0 + r.getD 0 0 = _; omega
      rw [e2]
      rfl
    rw [e]
    exact el_lst (ea_cons ev_c (ea_cons (ev_op (ev_var rfl) ev_c (rv_ixL hr (atI_nat (j := 0) (iv_at (getD_of (by omega)))))) ea_nil)) (by show 2 ≤ 100000; decide)
  refine q_asg ev_c fun H2 e2 => ?_
  refine q_forR1 (n := (f.length : Int)) (ea_cons (ev_is (ev_len (ev_var rfl) (ex_l (e1.trans e2) hf)) (by rw [iv_len])) ea_nil) ⟨by omega, by omega⟩
    (fun i σ' H' => ∃ kv, σ' = [some (.ref a), some (.ref b), some (.ref p), some (.int (wayI (upAt f i))), kv] ∧ Mk H p H' (iv (plTo r f (i + 2))))
    (fun H3 e3 => ⟨_, rfl, hp, (e1.trans e2).trans e3, e3 _ _ (e2 _ _ h1)⟩) ?_ ?_
  · rintro i σ' H' hi ⟨kv, rfl, m⟩
    have hi' : i < f.length := by omega
    have hr' := ex_l m.ex hr
    have hf' := ex_l m.ex hf
    refine q_ifAsg (v := .int (wayI (upAt f (i + 1)))) (b := decide (f.getD i 0 = 1)) ?_ ?_ ?_ ?_
    · refine et_test (ev_is (ev_op (ev_op (ev_var rfl) (ev_var rfl) (rv_ixL hf' (atI_nat (iv_at (getD_of hi'))))) ev_c (rv_eq rfl)) ?_)
      rw [dec_int]; rfl
    · intro hb
      refine ev_is (ev_op ev_c (ev_var rfl) rv_I0) (congrArg V.int ?_)
      show 0 - wayI (upAt f i) = wayI (if f.getD i 0 = 1 then !(upAt f i) else upAt f i)
      rw [if_pos (of_decide_eq_true hb), wayI_not]
    · intro hb
      have e : upAt f (i + 1) = upAt f i := by
        show (if f.getD i 0 = 1 then !(upAt f i) else upAt f i) = _
        rw [if_neg (of_decide_eq_false hb)]
      rw [e]
      rfl
    · intro H3 e3
      have m3 := m.mono e3
      refine s_app m3.at_ (ev_var rfl) (ev_op (ev_op (ev_var rfl) (ev_un ev_c ru_neg) (rv_ixL (sq_of m3.at_) (pl_last (i := i + 1)))) (ev_op (ev_var rfl) (ev_op (ev_var rfl) (ev_is (ev_op (ev_var rfl) ev_c rv_I0) (congrArg V.int (show (i : Int) + 1 = ((i + 1 : Nat) : Int) by omega))) (rv_ixL (ex_l e3 hr') (atI_nat (iv_at (getD_of (i := i + 1) (by omega)))))) (rv_I (.inl ?_))) rv_I0) (by rw [iv_len, plTo_len]; omega) fun H5 e5 => ?_
      · cases upAt f (i + 1) <;> decide
      refine ⟨_, rfl, ?_⟩
      have e : plTo r f (i + 1 + 2) = plTo r f (i + 2) ++ [plAt r f (i + 1) + wayI (upAt f (i + 1)) * r.getD (i + 1) 0] := by
        rw [plTo_succ r f (i + 2)]
        congr 2
        show (if upAt f (i + 1) then _ else _) = _
        cases upAt f (i + 1)
        · show plAt r f (i + 1) - r.getD (i + 1) 0 = plAt r f (i + 1) + -1 * r.getD (i + 1) 0
          omega
        · show plAt r f (i + 1) + r.getD (i + 1) 0 = plAt r f (i + 1) + 1 * r.getD (i + 1) 0
          omega
      rw [e, ← iv_app]
      exact m3.app e5
  · rintro σ' H' ⟨kv, rfl, m⟩
    refine s_ret (ev_var rfl) fun H3 e3 => ?_
    have e : plTo r f ((f.length : Int).toNat + 2) = jointsOf r f := by
      unfold jointsOf
      congr 1
      omega
    rw [e] at m
    exact (m.mono e3).ret q
theorem sl_places {a b : Addr} {r f : List Int} (hr : SqL K H a (iv r)) (hf : SqL K H b (iv f)) (ok : OkR r) (okf : OkF r f) : SpL (p_places_of K) [.ref a, .ref b] H (iv (jointsOf r f)) := fun H1 e Q q E =>
  ⟨a, b, r, f, rfl, ex_l e hr, ex_l e hf, ok, okf, fun p H2 hp e2 h2 => q p H2 hp e2 h2⟩
def p_joints0 (K : PySem.W.Frag) : Sp := p_places_of K
theorem r_joints0 (h : p_joints0 K vs H Q E) : t_joints K E1 (p_see_folding0 K) (p_places_of K) (En Q) (start ["rule", "folding"] vs) H := by
  obtain ⟨a, b, r, f, rfl, hr, hf, ok, okf, q⟩ := h
  refine q_drop (ev_call (vs := [.ref a, .ref b]) (ea_cons (ev_var rfl) (ea_cons (ev_var rfl) ea_nil)) (sp_see_folding0 hr hf ok okf)) fun H1 e1 => ?_
  exact s_retL (el_call (vs := [.ref a, .ref b]) (ea_cons (ev_var rfl) (ea_cons (ev_var rfl) ea_nil)) (sl_places (ex_l e1 hr) (ex_l e1 hf) ok okf)) fun p H2 hp e2 h2 => q.go e1 hp e2 h2
theorem sl_joints0 {a b : Addr} {r f : List Int} (hr : SqL K H a (iv r)) (hf : SqL K H b (iv f)) (ok : OkR r) (okf : OkF r f) : SpL (p_joints0 K) [.ref a, .ref b] H (iv (jointsOf r f)) := sl_places hr hf ok okf
def p_span0 (K : PySem.W.Frag) : Sp := fun vs H Q _ => ∃ a b r f, vs = [.ref a, .ref b] ∧ SqL K H a (iv r) ∧ SqL K H b (iv f) ∧ OkR r ∧ OkF r f ∧ RetV (.int (spanOf r f)) H Q
theorem r_span0 (h : p_span0 K vs H Q E) : t_span K E1 (p_see_folding0 K) (p_places_of K) (En Q) (start ["rule", "folding", "places"] vs) H := by
  obtain ⟨a, b, r, f, rfl, hr, hf, ok, okf, q⟩ := h
  refine q_drop (ev_call (vs := [.ref a, .ref b]) (ea_cons (ev_var rfl) (ea_cons (ev_var rfl) ea_nil)) (sp_see_folding0 hr hf ok okf)) fun H1 e1 => ?_
  refine q_asgL (el_call (vs := [.ref a, .ref b]) (ea_cons (ev_var rfl) (ea_cons (ev_var rfl) ea_nil)) (sl_places (ex_l e1 hr) (ex_l e1 hf) ok okf)) fun p H2 hp e2 h2 => ?_
  have z := zero_joints r f
  exact s_ret (ev_op (ev_maxL (ev_var rfl) (sq_of h2) (mx_mem z) (mx_ge _).2) (ev_minL (ev_var rfl) (sq_of h2) (mn_mem z) (mn_le _).2) rv_I0) fun H3 e3 => q.go ((e1.trans e2).trans e3)
theorem sp_span0 {a b : Addr} {r f : List Int} (hr : SqL K H a (iv r)) (hf : SqL K H b (iv f)) (ok : OkR r) (okf : OkF r f) : SpV (p_span0 K) [.ref a, .ref b] H (.int (spanOf r f)) := fun H1 e Q q E => ⟨a, b, r, f, rfl, ex_l e hr, ex_l e hf, ok, okf, fun H2 e2 => q H2 e2⟩
def p_fits0 (K : PySem.W.Frag) : Sp := fun vs H Q _ => ∃ a b r f c, vs = [.ref a, .ref b, .int c] ∧ SqL K H a (iv r) ∧ SqL K H b (iv f) ∧ OkR r ∧ OkF r f ∧ RetV (.bl (decide (spanOf r f ≤ c))) H Q
theorem r_fits0 (h : p_fits0 K vs H Q E) : t_fits K E1 (p_see_folding0 K) (p_span0 K) (En Q) (start ["rule", "folding", "case"] vs) H := by
  obtain ⟨a, b, r, f, c, rfl, hr, hf, ok, okf, q⟩ := h
  refine q_drop (ev_call (vs := [.ref a, .ref b]) (ea_cons (ev_var rfl) (ea_cons (ev_var rfl) ea_nil)) (sp_see_folding0 hr hf ok okf)) fun H1 e1 => ?_
  exact s_ret (ev_op (ev_call (vs := [.ref a, .ref b]) (ea_cons (ev_var rfl) (ea_cons (ev_var rfl) ea_nil)) (sp_span0 (ex_l e1 hr) (ex_l e1 hf) ok okf)) (ev_var rfl) rv_I0) fun H2 e2 => q.go (e1.trans e2)
theorem sp_fits0 {a b : Addr} {r f : List Int} {c : Int} (hr : SqL K H a (iv r)) (hf : SqL K H b (iv f)) (ok : OkR r) (okf : OkF r f) : SpV (p_fits0 K) [.ref a, .ref b, .int c] H (.bl (decide (spanOf r f ≤ c))) := fun H1 e Q q E => ⟨a, b, r, f, c, rfl, ex_l e hr, ex_l e hf, ok, okf, fun H2 e2 => q H2 e2⟩
end
end Fo

namespace Fo
open PySem PySem.Spec PyProof.Rows L2 Evl
/-! ### what a reading gives, told by a word of the value and the heap behind it -/
def EvR (te : TE) (σ : L2.St) (H : Hp) (P : V → Hp → Prop) : Prop := ∀ H1, Ex H H1 → ∀ Q : VK, (∀ v H2, Ex H1 H2 → P v H2 → Q v H2) → te σ H1 Q
def EvRA (ta : TA) (σ : L2.St) (H : Hp) (P : List V → Hp → Prop) : Prop := ∀ H1, Ex H H1 → ∀ Q : List V → Hp → Prop, (∀ vs H2, Ex H1 H2 → P vs H2 → Q vs H2) → ta σ H1 Q
def Up {α : Type} (P : α → Hp → Prop) : Prop := ∀ a H1 H2, Ex H1 H2 → P a H1 → P a H2
section
variable {K : PySem.W.Frag} {σ : L2.St} {H H' : Hp} {ta tb tc te tx : TE} {t u : TT} {x y z v : V} {r r' : R2} {D : Ends} {tu tw tz : TS} {g : TG} {P R : V → Hp → Prop}
theorem er_v (h : Ev te σ H v) : EvR te σ H (fun w _ => w = v) := fun H1 e Q q => h H1 e Q fun H2 e2 => q v H2 e2 rfl
theorem er_l {xs : List V} (h : EvL te σ H xs) : EvR te σ H (fun w H2 => ∃ p, w = .ref p ∧ H p = none ∧ H2 p = some (.lst xs)) := fun H1 e Q q => h H1 e Q fun p H2 hp e2 h2 => q _ H2 e2 ⟨p, rfl, fresh_back e hp, h2⟩
theorem er_imp {P' : V → Hp → Prop} (h : EvR te σ H P) (i : ∀ v H2, Ex H H2 → P v H2 → P' v H2) : EvR te σ H P' := fun H1 e Q q => h H1 e Q fun v H2 e2 p => q v H2 e2 (i v H2 (e.trans e2) p)
theorem era_nil : EvRA tNil σ H (fun vs _ => vs = []) := fun H1 e Q q => q [] H1 (Ex.refl _) rfl
theorem era_cons {tr : TA} {S : List V → Hp → Prop} (h : EvR te σ H P) (hP : Up P) (hr : EvRA tr σ H S) : EvRA (tCons te tr) σ H (fun vs H2 => ∃ v ws, vs = v :: ws ∧ P v H2 ∧ S ws H2) := fun H1 e Q q =>
  h H1 e _ fun v H2 e2 p => hr H2 (e.trans e2) _ fun ws H3 e3 s => q _ H3 (e2.trans e3) ⟨v, ws, rfl, hP v H2 H3 e3 p, s⟩
theorem era_v {ta : TA} {vs : List V} (h : EvA ta σ H vs) : EvRA ta σ H (fun ws _ => ws = vs) := fun H1 e Q q => h H1 e Q fun H2 e2 => q vs H2 e2 rfl
theorem er_lst {ta : TA} {S : List V → Hp → Prop} {n : Nat} (h : EvRA ta σ H S) (hS : Up S) (hn : ∀ vs H2, S vs H2 → vs.length ≤ 100000) : EvR (tLst ta) σ H (fun w H2 => ∃ p vs, w = .ref p ∧ H p = none ∧ H2 p = some (.lst vs) ∧ S vs H2) := fun H1 e Q q =>
  h H1 e _ fun vs H2 e2 s => ⟨sz_of (hn vs H2 s), fun p hp => q _ _ (e2.trans (Ex.new hp)) ⟨p, vs, rfl, fresh_back (e.trans e2) hp, upd_same, hS vs H2 _ (Ex.new hp) s⟩⟩
theorem s_asgR {i : Nat} (h : EvR te σ H P) (k : ∀ v H1, Ex H H1 → P v H1 → D.nx (σ.set i (some v)) H1) : tAsg te (gName i) D σ H := h H (Ex.refl H) _ fun v H1 e p => k v H1 e p
theorem q_asgR {i : Nat} (h : EvR te σ H P) (k : ∀ v H1, Ex H H1 → P v H1 → tz D (σ.set i (some v)) H1) : tSeq (tAsg te (gName i)) tz D σ H := s_asgR (D := { D with nx := tz D }) h k
theorem s_retR (h : EvR te σ H P) (k : ∀ v H1, Ex H H1 → P v H1 → D.rt v H1) : tRet te D σ H := h H (Ex.refl H) _ k
/-- xs.clear() -/
theorem s_clear {l : Addr} {xs : List V} (hl : H l = some (.lst xs)) (ha : Ev ta σ H (.ref l)) (k : ∀ H1, Ex H H1 → D.nx σ (upd H1 l (.lst []))) : tDrop (tBM0 K "list" rClear ta) D σ H := ha H (Ex.refl H) _ fun H1 e1 =>
  ⟨Or.inl ⟨rfl, xs, sq_of (e1 l _ hl)⟩, l, xs, rfl, rfl, e1 l _ hl, k H1 e1⟩
theorem q_clear {l : Addr} {xs : List V} (hl : H l = some (.lst xs)) (ha : Ev ta σ H (.ref l)) (k : ∀ H1, Ex H H1 → tz D σ (upd H1 l (.lst []))) : tSeq (tDrop (tBM0 K "list" rClear ta)) tz D σ H := s_clear (D := { D with nx := tz D }) hl ha k
/-- a new list of two new copies -/
theorem er_pair {tA tB : TE} {xs ys : List V} (h1 : EvL tA σ H xs) (h2 : EvL tB σ H ys) : EvR (tLst (tCons tA (tCons tB tNil))) σ H (fun w H2 => ∃ p a b, w = .ref p ∧ H p = none ∧ H2 p = some (.lst [.ref a, .ref b]) ∧ H a = none ∧ H b = none ∧ H2 a = some (.lst xs) ∧ H2 b = some (.lst ys)) := fun H1 e Q q =>
  h1 H1 e _ fun a H2 ha e2 hA => h2 H2 (e.trans e2) _ fun b H3 hb e3 hB => ⟨by show 2 ≤ sizeLine; decide, fun p hp =>
    q _ _ ((e2.trans e3).trans (Ex.new hp)) ⟨p, a, b, rfl, fresh_back ((e.trans e2).trans e3) hp, upd_same, fresh_back e ha, fresh_back (e.trans e2) hb, (Ex.new hp) _ _ (e3 _ _ hA), (Ex.new hp) _ _ hB⟩⟩
theorem rows2 {a b : Addr} {xs ys : List Int} (h1 : SqL K H a (iv xs)) (h2 : SqL K H b (iv ys)) : RowsAt K H [.ref a, .ref b] [xs, ys] := .cons ⟨a, rfl, h1⟩ (.cons ⟨b, rfl, h2⟩ .nil)
theorem rows1 {a : Addr} {xs : List Int} (h1 : SqL K H a (iv xs)) : RowsAt K H [.ref a] [xs] := .cons ⟨a, rfl, h1⟩ .nil
/-- o != [x, y], the names of two lists -/
theorem ev_ne2 {h a b c d : Addr} {xs ys zs ws : List Int} (hh : SqL K H h [.ref a, .ref b]) (ha : SqL K H a (iv xs)) (hb : SqL K H b (iv ys)) (hc : SqL K H c (iv zs)) (hd : SqL K H d (iv ws)) (e1 : Ev ta σ H (.ref h)) (e2 : Ev tb σ H (.ref c)) (e3 : Ev tc σ H (.ref d)) :
    Ev (tOp (rNeD K) ta (tLst (tCons tb (tCons tc tNil)))) σ H (.bl (!decide ([xs, ys] = [zs, ws]))) :=
  ev_opL e1 (el_lst (ea_cons e2 (ea_cons e3 ea_nil)) (by show 2 ≤ 100000; decide)) fun p H1 hp e => rv_neLL (ex_l e hh) (rows2 (ex_l e ha) (ex_l e hb)) (sq_of hp) (rows2 (ex_l e hc) (ex_l e hd))
theorem ev_eq2 {h a b c d : Addr} {xs ys zs ws : List Int} (hh : SqL K H h [.ref a, .ref b]) (ha : SqL K H a (iv xs)) (hb : SqL K H b (iv ys)) (hc : SqL K H c (iv zs)) (hd : SqL K H d (iv ws)) (e1 : Ev ta σ H (.ref h)) (e2 : Ev tb σ H (.ref c)) (e3 : Ev tc σ H (.ref d)) :
    Ev (tOp (rEqD K) ta (tLst (tCons tb (tCons tc tNil)))) σ H (.bl (decide ([xs, ys] = [zs, ws]))) :=
  ev_opL e1 (el_lst (ea_cons e2 (ea_cons e3 ea_nil)) (by show 2 ≤ 100000; decide)) fun p H1 hp e => rv_eqLL (ex_l e hh) (rows2 (ex_l e ha) (ex_l e hb)) (sq_of hp) (rows2 (ex_l e hc) (ex_l e hd))
end
/-- pieces = 1 + _law_draw(script, k) % m -/
def piecesOf (ns : List Int) (k m : Nat) : Nat := 1 + (draw ns k % m).toNat
theorem pieces_ok (ns : List Int) (k m : Nat) (hm : 1 ≤ m) : 1 ≤ piecesOf ns k m ∧ piecesOf ns k m ≤ m := by
  unfold piecesOf
  have h1 := draw_nn ns k
  have h2 : draw ns k % m < m := Int.emod_lt_of_pos _ (by omega)
  have h3 : 0 ≤ draw ns k % m := Int.emod_nonneg _ (by omega)
  omega
theorem pieces_eq (ns : List Int) (k m : Nat) (hm : 1 ≤ m) : 1 + draw ns k % m = ((piecesOf ns k m : Nat) : Int) := by
  unfold piecesOf
  have h3 : 0 ≤ draw ns k % m := Int.emod_nonneg _ (by omega)
  omega
def p_law (K : PySem.W.Frag) : Sp := fun vs H Q _ => ∃ a ns, vs = [.ref a] ∧ SqL K H a (iv ns) ∧ ∀ H', Q (.bl true) H'
end Fo

/-! A dict whose keys are (i, (a, b)) of whole numbers, its values whole numbers. -/
namespace Fo
open PySem PySem.Spec PyProof.Rows L2 Evl
/-- an entry: the key's numbers, where its tuple stands, the value -/
abbrev MRow := (Int × Int × Int) × Addr × Int
def mkey (k : Int × Int × Int) : NestedKey := .tup [.num k.1, .tup [.num k.2.1, .num k.2.2]]
theorem mkey_inj {k l : Int × Int × Int} (h : mkey k = mkey l) : k = l := by
  obtain ⟨a, b, c⟩ := k
  obtain ⟨a', b', c'⟩ := l
  simp only [mkey, NestedKey.tup.injEq, List.cons.injEq, NestedKey.num.injEq, and_true] at h
  obtain ⟨rfl, rfl, rfl⟩ := h
  rfl
def valAt (L : List MRow) (k : Int × Int × Int) : Option Int := (L.find? fun p => decide (p.1 = k)).map (·.2.2)
theorem valAt_cons (p : MRow) (L : List MRow) (k : Int × Int × Int) : valAt (p :: L) k = if p.1 = k then some p.2.2 else valAt L k := by
  unfold valAt
  rw [List.find?_cons]
  by_cases h : p.1 = k
  · simp [h]
  · simp [h]
theorem valAt_app (L : List MRow) (p : MRow) (k : Int × Int × Int) (h : valAt L k = none) : valAt (L ++ [p]) k = if p.1 = k then some p.2.2 else none := by
  induction L with
  | nil => rw [List.nil_append, valAt_cons]; rfl
  | cons q L ih =>
    rw [valAt_cons] at h
    rw [List.cons_append, valAt_cons]
    split at h
    · cases h
    · rename_i hq
      rw [if_neg hq]
      exact ih h
theorem valAt_mem {L : List MRow} {k : Int × Int × Int} {n : Int} (h : valAt L k = some n) : ∃ p ∈ L, p.1 = k ∧ p.2.2 = n := by
  unfold valAt at h
  obtain ⟨p, hp, e⟩ := Option.map_eq_some_iff.mp h
  have h2 := List.find?_some hp
  exact ⟨p, List.mem_of_find?_eq_some hp, of_decide_eq_true (by simpa using h2), e⟩
section
variable (P : Program) (w : World)
abbrev MX := List (NestedKey × Addr × Value)
def MRel : MRow → NestedKey × Addr × Value → Prop := fun p q => q.1 = mkey p.1 ∧ q.2.1 = p.2.1 ∧ ∃ t, q.2.2 = Value.int p.2.2 t
def memoF (d : Addr) (L : List MRow) (h : Heap) : Prop := (d == sysModules) = false ∧ ∃ (xs : MX), Paired MRel L xs ∧ ∃ o es ep, h.get? d = some o ∧ o.ExactDict ∧ o.data = .dict es ep ∧ es.toList = xs.map (entryOfKey (nestedKind P w)) ∧ (xs.map (·.1)).Nodup
def memoHO (d : Addr) (L : List MRow) : HO := .ext (memoF P w d L)
theorem memo_ok {H : Hp} {h : Heap} {d : Addr} {L : List MRow} (f : memoF P w d L h) : ObjOk P w H h d (memoHO P w d L) := by
  refine ⟨f, ?_, fun h1 h2 f1 k => ?_⟩
  · obtain ⟨_, xs, _, o, _, _, e, _⟩ := f
    exact ⟨o, e⟩
  · obtain ⟨a, xs, r, o, es, ep, e, c⟩ := f1
    exact ⟨a, xs, r, o, es, ep, k o e, c⟩
/-- at T stands the tuple (i, (a, b)) -/
def KeyOk (H : Hp) (k : Int × Int × Int) (T : Addr) : Prop := ∃ S, H T = some (.tup [.int k.1, .ref S]) ∧ H S = some (.tup [.int k.2.1, .int k.2.2])
/-- at d stands such a dict -/
structure MemoAt (H : Hp) (d : Addr) (L : List MRow) : Prop where
  obj : H d = some (memoHO P w d L)
  len : L.length ≤ 1000000
  keys : ∀ p ∈ L, KeyOk H p.1 p.2.1
end
theorem KeyOk.mono {H H' : Hp} {k : Int × Int × Int} {T d : Addr} (h : KeyOk H k T) (e : ∀ a o, a ≠ d → H a = some o → H' a = some o) (hd : ∀ xs, H d ≠ some (.tup xs)) : KeyOk H' k T := by
  obtain ⟨S, h1, h2⟩ := h
  exact ⟨S, e _ _ (fun z => hd _ (z ▸ h1)) h1, e _ _ (fun z => hd _ (z ▸ h2)) h2⟩
section
variable {X : Cx} {pins : List (Addr × Obj)} {σ : L2.St} {H : Hp} {s : Shared} {d T : Addr} {L : List MRow} {k : Int × Int × Int}
theorem key_is (I : Inv X pins σ H s) (h : KeyOk H k T) : (nestedKind X.prog X.w).is s.heap (mkey k) T := by
  obtain ⟨S, h1, h2⟩ := h
  obtain ⟨its, r, ⟨o, e1, e2, n, e3⟩, _⟩ := I.tuple (SqT.of h1)
  obtain ⟨its2, r2, ⟨o2, f1, f2, n2, f3⟩, _⟩ := I.tuple (SqT.of h2)
  obtain ⟨u1, u2, rfl, a1, a2⟩ := vals2 r
  obtain ⟨v1, v2, rfl, b1, b2⟩ := vals2 r2
  obtain ⟨t1, rfl⟩ := a1
  cases (show u2 = Value.ref S from a2)
  obtain ⟨t2, rfl⟩ := b1
  obtain ⟨t3, rfl⟩ := b2
  refine ⟨NestedIs.tup e1 e2 e3 (NestedAll.cons (NestedIs.int _ _) (NestedAll.cons (NestedIs.tup f1 f2 f3 (NestedAll.cons (NestedIs.int _ _) (NestedAll.cons (NestedIs.int _ _) NestedAll.nil))) NestedAll.nil)), ?_⟩
  simp [mkey, NestedKey.depth, NestedKey.depthAll]
theorem paired_mem {α β : Type} {F : α → β → Prop} : ∀ {l : List α} {m : List β}, Paired F l m → ∀ y ∈ m, ∃ x ∈ l, F x y
  | _, _, .nil, y, h => by cases h
  | _, _, .cons r t, y, h => by
    rcases List.mem_cons.mp h with rfl | h
    · exact ⟨_, List.mem_cons_self, r⟩
    · obtain ⟨x, hx, f⟩ := paired_mem t y h
      exact ⟨x, List.mem_cons_of_mem _ hx, f⟩
theorem paired_app {α β : Type} {F : α → β → Prop} {x : α} {y : β} (f : F x y) : ∀ {l : List α} {m : List β}, Paired F l m → Paired F (l ++ [x]) (m ++ [y])
  | _, _, .nil => .cons f .nil
  | _, _, .cons r t => .cons r (paired_app f t)
theorem paired_len {α β : Type} {F : α → β → Prop} : ∀ {l : List α} {m : List β}, Paired F l m → l.length = m.length
  | _, _, .nil => rfl
  | _, _, .cons r t => by simp [paired_len t]
theorem memo_at (I : Inv X pins σ H s) (m : MemoAt X.prog X.w H d L) : (d == sysModules) = false ∧ ∃ xs : MX, Paired MRel L xs ∧ s.heap.DictOfH (nestedKind X.prog X.w) d xs := by
  obtain ⟨⟨a, xs, r, o, es, ep, e, c1, c2, c3, c4⟩, _, _⟩ := (show ObjOk X.prog X.w H s.heap d (memoHO X.prog X.w d L) from I.hok d _ m.obj)
  refine ⟨a, xs, r, o, es, ep, e, c1, c2, c3, fun x hx => ?_, c4⟩
  obtain ⟨p, hp, e1, e2, _⟩ := paired_mem r x hx
  rw [e1, e2]
  exact key_is I (m.keys p hp)
theorem atKey_cons (q : NestedKey × Addr × Value) (xs : MX) (k : NestedKey) : atKey (q :: xs) k = if q.1 = k then some q.2 else atKey xs k := by
  unfold atKey
  rw [List.find?_cons]
  by_cases h : q.1 = k
  · simp [h]
  · simp [h]
theorem atKey_val {k : Int × Int × Int} : ∀ {L : List MRow} {xs : MX}, Paired MRel L xs → (valAt L k = none → atKey xs (mkey k) = none) ∧ ∀ n, valAt L k = some n → ∃ p t, atKey xs (mkey k) = some (p, Value.int n t)
  | _, _, .nil => ⟨fun _ => rfl, fun n h => by cases h⟩
  | p :: L, q :: xs, .cons r t => by
    obtain ⟨i1, i2⟩ := atKey_val t
    obtain ⟨e1, e2, tt, e3⟩ := r
    rw [valAt_cons, atKey_cons]
    by_cases h : p.1 = k
    · rw [if_pos h, if_pos (by rw [e1, h])]
      refine ⟨(fun z => by cases z), fun n z => ⟨q.2.1, tt, ?_⟩⟩
      have z' : p.2.2 = n := Option.some.inj z
      rw [← z', ← e3]
    · rw [if_neg h, if_neg (by rw [e1]; exact fun z => h (mkey_inj z))]
      exact ⟨i1, i2⟩
/-- key not in known -/
def rMemoNotIn (P : Program) (w : World) : R2 := fun y x H Q => ∃ d T k L, x = .ref d ∧ y = .ref T ∧ KeyOk H k T ∧ MemoAt P w H d L ∧ Q (.bl (!(valAt L k).isSome)) H
theorem op_memoNotIn (hu : X.A.units + 64 < cLine) : OpR X (compareOp .NotIn) (rMemoNotIn X.prog X.w) := by
  intro pins s σ H y x u v Q I ry rx h
  obtain ⟨d, T, k, L, rfl, rfl, hk, m, q⟩ := h
  cases (show u = Value.ref T from ry)
  cases (show v = Value.ref d from rx)
  obtain ⟨hd, xs, r, dd⟩ := memo_at I m
  refine wpAny_notIn_heap (by show X.A.units + 1 + 8 < cLine; omega) (key_is I hk) hd dd ⟨.bl _, H, I.tok _, rfl, ?_⟩
  obtain ⟨a1, a2⟩ := atKey_val (k := k) r
  cases e : valAt L k with
  | none =>
    rw [e] at q
    rw [a1 e]
    exact q
  | some n =>
    rw [e] at q
    obtain ⟨p, t, e2⟩ := a2 n e
    rw [e2]
    exact q
/-- known[key] -/
def tMemoGet (P : Program) (w : World) (td ty : TE) : TE := fun σ H Q => td σ H fun x H1 => ty σ H1 fun y H2 => ∃ d T k L n, x = .ref d ∧ y = .ref T ∧ KeyOk H2 k T ∧ MemoAt P w H2 d L ∧ valAt L k = some n ∧ Q (.int n) H2
theorem pe_memoGet {o i : Expr} {td ty : TE} {pos : Pos} (hu : X.A.units + 64 < cLine) (ho : PE X o td) (hi : PE X i ty) (hs : NoSl i := by intro _ _; rfl) : PE X (.Subscript o i pos) (tMemoGet X.prog X.w td ty) := by
  refine ⟨fun pins s σ H Q I h => ?_⟩
  refine subD_of PySem.F.slot_dict_getitem.lookup hs (thn (ho.run pins s σ H _ I h) fun u s1 ⟨x, H1, I1, rx, q1⟩ => thn (hi.run pins s1 σ H1 _ I1 q1) fun iv s2 ⟨y, H2, I2, ry, d, T, k, L, n, ex, ey, hk, m, hv, q2⟩ => ?_)
  subst ex ey
  obtain rfl : u = Value.ref d := rx
  obtain rfl : iv = Value.ref T := ry
  obtain ⟨hd, xs, r, dd⟩ := memo_at I2 m
  obtain ⟨p, t, e2⟩ := (atKey_val (k := k) r).2 n hv
  exact ⟨dd.typeIs, wpAny_getItem_heap (by show X.A.units + 1 + 8 < cLine; omega) (key_is I2 hk) dd e2 ⟨.int n, H2, I2.tok _, ⟨t, rfl⟩, q2⟩⟩
/-- known[key] = n, a new key -/
def rSetMemo (P : Program) (w : World) : TSet := fun o i v H Q => ∃ d T k L n, o = .ref d ∧ i = .ref T ∧ v = .int n ∧ KeyOk H k T ∧ MemoAt P w H d L ∧ valAt L k = none ∧ L.length < 1000000 ∧ Q (upd H d (memoHO P w d (L ++ [(k, T, n)])))
theorem memo_noTup {P : Program} {w : World} (m : MemoAt P w H d L) : ∀ xs, H d ≠ some (.tup xs) := fun xs z => by
  rw [m.obj] at z
  cases z
theorem MemoAt.stored {P : Program} {w : World} {n : Int} (m : MemoAt P w H d L) (hk : KeyOk H k T) (hl : L.length < 1000000) : MemoAt P w (upd H d (memoHO P w d (L ++ [(k, T, n)]))) d (L ++ [(k, T, n)]) := by
  have up : ∀ a o, a ≠ d → H a = some o → upd H d (memoHO P w d (L ++ [(k, T, n)])) a = some o := fun a o ne e => by rw [upd_ne ne]; exact e
  refine ⟨upd_same, by simp; omega, fun p hp => ?_⟩
  rcases List.mem_append.mp hp with hp | hp
  · exact (m.keys p hp).mono up (memo_noTup m)
  · rw [List.mem_singleton.mp hp]
    exact hk.mono up (memo_noTup m)
theorem set_memo (hu : X.A.units + 64 < cLine) : PSet X (rSetMemo X.prog X.w) := by
  intro pins s σ H o i v ov iv u Q I ro ri rv h
  obtain ⟨d, T, k, L, n, rfl, rfl, rfl, hk, m, hv, hl, q⟩ := h
  cases (show ov = Value.ref d from ro)
  cases (show iv = Value.ref T from ri)
  obtain ⟨t, rfl⟩ := (show ∃ t, u = Value.int n t from rv)
  obtain ⟨hd, xs, r, dd⟩ := memo_at I m
  have e := (atKey_val (k := k) r).1 hv
  have hz : xs.length ≤ sizeLine := by
    rw [← paired_len r]
    exact Nat.le_trans (Nat.le_of_lt hl) (by decide)
  refine wpAny_setItem_heap (hsz := hz) (by show X.A.units + 1 + 8 < cLine; omega) (key_is I hk) dd fun h' dd' hs => ?_
  rw [storedH_new e] at dd'
  obtain ⟨o2, es, ep, e1, c1, c2, c3, _, c4⟩ := dd'
  refine ⟨_, d_write I (by rw [m.obj]; trivial) hs ⟨o2, e1⟩ (memo_ok X.prog X.w ⟨hd, _, paired_app ⟨rfl, rfl, t, rfl⟩ r, o2, es, ep, e1, c1, c2, c3, c4⟩), q⟩
/-- {} -/
def tMemoNew (P : Program) (w : World) : TE := fun _ H Q => ∀ p, H p = none → Q (.ref p) (upd H p (memoHO P w p []))
theorem pe_memoNew {pos : Pos} : PE X (.Dict [] [] pos) (tMemoNew X.prog X.w) := ⟨fun pins s σ H Q I h =>
  wpAny_Dict_empty ⟨.ref s.heap.objs.size, _, I.laid (a := s.heap.objs.size) (o := memoHO X.prog X.w s.heap.objs.size []) (t' := s.toks) (fun _ _ q => Heap.get?_push_of_some _ q) (Nat.le_refl _)
    (memo_ok X.prog X.w ⟨beq_eq_false_iff_ne.mpr (Ne.symm (Nat.ne_of_lt I.big)), [], .nil, _, #[], 0, Heap.get?_push_size _ rfl, ⟨rfl, rfl, rfl⟩, rfl, rfl, List.nodup_nil⟩), rfl, h _ (I.hok.fresh (Nat.le_refl _))⟩⟩
theorem memo_new {P : Program} {w : World} : MemoAt P w (upd H d (memoHO P w d [])) d [] := ⟨upd_same, by decide, fun p hp => by cases hp⟩
end
end Fo

namespace Fo
open PySem PySem.Spec PyProof.Rows L2 Evl
/-! ### readings of the defs: printed by gen.py -/
def t_moved (K : PySem.W.Frag) (E : XK) : TS := (tRet (tTup (tCons (tOp rAddI (tOp (rIxT K) (tVar 0) (tC (.int 0))) (tVar 1)) (tCons (tCB rMax2 (tCons (tC (.int 0)) (tCons (tOp rSubI (tOp (rIxT K) (tVar 0) (tC (.int 1))) (tVar 1)) tNil))) tNil))))
def t_turned (K : PySem.W.Frag) (E : XK) : TS := (tRet (tTup (tCons (tOp (rIxT K) (tVar 0) (tC (.int 1))) (tCons (tOp (rIxT K) (tVar 0) (tC (.int 0))) tNil))))
def t_behind_turn (K : PySem.W.Frag) (E : XK) (p_turned : Sp) (p_moved : Sp) : TS := (tSeq (tIfS (tTest (tOp rEq (tVar 1) (tC (.int 1)))) (tAsg (tCall p_turned [] E (tCons (tVar 0) tNil)) (gName 0)) tNext)
    (tRet (tCall p_moved [] E (tCons (tVar 0) (tCons (tVar 2) tNil)))))
def t_ways_from (P : Program) (w : World) (K : PySem.W.Frag) (E : XK) (p_behind_turn : Sp) (p_ways_from : Sp) : TS := (tSeq (tIfS (tTest (tOp rGtI (tOp rAddI (tOp (rIxT K) (tVar 2) (tC (.int 0))) (tOp (rIxT K) (tVar 2) (tC (.int 1)))) (tVar 3))) (tRet (tC (.int 0))) tNext)
    (tSeq (tIfS (tTest (tOp rEq (tVar 1) (tCB (rLenS K) (tCons (tVar 0) tNil)))) (tRet (tC (.int 1))) tNext)
    (tSeq (tAsg (tTup (tCons (tVar 1) (tCons (tVar 2) tNil))) (gName 5))
    (tSeq (tIfS (tTest (tOp (rMemoNotIn P w) (tVar 5) (tVar 4))) (tSeq (tAsg (tC (.int 0)) (gName 6))
    (tSeq (tFor (iRng1 (tCons (tC (.int 2)) tNil)) (gName 7) (tAsg (tOp rAddI (tVar 6) (tCall p_ways_from [] E (tCons (tVar 0) (tCons (tOp rAddI (tVar 1) (tC (.int 1))) (tCons (tCall p_behind_turn [] E (tCons (tVar 2) (tCons (tVar 7) (tCons (tOp (rIxL K) (tVar 0) (tVar 1)) tNil)))) (tCons (tVar 3) (tCons (tVar 4) tNil))))))) (gName 6)))
    (tAsg (tVar 6) (gSub (tVar 4) (tVar 5) (rSetMemo P w))))) tNext)
    (tRet (tMemoGet P w (tVar 4) (tVar 5)))))))
def t_many_fits (P : Program) (w : World) (K : PySem.W.Frag) (E : XK) (p_see_rule : Sp) (p_ways_from : Sp) : TS := (tSeq (tDrop (tCall p_see_rule [] E (tCons (tVar 0) tNil)))
    (tRet (tCall p_ways_from [] E (tCons (tVar 0) (tCons (tC (.int 1)) (tCons (tTup (tCons (tOp (rIxL K) (tVar 0) (tC (.int 0))) (tCons (tC (.int 0)) tNil))) (tCons (tVar 1) (tCons (tMemoNew P w) tNil))))))))
def t_folding_at (P : Program) (w : World) (K : PySem.W.Frag) (E : XK) (p_see_rule : Sp) (p_many_fits : Sp) (p_behind_turn : Sp) (p_ways_from : Sp) (x_0 : TS) : TS := (tSeq (tDrop (tCall p_see_rule [] E (tCons (tVar 0) tNil)))
    (tSeq (tIfS (tNot (tTest (tChain rLeI rLtI (tC (.int 0)) (tVar 2) (tCall p_many_fits [] E (tCons (tVar 0) (tCons (tVar 1) tNil)))))) x_0 tNext)
    (tSeq (tAsg (tMemoNew P w) (gName 3))
    (tSeq (tAsg (tTup (tCons (tOp (rIxL K) (tVar 0) (tC (.int 0))) (tCons (tC (.int 0)) tNil))) (gName 4))
    (tSeq (tAsg (tLst tNil) (gName 5))
    (tSeq (tFor (iRng2 (tCons (tC (.int 1)) (tCons (tCB (rLenS K) (tCons (tVar 0) tNil)) tNil))) (gName 6) (tSeq (tAsg (tC (.int 0)) (gName 7))
    (tSeq (tAsg (tCall p_ways_from [] E (tCons (tVar 0) (tCons (tOp rAddI (tVar 6) (tC (.int 1))) (tCons (tCall p_behind_turn [] E (tCons (tVar 4) (tCons (tC (.int 0)) (tCons (tOp (rIxL K) (tVar 0) (tVar 6)) tNil)))) (tCons (tVar 1) (tCons (tVar 3) tNil)))))) (gName 8))
    (tSeq (tIfS (tTest (tOp rGeI (tVar 2) (tVar 8))) (tSeq (tAsg (tOp rSubI (tVar 2) (tVar 8)) (gName 2))
    (tAsg (tC (.int 1)) (gName 7))) tNext)
    (tSeq (tAsg (tCall p_behind_turn [] E (tCons (tVar 4) (tCons (tVar 7) (tCons (tOp (rIxL K) (tVar 0) (tVar 6)) tNil)))) (gName 4))
    (tDrop (tBM K "list" rAppend (tVar 5) (tCons (tVar 7) tNil))))))))
    (tRet (tVar 5))))))))
def t_number_of (P : Program) (w : World) (K : PySem.W.Frag) (E : XK) (p_see_folding : Sp) (p_span : Sp) (p_behind_turn : Sp) (p_ways_from : Sp) (x_0 : TS) : TS := (tSeq (tDrop (tCall p_see_folding [] E (tCons (tVar 0) (tCons (tVar 2) tNil))))
    (tSeq (tIfS (tTest (tOp rGtI (tCall p_span [] E (tCons (tVar 0) (tCons (tVar 2) tNil))) (tVar 1))) x_0 tNext)
    (tSeq (tAsg (tMemoNew P w) (gName 3))
    (tSeq (tAsg (tTup (tCons (tOp (rIxL K) (tVar 0) (tC (.int 0))) (tCons (tC (.int 0)) tNil))) (gName 4))
    (tSeq (tAsg (tC (.int 0)) (gName 5))
    (tSeq (tFor (iRng2 (tCons (tC (.int 1)) (tCons (tCB (rLenS K) (tCons (tVar 0) tNil)) tNil))) (gName 6) (tSeq (tIfS (tTest (tOp rEq (tOp (rIxL K) (tVar 2) (tOp rSubI (tVar 6) (tC (.int 1)))) (tC (.int 1)))) (tAsg (tOp rAddI (tVar 5) (tCall p_ways_from [] E (tCons (tVar 0) (tCons (tOp rAddI (tVar 6) (tC (.int 1))) (tCons (tCall p_behind_turn [] E (tCons (tVar 4) (tCons (tC (.int 0)) (tCons (tOp (rIxL K) (tVar 0) (tVar 6)) tNil)))) (tCons (tVar 1) (tCons (tVar 3) tNil))))))) (gName 5)) tNext)
    (tAsg (tCall p_behind_turn [] E (tCons (tVar 4) (tCons (tOp (rIxL K) (tVar 2) (tOp rSubI (tVar 6) (tC (.int 1)))) (tCons (tOp (rIxL K) (tVar 0) (tVar 6)) tNil)))) (gName 4))))
    (tRet (tVar 5))))))))
end Fo

/-! Counting: plain Lean. -/
namespace Fo
/-- the foldings of the pieces left that keep within c, counted: a behind the end, b ahead of it -/
def cnt : List Int → Int → Int → Int → Nat
  | [], a, b, c => if a + b > c then 0 else 1
  | l :: rs, a, b, c => if a + b > c then 0 else cnt rs (a + l) (max 0 (b - l)) c + cnt rs (b + l) (max 0 (a - l)) c
/-- the folding of a number, the number of a folding -/
def foldAt : List Int → Int → Int → Int → Nat → List Int
  | [], _, _, _, _ => []
  | l :: rs, a, b, c, n => if cnt rs (a + l) (max 0 (b - l)) c ≤ n then 1 :: foldAt rs (b + l) (max 0 (a - l)) c (n - cnt rs (a + l) (max 0 (b - l)) c) else 0 :: foldAt rs (a + l) (max 0 (b - l)) c n
def numOf : List Int → Int → Int → Int → List Int → Nat
  | [], _, _, _, _ => 0
  | _ :: _, _, _, _, [] => 0
  | l :: rs, a, b, c, t :: f => if t = 1 then cnt rs (a + l) (max 0 (b - l)) c + numOf rs (b + l) (max 0 (a - l)) c f else numOf rs (a + l) (max 0 (b - l)) c f
/-- the span behind it all -/
def sp : Int → Int → List Int → List Int → Int
  | a, b, [], _ => a + b
  | a, b, _ :: _, [] => a + b
  | a, b, l :: rs, t :: f => if t = 1 then sp (b + l) (max 0 (a - l)) rs f else sp (a + l) (max 0 (b - l)) rs f
def allC : Nat → List (List Int)
  | 0 => [[]]
  | n + 1 => (allC n).map (0 :: ·) ++ (allC n).map (1 :: ·)
theorem sp_ge : ∀ (rs : List Int) (f : List Int) (a b : Int), (∀ x ∈ rs, 0 ≤ x) → a + b ≤ sp a b rs f
  | [], f, a, b, _ => by cases f <;> exact Int.le_refl _
  | l :: rs, [], a, b, _ => Int.le_refl _
  | l :: rs, t :: f, a, b, h => by
    have hl := h l List.mem_cons_self
    have hr : ∀ x ∈ rs, 0 ≤ x := fun x hx => h x (List.mem_cons_of_mem _ hx)
    show a + b ≤ if t = 1 then _ else _
    split
    · have := sp_ge rs f (b + l) (max 0 (a - l)) hr
      omega
    · have := sp_ge rs f (a + l) (max 0 (b - l)) hr
      omega
theorem allC_len : ∀ (n : Nat), ∀ f ∈ allC n, f.length = n
  | 0, f, h => by
    have e : f = [] := by simpa [allC] using h
    rw [e]; rfl
  | n + 1, f, h => by
    rcases List.mem_append.mp h with h | h
    · obtain ⟨g, hg, rfl⟩ := List.mem_map.mp h
      simp [allC_len n g hg]
    · obtain ⟨g, hg, rfl⟩ := List.mem_map.mp h
      simp [allC_len n g hg]
theorem allC_bits : ∀ (n : Nat), ∀ f ∈ allC n, ∀ t ∈ f, t = 0 ∨ t = 1
  | 0, f, h, t, ht => by
    have e : f = [] := by simpa [allC] using h
    rw [e] at ht; cases ht
  | n + 1, f, h, t, ht => by
    rcases List.mem_append.mp h with h | h
    · obtain ⟨g, hg, rfl⟩ := List.mem_map.mp h
      rcases List.mem_cons.mp ht with rfl | ht
      · exact .inl rfl
      · exact allC_bits n g hg t ht
    · obtain ⟨g, hg, rfl⟩ := List.mem_map.mp h
      rcases List.mem_cons.mp ht with rfl | ht
      · exact .inr rfl
      · exact allC_bits n g hg t ht
theorem allC_mem : ∀ (f : List Int), (∀ t ∈ f, t = 0 ∨ t = 1) → f ∈ allC f.length
  | [], _ => List.mem_singleton.mpr rfl
  | t :: f, h => by
    have ih := allC_mem f fun x hx => h x (List.mem_cons_of_mem _ hx)
    rcases h t List.mem_cons_self with rfl | rfl
    · exact List.mem_append_left _ (List.mem_map.mpr ⟨f, ih, rfl⟩)
    · exact List.mem_append_right _ (List.mem_map.mpr ⟨f, ih, rfl⟩)
theorem allC_count : ∀ n, (allC n).length = 2 ^ n
  | 0 => rfl
  | n + 1 => by
    show ((allC n).map _ ++ (allC n).map _).length = _
    rw [List.length_append, List.length_map, List.length_map, allC_count n, Nat.pow_succ]
    omega
/-- the foldings that fit, in order, are those of the numbers -/
theorem fits_list : ∀ (rs : List Int) (a b c : Int), (∀ x ∈ rs, 0 ≤ x) → (allC rs.length).filter (fun f => decide (sp a b rs f ≤ c)) = (List.range (cnt rs a b c)).map (foldAt rs a b c)
  | [], a, b, c, _ => by
    show [[]].filter (fun f => decide (sp a b [] f ≤ c)) = (List.range (if a + b > c then 0 else 1)).map _
    have es : (fun f => decide (sp a b [] f ≤ c)) = fun _ => decide (a + b ≤ c) := by
      funext f
      cases f <;> rfl
    rw [es]
    by_cases h : a + b > c
    · rw [if_pos h, decide_eq_false (by omega : ¬ a + b ≤ c)]
      rfl
    · rw [if_neg h, decide_eq_true (by omega : a + b ≤ c)]
      rfl
  | l :: rs, a, b, c, h => by
    have hr : ∀ x ∈ rs, 0 ≤ x := fun x hx => h x (List.mem_cons_of_mem _ hx)
    have i0 := fits_list rs (a + l) (max 0 (b - l)) c hr
    have i1 := fits_list rs (b + l) (max 0 (a - l)) c hr
    show ((allC rs.length).map (0 :: ·) ++ (allC rs.length).map (1 :: ·)).filter (fun f => decide (sp a b (l :: rs) f ≤ c)) = (List.range (if a + b > c then 0 else cnt rs (a + l) (max 0 (b - l)) c + cnt rs (b + l) (max 0 (a - l)) c)).map _
    by_cases hc : a + b > c
    · rw [if_pos hc]
      rw [List.filter_eq_nil_iff.mpr]
      · rfl
      · intro f hf hd
        have h1 := of_decide_eq_true hd
        have h2 := sp_ge (l :: rs) f a b h
        omega
    · rw [if_neg hc, List.filter_append, List.filter_map, List.filter_map]
      have e0 : ((fun f => decide (sp a b (l :: rs) f ≤ c)) ∘ fun x => (0 : Int) :: x) = fun f => decide (sp (a + l) (max 0 (b - l)) rs f ≤ c) := by
        funext f
        show decide ((if (0 : Int) = 1 then _ else sp (a + l) (max 0 (b - l)) rs f) ≤ c) = _
        rw [if_neg (by decide)]
      have e1 : ((fun f => decide (sp a b (l :: rs) f ≤ c)) ∘ fun x => (1 : Int) :: x) = fun f => decide (sp (b + l) (max 0 (a - l)) rs f ≤ c) := by
        funext f
        show decide ((if (1 : Int) = 1 then sp (b + l) (max 0 (a - l)) rs f else _) ≤ c) = _
        rw [if_pos rfl]
      rw [e0, e1, i0, i1, List.range_add, List.map_append, List.map_map, List.map_map, List.map_map]
      congr 1
      · refine List.map_congr_left fun n hn => ?_
        have hn' := List.mem_range.mp hn
        show 0 :: foldAt rs (a + l) (max 0 (b - l)) c n = if cnt rs (a + l) (max 0 (b - l)) c ≤ n then _ else 0 :: foldAt rs (a + l) (max 0 (b - l)) c n
        rw [if_neg (by omega)]
      · refine List.map_congr_left fun n hn => ?_
        show 1 :: foldAt rs (b + l) (max 0 (a - l)) c n = if cnt rs (a + l) (max 0 (b - l)) c ≤ cnt rs (a + l) (max 0 (b - l)) c + n then 1 :: foldAt rs (b + l) (max 0 (a - l)) c (cnt rs (a + l) (max 0 (b - l)) c + n - cnt rs (a + l) (max 0 (b - l)) c) else _
        rw [if_pos (by omega), Nat.add_sub_cancel_left]
theorem foldAt_fits {rs : List Int} {a b c : Int} {n : Nat} (h : ∀ x ∈ rs, 0 ≤ x) (hn : n < cnt rs a b c) : (foldAt rs a b c n).length = rs.length ∧ (∀ t ∈ foldAt rs a b c n, t = 0 ∨ t = 1) ∧ sp a b rs (foldAt rs a b c n) ≤ c := by
  have hm : foldAt rs a b c n ∈ (allC rs.length).filter (fun f => decide (sp a b rs f ≤ c)) := by
    rw [fits_list rs a b c h]
    exact List.mem_map.mpr ⟨n, List.mem_range.mpr hn, rfl⟩
  obtain ⟨h1, h2⟩ := List.mem_filter.mp hm
  exact ⟨allC_len _ _ h1, allC_bits _ _ h1, of_decide_eq_true h2⟩
theorem numOf_foldAt : ∀ (rs : List Int) (a b c : Int) (n : Nat), n < cnt rs a b c → numOf rs a b c (foldAt rs a b c n) = n
  | [], a, b, c, n, h => by
    have h' : n < if a + b > c then 0 else 1 := h
    show 0 = n
    split at h' <;> omega
  | l :: rs, a, b, c, n, h => by
    have h' : n < if a + b > c then 0 else cnt rs (a + l) (max 0 (b - l)) c + cnt rs (b + l) (max 0 (a - l)) c := h
    have h2 : n < cnt rs (a + l) (max 0 (b - l)) c + cnt rs (b + l) (max 0 (a - l)) c := by split at h' <;> omega
    by_cases hn : cnt rs (a + l) (max 0 (b - l)) c ≤ n
    · have e : foldAt (l :: rs) a b c n = 1 :: foldAt rs (b + l) (max 0 (a - l)) c (n - cnt rs (a + l) (max 0 (b - l)) c) := if_pos hn
      rw [e]
      show (if (1 : Int) = 1 then cnt rs (a + l) (max 0 (b - l)) c + numOf rs (b + l) (max 0 (a - l)) c _ else _) = n
      rw [if_pos rfl, numOf_foldAt rs _ _ c _ (by omega)]
      omega
    · have e : foldAt (l :: rs) a b c n = 0 :: foldAt rs (a + l) (max 0 (b - l)) c n := if_neg hn
      rw [e]
      show (if (0 : Int) = 1 then _ else numOf rs (a + l) (max 0 (b - l)) c _) = n
      rw [if_neg (by decide), numOf_foldAt rs _ _ c _ (by omega)]
theorem foldAt_numOf : ∀ (rs : List Int) (a b c : Int) (f : List Int), (∀ x ∈ rs, 0 ≤ x) → f.length = rs.length → (∀ t ∈ f, t = 0 ∨ t = 1) → sp a b rs f ≤ c → numOf rs a b c f < cnt rs a b c ∧ foldAt rs a b c (numOf rs a b c f) = f
  | [], a, b, c, f, _, hl, _, hs => by
    have e : f = [] := List.length_eq_zero_iff.mp hl
    subst e
    have hs' : a + b ≤ c := hs
    refine ⟨?_, rfl⟩
    show 0 < if a + b > c then 0 else 1
    rw [if_neg (by omega)]
    exact Nat.one_pos
  | l :: rs, a, b, c, [], _, hl, _, _ => by simp at hl
  | l :: rs, a, b, c, t :: f, h, hl, hb, hs => by
    have hr : ∀ x ∈ rs, 0 ≤ x := fun x hx => h x (List.mem_cons_of_mem _ hx)
    have hl' : f.length = rs.length := by simpa using hl
    have hb' : ∀ t ∈ f, t = 0 ∨ t = 1 := fun x hx => hb x (List.mem_cons_of_mem _ hx)
    have hge := sp_ge (l :: rs) (t :: f) a b h
    have ec : cnt (l :: rs) a b c = cnt rs (a + l) (max 0 (b - l)) c + cnt rs (b + l) (max 0 (a - l)) c := if_neg (by omega)
    rw [ec]
    rcases hb t List.mem_cons_self with rfl | rfl
    · have es : sp a b (l :: rs) (0 :: f) = sp (a + l) (max 0 (b - l)) rs f := if_neg (by decide)
      rw [es] at hs
      obtain ⟨i1, i2⟩ := foldAt_numOf rs _ _ c f hr hl' hb' hs
      have en : numOf (l :: rs) a b c (0 :: f) = numOf rs (a + l) (max 0 (b - l)) c f := if_neg (by decide)
      rw [en]
      refine ⟨by omega, ?_⟩
      have e : foldAt (l :: rs) a b c (numOf rs (a + l) (max 0 (b - l)) c f) = 0 :: foldAt rs (a + l) (max 0 (b - l)) c (numOf rs (a + l) (max 0 (b - l)) c f) := if_neg (by omega)
      rw [e, i2]
    · have es : sp a b (l :: rs) (1 :: f) = sp (b + l) (max 0 (a - l)) rs f := if_pos rfl
      rw [es] at hs
      obtain ⟨i1, i2⟩ := foldAt_numOf rs _ _ c f hr hl' hb' hs
      have en : numOf (l :: rs) a b c (1 :: f) = cnt rs (a + l) (max 0 (b - l)) c + numOf rs (b + l) (max 0 (a - l)) c f := if_pos rfl
      rw [en]
      refine ⟨by omega, ?_⟩
      have e : foldAt (l :: rs) a b c (cnt rs (a + l) (max 0 (b - l)) c + numOf rs (b + l) (max 0 (a - l)) c f) = 1 :: foldAt rs (b + l) (max 0 (a - l)) c (cnt rs (a + l) (max 0 (b - l)) c + numOf rs (b + l) (max 0 (a - l)) c f - cnt rs (a + l) (max 0 (b - l)) c) := if_pos (by omega)
      rw [e, Nat.add_sub_cancel_left, i2]
/-! ### the span by the state -/
theorem mx_app (l : List Int) (x : Int) : mx (l ++ [x]) = max (mx l) x := by
  induction l with
  | nil => show max x 0 = max 0 x; omega
  | cons a l ih =>
    show max a (mx (l ++ [x])) = max (max a (mx l)) x
    rw [ih]; omega
theorem mn_app (l : List Int) (x : Int) : mn (l ++ [x]) = min (mn l) x := by
  induction l with
  | nil => show min x 0 = min 0 x; omega
  | cons a l ih =>
    show min a (mn (l ++ [x])) = min (min a (mn l)) x
    rw [ih]; omega
def hiAt (r f : List Int) (i : Nat) : Int := mx (plTo r f (i + 1))
def loAt (r f : List Int) (i : Nat) : Int := mn (plTo r f (i + 1))
theorem hi_succ (r f : List Int) (i : Nat) : hiAt r f (i + 1) = max (hiAt r f i) (plAt r f (i + 1)) := by
  unfold hiAt
  rw [plTo_succ, mx_app]
theorem lo_succ (r f : List Int) (i : Nat) : loAt r f (i + 1) = min (loAt r f i) (plAt r f (i + 1)) := by
  unfold loAt
  rw [plTo_succ, mn_app]
theorem pl_between (r f : List Int) (i : Nat) : loAt r f i ≤ plAt r f i ∧ plAt r f i ≤ hiAt r f i := by
  have hm : plAt r f i ∈ plTo r f (i + 1) := List.mem_map.mpr ⟨i, List.mem_range.mpr (Nat.lt_succ_self i), rfl⟩
  exact ⟨(mn_le _).2 _ hm, (mx_ge _).2 _ hm⟩
/-- what is behind, what is ahead of the end of i + 1 pieces -/
def bhAt (r f : List Int) (i : Nat) : Int := if upAt f i then plAt r f (i + 1) - loAt r f (i + 1) else hiAt r f (i + 1) - plAt r f (i + 1)
def ahAt (r f : List Int) (i : Nat) : Int := if upAt f i then hiAt r f (i + 1) - plAt r f (i + 1) else plAt r f (i + 1) - loAt r f (i + 1)
theorem st_sum (r f : List Int) (i : Nat) : bhAt r f i + ahAt r f i = hiAt r f (i + 1) - loAt r f (i + 1) := by
  unfold bhAt ahAt
  split <;> omega
theorem st_step (r f : List Int) (i : Nat) (hl : 0 ≤ r.getD (i + 1) 0) :
    (f.getD i 0 = 1 → bhAt r f (i + 1) = ahAt r f i + r.getD (i + 1) 0 ∧ ahAt r f (i + 1) = max 0 (bhAt r f i - r.getD (i + 1) 0)) ∧
    (f.getD i 0 ≠ 1 → bhAt r f (i + 1) = bhAt r f i + r.getD (i + 1) 0 ∧ ahAt r f (i + 1) = max 0 (ahAt r f i - r.getD (i + 1) 0)) := by
  have hb := pl_between r f (i + 1)
  have hh := hi_succ r f (i + 1)
  have hlo := lo_succ r f (i + 1)
  have hp : plAt r f (i + 1 + 1) = if upAt f (i + 1) then plAt r f (i + 1) + r.getD (i + 1) 0 else plAt r f (i + 1) - r.getD (i + 1) 0 := rfl
  have hu : upAt f (i + 1) = if f.getD i 0 = 1 then !(upAt f i) else upAt f i := rfl
  unfold bhAt ahAt
  generalize plAt r f (i + 1 + 1) = P2 at *
  generalize plAt r f (i + 1) = P1 at *
  generalize hiAt r f (i + 1 + 1) = H2 at *
  generalize loAt r f (i + 1 + 1) = L2 at *
  generalize hiAt r f (i + 1) = H1 at *
  generalize loAt r f (i + 1) = L1 at *
  generalize r.getD (i + 1) 0 = l at *
  generalize upAt f (i + 1) = u2 at *
  generalize upAt f i = u1 at *
  constructor
  · intro h
    rw [if_pos h] at hu
    subst hu
    cases u1
    · simp only [Bool.not_false, if_true, if_false, Bool.false_eq_true] at hp ⊢
      omega
    · simp only [Bool.not_true, if_true, if_false, Bool.false_eq_true] at hp ⊢
      omega
  · intro h
    rw [if_neg h] at hu
    subst hu
    cases u2
    · simp only [if_true, if_false, Bool.false_eq_true] at hp ⊢
      omega
    · simp only [if_true, if_false, Bool.false_eq_true] at hp ⊢
      omega
theorem drop_getD {l : List Int} {i : Nat} (h : i < l.length) : l.drop i = l.getD i 0 :: l.drop (i + 1) := by
  rw [List.drop_eq_getElem_cons h, List.getD_eq_getElem?_getD, List.getElem?_eq_getElem h]; rfl
theorem span_from {r f : List Int} (hp : ∀ x ∈ r, 0 ≤ x) (hl : f.length + 1 = r.length) : ∀ (k i : Nat), i + 1 + k = r.length → sp (bhAt r f i) (ahAt r f i) (r.drop (i + 1)) (f.drop i) = spanOf r f
  | 0, i, h => by
    rw [List.drop_eq_nil_of_le (by omega), List.drop_eq_nil_of_le (by omega)]
    show bhAt r f i + ahAt r f i = _
    rw [st_sum]
    unfold spanOf jointsOf hiAt loAt
    rw [← h]
  | k + 1, i, h => by
    rw [drop_getD (l := r) (i := i + 1) (by omega), drop_getD (l := f) (i := i) (by omega)]
    obtain ⟨s1, s2⟩ := st_step r f i (hp _ (getD_mem (by omega)))
    have ih := span_from hp hl k (i + 1) (by omega)
    show (if f.getD i 0 = 1 then _ else _) = _
    by_cases ht : f.getD i 0 = 1
    · rw [if_pos ht]
      obtain ⟨e1, e2⟩ := s1 ht
      rw [← e1, ← e2]
      exact ih
    · rw [if_neg ht]
      obtain ⟨e1, e2⟩ := s2 ht
      rw [← e1, ← e2]
      exact ih
theorem st_first (r f : List Int) (h : 0 ≤ r.getD 0 0) : bhAt r f 0 = r.getD 0 0 ∧ ahAt r f 0 = 0 := by
  have e : plAt r f 1 = r.getD 0 0 := by show 0 + r.getD 0 0 = _; omega
  have h1 : hiAt r f 1 = max (hiAt r f 0) (plAt r f 1) := hi_succ r f 0
  have h2 : loAt r f 1 = min (loAt r f 0) (plAt r f 1) := lo_succ r f 0
  have h3 : hiAt r f 0 = 0 := rfl
  have h4 : loAt r f 0 = 0 := rfl
  unfold bhAt ahAt
  rw [show upAt f 0 = true from rfl, if_pos rfl, if_pos rfl]
  show plAt r f 1 - loAt r f 1 = _ ∧ hiAt r f 1 - plAt r f 1 = 0
  omega
theorem span_sp {r f : List Int} (hr : OkR r) (hl : f.length + 1 = r.length) : spanOf r f = sp (r.getD 0 0) 0 (r.drop 1) f := by
  have h1 := hr.l1
  have h0 : 0 ≤ r.getD 0 0 := by have := hr.all _ (getD_mem (i := 0) (by omega)); omega
  have h := span_from (r := r) (f := f) (fun x hx => by have := hr.all x hx; omega) hl (r.length - 1) 0 (by omega)
  obtain ⟨e1, e2⟩ := st_first r f h0
  rw [e1, e2] at h
  exact h.symm
/-! ### the whole rule -/
def many (r : List Int) (c : Int) : Nat := cnt (r.drop 1) (r.getD 0 0) 0 c
def atNum (r : List Int) (c : Int) (n : Nat) : List Int := foldAt (r.drop 1) (r.getD 0 0) 0 c n
def numFor (r : List Int) (c : Int) (f : List Int) : Nat := numOf (r.drop 1) (r.getD 0 0) 0 c f
theorem drop_nn {r : List Int} (hr : OkR r) : ∀ x ∈ r.drop 1, 0 ≤ x := fun x hx => by have := hr.all x (List.mem_of_mem_drop hx); omega
theorem all_fits {r : List Int} (hr : OkR r) (c : Int) : (allC (r.length - 1)).filter (fun f => decide (spanOf r f ≤ c)) = (List.range (many r c)).map (atNum r c) := by
  have h := fits_list (r.drop 1) (r.getD 0 0) 0 c (drop_nn hr)
  rw [List.length_drop] at h
  rw [← show _ = (List.range (many r c)).map (atNum r c) from h]
  refine List.filter_congr fun f hf => ?_
  have hl := allC_len _ f hf
  have := hr.l1
  rw [span_sp hr (by omega)]
theorem at_ok {r : List Int} (hr : OkR r) {c : Int} {n : Nat} (h : n < many r c) : OkF r (atNum r c n) ∧ spanOf r (atNum r c n) ≤ c := by
  obtain ⟨h1, h2, h3⟩ := foldAt_fits (drop_nn hr) h
  rw [List.length_drop] at h1
  have := hr.l1
  have hl : (atNum r c n).length + 1 = r.length := by unfold atNum; omega
  exact ⟨⟨hl, h2⟩, by rw [span_sp hr hl]; exact h3⟩
theorem num_at {r : List Int} {c : Int} {n : Nat} (h : n < many r c) : numFor r c (atNum r c n) = n := numOf_foldAt _ _ _ _ _ h
theorem at_num {r f : List Int} (hr : OkR r) (hf : OkF r f) {c : Int} (h : spanOf r f ≤ c) : numFor r c f < many r c ∧ atNum r c (numFor r c f) = f := by
  have := hf.len
  exact foldAt_numOf (r.drop 1) (r.getD 0 0) 0 c f (drop_nn hr) (by rw [List.length_drop]; omega) hf.all (by rw [← span_sp hr hf.len]; exact h)
theorem many_pos {r f : List Int} (hr : OkR r) (hf : OkF r f) {c : Int} (h : spanOf r f ≤ c) : 0 < many r c := by have := (at_num hr hf h).1; omega
end Fo

namespace Fo
open PySem PySem.Spec PyProof.Rows L2 Evl
/-! ### calls that hand back a new tuple -/
def RetU (xs : List V) (H : Hp) (Q : VK) : Prop := ∀ p H2, H p = none → Ex H H2 → H2 p = some (.tup xs) → Q (.ref p) H2
def SpU (sp : Sp) (vs : List V) (H : Hp) (xs : List V) : Prop := ∀ H1, Ex H H1 → ∀ Q : VK, (∀ p H2, H1 p = none → Ex H1 H2 → H2 p = some (.tup xs) → Q (.ref p) H2) → ∀ E : XK, sp vs H1 Q E
theorem RetU.go {H H' : Hp} {xs : List V} {Q : VK} (k : RetU xs H Q) (e : Ex H H') {p : Addr} {H2 : Hp} (hp : H' p = none) (e2 : Ex H' H2) (h : H2 p = some (.tup xs)) : Q (.ref p) H2 := k p H2 (fresh_back e hp) (e.trans e2) h
theorem eu_call {σ : L2.St} {H : Hp} {sp : Sp} {dvs vs xs : List V} {E : XK} {ta : TA} (h : EvA ta σ H vs) (hs : SpU sp (vs ++ dvs) H xs) : EvU (tCall sp dvs E ta) σ H xs := fun H1 e Q q =>
  h H1 e _ fun H2 e2 => hs H2 (e.trans e2) Q (fun p H3 hp e3 h3 => q p H3 (fresh_back e2 hp) (e2.trans e3) h3) E
/-! ### all but the object at d stays -/
def ExB (d : Addr) (H H' : Hp) : Prop := ∀ a o, a ≠ d → H a = some o → H' a = some o
theorem ExB.refl {d : Addr} (H : Hp) : ExB d H H := fun _ _ _ h => h
theorem ExB.trans {d : Addr} {H H1 H2 : Hp} (a : ExB d H H1) (b : ExB d H1 H2) : ExB d H H2 := fun x o n h => b x o n (a x o n h)
theorem ExB.of {d : Addr} {H H' : Hp} (e : Ex H H') : ExB d H H' := fun a o _ h => e a o h
theorem ExB.up {d : Addr} {H H' : Hp} {o : HO} (e : ExB d H H') : ExB d H (upd H' d o) := fun a u n h => by rw [upd_ne n]; exact e a u n h
theorem ExB.ex {d : Addr} {H H1 H2 : Hp} (e : Ex H H1) (b : ExB d H1 H2) (hn : H d = none) : Ex H H2 := fun a o h => b a o (ne_of_none h hn) (e a o h)
section
variable {P : Program} {w : World} {K : PySem.W.Frag} {H H' : Hp} {Q : VK} {E E1 : XK} {vs xs : List V} {d a : Addr} {L : List MRow}
theorem exb_l (m : MemoAt P w H d L) (e : ExB d H H') (h : SqL K H a xs) : SqL K H' a xs := by
  rcases h with (h | ⟨o, h⟩) | h
  · exact .inl (.inl (e _ _ (fun z => by rw [z, m.obj] at h; cases h) h))
  · exact .inl (.inr ⟨o, e _ _ (fun z => by rw [z, m.obj] at h; cases h) h⟩)
  · exact .inr h
theorem exb_t (m : MemoAt P w H d L) (e : ExB d H H') (h : H a = some (.tup xs)) : H' a = some (.tup xs) := e _ _ (fun z => memo_noTup m xs (z ▸ h)) h
theorem MemoAt.mono (m : MemoAt P w H d L) (e : Ex H H') : MemoAt P w H' d L := ⟨e _ _ m.obj, m.len, fun p hp => let ⟨S, h1, h2⟩ := m.keys p hp; ⟨S, e _ _ h1, e _ _ h2⟩⟩
/-- each value that is kept is the count -/
def GoodM (r : List Int) (c : Int) (L : List MRow) : Prop := ∀ p ∈ L, ∃ j : Nat, p.1.1 = j ∧ p.2.2 = (cnt (r.drop j) p.1.2.1 p.1.2.2 c : Int)
/-! ### the states -/
def p_moved (K : PySem.W.Frag) : Sp := fun vs H Q _ => ∃ S a b l, vs = [.ref S, .int l] ∧ H S = some (.tup [.int a, .int b]) ∧ RetU [.int (a + l), .int (max 0 (b - l))] H Q
theorem max0 (x : Int) : (if x > 0 then x else 0) = max 0 x := by
  by_cases h : x > 0
  · rw [if_pos h]; omega
  · rw [if_neg h]; omega
theorem r_moved (h : p_moved K vs H Q E) : t_moved K E1 (En Q) (start ["state", "length"] vs) H := by
  obtain ⟨S, a, b, l, rfl, hS, q⟩ := h
  refine s_retU (xs := [.int (a + l), .int (max 0 (b - l))]) (eu_tup ?_ (by show 2 ≤ 100000; decide)) fun p H1 hp e h1 => q p H1 hp e h1
  refine ea_cons (ev_op (ev_op (ev_var rfl) ev_c (rv_ixT (st_of hS) (atI_nat (j := 0) rfl))) (ev_var rfl) rv_I0) (ea_cons (ev_is (ev_max2 ev_c (ev_op (ev_op (ev_var rfl) ev_c (rv_ixT (st_of hS) (atI_nat (j := 1) rfl))) (ev_var rfl) rv_I0)) (congrArg V.int (max0 _))) ea_nil)
theorem su_moved {S : Addr} {a b l : Int} (h : H S = some (.tup [.int a, .int b])) : SpU (p_moved K) [.ref S, .int l] H [.int (a + l), .int (max 0 (b - l))] := fun H1 e Q q E => ⟨S, a, b, l, rfl, e _ _ h, fun p H2 hp e2 h2 => q p H2 hp e2 h2⟩
def p_turned (K : PySem.W.Frag) : Sp := fun vs H Q _ => ∃ S a b, vs = [.ref S] ∧ H S = some (.tup [.int a, .int b]) ∧ RetU [.int b, .int a] H Q
theorem r_turned (h : p_turned K vs H Q E) : t_turned K E1 (En Q) (start ["state"] vs) H := by
  obtain ⟨S, a, b, rfl, hS, q⟩ := h
  exact s_retU (xs := [.int b, .int a]) (eu_tup (ea_cons (ev_op (ev_var rfl) ev_c (rv_ixT (st_of hS) (atI_nat (j := 1) rfl))) (ea_cons (ev_op (ev_var rfl) ev_c (rv_ixT (st_of hS) (atI_nat (j := 0) rfl))) ea_nil)) (by show 2 ≤ 100000; decide)) fun p H1 hp e h1 => q p H1 hp e h1
theorem su_turned {S : Addr} {a b : Int} (h : H S = some (.tup [.int a, .int b])) : SpU (p_turned K) [.ref S] H [.int b, .int a] := fun H1 e Q q E => ⟨S, a, b, rfl, e _ _ h, fun p H2 hp e2 h2 => q p H2 hp e2 h2⟩
/-- the state behind a hinge -/
def bst (t a b l : Int) : List V := if t = 1 then [.int (b + l), .int (max 0 (a - l))] else [.int (a + l), .int (max 0 (b - l))]
def p_behind_turn (K : PySem.W.Frag) : Sp := fun vs H Q _ => ∃ S a b t l, vs = [.ref S, .int t, .int l] ∧ H S = some (.tup [.int a, .int b]) ∧ RetU (bst t a b l) H Q
theorem r_behind_turn (h : p_behind_turn K vs H Q E) : t_behind_turn K E1 (p_turned K) (p_moved K) (En Q) (start ["state", "turn", "length"] vs) H := by
  obtain ⟨S, a, b, t, l, rfl, hS, q⟩ := h
  refine q_when (b := decide (t = 1)) (et_test (ev_is (ev_op (ev_var rfl) ev_c (rv_eq rfl)) (by rw [dec_int]; rfl))) (fun hb H1 e1 => ?_) (fun hb H1 e1 => ?_)
  · have q' : RetU [.int (b + l), .int (max 0 (a - l))] H Q := by
      rw [← show bst t a b l = _ from if_pos (of_decide_eq_true hb)]
      exact q
    refine s_asgU (eu_call (vs := [.ref S]) (ea_cons (ev_var rfl) ea_nil) (su_turned (e1 _ _ hS))) fun p H2 hp e2 h2 => ?_
    exact s_retU (eu_call (vs := [.ref p, .int l]) (ea_cons (ev_var rfl) (ea_cons (ev_var rfl) ea_nil)) (su_moved h2)) fun p' H3 hp' e3 h3 => q'.go (e1.trans e2) hp' e3 h3
  · have q' : RetU [.int (a + l), .int (max 0 (b - l))] H Q := by
      rw [← show bst t a b l = _ from if_neg (of_decide_eq_false hb)]
      exact q
    exact s_retU (eu_call (vs := [.ref S, .int l]) (ea_cons (ev_var rfl) (ea_cons (ev_var rfl) ea_nil)) (su_moved (e1 _ _ hS))) fun p' H3 hp' e3 h3 => q'.go e1 hp' e3 h3
theorem su_behind {S : Addr} {a b t l : Int} (h : H S = some (.tup [.int a, .int b])) : SpU (p_behind_turn K) [.ref S, .int t, .int l] H (bst t a b l) := fun H1 e Q q E => ⟨S, a, b, t, l, rfl, e _ _ h, fun p H2 hp e2 h2 => q p H2 hp e2 h2⟩
/-! ### ways_from, with n calls allowed -/
def p_ways_from (P : Program) (w : World) (K : PySem.W.Frag) (n : Nat) : Sp := fun vs H Q _ => ∃ (ra S d : Addr) (r : List Int) (i : Nat) (a b c : Int) (L : List MRow), vs = [.ref ra, .int i, .ref S, .int c, .ref d] ∧
  SqL K H ra (iv r) ∧ r.length ≤ 12 ∧ H S = some (.tup [.int a, .int b]) ∧ MemoAt P w H d L ∧ GoodM r c L ∧ i ≤ r.length ∧ r.length + 1 ≤ i + n ∧ L.length + 2 ^ (r.length + 1 - i) ≤ 500000 ∧
  ∀ H' N, ExB d H H' → MemoAt P w H' d (L ++ N) → GoodM r c (L ++ N) → (∀ p ∈ N, (i : Int) ≤ p.1.1) → N.length + 1 ≤ 2 ^ (r.length + 1 - i) → Q (.int (cnt (r.drop i) a b c : Nat)) H'
theorem cnt_over (rs : List Int) (a b c : Int) (h : a + b > c) : cnt rs a b c = 0 := by
  cases rs with
  | nil => exact if_pos h
  | cons l rs => exact if_pos h
theorem beq_nat (i j : Nat) : ((i : Int) == (j : Int)) = decide (i = j) := by
  by_cases z : i = j
  · subst z; simp
  · rw [decide_eq_false z, beq_eq_false_iff_ne]; omega
/-- the arguments of a call of ways_from -/
theorem ea_ways {σ : L2.St} {H : Hp} {t0 t1 t2 t3 t4 : TE} {v0 v1 v3 v4 : V} {xs : List V} (h0 : Ev t0 σ H v0) (h1 : Ev t1 σ H v1) (h2 : EvU t2 σ H xs) (h3 : Ev t3 σ H v3) (h4 : Ev t4 σ H v4) {Q : List V → Hp → Prop}
    (k : ∀ p H1, Ex H H1 → H1 p = some (.tup xs) → Q [v0, v1, .ref p, v3, v4] H1) : tCons t0 (tCons t1 (tCons t2 (tCons t3 (tCons t4 tNil)))) σ H Q :=
  h0 H (Ex.refl H) _ fun H1 e1 => h1 H1 e1 _ fun H2 e2 => h2 H2 (e1.trans e2) _ fun p H3 _ e3 hp => h3 H3 ((e1.trans e2).trans e3) _ fun H4 e4 => h4 H4 (((e1.trans e2).trans e3).trans e4) _ fun H5 e5 =>
    k p H5 ((((e1.trans e2).trans e3).trans e4).trans e5) ((e4.trans e5) _ _ hp)
theorem bst0 (a b l : Int) : bst 0 a b l = [.int (a + l), .int (max 0 (b - l))] := if_neg (by decide)
theorem bst1 (a b l : Int) : bst 1 a b l = [.int (b + l), .int (max 0 (a - l))] := if_pos rfl
/-- the count behind one of two hinges -/
def cntT (rs : List Int) (t a b l c : Int) : Nat := if t = 1 then cnt rs (b + l) (max 0 (a - l)) c else cnt rs (a + l) (max 0 (b - l)) c
theorem bst_ex (t a b l : Int) : ∃ a' b', bst t a b l = [.int a', .int b'] ∧ ∀ rs c, cntT rs t a b l c = cnt rs a' b' c := by
  by_cases h : t = 1
  · exact ⟨_, _, if_pos h, fun rs c => if_pos h⟩
  · exact ⟨_, _, if_neg h, fun rs c => if_neg h⟩
def totOf (rs : List Int) (a b l c : Int) : Nat → Nat
  | 0 => 0
  | j + 1 => totOf rs a b l c j + cntT rs j a b l c
theorem r_ways_from {n : Nat} (h : p_ways_from P w K (n + 1) vs H Q E) : t_ways_from P w K E1 (p_behind_turn K) (p_ways_from P w K n) (En Q) (start ["rule", "done", "state", "case", "known", "key", "total", "turn"] vs) H := by
  obtain ⟨ra, S, d, r, i, a, b, c, L, rfl, hr, h12, hS, m, good, hi, hn, hL, q⟩ := h
  refine q_when (b := decide (c < a + b)) (et_test (ev_op (ev_op (ev_op (ev_var rfl) ev_c (rv_ixT (st_of hS) (atI_nat (j := 0) rfl))) (ev_op (ev_var rfl) ev_c (rv_ixT (st_of hS) (atI_nat (j := 1) rfl))) rv_I0) (ev_var rfl) rv_I0)) (fun hb H1 e1 => ?_) (fun hb H1 e1 => ?_)
  · refine s_ret ev_c fun H2 e2 => ?_
    have e := e1.trans e2
    have h := q H2 [] (.of e) (by rw [List.append_nil]; exact m.mono e) (by rw [List.append_nil]; exact good) (fun p hp => by cases hp) Nat.one_le_two_pow
    rw [cnt_over _ _ _ _ (of_decide_eq_true hb)] at h
    exact h
  have hle : ¬ a + b > c := of_decide_eq_false hb
  refine q_when (b := decide (i = r.length)) (et_test (ev_is (ev_op (ev_var rfl) (ev_len (ev_var rfl) (ex_l e1 hr)) (rv_eq rfl)) (by rw [dec_int, iv_len, beq_nat]))) (fun hb2 H2 e2 => ?_) (fun hb2 H2 e2 => ?_)
  · refine s_ret ev_c fun H3 e3 => ?_
    have e := (e1.trans e2).trans e3
    have h := q H3 [] (.of e) (by rw [List.append_nil]; exact m.mono e) (by rw [List.append_nil]; exact good) (fun p hp => by cases hp) Nat.one_le_two_pow
    rw [List.drop_eq_nil_of_le (by have := of_decide_eq_true hb2; omega)] at h
    have e1' : cnt [] a b c = 1 := if_neg hle
    rw [e1'] at h
    exact h
  have hi' : i < r.length := by have := of_decide_eq_false hb2; omega
  have ed := drop_getD hi'
  have ec : cnt (r.drop i) a b c = totOf (r.drop (i + 1)) a b (r.getD i 0) c 2 := by
    rw [ed]
    show (if a + b > c then 0 else _) = 0 + cntT _ 0 _ _ _ _ + cntT _ 1 _ _ _ _
    rw [if_neg hle]
    show _ = 0 + (if (0 : Int) = 1 then _ else cnt (r.drop (i + 1)) (a + r.getD i 0) (max 0 (b - r.getD i 0)) c) + (if (1 : Int) = 1 then cnt (r.drop (i + 1)) (b + r.getD i 0) (max 0 (a - r.getD i 0)) c else _)
    rw [if_neg (by decide), if_pos rfl, Nat.zero_add]
  have pw : 2 ^ (r.length + 1 - i) = 2 * 2 ^ (r.length + 1 - (i + 1)) := by
    rw [show r.length + 1 - i = (r.length + 1 - (i + 1)) + 1 by omega, Nat.pow_succ, Nat.mul_comm]
  refine q_asgU (eu_tup (ea_cons (ev_var rfl) (ea_cons (ev_var rfl) ea_nil)) (by show 2 ≤ 100000; decide)) fun T H3 hT e3 h3 => ?_
  have e13 := (e1.trans e2).trans e3
  have m3 := m.mono e13
  have hS3 := e13 _ _ hS
  have hk3 : KeyOk H3 ((i : Int), a, b) T := ⟨S, h3, hS3⟩
  refine q_when (b := !(valAt L ((i : Int), a, b)).isSome) (et_test (ev_op (ev_var rfl) (ev_var rfl) fun H1 e Q' q' => ⟨d, T, ((i : Int), a, b), L, rfl, rfl, ⟨S, e _ _ h3, e _ _ hS3⟩, m3.mono e, q' H1 (Ex.refl _)⟩)) (fun hb3 H4 e4 => ?_) (fun hb3 H4 e4 => ?_)
  · -- not known
    have hv : valAt L ((i : Int), a, b) = none := by
      cases z : valAt L ((i : Int), a, b) with
      | none => rfl
      | some _ => rw [z] at hb3; cases hb3
    refine q_asg ev_c fun H5 e5 => ?_
    have e35 := e4.trans e5
    have m5 := m3.mono e35
    have e15 := e13.trans e35
    have hr5 := ex_l e15 hr
    refine q_forR1 (n := 2) (ea_cons ev_c ea_nil) ⟨by decide, by decide⟩
      (fun j σ' H' => ∃ N kv, σ' = [some (.ref ra), some (.int i), some (.ref S), some (.int c), some (.ref d), some (.ref T), some (.int (totOf (r.drop (i + 1)) a b (r.getD i 0) c j : Nat)), kv] ∧ ExB d H5 H' ∧ MemoAt P w H' d (L ++ N) ∧ GoodM r c (L ++ N) ∧
        (∀ p ∈ N, ((i + 1 : Nat) : Int) ≤ p.1.1) ∧ N.length + j ≤ j * 2 ^ (r.length + 1 - (i + 1)))
      (fun H6 e6 => ⟨[], _, rfl, .of e6, by rw [List.append_nil]; exact m5.mono e6, by rw [List.append_nil]; exact good, (fun p hp => by cases hp), by show 0 + 0 ≤ _; omega⟩) ?_ ?_
    · rintro j σ' H' hj ⟨N, kv, rfl, eb, mN, gN, iN, lN⟩
      have hj2 : j ≤ 1 := by omega
      have hr' := exb_l m5 eb hr5
      have hS' := exb_t m5 eb (e35 _ _ hS3)
      obtain ⟨a', b', eb', ect⟩ := bst_ex (j : Int) a b (r.getD i 0)
      have hN2 : N.length + 2 ^ (r.length + 1 - (i + 1)) ≤ 2 * 2 ^ (r.length + 1 - (i + 1)) := by
        have : j * 2 ^ (r.length + 1 - (i + 1)) ≤ 1 * 2 ^ (r.length + 1 - (i + 1)) := Nat.mul_le_mul_right _ hj2
        omega
      refine ⟨_, rfl, ?_⟩
      refine ea_ways (ev_var rfl) (ev_op (ev_var rfl) ev_c rv_I0) (eu_call (vs := [.ref S, .int j, .int (r.getD i 0)]) (ea_cons (ev_var rfl) (ea_cons (ev_var rfl) (ea_cons (ev_op (ev_var rfl) (ev_var rfl) (rv_ixL hr' (atI_nat (iv_at (getD_of hi'))))) ea_nil))) (su_behind hS')) (ev_var rfl) (ev_var rfl) fun p H6 e6 h6 => ?_
      rw [eb'] at h6
      refine ⟨ra, p, d, r, i + 1, a', b', c, L ++ N, by rw [show ((i : Int) + 1) = ((i + 1 : Nat) : Int) by omega]; rfl, ex_l e6 hr', h12, h6, mN.mono e6, gN, by omega, by omega, by rw [List.length_append]; omega, fun H7 N' e7 m7 g7 i7 l7 => ?_⟩
      refine ⟨_, _, rfl, rfl, N ++ N', some (V.int (j : Int)), ?_, (eb.trans (.of e6)).trans e7, ?_, ?_, ?_, ?_⟩
      · show [some (V.ref ra), some (V.int i), some (V.ref S), some (V.int c), some (V.ref d), some (V.ref T), some (V.int ((totOf (r.drop (i + 1)) a b (r.getD i 0) c j : Int) + (cnt (r.drop (i + 1)) a' b' c : Int))), some (V.int (j : Int))] = _
        rw [← ect]
        rfl
      · rw [← List.append_assoc]; exact m7
      · rw [← List.append_assoc]; exact g7
      · intro p hp
        rcases List.mem_append.mp hp with hp | hp
        · exact iN p hp
        · exact i7 p hp
      · rw [List.length_append, Nat.succ_mul]
        omega
    · rintro σ' H' ⟨N, kv, rfl, eb, mN, gN, iN, lN⟩
      have et : totOf (r.drop (i + 1)) a b (r.getD i 0) c (Int.toNat 2) = cnt (r.drop i) a b c := ec.symm
      rw [et]
      have hk' : KeyOk H' ((i : Int), a, b) T := ⟨S, exb_t m5 eb (e35 _ _ h3), exb_t m5 eb (e35 _ _ hS3)⟩
      have hvN : valAt (L ++ N) ((i : Int), a, b) = none := by
        cases z : valAt (L ++ N) ((i : Int), a, b) with
        | none => rfl
        | some n =>
          obtain ⟨p, hp, e1, e2⟩ := valAt_mem z
          rcases List.mem_append.mp hp with hp | hp
          · have : valAt L ((i : Int), a, b) ≠ none := by
              unfold valAt
              rw [Ne, Option.map_eq_none_iff, List.find?_eq_none]
              intro h
              exact h p hp (decide_eq_true e1)
            exact absurd hv this
          · have := iN p hp
            rw [e1] at this
            simp only at this
            omega
      have lN' : N.length + 2 ≤ 2 * 2 ^ (r.length + 1 - (i + 1)) := lN
      refine ⟨_, rfl, _, rfl, _, rfl, d, T, ((i : Int), a, b), L ++ N, _, rfl, rfl, rfl, hk', mN, hvN, by rw [List.length_append]; omega, ?_⟩
      have mS := mN.stored (n := ((cnt (r.drop i) a b c : Nat) : Int)) hk' (by rw [List.length_append]; omega)
      refine ⟨_, rfl, _, rfl, d, T, ((i : Int), a, b), _, _, rfl, rfl, hk'.mono (fun x o ne e => by rw [upd_ne ne]; exact e) (memo_noTup mN), mS, by rw [valAt_app _ _ _ hvN, if_pos rfl], ?_⟩
      rw [List.append_assoc] at mS
      have el : (N ++ [(((i : Int), a, b), T, ((cnt (r.drop i) a b c : Nat) : Int))]).length = N.length + 1 := by simp
      show Q (V.int (cnt (r.drop i) a b c : Nat)) _
      refine q _ (N ++ [(((i : Int), a, b), T, ((cnt (r.drop i) a b c : Nat) : Int))]) (((ExB.of e15).trans eb).up) (by rw [List.append_assoc]; exact mS) ?_ ?_ (by rw [el]; omega)
      · intro p hp
        rw [← List.append_assoc] at hp
        rcases List.mem_append.mp hp with hp | hp
        · exact gN p hp
        · rw [List.mem_singleton.mp hp]
          exact ⟨i, rfl, rfl⟩
      · intro p hp
        rcases List.mem_append.mp hp with hp | hp
        · have := iN p hp; omega
        · rw [List.mem_singleton.mp hp]
          exact Int.le_refl _
  · -- known
    obtain ⟨v, hv⟩ : ∃ v, valAt L ((i : Int), a, b) = some v := by
      cases z : valAt L ((i : Int), a, b) with
      | none => rw [z] at hb3; cases hb3
      | some v => exact ⟨v, rfl⟩
    obtain ⟨p, hp, e1', e2'⟩ := valAt_mem hv
    obtain ⟨j, ej, ev⟩ := good p hp
    rw [e1'] at ej ev
    rw [e2'] at ev
    have ej' : j = i := by simp only at ej; omega
    rw [ej'] at ev
    refine ⟨_, rfl, _, rfl, d, T, ((i : Int), a, b), L, v, rfl, rfl, ⟨S, e4 _ _ h3, e4 _ _ hS3⟩, m3.mono e4, hv, ?_⟩
    have e := e13.trans e4
    have h := q H4 [] (.of e) (by rw [List.append_nil]; exact m.mono e) (by rw [List.append_nil]; exact good) (fun p hp => by cases hp) Nat.one_le_two_pow
    rw [ev]
    exact h
end
end Fo

namespace Fo
open PySem PySem.Spec PyProof.Rows L2 Evl
section
variable {P : Program} {w : World} {K : PySem.W.Frag} {H H' : Hp} {Q : VK} {E E1 : XK} {vs xs : List V} {d a : Addr} {L : List MRow}
theorem GoodM.nil {r : List Int} {c : Int} : GoodM r c [] := fun p hp => by cases hp
theorem pow13 (n : Nat) (h : n ≤ 13) : 2 ^ n ≤ 8192 := Nat.le_trans (Nat.pow_le_pow_right (by decide) h) (by decide)
theorem ea_waysN {σ : L2.St} {H : Hp} {t0 t1 t2 t3 : TE} {v0 v1 v3 : V} {xs : List V} (h0 : Ev t0 σ H v0) (h1 : Ev t1 σ H v1) (h2 : EvU t2 σ H xs) (h3 : Ev t3 σ H v3) {Q : List V → Hp → Prop}
    (k : ∀ p d H1, Ex H H1 → H1 p = some (.tup xs) → H1 d = none → Q [v0, v1, .ref p, v3, .ref d] (upd H1 d (memoHO P w d []))) : tCons t0 (tCons t1 (tCons t2 (tCons t3 (tCons (tMemoNew P w) tNil)))) σ H Q :=
  h0 H (Ex.refl H) _ fun H1 e1 => h1 H1 e1 _ fun H2 e2 => h2 H2 (e1.trans e2) _ fun p H3 _ e3 hp => h3 H3 ((e1.trans e2).trans e3) _ fun H4 e4 => fun d hd =>
    k p d H4 (((e1.trans e2).trans e3).trans e4) (e4 _ _ hp) hd
/-! ### how many fit -/
def p_many_fits0 (P : Program) (w : World) (K : PySem.W.Frag) : Sp := fun vs H Q _ => ∃ a r c, vs = [.ref a, .int c] ∧ SqL K H a (iv r) ∧ OkR r ∧ RetV (.int (many r c : Nat)) H Q
theorem r_many_fits0 (h : p_many_fits0 P w K vs H Q E) : t_many_fits P w K E1 (p_see_rule0 K) (p_ways_from P w K 13) (En Q) (start ["rule", "case"] vs) H := by
  obtain ⟨a, r, c, rfl, hr, ok, q⟩ := h
  have l1 := ok.l1
  have l2 := ok.l12
  refine q_drop (ev_call (vs := [.ref a]) (ea_cons (ev_var rfl) ea_nil) (sp_see_rule0 hr ok)) fun H1 e1 => ?_
  have hr1 := ex_l e1 hr
  show tCons (tVar 0) (tCons (tC (.int 1)) (tCons (tTup (tCons (tOp (rIxL K) (tVar 0) (tC (.int 0))) (tCons (tC (.int 0)) tNil))) (tCons (tVar 1) (tCons (tMemoNew P w) tNil)))) (start ["rule", "case"] [.ref a, .int c]) H1 (fun vs H2 => p_ways_from P w K 13 (vs ++ []) H2 Q E1)
  refine ea_waysN (ev_var rfl) ev_c (eu_tup (ea_cons (ev_op (ev_var rfl) ev_c (rv_ixL hr1 (atI_nat (j := 0) (iv_at (getD_of (by omega)))))) (ea_cons ev_c ea_nil)) (by show 2 ≤ 100000; decide)) (ev_var rfl) fun S d H5 e5 h4 hd => ?_
  have e15 := e1.trans e5
  have eN : Ex H5 (upd H5 d (memoHO P w d [])) := Ex.new hd
  have z : 2 ^ (r.length + 1 - 1) ≤ 8192 := pow13 _ (by omega)
  refine ⟨a, S, d, r, 1, r.getD 0 0, 0, c, [], rfl, ex_l (e15.trans eN) hr, l2, eN _ _ h4, memo_new, GoodM.nil, l1, by omega, by show 0 + _ ≤ _; omega, fun H7 N e7 m7 g7 i7 l7 => ?_⟩
  exact q H7 (ExB.ex e15 (fun a o n h => e7 a o n (by rw [upd_ne n]; exact h)) (fresh_back e15 hd))
theorem sp_many0 {a : Addr} {r : List Int} {c : Int} (hr : SqL K H a (iv r)) (ok : OkR r) : SpV (p_many_fits0 P w K) [.ref a, .int c] H (.int (many r c : Nat)) := fun H1 e Q q E => ⟨a, r, c, rfl, ex_l e hr, ok, fun H2 e2 => q H2 e2⟩
/-! ### the folding with a number -/
/-- what stands while the hinges are gone through: the dict at d, the state at S, the list at l -/
structure Wk (P : Program) (w : World) (H H' : Hp) (d S l : Addr) (r : List Int) (c a b : Int) (acc : List Int) (L : List MRow) (i : Nat) : Prop where
  ex : Ex H H'
  dn : H d = none
  ln : H l = none
  m : MemoAt P w H' d L
  g : GoodM r c L
  sz : L.length ≤ i * 8192
  st : H' S = some (.tup [.int a, .int b])
  ls : H' l = some (.lst (iv acc))
theorem Wk.mono {H H' H1 : Hp} {d S l : Addr} {r : List Int} {c a b : Int} {acc : List Int} {L : List MRow} {i : Nat} (k : Wk P w H H' d S l r c a b acc L i) (e : Ex H' H1) : Wk P w H H1 d S l r c a b acc L i :=
  ⟨k.ex.trans e, k.dn, k.ln, k.m.mono e, k.g, k.sz, e _ _ k.st, e _ _ k.ls⟩
theorem Wk.ne {H H' : Hp} {d S l : Addr} {r : List Int} {c a b : Int} {acc : List Int} {L : List MRow} {i : Nat} (k : Wk P w H H' d S l r c a b acc L i) : l ≠ d := fun z => by
  have h := k.ls
  rw [z, k.m.obj] at h
  cases h
/-- behind a call of ways_from -/
theorem Wk.call {H H' H1 : Hp} {d S l : Addr} {r : List Int} {c a b : Int} {acc : List Int} {L N : List MRow} {i : Nat} (k : Wk P w H H' d S l r c a b acc L i) (e : ExB d H' H1) (m : MemoAt P w H1 d (L ++ N)) (g : GoodM r c (L ++ N)) (hN : N.length ≤ 8192) :
    Wk P w H H1 d S l r c a b acc (L ++ N) (i + 1) :=
  ⟨ExB.ex k.ex e k.dn, k.dn, k.ln, m, g, by rw [List.length_append]; have := k.sz; omega, exb_t k.m e k.st, e _ _ k.ne k.ls⟩
theorem Wk.more {H H' : Hp} {d S l : Addr} {r : List Int} {c a b : Int} {acc : List Int} {L : List MRow} {i : Nat} (k : Wk P w H H' d S l r c a b acc L i) : Wk P w H H' d S l r c a b acc L (i + 1) :=
  ⟨k.ex, k.dn, k.ln, k.m, k.g, by have := k.sz; omega, k.st, k.ls⟩
theorem Wk.state {H H' : Hp} {d S S' l : Addr} {r : List Int} {c a b a' b' : Int} {acc : List Int} {L : List MRow} {i : Nat} (k : Wk P w H H' d S l r c a b acc L i) (h : H' S' = some (.tup [.int a', .int b'])) : Wk P w H H' d S' l r c a' b' acc L i :=
  ⟨k.ex, k.dn, k.ln, k.m, k.g, k.sz, h, k.ls⟩
theorem Wk.app {H H' : Hp} {d S l : Addr} {r : List Int} {c a b : Int} {acc : List Int} {L : List MRow} {i : Nat} (k : Wk P w H H' d S l r c a b acc L i) (ys : List Int) : Wk P w H (upd H' l (.lst (iv ys))) d S l r c a b ys L i := by
  have ne := k.ne
  have up : ∀ x o, x ≠ l → H' x = some o → upd H' l (.lst (iv ys)) x = some o := fun x o n h => by rw [upd_ne n]; exact h
  have tp : ∀ x zs, H' x = some (.tup zs) → x ≠ l := fun x zs h z => by rw [z, k.ls] at h; cases h
  exact ⟨Ex.mut k.ex k.ln, k.dn, k.ln, ⟨up _ _ ne.symm k.m.obj, k.m.len, fun p hp => let ⟨T, h1, h2⟩ := k.m.keys p hp; ⟨T, up _ _ (tp _ _ h1) h1, up _ _ (tp _ _ h2) h2⟩⟩, k.g, k.sz, up _ _ (tp _ _ k.st) k.st, upd_same⟩
/-- the call of ways_from in such a turn: behind the hinge i + 1 with turn 0 -/
theorem wk_ways {σ : L2.St} {t0 t1 t2 t3 t4 : TE} {H H' : Hp} {d S l ra : Addr} {r : List Int} {c a b : Int} {acc : List Int} {L : List MRow} {i : Nat} (k : Wk P w H H' d S l r c a b acc L i) (hr : SqL K H ra (iv r)) (h12 : r.length ≤ 12) (hi : i + 1 < r.length)
    (h0 : Ev t0 σ H' (.ref ra)) (h1 : Ev t1 σ H' (.int ((i + 2 : Nat) : Int))) (h2 : EvU t2 σ H' (bst 0 a b (r.getD (i + 1) 0))) (h3 : Ev t3 σ H' (.int c)) (h4 : Ev t4 σ H' (.ref d)) {Q : VK} {E : XK}
    (q : ∀ H1 N, Wk P w H H1 d S l r c a b acc (L ++ N) (i + 1) → Q (.int (cnt (r.drop (i + 2)) (a + r.getD (i + 1) 0) (max 0 (b - r.getD (i + 1) 0)) c : Nat)) H1) :
    tCall (p_ways_from P w K 13) [] E (tCons t0 (tCons t1 (tCons t2 (tCons t3 (tCons t4 tNil))))) σ H' Q := by
  refine ea_ways h0 h1 h2 h3 h4 fun p H1 e1 hp => ?_
  rw [bst0] at hp
  have k1 := k.mono e1
  have z : 2 ^ (r.length + 1 - (i + 2)) ≤ 8192 := pow13 _ (by omega)
  have hsz := k.sz
  refine ⟨ra, p, d, r, i + 2, _, _, c, L, rfl, ex_l k1.ex hr, h12, hp, k1.m, k1.g, by omega, by omega, ?_, fun H7 N e7 m7 g7 i7 l7 => ?_⟩
  · have : i * 8192 ≤ 12 * 8192 := Nat.mul_le_mul_right _ (by omega)
    omega
  · exact q H7 N (k1.call e7 m7 g7 (by omega))
def p_folding_at0 (P : Program) (w : World) (K : PySem.W.Frag) : Sp := fun vs H Q _ => ∃ a r c, ∃ n : Nat, vs = [.ref a, .int c, .int n] ∧ SqL K H a (iv r) ∧ OkR r ∧ n < many r c ∧ RetL (iv (atNum r c n)) H Q
theorem r_folding_at0 {x0 : TS} (h : p_folding_at0 P w K vs H Q E) : t_folding_at P w K E1 (p_see_rule0 K) (p_many_fits0 P w K) (p_behind_turn K) (p_ways_from P w K 13) x0 (En Q) (start ["rule", "case", "number", "known", "state", "folding", "done", "turn", "ways"] vs) H := by
  obtain ⟨ra, r, c, n, rfl, hr, ok, hn, q⟩ := h
  have l1 := ok.l1
  have l2 := ok.l12
  refine q_drop (ev_call (vs := [.ref ra]) (ea_cons (ev_var rfl) ea_nil) (sp_see_rule0 hr ok)) fun H1 e1 => ?_
  have hr1 := ex_l e1 hr
  refine q_when (b := !(true && true)) (et_not (et_test (ev_chain (x := .int 0) (y := .int n) (z := .int (many r c : Nat)) ev_c (ev_var rfl) ?_ (fun _ => ev_call (vs := [.ref ra, .int c]) (ea_cons (ev_var rfl) (ea_cons (ev_var rfl) ea_nil)) (sp_many0 hr1 ok)) fun _ => ?_))) (fun hc => by cases hc) (fun _ H2 e2 => ?_)
  · have h := rv_I0 (H := H1) (g := fun i j => V.bl (decide (i ≤ j))) (i := 0) (j := (n : Int))
    rw [show decide ((0 : Int) ≤ (n : Int)) = true from decide_eq_true (by omega)] at h
    exact h
  · have h := rv_I0 (H := H1) (g := fun i j => V.bl (decide (i < j))) (i := (n : Int)) (j := ((many r c : Nat) : Int))
    rw [show decide ((n : Int) < ((many r c : Nat) : Int)) = true from decide_eq_true (by omega)] at h
    exact h
  have e12 := e1.trans e2
  have hr2 := ex_l e12 hr
  intro d hd
  have e3 : Ex H2 (upd H2 d (memoHO P w d [])) := Ex.new hd
  refine q_asgU (xs := [.int (r.getD 0 0), .int 0]) (eu_tup (ea_cons (ev_op (ev_var rfl) ev_c (rv_ixL (ex_l e3 hr2) (atI_nat (j := 0) (iv_at (getD_of (by omega)))))) (ea_cons ev_c ea_nil)) (by show 2 ≤ 100000; decide)) fun S H4 hS e4 h4 => ?_
  refine q_asgL (xs := iv []) (el_lst ea_nil (by decide)) fun l H5 hl e5 h5 => ?_
  have e25 := (e3.trans e4).trans e5
  have k0 : Wk P w H2 H5 d S l r c (r.getD 0 0) 0 [] [] 0 := ⟨e25, hd, fresh_back (e3.trans e4) hl, (memo_new.mono e4).mono e5, GoodM.nil, Nat.zero_le _, e5 _ _ h4, h5⟩
  refine q_forR2 (lo := 1) (n := (r.length : Int)) (ea_cons ev_c (ea_cons (ev_is (ev_len (ev_var rfl) (ex_l e25 hr2)) (by rw [iv_len])) ea_nil)) ⟨by omega, by omega, by omega, by omega⟩
    (fun i σ' H' => ∃ (num : Nat) (S : Addr) (a b : Int) (acc : List Int) (L : List MRow) (k1 k2 k3 : Option V), σ' = [some (.ref ra), some (.int c), some (.int num), some (.ref d), some (.ref S), some (.ref l), k1, k2, k3] ∧ Wk P w H2 H' d S l r c a b acc L i ∧
      acc ++ foldAt (r.drop (i + 1)) a b c num = atNum r c n)
    (fun H6 e6 => ⟨n, S, _, _, [], [], _, _, _, rfl, k0.mono e6, rfl⟩) ?_ ?_
  · rintro i σ' H' hi ⟨num, S, a, b, acc, L, k1, k2, k3, rfl, k, eq⟩
    have hi' : i + 1 < r.length := by omega
    have edone : (1 : Int) + (i : Int) = ((i + 1 : Nat) : Int) := by omega
    rw [edone]
    have ed := drop_getD hi'
    refine q_asg ev_c fun H6 e6 => ?_
    have k6 := k.mono e6
    have hr6 := ex_l k6.ex hr2
    refine wk_ways k6 hr2 l2 hi' (ev_var rfl) (ev_is (ev_op (ev_var rfl) ev_c rv_I0) (congrArg V.int (by omega))) (eu_call (vs := [.ref S, .int 0, .int (r.getD (i + 1) 0)]) (ea_cons (ev_var rfl) (ea_cons ev_c (ea_cons (ev_op (ev_var rfl) (ev_var rfl) (rv_ixL hr6 (atI_nat (iv_at (getD_of hi'))))) ea_nil))) (su_behind k6.st)) (ev_var rfl) (ev_var rfl) fun H7 N k7 => ?_
    -- the tail
    have tail : ∀ (D : Ends) (tv : Int) (nm : Nat) (H8 : Hp) (a' b' : Int), (tv = 0 ∨ tv = 1) → bst tv a b (r.getD (i + 1) 0) = [.int a', .int b'] → Wk P w H2 H8 d S l r c a b acc (L ++ N) (i + 1) →
        (∀ S' H9, Wk P w H2 H9 d S' l r c a' b' (acc ++ [tv]) (L ++ N) (i + 1) → D.nx [some (.ref ra), some (.int c), some (.int nm), some (.ref d), some (.ref S'), some (.ref l), some (.int ((i + 1 : Nat) : Int)), some (.int tv), some (.int (cnt (r.drop (i + 2)) (a + r.getD (i + 1) 0) (max 0 (b - r.getD (i + 1) 0)) c : Nat))] H9) →
        tSeq (tAsg (tCall (p_behind_turn K) [] E1 (tCons (tVar 4) (tCons (tVar 7) (tCons (tOp (rIxL K) (tVar 0) (tVar 6)) tNil)))) (gName 4)) (tDrop (tBM K "list" rAppend (tVar 5) (tCons (tVar 7) tNil))) D
          [some (.ref ra), some (.int c), some (.int nm), some (.ref d), some (.ref S), some (.ref l), some (.int ((i + 1 : Nat) : Int)), some (.int tv), some (.int (cnt (r.drop (i + 2)) (a + r.getD (i + 1) 0) (max 0 (b - r.getD (i + 1) 0)) c : Nat))] H8 := by
      intro D tv nm H8 a' b' ht hb k8 nx
      refine q_asgU (eu_call (vs := [.ref S, .int tv, .int (r.getD (i + 1) 0)]) (ea_cons (ev_var rfl) (ea_cons (ev_var rfl) (ea_cons (ev_op (ev_var rfl) (ev_var rfl) (rv_ixL (ex_l k8.ex hr2) (atI_nat (iv_at (getD_of hi'))))) ea_nil))) (su_behind k8.st)) fun S' H9 hS' e9 h9 => ?_
      rw [hb] at h9
      have k9 := (k8.mono e9).state h9
      refine s_app k9.ls (ev_var rfl) (ev_var rfl) ?_ fun H10 e10 => ?_
      · rw [iv_len]
        have h1 := congrArg List.length eq
        rw [List.length_append] at h1
        have h2 := (at_ok ok hn).1.len
        omega
      · have k10 := (k9.mono e10).app (acc ++ [tv])
        rw [← iv_app] at k10
        exact nx S' _ k10
    refine q_when (b := decide (cnt (r.drop (i + 2)) (a + r.getD (i + 1) 0) (max 0 (b - r.getD (i + 1) 0)) c ≤ num)) (et_test (ev_is (ev_op (ev_var rfl) (ev_var rfl) rv_I0) (congrArg V.bl (decide_eq_decide.mpr (by omega))))) (fun hb H8 e8 => ?_) (fun hb H8 e8 => ?_)
    · have hb' := of_decide_eq_true hb
      refine q_asg (v := .int ((num - cnt (r.drop (i + 2)) (a + r.getD (i + 1) 0) (max 0 (b - r.getD (i + 1) 0)) c : Nat) : Int)) (ev_is (ev_op (ev_var rfl) (ev_var rfl) rv_I0) (congrArg V.int (by omega))) fun H9 e9 => ?_
      refine s_asg ev_c fun H10 e10 => ?_
      refine tail _ 1 _ H10 _ _ (.inr rfl) (bst1 a b _) (k7.mono ((e8.trans e9).trans e10)) fun S' H11 k11 => ?_
      refine ⟨_, S', _, _, acc ++ [1], L ++ N, _, _, _, rfl, k11, ?_⟩
      rw [List.append_assoc, ← eq, ed]
      have e : foldAt (r.getD (i + 1) 0 :: r.drop (i + 1 + 1)) a b c num = 1 :: foldAt (r.drop (i + 1 + 1)) (b + r.getD (i + 1) 0) (max 0 (a - r.getD (i + 1) 0)) c (num - cnt (r.drop (i + 1 + 1)) (a + r.getD (i + 1) 0) (max 0 (b - r.getD (i + 1) 0)) c) := if_pos hb'
      rw [e]
      rfl
    · have hb' := of_decide_eq_false hb
      refine tail _ 0 num H8 _ _ (.inl rfl) (bst0 a b _) (k7.mono e8) fun S' H11 k11 => ?_
      refine ⟨_, S', _, _, acc ++ [0], L ++ N, _, _, _, rfl, k11, ?_⟩
      rw [List.append_assoc, ← eq, ed]
      have e : foldAt (r.getD (i + 1) 0 :: r.drop (i + 1 + 1)) a b c num = 0 :: foldAt (r.drop (i + 1 + 1)) (a + r.getD (i + 1) 0) (max 0 (b - r.getD (i + 1) 0)) c num := if_neg hb'
      rw [e]
      rfl
  · rintro σ' H' ⟨num, S, a, b, acc, L, k1, k2, k3, rfl, k, eq⟩
    rw [List.drop_eq_nil_of_le (by omega)] at eq
    have eq' : acc = atNum r c n := by rw [← eq]; show acc = acc ++ []; rw [List.append_nil]
    refine s_ret (ev_var rfl) fun H7 e7 => ?_
    rw [← eq'] at q
    exact q l H7 (fresh_back e12 k.ln) (e12.trans (k.ex.trans e7)) (e7 _ _ k.ls)
theorem sl_folding0 {a : Addr} {r : List Int} {c : Int} {n : Nat} (hr : SqL K H a (iv r)) (ok : OkR r) (hn : n < many r c) : SpL (p_folding_at0 P w K) [.ref a, .int c, .int n] H (iv (atNum r c n)) := fun H1 e Q q E => ⟨a, r, c, n, rfl, ex_l e hr, ok, hn, fun p H2 hp e2 h2 => q p H2 hp e2 h2⟩
/-! ### the number of a folding -/
def p_number_of0 (P : Program) (w : World) (K : PySem.W.Frag) : Sp := fun vs H Q _ => ∃ a b r f c, vs = [.ref a, .int c, .ref b] ∧ SqL K H a (iv r) ∧ SqL K H b (iv f) ∧ OkR r ∧ OkF r f ∧ spanOf r f ≤ c ∧ RetV (.int (numFor r c f : Nat)) H Q
theorem r_number_of0 {x0 : TS} (h : p_number_of0 P w K vs H Q E) : t_number_of P w K E1 (p_see_folding0 K) (p_span0 K) (p_behind_turn K) (p_ways_from P w K 13) x0 (En Q) (start ["rule", "case", "folding", "known", "state", "number", "done"] vs) H := by
  obtain ⟨ra, fa, r, f, c, rfl, hr, hf, ok, okf, hs, q⟩ := h
  have l1 := ok.l1
  have l2 := ok.l12
  have l3 := okf.len
  refine q_drop (ev_call (vs := [.ref ra, .ref fa]) (ea_cons (ev_var rfl) (ea_cons (ev_var rfl) ea_nil)) (sp_see_folding0 hr hf ok okf)) fun H1 e1 => ?_
  refine q_when (b := decide (c < spanOf r f)) (et_test (ev_op (ev_call (vs := [.ref ra, .ref fa]) (ea_cons (ev_var rfl) (ea_cons (ev_var rfl) ea_nil)) (sp_span0 (ex_l e1 hr) (ex_l e1 hf) ok okf)) (ev_var rfl) rv_I0)) (fun hc => absurd (of_decide_eq_true hc) (by omega)) (fun _ H2 e2 => ?_)
  have e12 := e1.trans e2
  have hr2 := ex_l e12 hr
  have hf2 := ex_l e12 hf
  intro d hd
  have e3 : Ex H2 (upd H2 d (memoHO P w d [])) := Ex.new hd
  refine q_asgU (xs := [.int (r.getD 0 0), .int 0]) (eu_tup (ea_cons (ev_op (ev_var rfl) ev_c (rv_ixL (ex_l e3 hr2) (atI_nat (j := 0) (iv_at (getD_of (by omega)))))) (ea_cons ev_c ea_nil)) (by show 2 ≤ 100000; decide)) fun S H4 hS e4 h4 => ?_
  -- a list that is never touched stands for the one that Wk speaks of: the state's own
  refine q_asg ev_c fun H5 e5 => ?_
  have e25 := (e3.trans e4).trans e5
  have m5 : MemoAt P w H5 d [] := (memo_new.mono e4).mono e5
  refine q_forR2 (lo := 1) (n := (r.length : Int)) (ea_cons ev_c (ea_cons (ev_is (ev_len (ev_var rfl) (ex_l e25 hr2)) (by rw [iv_len])) ea_nil)) ⟨by omega, by omega, by omega, by omega⟩
    (fun i σ' H' => ∃ (num : Nat) (S : Addr) (a b : Int) (L : List MRow) (k1 : Option V), σ' = [some (.ref ra), some (.int c), some (.ref fa), some (.ref d), some (.ref S), some (.int num), k1] ∧ (Ex H2 H' ∧ MemoAt P w H' d L ∧ GoodM r c L ∧ L.length ≤ i * 8192 ∧ H' S = some (.tup [.int a, .int b])) ∧
      num + numOf (r.drop (i + 1)) a b c (f.drop i) = numFor r c f)
    (fun H6 e6 => ⟨0, S, _, _, [], _, rfl, ⟨e25.trans e6, m5.mono e6, GoodM.nil, Nat.zero_le _, e6 _ _ (e5 _ _ h4)⟩, by rw [Nat.zero_add]; rfl⟩) ?_ ?_
  · rintro i σ' H' hi ⟨num, S, a, b, L, k1, rfl, ⟨ex, m, g, sz, st⟩, eq⟩
    have hi' : i + 1 < r.length := by omega
    have hif : i < f.length := by omega
    have edone : (1 : Int) + (i : Int) = ((i + 1 : Nat) : Int) := by omega
    rw [edone]
    have ed := drop_getD hi'
    have edf := drop_getD hif
    rw [ed, edf] at eq
    have hr' := ex_l ex hr2
    have hf' := ex_l ex hf2
    have eix : ∀ H1 : Hp, Ex H' H1 → Ev (tOp (rIxL K) (tVar 2) (tOp rSubI (tVar 6) (tC (.int 1)))) [some (.ref ra), some (.int c), some (.ref fa), some (.ref d), some (.ref S), some (.int num), some (.int ((i + 1 : Nat) : Int))] H1 (.int (f.getD i 0)) := fun H1 e =>
      ev_op (ev_var rfl) (ev_is (ev_op (ev_var rfl) ev_c rv_I0) (congrArg V.int (show ((i + 1 : Nat) : Int) - 1 = (i : Int) by omega))) (rv_ixL (ex_l e hf') (atI_nat (iv_at (getD_of hif))))
    refine q_when (b := decide (f.getD i 0 = 1)) (et_test (ev_is (ev_op (eix H' (Ex.refl _)) ev_c (rv_eq rfl)) (by rw [dec_int]; rfl))) (fun hb H6 e6 => ?_) (fun hb H6 e6 => ?_)
    · have hb' := of_decide_eq_true hb
      have en : numOf (r.getD (i + 1) 0 :: r.drop (i + 1 + 1)) a b c (f.getD i 0 :: f.drop (i + 1)) = cnt (r.drop (i + 1 + 1)) (a + r.getD (i + 1) 0) (max 0 (b - r.getD (i + 1) 0)) c + numOf (r.drop (i + 1 + 1)) (b + r.getD (i + 1) 0) (max 0 (a - r.getD (i + 1) 0)) c (f.drop (i + 1)) := if_pos hb'
      rw [en] at eq
      refine ⟨_, rfl, ?_⟩
      refine ea_ways (ev_var rfl) (ev_is (ev_op (ev_var rfl) ev_c rv_I0) (congrArg V.int (show ((i + 1 : Nat) : Int) + 1 = ((i + 2 : Nat) : Int) by omega))) (eu_call (vs := [.ref S, .int 0, .int (r.getD (i + 1) 0)]) (ea_cons (ev_var rfl) (ea_cons ev_c (ea_cons (ev_op (ev_var rfl) (ev_var rfl) (rv_ixL (ex_l e6 hr') (atI_nat (iv_at (getD_of hi'))))) ea_nil))) (su_behind (e6 _ _ st))) (ev_var rfl) (ev_var rfl) fun p H7 e7 hp => ?_
      rw [bst0] at hp
      have z : 2 ^ (r.length + 1 - (i + 2)) ≤ 8192 := pow13 _ (by omega)
      have e67 := e6.trans e7
      refine ⟨ra, p, d, r, i + 2, _, _, c, L, rfl, ex_l e67 hr', l2, hp, m.mono e67, g, by omega, by omega, ?_, fun H8 N e8 m8 g8 i8 l8 => ?_⟩
      · have : i * 8192 ≤ 12 * 8192 := Nat.mul_le_mul_right _ (by omega)
        omega
      · have m7 := m.mono e67
        have st8 := exb_t m7 e8 (e67 _ _ st)
        have ex8 : Ex H2 H8 := fun x o h => by
          by_cases hx : x = d
          · rw [hx, hd] at h; cases h
          · exact e8 x o hx ((ex.trans e67) x o h)
        have hf8 := ex_l ex8 hf2
        have hr8 := ex_l ex8 hr2
        refine ⟨_, _, rfl, rfl, ?_⟩
        refine s_asgU (eu_call (vs := [.ref S, .int (f.getD i 0), .int (r.getD (i + 1) 0)]) (ea_cons (ev_var rfl) (ea_cons (ev_op (ev_var rfl) (ev_is (ev_op (ev_var rfl) ev_c rv_I0) (congrArg V.int (show ((i + 1 : Nat) : Int) - 1 = (i : Int) by omega))) (rv_ixL hf8 (atI_nat (iv_at (getD_of hif))))) (ea_cons (ev_op (ev_var rfl) (ev_var rfl) (rv_ixL hr8 (atI_nat (iv_at (getD_of hi'))))) ea_nil))) (su_behind st8)) fun S' H9 hS' e9 h9 => ?_
        rw [hb', bst1] at h9
        refine ⟨num + cnt (r.drop (i + 1 + 1)) (a + r.getD (i + 1) 0) (max 0 (b - r.getD (i + 1) 0)) c, S', _, _, L ++ N, some (.int ((i + 1 : Nat) : Int)), ?_, ⟨ex8.trans e9, m8.mono e9, g8, by rw [List.length_append]; omega, h9⟩, by omega⟩
        rw [Int.natCast_add]
        rfl
    · have hb' := of_decide_eq_false hb
      have en : numOf (r.getD (i + 1) 0 :: r.drop (i + 1 + 1)) a b c (f.getD i 0 :: f.drop (i + 1)) = numOf (r.drop (i + 1 + 1)) (a + r.getD (i + 1) 0) (max 0 (b - r.getD (i + 1) 0)) c (f.drop (i + 1)) := if_neg hb'
      rw [en] at eq
      refine s_asgU (eu_call (vs := [.ref S, .int (f.getD i 0), .int (r.getD (i + 1) 0)]) (ea_cons (ev_var rfl) (ea_cons (eix H6 e6) (ea_cons (ev_op (ev_var rfl) (ev_var rfl) (rv_ixL (ex_l e6 hr') (atI_nat (iv_at (getD_of hi'))))) ea_nil))) (su_behind (e6 _ _ st))) fun S' H9 hS' e9 h9 => ?_
      have eb : bst (f.getD i 0) a b (r.getD (i + 1) 0) = [.int (a + r.getD (i + 1) 0), .int (max 0 (b - r.getD (i + 1) 0))] := if_neg hb'
      rw [eb] at h9
      exact ⟨num, S', _, _, L, _, rfl, ⟨(ex.trans e6).trans e9, (m.mono e6).mono e9, g, by omega, h9⟩, eq⟩
  · rintro σ' H' ⟨num, S, a, b, L, k1, rfl, ⟨ex, m, g, sz, st⟩, eq⟩
    rw [List.drop_eq_nil_of_le (by omega)] at eq
    have eq' : num = numFor r c f := by rw [← eq]; rfl
    refine s_ret (ev_var rfl) fun H7 e7 => ?_
    rw [← eq'] at q
    exact q H7 ((e12.trans ex).trans e7)
theorem sp_number0 {a b : Addr} {r f : List Int} {c : Int} (hr : SqL K H a (iv r)) (hf : SqL K H b (iv f)) (ok : OkR r) (okf : OkF r f) (hs : spanOf r f ≤ c) : SpV (p_number_of0 P w K) [.ref a, .int c, .ref b] H (.int (numFor r c f : Nat)) := fun H1 e Q q E => ⟨a, b, r, f, c, rfl, ex_l e hr, ex_l e hf, ok, okf, hs, fun H2 e2 => q H2 e2⟩
end
end Fo

/-! Lists of whole numbers in their order: < and >=. -/
namespace Fo
open PySem PySem.Spec PyProof.Rows L2 Evl
open PySem.AutoSeq1 PySem.MeetsSeq PySem.MeetsSeq2 PySem.MeetsSeq3 PySem.SeqRoads2 PySem.SeqAt
section
theorem ints_at {us : List Value} {ns : List Int} (h : IntsAre us ns) (i : Nat) (hi : i < us.length) : ∃ t, us[i]? = some (Value.int (ns.getD i 0) t) ∧ i < ns.length := by
  induction h generalizing i with
  | nil => exact absurd hi (Nat.not_lt_zero _)
  | cons n t _ ih =>
    cases i with
    | zero => exact ⟨t, rfl, by simp⟩
    | succ j =>
      obtain ⟨t', h1, h2⟩ := ih j (by simpa using hi)
      exact ⟨t', by simpa using h1, by simp; omega⟩
theorem le_not (a b : Int) : decide (b ≤ a) = !decide (a < b) := by
  by_cases z : a < b
  · rw [decide_eq_true z, decide_eq_false (by omega)]; rfl
  · rw [decide_eq_false z, decide_eq_true (by omega)]; rfl
theorem sizes_ge {R : Result → Shared → Prop} {s : Shared} (m n : Nat) (k : Bool) (h : decide (m ≥ n) = k) : R (.ok (.ret (.bool k))) s ↔ R (.ok (.ret (.bool (decide (m ≥ n))))) s := by rw [h]
variable (la lb : Addr) (za zb : Array Value) (ka kb : Nat) (da db : Option Addr) (ea eb : Array (Option Value)) (na nb : List Int)
/-- the walk of list.__eq__.loop for >= -/
theorem geI_loop (ia : IntsAre za.toList na) (ib : IntsAre zb.toList nb) : ∀ (m i : Nat), i ≤ na.length → na.length - i = m →
    Meets (Builtin.«list.__eq__.loop» ⟨[.ref la, .ref lb, rawInt i, rawInt 5], []⟩)
      (fun _ R s => (s.heap.get? la = some { cls := .type "list", dict := da, data := .seq za ka, slots := ea } ∧ s.heap.get? lb = some { cls := .type "list", dict := db, data := .seq zb kb, slots := eb }) ∧ R (.ok (.ret (.bool (!HT.lexLt (na.drop i) (nb.drop i))))) s) := by
  have sa : za.size = na.length := by have := ia.length; simpa using this
  have sb : zb.size = nb.length := by have := ib.length; simpa using this
  intro m
  induction m with
  | zero =>
    intro i hle hm prog w A R s h
    obtain ⟨hp, g, d, tk, os⟩ := s
    obtain ⟨⟨h1, h2⟩, h⟩ := h
    rw [List.drop_eq_nil_of_le (show na.length ≤ i by omega)] at h
    have nn : za[((i : Nat) : Int).toNat]? = none := by simp; omega
    wp_walk using wpAny_loadPart' h1, wpAny_loadPart' h2
    rw [nn]
    wp_walk using wpAny_loadPart' h1, wpAny_loadPart' h2
    by_cases hb : i < nb.length
    · rw [drop_getD hb, HT.lexLt_nil_cons] at h
      exact (sizes_ge (za.size) zb.size false (decide_eq_false (by omega))).mp h
    · rw [List.drop_eq_nil_of_le (by omega), HT.lexLt_nil_nil] at h
      exact (sizes_ge (za.size) zb.size true (decide_eq_true (by omega))).mp h
  | succ m ih =>
    intro i hle hm prog w A R s h
    obtain ⟨hp, g, d, tk, os⟩ := s
    obtain ⟨⟨h1, h2⟩, h⟩ := h
    have hi : i < na.length := by omega
    obtain ⟨ta, ga, _⟩ := ints_at ia i (by simpa [sa] using hi)
    have ga' : za[((i : Nat) : Int).toNat]? = some (Value.int (na.getD i 0) ta) := by simpa using ga
    wp_walk using wpAny_loadPart' h1, wpAny_loadPart' h2
    rw [ga']
    by_cases hb : i < nb.length
    · obtain ⟨tb, gb, _⟩ := ints_at ib i (by simpa [sb] using hb)
      have gb' : zb[((i : Nat) : Int).toNat]? = some (Value.int (nb.getD i 0) tb) := by simpa using gb
      rw [gb']
      rw [drop_getD hi, drop_getD hb, HT.lexLt_cons] at h
      refine wpAny_bind (wpAny_eqBool_int ?_)
      by_cases e : na.getD i 0 = nb.getD i 0
      · rw [if_pos e] at h
        rw [show (na.getD i 0 == nb.getD i 0) = true from beq_iff_eq.mpr e]
        wp_walk
        rw [show ((i : Int) + 1) = ((i + 1 : Nat) : Int) by omega]
        exact ⟨plainId_quiet plain_eq_loop _, codeAny_builtin entry_eq_loop (by
          rw [Around.under_plainId plain_eq_loop _]
          exact ih (i + 1) (by omega) (by omega) prog w A R _ ⟨⟨h1, h2⟩, h⟩)⟩
      · rw [if_neg e] at h
        rw [show (na.getD i 0 == nb.getD i 0) = false from beq_eq_false_iff_ne.mpr e]
        wp_walk using wpAny_loadPart' h1, wpAny_loadPart' h2
        rw [ga', gb']
        dsimp only
        refine wpAny_bind (PyProof.Rows.ge_int ?_)
        wp_walk
        rw [le_not]
        exact h
    · have nn : zb[((i : Nat) : Int).toNat]? = none := by simp; omega
      rw [nn]
      rw [drop_getD hi, List.drop_eq_nil_of_le (show nb.length ≤ i by omega), HT.lexLt_cons_nil] at h
      wp_walk using wpAny_loadPart' h1, wpAny_loadPart' h2
      exact (sizes_ge (za.size) zb.size true (decide_eq_true (by omega))).mp h
theorem geI_list (ia : IntsAre za.toList na) (ib : IntsAre zb.toList nb) :
    Meets (Builtin.«list.__ge__» ⟨[.ref la, .ref lb], []⟩)
      (fun _ R s => (s.heap.get? la = some { cls := .type "list", dict := da, data := .seq za ka, slots := ea } ∧ s.heap.get? lb = some { cls := .type "list", dict := db, data := .seq zb kb, slots := eb }) ∧ R (.ok (.ret (.bool (!HT.lexLt na nb)))) s) := by
  intro prog w A R s h
  obtain ⟨hp, g, d, tk, os⟩ := s
  obtain ⟨⟨h1, h2⟩, h⟩ := h
  have f3 := AutoSeq1.sub_list_list
  wp_walk using wpAny_loadPart' h1, wpAny_loadPart' h2
  exact ⟨plainId_quiet plain_eq_loop _, codeAny_builtin entry_eq_loop (by
    rw [Around.under_plainId plain_eq_loop _]
    exact geI_loop la lb za zb ka kb da db ea eb na nb ia ib _ 0 (Nat.zero_le _) rfl prog w A R _ ⟨⟨h1, h2⟩, by simpa using h⟩)⟩
variable {X : Cx}
theorem op_geL (hu : X.A.units < cLine) : OpR X (compareOp .GtE) (fun x y H Q => ∃ a b ns ms, x = .ref a ∧ y = .ref b ∧ SqL X.K H a (iv ns) ∧ SqL X.K H b (iv ms) ∧ Q (.bl (!HT.lexLt ns ms)) H) := by
  intro pins s σ H x y v u Q I rx ry h
  obtain ⟨a, b, ns, ms, rfl, rfl, h1, h2, q⟩ := h
  cases (show v = Value.ref a from rx)
  cases (show u = Value.ref b from ry)
  obtain ⟨its, r1, ⟨⟨oc, od, dt, sl⟩, n, g1, g2, g3, g4⟩, _⟩ := I.list h1
  obtain ⟨its2, r2, ⟨⟨oc2, od2, dt2, sl2⟩, n2, f1, f2, f3, f4⟩, _⟩ := I.list h2
  simp only at g2 g3 g4 f2 f3 f4
  subst g2 g3 g4 f2 f3 f4
  refine richCompare_meets_room (op := .GtE) ⟨_, g1, rfl⟩ ⟨_, f1, rfl⟩ F.slot_list_ge F.entry_list_ge (F.args_list_ge_2 _ _) (geI_list a b its.toArray its2.toArray n n2 none none sl sl2 ns ms (by simpa using Vals.ints r1) (by simpa using Vals.ints r2)) ⟨⟨g1, f1⟩, ?_⟩ hu
  exact ⟨(fun x => nomatch x), .bl _, H, I, rfl, q⟩
theorem firstLt_lex : ∀ (k : Nat) (ns ms : List Int) (e r : Nat → Bool) (i : Nat), (∀ j, e j = true ↔ ns.getD j 0 = ms.getD j 0) → (∀ j, r j = decide (ns.getD j 0 < ms.getD j 0)) → min ns.length ms.length = i + k →
    firstLt e r (decide (ns.length < ms.length)) ((List.range (min ns.length ms.length)).drop i) = HT.lexLt (ns.drop i) (ms.drop i)
  | 0, ns, ms, e, r, i, he, hr, h => by
    rw [List.drop_eq_nil_of_le (by simp; omega)]
    show decide (ns.length < ms.length) = _
    by_cases h1 : ns.length ≤ i
    · rw [List.drop_eq_nil_of_le h1]
      by_cases h2 : i < ms.length
      · rw [drop_getD h2, HT.lexLt_nil_cons, decide_eq_true (by omega)]
      · rw [List.drop_eq_nil_of_le (by omega), HT.lexLt_nil_nil, decide_eq_false (by omega)]
    · rw [drop_getD (by omega), List.drop_eq_nil_of_le (show ms.length ≤ i by omega), HT.lexLt_cons_nil, decide_eq_false (by omega)]
  | k + 1, ns, ms, e, r, i, he, hr, h => by
    have hd : (List.range (min ns.length ms.length)).drop i = i :: (List.range (min ns.length ms.length)).drop (i + 1) := by
      rw [List.drop_eq_getElem_cons (by simp; omega)]
      simp
    rw [hd, drop_getD (show i < ns.length by omega), drop_getD (show i < ms.length by omega), HT.lexLt_cons, ← firstLt_lex k ns ms e r (i + 1) he hr (by omega)]
    by_cases z : ns.getD i 0 = ms.getD i 0
    · rw [if_pos z]
      exact firstLt_yes ((he i).mpr z)
    · rw [if_neg z, ← hr i]
      exact firstLt_no (Bool.eq_false_iff.mpr fun q => z ((he i).mp q))
theorem op_ltL (hu : X.A.units < cLine) : OpR X (compareOp .Lt) (fun x y H Q => ∃ a b ns ms, x = .ref a ∧ y = .ref b ∧ SqL X.K H a (iv ns) ∧ SqL X.K H b (iv ms) ∧ Q (.bl (HT.lexLt ns ms)) H) := by
  intro pins s σ H x y v u Q I rx ry h
  obtain ⟨a, b, ns, ms, rfl, rfl, h1, h2, q⟩ := h
  cases (show v = Value.ref a from rx)
  cases (show u = Value.ref b from ry)
  obtain ⟨its, r1, p1, _⟩ := I.list h1
  obtain ⟨its2, r2, p2, _⟩ := I.list h2
  have i1 := Vals.ints r1
  have i2 := Vals.ints r2
  have l1 := i1.length
  have l2 := i2.length
  have at1 : ∀ j (hj : j < its.toArray.size), ∃ t, its.toArray[j] = Value.int (ns.getD j 0) t := fun j hj => by
    obtain ⟨t, e, _⟩ := ints_at i1 j (by simpa using hj)
    exact ⟨t, by simpa using (List.getElem?_eq_some_iff.mp e).2⟩
  have at2 : ∀ j (hj : j < its2.toArray.size), ∃ t, its2.toArray[j] = Value.int (ms.getD j 0) t := fun j hj => by
    obtain ⟨t, e, _⟩ := ints_at i2 j (by simpa using hj)
    exact ⟨t, by simpa using (List.getElem?_eq_some_iff.mp e).2⟩
  refine RcLt.lists (e := fun j => decide (ns.getD j 0 = ms.getD j 0)) (r := fun j => decide (ns.getD j 0 < ms.getD j 0)) p1.isList p2.isList hu (fun j h1 h2 => ?_) (fun j h1 h2 _ => ?_) _ _ _ _ ?_
  · obtain ⟨t, e⟩ := at1 j h1
    obtain ⟨t', e'⟩ := at2 j h2
    rw [e, e']
    intro prog w E Q' hq
    refine wpAny_eqBool_int ?_
    rw [Bool.beq_eq_decide_eq]
    exact hq
  · obtain ⟨t, e⟩ := at1 j h1
    obtain ⟨t', e'⟩ := at2 j h2
    rw [e, e']
    intro prog w E Q' hq
    exact PyProof.Rows.lt_int hq
  · refine ⟨.bl _, H, I, rfl, ?_⟩
    have h := firstLt_lex (min ns.length ms.length) ns ms (fun j => decide (ns.getD j 0 = ms.getD j 0)) (fun j => decide (ns.getD j 0 < ms.getD j 0)) 0 (fun j => by simp) (fun j => rfl) (by omega)
    rw [List.drop_zero, List.drop_zero, List.drop_zero] at h
    simp only [List.size_toArray, l1, l2]
    rw [h]
    exact q
end
def rGeL (K : PySem.W.Frag) : R2 := fun x y H Q => ∃ a b ns ms, x = .ref a ∧ y = .ref b ∧ SqL K H a (iv ns) ∧ SqL K H b (iv ms) ∧ Q (.bl (!HT.lexLt ns ms)) H
def rLtL (K : PySem.W.Frag) : R2 := fun x y H Q => ∃ a b ns ms, x = .ref a ∧ y = .ref b ∧ SqL K H a (iv ns) ∧ SqL K H b (iv ms) ∧ Q (.bl (HT.lexLt ns ms)) H
end Fo

/-! The order of numbers and foldings; a case that takes all: plain Lean. -/
namespace Fo
/-- less in the order of lists -/
def lexI : List Int → List Int → Bool
  | [], [] => false
  | [], _ :: _ => true
  | _ :: _, [] => false
  | x :: xs, y :: ys => if x = y then lexI xs ys else decide (x < y)
theorem lexI_self : ∀ l : List Int, lexI l l = false
  | [] => rfl
  | x :: l => by show (if x = x then lexI l l else _) = false; rw [if_pos rfl]; exact lexI_self l
theorem lexI_asym : ∀ l m : List Int, lexI l m = true → lexI m l = false
  | [], [], h => rfl
  | [], _ :: _, _ => rfl
  | _ :: _, [], h => by cases h
  | x :: l, y :: m, h => by
    have h' : (if x = y then lexI l m else decide (x < y)) = true := h
    show (if y = x then lexI m l else decide (y < x)) = false
    by_cases e : x = y
    · rw [if_pos e] at h'
      rw [if_pos e.symm]
      exact lexI_asym l m h'
    · rw [if_neg e] at h'
      rw [if_neg fun z => e z.symm]
      have := of_decide_eq_true h'
      exact decide_eq_false (by omega)
theorem foldAt_lt : ∀ (rs : List Int) (a b c : Int) (n m : Nat), n < m → m < cnt rs a b c → lexI (foldAt rs a b c n) (foldAt rs a b c m) = true
  | [], a, b, c, n, m, h, hm => by
    have h' : m < if a + b > c then 0 else 1 := hm
    split at h' <;> omega
  | l :: rs, a, b, c, n, m, h, hm => by
    have hm' : m < if a + b > c then 0 else cnt rs (a + l) (max 0 (b - l)) c + cnt rs (b + l) (max 0 (a - l)) c := hm
    have hm2 : m < cnt rs (a + l) (max 0 (b - l)) c + cnt rs (b + l) (max 0 (a - l)) c := by split at hm' <;> omega
    by_cases h1 : cnt rs (a + l) (max 0 (b - l)) c ≤ n
    · have e1 : foldAt (l :: rs) a b c n = 1 :: foldAt rs (b + l) (max 0 (a - l)) c (n - cnt rs (a + l) (max 0 (b - l)) c) := if_pos h1
      have e2 : foldAt (l :: rs) a b c m = 1 :: foldAt rs (b + l) (max 0 (a - l)) c (m - cnt rs (a + l) (max 0 (b - l)) c) := if_pos (by omega)
      rw [e1, e2]
      show (if (1 : Int) = 1 then _ else _) = true
      rw [if_pos rfl]
      exact foldAt_lt rs _ _ c _ _ (by omega) (by omega)
    · have e1 : foldAt (l :: rs) a b c n = 0 :: foldAt rs (a + l) (max 0 (b - l)) c n := if_neg h1
      rw [e1]
      by_cases h2 : cnt rs (a + l) (max 0 (b - l)) c ≤ m
      · have e2 : foldAt (l :: rs) a b c m = 1 :: foldAt rs (b + l) (max 0 (a - l)) c (m - cnt rs (a + l) (max 0 (b - l)) c) := if_pos h2
        rw [e2]
        rfl
      · have e2 : foldAt (l :: rs) a b c m = 0 :: foldAt rs (a + l) (max 0 (b - l)) c m := if_neg h2
        rw [e2]
        show (if (0 : Int) = 0 then _ else _) = true
        rw [if_pos rfl]
        exact foldAt_lt rs _ _ c _ _ h (by omega)
def binv (f : List Int) (d : Int) : Int := f.foldl (fun d t => 2 * d + t) d
theorem binv_cons (t : Int) (f : List Int) (d : Int) : binv (t :: f) d = binv f (2 * d + t) := rfl
theorem binv_add : ∀ (f : List Int) (d : Int), binv f d = d * 2 ^ f.length + binv f 0
  | [], d => by show d = d * 1 + 0; omega
  | t :: f, d => by
    rw [binv_cons, binv_cons, binv_add f (2 * d + t), binv_add f (2 * 0 + t), List.length_cons, Int.pow_succ]
    generalize (2 : Int) ^ f.length = p
    have e1 : 2 * (0 : Int) + t = t := by omega
    have e2 : 2 * d * p = d * (p * 2) := by rw [Int.mul_comm 2 d, Int.mul_assoc, Int.mul_comm 2]
    rw [e1, Int.add_mul, e2]
    omega
theorem cnt_full : ∀ (rs : List Int) (a b c : Int), (∀ x ∈ rs, 0 ≤ x) → 0 ≤ a → 0 ≤ b → a + b + rs.sum ≤ c → cnt rs a b c = 2 ^ rs.length
  | [], a, b, c, _, _, _, h => by
    rw [List.sum_nil] at h
    exact if_neg (by omega)
  | l :: rs, a, b, c, hp, ha, hb, h => by
    rw [List.sum_cons] at h
    have hl := hp l List.mem_cons_self
    have hr : ∀ x ∈ rs, 0 ≤ x := fun x hx => hp x (List.mem_cons_of_mem _ hx)
    have hs : 0 ≤ rs.sum := by
      clear h
      induction rs with
      | nil => exact Int.le_refl _
      | cons y ys ih =>
        rw [List.sum_cons]
        have h1 := hr y List.mem_cons_self
        have h2 := ih (fun x hx => hp x (by
          rcases List.mem_cons.mp hx with rfl | hx
          · exact List.mem_cons_self
          · exact List.mem_cons_of_mem _ (List.mem_cons_of_mem _ hx))) (fun x hx => hr x (List.mem_cons_of_mem _ hx))
        omega
    show (if a + b > c then 0 else _) = _
    rw [if_neg (by omega), cnt_full rs _ _ c hr (by omega) (by omega) (by omega), cnt_full rs _ _ c hr (by omega) (by omega) (by omega), List.length_cons, Nat.pow_succ]
    omega
theorem sum_nn {l : List Int} (h : ∀ x ∈ l, 0 ≤ x) : 0 ≤ l.sum := by
  induction l with
  | nil => exact Int.le_refl _
  | cons y ys ih =>
    rw [List.sum_cons]
    have h1 := h y List.mem_cons_self
    have h2 := ih fun x hx => h x (List.mem_cons_of_mem _ hx)
    omega
theorem sp_le : ∀ (rs f : List Int) (a b : Int), (∀ x ∈ rs, 0 ≤ x) → 0 ≤ a → 0 ≤ b → sp a b rs f ≤ a + b + rs.sum
  | [], f, a, b, _, _, _ => by cases f <;> (show a + b ≤ a + b + 0; omega)
  | l :: rs, [], a, b, h, _, _ => by
    have := sum_nn h
    show a + b ≤ _
    omega
  | l :: rs, t :: f, a, b, h, ha, hb => by
    have hl := h l List.mem_cons_self
    have hr : ∀ x ∈ rs, 0 ≤ x := fun x hx => h x (List.mem_cons_of_mem _ hx)
    rw [List.sum_cons]
    show (if t = 1 then _ else _) ≤ _
    split
    · have := sp_le rs f (b + l) (max 0 (a - l)) hr (by omega) (by omega)
      omega
    · have := sp_le rs f (a + l) (max 0 (b - l)) hr (by omega) (by omega)
      omega
theorem numOf_full : ∀ (rs : List Int) (a b c : Int) (f : List Int), (∀ x ∈ rs, 0 ≤ x) → 0 ≤ a → 0 ≤ b → a + b + rs.sum ≤ c → f.length = rs.length → (∀ t ∈ f, t = 0 ∨ t = 1) → (numOf rs a b c f : Int) = binv f 0
  | [], a, b, c, f, _, _, _, _, hl, _ => by
    have e : f = [] := List.length_eq_zero_iff.mp hl
    subst e; rfl
  | l :: rs, a, b, c, [], _, _, _, _, hl, _ => by simp at hl
  | l :: rs, a, b, c, t :: f, hp, ha, hb, h, hl, ht => by
    rw [List.sum_cons] at h
    have hl' := hp l List.mem_cons_self
    have hr : ∀ x ∈ rs, 0 ≤ x := fun x hx => hp x (List.mem_cons_of_mem _ hx)
    have hlen : f.length = rs.length := by simpa using hl
    have hb' : ∀ t ∈ f, t = 0 ∨ t = 1 := fun x hx => ht x (List.mem_cons_of_mem _ hx)
    have hs := sum_nn hr
    rw [binv_cons]
    rcases ht t List.mem_cons_self with rfl | rfl
    · have e : numOf (l :: rs) a b c (0 :: f) = numOf rs (a + l) (max 0 (b - l)) c f := if_neg (by decide)
      rw [e, numOf_full rs _ _ c f hr (by omega) (by omega) (by omega) hlen hb']
      rfl
    · have e : numOf (l :: rs) a b c (1 :: f) = cnt rs (a + l) (max 0 (b - l)) c + numOf rs (b + l) (max 0 (a - l)) c f := if_pos rfl
      rw [e, Int.natCast_add, numOf_full rs _ _ c f hr (by omega) (by omega) (by omega) hlen hb', cnt_full rs _ _ c hr (by omega) (by omega) (by omega), binv_add f (2 * 0 + 1), hlen]
      simp
theorem at_lt {r : List Int} {c : Int} {n m : Nat} (h : n < m) (hm : m < many r c) : lexI (atNum r c n) (atNum r c m) = true := foldAt_lt _ _ _ _ _ _ h hm
theorem sum_split {r : List Int} (h : 1 ≤ r.length) : r.sum = r.getD 0 0 + (r.drop 1).sum := by
  cases r with
  | nil => simp at h
  | cons x r => simp
theorem num_full {r f : List Int} (hr : OkR r) (hf : OkF r f) {c : Int} (hc : r.sum ≤ c) : (numFor r c f : Int) = binv f 0 ∧ spanOf r f ≤ c := by
  have h1 := hr.l1
  have h0 := hr.all _ (getD_mem (i := 0) (by omega))
  have hs := sum_split h1
  have hlen := hf.len
  refine ⟨numOf_full _ _ _ c f (drop_nn hr) (by omega) (by omega) (by omega) (by rw [List.length_drop]; omega) hf.all, ?_⟩
  rw [span_sp hr hf.len]
  have := sp_le (r.drop 1) f (r.getD 0 0) 0 (drop_nn hr) (by omega) (by omega)
  omega
theorem sum_le {r : List Int} (h : ∀ x ∈ r, x ≤ 60) : r.sum ≤ 60 * r.length := by
  induction r with
  | nil => exact Int.le_refl _
  | cons y ys ih =>
    rw [List.sum_cons, List.length_cons]
    have h1 := h y List.mem_cons_self
    have h2 := ih fun x hx => h x (List.mem_cons_of_mem _ hx)
    omega
end Fo

namespace Fo
open PySem PySem.Spec PyProof.Rows L2 Evl
theorem lexLt_eq : ∀ l m : List Int, HT.lexLt l m = lexI l m
  | [], [] => rfl
  | [], _ :: _ => rfl
  | _ :: _, [] => rfl
  | x :: l, y :: m => by
    rw [HT.lexLt_cons, lexLt_eq l m]
    rfl
section
variable {K : PySem.W.Frag} {σ : L2.St} {H H' : Hp} {ta tb tc te tx tl : TE} {t u : TT} {x y z v : V} {r r' : R2}
/-- a call one of whose two arguments is a new list -/
theorem ev_callL {sp : Sp} {E : XK} {xs : List V} (h : EvL te σ H xs) (h2 : ∀ H1, Ex H H1 → Ev tb σ H1 y) (hs : ∀ p H1, H1 p = some (.lst xs) → Ex H H1 → SpV sp [.ref p, y] H1 z) : Ev (tCall sp [] E (tCons te (tCons tb tNil))) σ H z := fun H1 e Q q =>
  h H1 e _ fun p H2 _ e2 hp => h2 H2 (e.trans e2) H2 (Ex.refl _) _ fun H3 e3 => hs p H3 (e3 _ _ hp) ((e.trans e2).trans e3) H3 (Ex.refl _) Q (fun H4 e4 => q H4 ((e2.trans e3).trans e4)) E
theorem rv_ltL {a b : Addr} {ns ms : List Int} (h1 : SqL K H a (iv ns)) (h2 : SqL K H b (iv ms)) : RV (rLtL K) (.ref a) (.ref b) H (.bl (lexI ns ms)) := fun H1 e Q q => ⟨a, b, ns, ms, rfl, rfl, ex_l e h1, ex_l e h2, by rw [lexLt_eq]; exact q H1 (Ex.refl _)⟩
theorem rv_geL {a b : Addr} {ns ms : List Int} (h1 : SqL K H a (iv ns)) (h2 : SqL K H b (iv ms)) : RV (rGeL K) (.ref a) (.ref b) H (.bl (!lexI ns ms)) := fun H1 e Q q => ⟨a, b, ns, ms, rfl, rfl, ex_l e h1, ex_l e h2, by rw [lexLt_eq]; exact q H1 (Ex.refl _)⟩
theorem ev_sumL {a : Addr} {ns : List Int} (h : Ev te σ H (.ref a)) (hs : SqL K H a (iv ns)) : Ev (tCB (rSum K) (tCons te tNil)) σ H (.int ns.sum) := fun H1 e Q q => h H1 e _ fun H2 e2 => ⟨a, ns, rfl, ex_l (e.trans e2) hs, q H2 e2⟩
theorem er_sortN {ns : List Int} (h : EvL te σ H (iv ns)) (hz : ns.length < 64) : EvR (tCB (rSorted K) (tCons te tNil)) σ H (fun v H2 => ∃ p ns', v = .ref p ∧ H p = none ∧ H2 p = some (.lst (iv ns')) ∧ ns'.Perm ns ∧ ns'.Pairwise (· ≤ ·)) := fun H1 e Q q =>
  h H1 e _ fun a H2 _ e2 h2 => ⟨a, ns, rfl, sq_of h2, hz, fun ns' p perm srt hp => q _ _ (e2.trans (Ex.new hp)) ⟨p, ns', rfl, fresh_back (e.trans e2) hp, upd_same, perm, srt⟩⟩
/-- the lists that a comprehension has made, all new, no two of them one -/
structure Made (H H' : Hp) (D : Addr) (as : List Addr) (c : Nat → List V) : Prop where
  dn : H D = none
  ex : Ex H H'
  at_ : H' D = some (.lst (as.map V.ref))
  nd : as.Nodup
  dm : D ∉ as
  el : ∀ k l, as[k]? = some l → H l = none ∧ H' l = some (.lst (c k))
theorem Made.turn {H0 H H1 : Hp} {D p : Addr} {as : List Addr} {c : Nat → List V} (m : Made H0 H D as c) (e : Ex H H1) (hn : H p = none) (hp : H1 p = some (.lst (c as.length))) : Made H0 (upd H1 D (.lst (as.map V.ref ++ [.ref p]))) D (as ++ [p]) c := by
  have pD : p ≠ D := fun z => by rw [z, m.at_] at hn; cases hn
  have pas : p ∉ as := fun z => by
    obtain ⟨k, hk⟩ := List.mem_iff_getElem?.mp z
    have := (m.el k p hk).2
    rw [hn] at this; cases this
  have p0 : H0 p = none := fresh_back m.ex hn
  refine ⟨m.dn, Ex.mut (m.ex.trans e) m.dn, by rw [upd_same, List.map_append]; rfl, ?_, ?_, fun k l hk => ?_⟩
  · rw [List.nodup_append]
    exact ⟨m.nd, by simp, fun a ha b hb z => by rw [List.mem_singleton.mp hb] at z; exact pas (z ▸ ha)⟩
  · intro z
    rcases List.mem_append.mp z with z | z
    · exact m.dm z
    · exact pD (List.mem_singleton.mp z).symm
  · by_cases hk' : k < as.length
    · rw [List.getElem?_append_left hk'] at hk
      obtain ⟨h1, h2⟩ := m.el k l hk
      have lD : l ≠ D := fun z => m.dm (z ▸ List.mem_of_getElem? hk)
      exact ⟨h1, by rw [upd_ne lD]; exact e _ _ h2⟩
    · have hk2 : k = as.length := by
        have := (List.getElem?_eq_some_iff.mp hk).1
        rw [List.length_append, List.length_singleton] at this
        omega
      subst hk2
      rw [List.getElem?_append_right (Nat.le_refl _), Nat.sub_self] at hk
      have e1 : p = l := by simpa using hk
      subst e1
      exact ⟨p0, by rw [upd_ne pD]; exact hp⟩
theorem Made.start {H : Hp} {D : Addr} {c : Nat → List V} (h : H D = none) : Made H (upd H D (.lst [])) D [] c := ⟨h, Ex.new h, upd_same, List.nodup_nil, by simp, fun k l hk => by simp at hk⟩
theorem Made.back {H0 H H' : Hp} {D : Addr} {as : List Addr} {c : Nat → List V} (m : Made H H' D as c) (e : Ex H0 H) : Made H0 H' D as c := ⟨fresh_back e m.dn, e.trans m.ex, m.at_, m.nd, m.dm, fun k l hk => ⟨fresh_back e (m.el k l hk).1, (m.el k l hk).2⟩⟩
theorem er_lcLL {a : Addr} {xs : List V} {j : Nat} {vs : List Nat} (c : Nat → List V) (h : Ev tl σ H (.ref a)) (hx : SqL K H a xs) (hz : xs.length ≤ 40000) (hw : ∀ x, wipe ((wipe σ vs).set j (some x)) vs = wipe σ vs)
    (he : ∀ (i : Nat) (x : V) H1, Ex H H1 → xs[i]? = some x → EvL te ((wipe σ vs).set j (some x)) H1 (c i)) :
    EvR (tLc (iList K tl) (gName j) tYes te vs) σ H (fun w H2 => ∃ p as, w = .ref p ∧ as.length = xs.length ∧ Made H H2 p as c) := fun H0 e Q q => h H0 e _ fun H1 e1 => ⟨a, rfl, ⟨xs, ex_l (e.trans e1) hx⟩, fun Dl hD =>
  lc_list (xs := xs) (fun i H' => ∃ as, as.length = i ∧ Made H1 H' Dl as c) ⟨[], rfl, Made.start hD⟩ (fun i H' _ ⟨as, _, p⟩ => ex_l ((e.trans e1).trans p.ex) hx)
    (fun i x H' hi ⟨as, hl, p⟩ => ⟨hw x, by
      show te ((wipe σ vs).set j (some x)) H' fun y H4 => ∃ acc, H4 Dl = some (.lst acc) ∧ acc.length < sizeLine ∧ ∃ as, as.length = i + 1 ∧ Made H1 (upd H4 Dl (.lst (acc ++ [y]))) Dl as c
      refine he i x H' ((e.trans e1).trans p.ex) hi H' (Ex.refl _) _ fun p' H4 hp' e4 h4 => ⟨as.map V.ref, e4 _ _ p.at_, ?_, as ++ [p'], by simp [hl], p.turn e4 hp' (by rw [hl]; exact h4)⟩
      rw [List.length_map, hl]
      have := (List.getElem?_eq_some_iff.mp hi).1
      exact sz_lt (by omega)⟩)
    (fun H' ⟨as, hl, p⟩ => q _ H' (e1.trans p.ex) ⟨Dl, as, rfl, hl, p.back (e.trans e1)⟩)⟩
theorem er_lcRL {ta : TA} {n : Nat} {j : Nat} {vs : List Nat} (c : Nat → List V) (h : EvA ta σ H [.int (n : Int)]) (hz : n ≤ 40000) (hw : ∀ x, wipe ((wipe σ vs).set j (some x)) vs = wipe σ vs)
    (he : ∀ (i : Nat) H1, Ex H H1 → i < n → EvL te ((wipe σ vs).set j (some (.int (i : Int)))) H1 (c i)) :
    EvR (tLc (iRng1 ta) (gName j) tYes te vs) σ H (fun w H2 => ∃ p as, w = .ref p ∧ as.length = n ∧ Made H H2 p as c) := fun H0 e Q q => h H0 e _ fun H1 e1 => ⟨n, rfl, by omega, by omega, fun Dl hD =>
  lc_range (lo := 0) (n := (n : Int).toNat) (fun i H' => ∃ as, as.length = i ∧ Made H1 H' Dl as c) ⟨[], rfl, Made.start hD⟩
    (fun i H' hi ⟨as, hl, p⟩ => by
      have hi' : i < n := by omega
      rw [show (0 : Int) + (i : Int) = (i : Int) from Int.zero_add _]
      refine ⟨hw _, ?_⟩
      show te ((wipe σ vs).set j (some (.int (i : Int)))) H' fun y H4 => ∃ acc, H4 Dl = some (.lst acc) ∧ acc.length < sizeLine ∧ ∃ as, as.length = i + 1 ∧ Made H1 (upd H4 Dl (.lst (acc ++ [y]))) Dl as c
      refine he i H' ((e.trans e1).trans p.ex) hi' H' (Ex.refl _) _ fun p' H4 hp' e4 h4 => ⟨as.map V.ref, e4 _ _ p.at_, ?_, as ++ [p'], by simp [hl], p.turn e4 hp' (by rw [hl]; exact h4)⟩
      rw [List.length_map, hl]
      exact sz_lt (by omega))
    (fun H' ⟨as, hl, p⟩ => q _ H' (e1.trans p.ex) ⟨Dl, as, rfl, by simpa using hl, p.back (e.trans e1)⟩)⟩
theorem Made.get {H0 H : Hp} {D : Addr} {as : List Addr} {c : Nat → List V} (m : Made H0 H D as c) {i : Nat} (hi : i < as.length) : ∃ l, (as.map V.ref)[i]? = some (.ref l) ∧ H l = some (.lst (c i)) ∧ H0 l = none := by
  obtain ⟨h1, h2⟩ := m.el i as[i] (List.getElem?_eq_getElem hi)
  exact ⟨as[i], by rw [List.getElem?_map, List.getElem?_eq_getElem hi]; rfl, h2, h1⟩
theorem Made.mono {H0 H H1 : Hp} {D : Addr} {as : List Addr} {c : Nat → List V} (m : Made H0 H D as c) (e : Ex H H1) : Made H0 H1 D as c := ⟨m.dn, m.ex.trans e, e _ _ m.at_, m.nd, m.dm, fun k l hk => ⟨(m.el k l hk).1, e _ _ (m.el k l hk).2⟩⟩
end
end Fo

namespace Fo
open PySem PySem.Spec PyProof.Rows L2 Evl
/-! ### readings of the defs: printed by gen.py -/
def t_law_k05 (K : PySem.W.Frag) (E : XK) (p__law_draw : Sp) (p__law_rule : Sp) (p__law_folding : Sp) (p__law_span : Sp) (p_many_fits : Sp) (p_number_of : Sp) (p_folding_at : Sp) (p__law_numbers : Sp) : TS := (tSeq (tAsg (tOp rAddI (tC (.int 1)) (tOp rModI (tCall p__law_draw [] E (tCons (tVar 0) (tCons (tC (.int 1)) tNil))) (tC (.int 12)))) (gName 1))
    (tSeq (tAsg (tCall p__law_rule [] E (tCons (tVar 0) (tCons (tVar 1) tNil))) (gName 2))
    (tSeq (tAsg (tCall p__law_folding [] E (tCons (tVar 0) (tCons (tC (.int 30)) (tCons (tVar 1) tNil)))) (gName 3))
    (tSeq (tAsg (tOp rAddI (tCall p__law_span [] E (tCons (tVar 2) (tCons (tVar 3) tNil))) (tOp rModI (tCall p__law_draw [] E (tCons (tVar 0) (tCons (tC (.int 4)) tNil))) (tC (.int 9)))) (gName 4))
    (tSeq (tAsg (tCall p_many_fits [] E (tCons (tVar 2) (tCons (tVar 4) tNil))) (gName 5))
    (tSeq (tAsg (tCall p_number_of [] E (tCons (tVar 2) (tCons (tVar 4) (tCons (tVar 3) tNil)))) (gName 6))
    (tSeq (tIfS (tOr (tNot (tTest (tChain rLeI rLtI (tC (.int 0)) (tVar 6) (tVar 5)))) (tNot (tB (tCall p__law_numbers [] E (tCons (tCall p_folding_at [] E (tCons (tVar 2) (tCons (tVar 4) (tCons (tVar 6) tNil)))) (tCons (tVar 3) tNil)))))) (tRet (tC (.bl false))) tNext)
    (tSeq (tAsg (tCB (rSorted K) (tCons (tLst (tCons (tOp rModI (tCall p__law_draw [] E (tCons (tVar 0) (tCons (tC (.int 5)) tNil))) (tVar 5)) (tCons (tOp rModI (tCall p__law_draw [] E (tCons (tVar 0) (tCons (tC (.int 6)) tNil))) (tVar 5)) tNil))) tNil)) (gName 7))
    (tSeq (tAsg (tLc (iList K (tVar 7)) (gName 9) tYes (tCall p_folding_at [] E (tCons (tVar 2) (tCons (tVar 4) (tCons (tVar 9) tNil)))) [9]) (gName 8))
    (tSeq (tFor (iRng1 (tCons (tC (.int 2)) tNil)) (gName 10) (tSeq (tIfS (tOr (tTest (tOp rNe (tCB (rLenS K) (tCons (tOp (rIxL K) (tVar 8) (tVar 10)) tNil)) (tOp rSubI (tVar 1) (tC (.int 1))))) (tTest (tOp rGtI (tCall p__law_span [] E (tCons (tVar 2) (tCons (tOp (rIxL K) (tVar 8) (tVar 10)) tNil))) (tVar 4)))) (tRet (tC (.bl false))) tNext)
    (tIfS (tTest (tOp rNe (tCall p_number_of [] E (tCons (tVar 2) (tCons (tVar 4) (tCons (tOp (rIxL K) (tVar 8) (tVar 10)) tNil)))) (tOp (rIxL K) (tVar 7) (tVar 10)))) (tRet (tC (.bl false))) tNext)))
    (tSeq (tIfS (tOr (tAnd (tTest (tOp rLtI (tOp (rIxL K) (tVar 7) (tC (.int 0))) (tOp (rIxL K) (tVar 7) (tC (.int 1))))) (tTest (tOp (rGeL K) (tOp (rIxL K) (tVar 8) (tC (.int 0))) (tOp (rIxL K) (tVar 8) (tC (.int 1)))))) (tAnd (tTest (tOp rEq (tOp (rIxL K) (tVar 7) (tC (.int 0))) (tOp (rIxL K) (tVar 7) (tC (.int 1))))) (tTest (tOp (rNeD K) (tOp (rIxL K) (tVar 8) (tC (.int 0))) (tOp (rIxL K) (tVar 8) (tC (.int 1))))))) (tRet (tC (.bl false))) tNext)
    (tSeq (tAsg (tCall p_folding_at [] E (tCons (tVar 2) (tCons (tVar 4) (tCons (tOp rSubI (tVar 5) (tC (.int 1))) tNil)))) (gName 11))
    (tSeq (tIfS (tOr (tTest (tOp rNe (tCall p_number_of [] E (tCons (tVar 2) (tCons (tVar 4) (tCons (tVar 11) tNil)))) (tOp rSubI (tVar 5) (tC (.int 1))))) (tTest (tOp (rLtL K) (tVar 11) (tOp (rIxL K) (tVar 8) (tC (.int 1)))))) (tRet (tC (.bl false))) tNext)
    (tSeq (tDrop (tBM K "list" rAppend (tVar 11) (tCons (tC (.int 0)) tNil)))
    (tSeq (tIfS (tTest (tOp rNe (tCB (rLenS K) (tCons (tCall p_folding_at [] E (tCons (tVar 2) (tCons (tVar 4) (tCons (tOp rSubI (tVar 5) (tC (.int 1))) tNil)))) tNil)) (tOp rSubI (tVar 1) (tC (.int 1))))) (tRet (tC (.bl false))) tNext)
    (tSeq (tAsg (tC (.int 0)) (gName 12))
    (tSeq (tFor (iList K (tVar 3)) (gName 13) (tAsg (tOp rAddI (tOp rMulI (tC (.int 2)) (tVar 12)) (tVar 13)) (gName 12)))
    (tRet (tAndV (tOp rEq (tCall p_number_of [] E (tCons (tVar 2) (tCons (tCB (rSum K) (tCons (tVar 2) tNil)) (tCons (tVar 3) tNil)))) (tVar 12)) (tCall p__law_numbers [] E (tCons (tCall p_folding_at [] E (tCons (tVar 2) (tCons (tC (.int 800)) (tCons (tVar 12) tNil)))) (tCons (tVar 3) tNil))))))))))))))))))))))
end Fo

set_option maxHeartbeats 8000000
namespace Fo
open PySem PySem.Spec PyProof.Rows L2 Evl
theorem perm2 {x y : Int} {l : List Int} (p : l.Perm [x, y]) (s : l.Pairwise (· ≤ ·)) : ∃ a b, l = [a, b] ∧ a ≤ b ∧ (a = x ∨ a = y) ∧ (b = x ∨ b = y) := by
  have hl := p.length_eq
  match l, hl with
  | [a, b], _ =>
    refine ⟨a, b, rfl, by simpa using s, ?_, ?_⟩
    · have := p.mem_iff (a := a); simpa using this.mp (by simp)
    · have := p.mem_iff (a := b); simpa using this.mp (by simp)
section
variable {P : Program} {w : World} {K : PySem.W.Frag} {H : Hp} {Q : VK} {E E1 : XK} {vs : List V}
theorem r_law_k05 (h : p_law K vs H Q E) : t_law_k05 K E1 (p__law_draw K) (p__law_rule K) (p__law_folding K) (p__law_span K) (p_many_fits0 P w K) (p_number_of0 P w K) (p_folding_at0 P w K) (p__law_numbers K) (En Q)
    (start ["script", "pieces", "rule", "folding", "case", "many", "number", "numbers", "rows", "one", "k", "last", "due", "turn"] vs) H := by
  obtain ⟨a, ns, rfl, hS, q⟩ := h
  obtain ⟨hp1, hp2⟩ := pieces_ok ns 1 12 (by decide)
  have pe := pieces_eq ns 1 12 (by decide)
  generalize piecesOf ns 1 12 = p at hp1 hp2 pe
  refine q_asg (v := .int p) (ev_is (ev_op ev_c (ev_op (ev_call (vs := [.ref a, .int ((1 : Nat) : Int)]) (ea_cons (ev_var rfl) (ea_cons ev_c ea_nil)) (sp_draw hS (by decide))) ev_c (rv_I (by decide))) rv_I0) (congrArg V.int pe)) fun H1 e1 => ?_
  have S1 := ex_l e1 hS
  refine q_asgL (el_call (vs := [.ref a, .int p]) (ea_cons (ev_var rfl) (ea_cons (ev_var rfl) ea_nil)) (sl_rule S1 hp1 hp2)) fun ra H2 hra e2 h2 => ?_
  have S2 := ex_l e2 S1
  have ok := rule_ok ns p hp1 hp2
  have okf := fold_ok ns 30 p (ruleOf ns p) (rule_len ns p) hp1
  have rl := rule_len ns p
  refine q_asgL (el_call (vs := [.ref a, .int ((30 : Nat) : Int), .int p]) (ea_cons (ev_var rfl) (ea_cons ev_c (ea_cons (ev_var rfl) ea_nil))) (sl_folding S2 hp1 hp2 (by decide))) fun fa H3 hfa e3 h3 => ?_
  generalize ruleOf ns p = r at ok okf h2 rl
  generalize foldOf ns 30 p = f at okf h3
  have l1 := ok.l1
  have l2 := ok.l12
  have l3 := okf.len
  have R3 := SqL.of (K := K) (e3 _ _ h2)
  have F3 := SqL.of (K := K) h3
  have S3 := ex_l e3 S2
  have d4 := draw_nn ns 4
  -- case
  refine q_asg (v := .int (spanOf r f + draw ns 4 % 9)) (ev_op (ev_call (vs := [.ref ra, .ref fa]) (ea_cons (ev_var rfl) (ea_cons (ev_var rfl) ea_nil)) (sp_lspan R3 F3 l3 (by omega))) (ev_op (ev_call (vs := [.ref a, .int ((4 : Nat) : Int)]) (ea_cons (ev_var rfl) (ea_cons ev_c ea_nil)) (sp_draw S3 (by decide))) ev_c (rv_I (by decide))) rv_I0) fun H4 e4 => ?_
  have hc : spanOf r f ≤ spanOf r f + draw ns 4 % 9 := by omega
  generalize spanOf r f + draw ns 4 % 9 = c at hc
  have mp := many_pos ok okf hc
  obtain ⟨nlt, nat⟩ := at_num ok okf hc
  -- many, number
  refine q_asg (v := .int (many r c : Nat)) (ev_call (vs := [.ref ra, .int c]) (ea_cons (ev_var rfl) (ea_cons (ev_var rfl) ea_nil)) (sp_many0 (ex_l e4 R3) ok)) fun H5 e5 => ?_
  have e35 := e4.trans e5
  refine q_asg (v := .int (numFor r c f : Nat)) (ev_call (vs := [.ref ra, .int c, .ref fa]) (ea_cons (ev_var rfl) (ea_cons (ev_var rfl) (ea_cons (ev_var rfl) ea_nil))) (sp_number0 (ex_l e35 R3) (ex_l e35 F3) ok okf hc)) fun H6 e6 => ?_
  have e36 := e35.trans e6
  have R6 := ex_l e36 R3
  have F6 := ex_l e36 F3
  have S6 := ex_l e36 S3
  -- if not 0 <= number < many or not _law_numbers(..)
  refine q_when (b := (!(true && true)) || !true) (et_or (et_not (et_test (ev_chain (x := .int 0) (y := .int (numFor r c f : Nat)) (z := .int (many r c : Nat)) ev_c (ev_var rfl) ?_ (fun _ => ev_var rfl) fun _ => ?_))) fun _ => et_not (et_B ?_)) (fun hc => by cases hc) (fun _ H7 e7 => ?_)
  · have h := rv_I0 (H := H6) (g := fun i j => V.bl (decide (i ≤ j))) (i := 0) (j := ((numFor r c f : Nat) : Int))
    rw [show decide ((0 : Int) ≤ ((numFor r c f : Nat) : Int)) = true from decide_eq_true (by omega)] at h
    exact h
  · have h := rv_I0 (H := H6) (g := fun i j => V.bl (decide (i < j))) (i := ((numFor r c f : Nat) : Int)) (j := ((many r c : Nat) : Int))
    rw [show decide (((numFor r c f : Nat) : Int) < ((many r c : Nat) : Int)) = true from decide_eq_true (by omega)] at h
    exact h
  · refine ev_callL (y := .ref fa) (el_call (vs := [.ref ra, .int c, .int (numFor r c f : Nat)]) (ea_cons (ev_var rfl) (ea_cons (ev_var rfl) (ea_cons (ev_var rfl) ea_nil))) (sl_folding0 R6 ok nlt)) (fun H1 e => ev_var rfl) fun l H1 hl e => ?_
    rw [nat] at hl
    have h := sp_numbers hl (ex_l e F6) (by omega)
    rw [decide_eq_true rfl] at h
    exact h
  have R7 := ex_l e7 R6
  have F7 := ex_l e7 F6
  have S7 := ex_l e7 S6
  -- numbers = sorted([..])
  have mo : ∀ k : Nat, ∃ m : Nat, draw ns k % (many r c : Nat) = (m : Int) ∧ m < many r c := fun k => by
    have h1 : 0 ≤ draw ns k % (many r c : Nat) := Int.emod_nonneg _ (by omega)
    have h2 : draw ns k % (many r c : Nat) < (many r c : Nat) := Int.emod_lt_of_pos _ (by omega)
    exact ⟨(draw ns k % (many r c : Nat)).toNat, by omega, by omega⟩
  obtain ⟨m5, em5, lm5⟩ := mo 5
  obtain ⟨m6, em6, lm6⟩ := mo 6
  have evd : ∀ (k m : Nat), k ≤ 1000 → draw ns k % (many r c : Nat) = (m : Int) → ∀ c' : Int, c' = (k : Int) → Ev (tOp rModI (tCall (p__law_draw K) [] E1 (tCons (tVar 0) (tCons (tC (.int c')) tNil))) (tVar 5)) [some (.ref a), some (.int p), some (.ref ra), some (.ref fa), some (.int c), some (.int (many r c : Nat)), some (.int (numFor r c f : Nat)), none, none, none, none, none, none, none] H7 (.int m) := by
    intro k m hk em c' hc'
    rw [hc']
    exact ev_is (ev_op (ev_call (vs := [.ref a, .int (k : Int)]) (ea_cons (ev_var rfl) (ea_cons ev_c ea_nil)) (sp_draw S7 hk)) (ev_var rfl) (rv_I (by omega))) (congrArg V.int em)
  refine q_asgR (er_sortN (ns := [(m5 : Int), (m6 : Int)]) (el_lst (ea_cons (evd 5 m5 (by decide) em5 5 rfl) (ea_cons (evd 6 m6 (by decide) em6 6 rfl) ea_nil)) (by show 2 ≤ 100000; decide)) (by show 2 < 64; decide)) fun _ H9 e79 ⟨na, ns', ev, hna, N9, perm, srt⟩ => ?_
  subst ev
  obtain ⟨x, y, rfl, hxy, hx, hy⟩ := perm2 perm srt
  obtain ⟨n0, rfl, ln0⟩ : ∃ n0 : Nat, x = (n0 : Int) ∧ n0 < many r c := by
    rcases hx with rfl | rfl
    · exact ⟨m5, rfl, lm5⟩
    · exact ⟨m6, rfl, lm6⟩
  obtain ⟨n1, rfl, ln1⟩ : ∃ n1 : Nat, y = (n1 : Int) ∧ n1 < many r c := by
    rcases hy with rfl | rfl
    · exact ⟨m5, rfl, lm5⟩
    · exact ⟨m6, rfl, lm6⟩
  have R9 := ex_l e79 R7
  have F9 := ex_l e79 F7
  -- rows
  have hnn : ∀ i v, (iv [(n0 : Int), (n1 : Int)])[i]? = some v → ∃ n : Nat, v = .int n ∧ n < many r c ∧ n = [n0, n1].getD i 0 := by
    intro i v hi
    match i, hi with
    | 0, hi => exact ⟨n0, (Option.some.inj hi).symm, ln0, rfl⟩
    | 1, hi => exact ⟨n1, (Option.some.inj hi).symm, ln1, rfl⟩
    | i + 2, hi => simp at hi
  refine q_asgR (er_lcLL (xs := iv [(n0 : Int), (n1 : Int)]) (fun i => iv (atNum r c ([n0, n1].getD i 0))) (ev_var rfl) (sq_of N9) (by show 2 ≤ 40000; decide) (fun x => rfl) fun i v H10 e10 hi => ?_) fun _ H11 e11 ⟨rowsA, as, ev, las, M⟩ => ?_
  · obtain ⟨n, rfl, ln, en⟩ := hnn i v hi
    rw [← en]
    exact el_call (vs := [.ref ra, .int c, .int n]) (ea_cons (ev_var rfl) (ea_cons (ev_var rfl) (ea_cons (ev_var rfl) ea_nil))) (sl_folding0 (ex_l e10 R9) ok ln)
  subst ev
  have las2 : as.length = 2 := las
  obtain ⟨r0, g0, c0, _⟩ := M.get (i := 0) (by omega)
  obtain ⟨r1, g1, c1, _⟩ := M.get (i := 1) (by omega)
  have RW := M.at_
  have c0 : H11 r0 = some (.lst (iv (atNum r c n0))) := c0
  have c1 : H11 r1 = some (.lst (iv (atNum r c n1))) := c1
  have R11 := ex_l e11 R9
  have F11 := ex_l e11 F9
  have N11 := SqL.of (K := K) (e11 _ _ N9)
  have A0 := at_ok ok ln0
  have A1 := at_ok ok ln1
  -- for k in range(2)
  refine q_forR1 (n := 2) (ea_cons ev_c ea_nil) ⟨by decide, by decide⟩
    (fun i σ' H' => ∃ kv ov, σ' = [some (.ref a), some (.int p), some (.ref ra), some (.ref fa), some (.int c), some (.int (many r c : Nat)), some (.int (numFor r c f : Nat)), some (.ref na), some (.ref rowsA), ov, kv, none, none, none] ∧ Ex H11 H') (fun H12 e12 => ⟨_, _, rfl, e12⟩) ?_ ?_
  · rintro i σ' H' hi ⟨kv, ov, rfl, e12⟩
    obtain ⟨rk, nk, gk, ck, lk, hnk⟩ : ∃ rk, ∃ nk : Nat, (as.map V.ref)[i]? = some (.ref rk) ∧ H11 rk = some (.lst (iv (atNum r c nk))) ∧ nk < many r c ∧ (iv [(n0 : Int), (n1 : Int)])[i]? = some (.int nk) := by
      match i, hi with
      | 0, _ => exact ⟨r0, n0, g0, c0, ln0, rfl⟩
      | 1, _ => exact ⟨r1, n1, g1, c1, ln1, rfl⟩
      | i + 2, hi => exact absurd hi (by omega)
    have Ak := at_ok ok lk
    have lenk := Ak.1.len
    have evr : ∀ (Hx : Hp), Ex H11 Hx → Ev (tOp (rIxL K) (tVar 8) (tVar 10)) [some (.ref a), some (.int p), some (.ref ra), some (.ref fa), some (.int c), some (.int (many r c : Nat)), some (.int (numFor r c f : Nat)), some (.ref na), some (.ref rowsA), ov, some (.int (i : Int)), none, none, none] Hx (.ref rk) :=
      fun Hx ex => ev_op (ev_var rfl) (ev_var rfl) (rv_ixL (sq_of (ex _ _ RW)) (atI_nat gk))
    refine q_when (b := false || false) (et_or (et_test ?_) fun _ => et_test ?_) (fun hc => by cases hc) (fun _ H13 e13 => ?_)
    · refine ev_is (ev_op (ev_len (evr H' e12) (sq_of (e12 _ _ ck))) (ev_op (ev_var rfl) ev_c rv_I0) (rv_ne rfl)) ?_
      rw [dec_int, iv_len]
      rw [show (((atNum r c nk).length : Int) == (p : Int) - 1) = true by rw [beq_iff_eq]; omega]
      rfl
    · refine ev_is (ev_op (ev_call (vs := [.ref ra, .ref rk]) (ea_cons (ev_var rfl) (ea_cons (evr H' e12) ea_nil)) (sp_lspan (ex_l e12 R11) (sq_of (e12 _ _ ck)) lenk (by omega))) (ev_var rfl) rv_I0) ?_
      exact congrArg V.bl (decide_eq_false (by have := Ak.2; omega))
    · have e1213 := e12.trans e13
      refine s_when (b := false) (et_test ?_) (fun hc => by cases hc) (fun _ H14 e14 => ⟨_, _, rfl, e1213.trans e14⟩)
      refine ev_is (ev_op (ev_call (vs := [.ref ra, .int c, .ref rk]) (ea_cons (ev_var rfl) (ea_cons (ev_var rfl) (ea_cons (evr H13 e1213) ea_nil))) (sp_number0 (ex_l e1213 R11) (sq_of (e1213 _ _ ck)) ok Ak.1 Ak.2)) (ev_op (ev_var rfl) (ev_var rfl) (rv_ixL (ex_l e1213 N11) (atI_nat hnk))) (rv_ne rfl)) ?_
      rw [num_at lk, dec_int]
      simp
  · rintro σ' H12 ⟨kv, ov, rfl, e12⟩
    have hn01 : n0 ≤ n1 := by omega
    have evn : ∀ (j : Nat) (m : Int), (iv [(n0 : Int), (n1 : Int)])[j]? = some (.int m) → ∀ c' : Int, c' = (j : Int) → Ev (tOp (rIxL K) (tVar 7) (tC (.int c'))) [some (.ref a), some (.int p), some (.ref ra), some (.ref fa), some (.int c), some (.int (many r c : Nat)), some (.int (numFor r c f : Nat)), some (.ref na), some (.ref rowsA), ov, kv, none, none, none] H12 (.int m) := by
      intro j m hj c' hc'
      rw [hc']
      exact ev_op (ev_var rfl) ev_c (rv_ixL (ex_l e12 N11) (atI_nat hj))
    have evw : ∀ (j : Nat) (l : Addr) (lv : Option V) (Hx : Hp), (as.map V.ref)[j]? = some (.ref l) → Ex H11 Hx → ∀ c' : Int, c' = (j : Int) → Ev (tOp (rIxL K) (tVar 8) (tC (.int c'))) [some (.ref a), some (.int p), some (.ref ra), some (.ref fa), some (.int c), some (.int (many r c : Nat)), some (.int (numFor r c f : Nat)), some (.ref na), some (.ref rowsA), ov, kv, lv, none, none] Hx (.ref l) := by
      intro j l lv Hx hj ex c' hc'
      rw [hc']
      exact ev_op (ev_var rfl) ev_c (rv_ixL (sq_of (ex _ _ RW)) (atI_nat hj))
    have w0 := evw 0 r0 none H12 g0 e12 0 rfl
    have w1 := evw 1 r1 none H12 g1 e12 1 rfl
    have s0 := sq_of (K := K) (e12 _ _ c0)
    have s1 := sq_of (K := K) (e12 _ _ c1)
    refine q_when (b := (decide ((n0 : Int) < n1) && !lexI (atNum r c n0) (atNum r c n1)) || (decide (n0 = n1) && !decide (atNum r c n0 = atNum r c n1)))
      (et_or (et_and (et_test (ev_op (evn 0 _ rfl 0 rfl) (evn 1 _ rfl 1 rfl) rv_I0)) fun _ => et_test (ev_op w0 w1 (rv_geL s0 s1))) fun _ => et_and (et_test (ev_is (ev_op (evn 0 _ rfl 0 rfl) (evn 1 _ rfl 1 rfl) (rv_eq rfl)) (by rw [dec_int, beq_nat]))) fun _ => et_test (ev_op w0 w1 (rv_neI s0 s1))) (fun hc => ?_) (fun _ H13 e13 => ?_)
    · exfalso
      by_cases z : n0 < n1
      · rw [at_lt z ln1] at hc
        simp [show ¬ n0 = n1 by omega] at hc
      · have z2 : n0 = n1 := by omega
        subst z2
        simp at hc
    have e1113 := e12.trans e13
    have R13 := ex_l e1113 R11
    have F13 := ex_l e1113 F11
    have lm : many r c - 1 < many r c := by omega
    have em : ((many r c : Nat) : Int) - 1 = ((many r c - 1 : Nat) : Int) := by omega
    -- last
    refine q_asgL (el_call (vs := [.ref ra, .int c, .int (many r c - 1 : Nat)]) (ea_cons (ev_var rfl) (ea_cons (ev_var rfl) (ea_cons (ev_is (ev_op (ev_var rfl) ev_c rv_I0) (congrArg V.int em)) ea_nil))) (sl_folding0 R13 ok lm)) fun la H14 hla e14 h14 => ?_
    have AL := at_ok ok lm
    have e1114 := e1113.trans e14
    have R14 := ex_l e14 R13
    have F14 := ex_l e14 F13
    refine q_when (b := false || lexI (atNum r c (many r c - 1)) (atNum r c n1)) (et_or (et_test ?_) fun _ => et_test (ev_op (ev_var rfl) (evw 1 r1 _ H14 g1 e1114 1 rfl) (rv_ltL (sq_of h14) (sq_of (e1114 _ _ c1))))) (fun hc => ?_) (fun _ H15 e15 => ?_)
    · refine ev_is (ev_op (ev_call (vs := [.ref ra, .int c, .ref la]) (ea_cons (ev_var rfl) (ea_cons (ev_var rfl) (ea_cons (ev_var rfl) ea_nil))) (sp_number0 R14 (sq_of h14) ok AL.1 AL.2)) (ev_op (ev_var rfl) ev_c rv_I0) (rv_ne rfl)) ?_
      rw [num_at lm, em, dec_int]
      simp
    · exfalso
      rw [Bool.false_or] at hc
      by_cases z : n1 = many r c - 1
      · rw [z, lexI_self] at hc
        cases hc
      · have := lexI_asym _ _ (at_lt (r := r) (c := c) (n := n1) (m := many r c - 1) (by omega) lm)
        rw [this] at hc
        cases hc
    · have R15 := ex_l e15 R14
      have F15 := ex_l e15 F14
      have e1315 := e14.trans e15
      refine q_app (e15 _ _ h14) (ev_var rfl) ev_c (by rw [iv_len]; have := AL.1.len; omega) fun H16 e16 => ?_
      have exA : Ex H13 (upd H16 la (.lst (iv (atNum r c (many r c - 1)) ++ [.int 0]))) := Ex.mut (e1315.trans e16) hla
      generalize upd H16 la (.lst (iv (atNum r c (many r c - 1)) ++ [.int 0])) = H17 at exA
      have R17 := ex_l exA R13
      have F17 := ex_l exA F13
      refine q_when (b := false) (et_test ?_) (fun hc => by cases hc) (fun _ H18 e18 => ?_)
      · refine ev_is (ev_op (ev_lenN (el_call (vs := [.ref ra, .int c, .int (many r c - 1 : Nat)]) (ea_cons (ev_var rfl) (ea_cons (ev_var rfl) (ea_cons (ev_is (ev_op (ev_var rfl) ev_c rv_I0) (congrArg V.int em)) ea_nil))) (sl_folding0 R17 ok lm))) (ev_op (ev_var rfl) ev_c rv_I0) (rv_ne rfl)) ?_
        rw [dec_int, iv_len]
        rw [show (((atNum r c (many r c - 1)).length : Int) == (p : Int) - 1) = true by rw [beq_iff_eq]; have := AL.1.len; omega]
        rfl
      · have F18 := ex_l e18 F17
        refine q_asg ev_c fun H19 e19 => ?_
        have F19 := ex_l e19 F18
        refine q_forLn (xs := iv f) (ev_var rfl) F19 (fun i σ' H' => ∃ tv, σ' = [some (.ref a), some (.int p), some (.ref ra), some (.ref fa), some (.int c), some (.int (many r c : Nat)), some (.int (numFor r c f : Nat)), some (.ref na), some (.ref rowsA), ov, kv, some (.ref la), some (.int (binv (f.take i) 0)), tv] ∧ Ex H19 H')
          (fun H20 e20 => ⟨_, rfl, e20⟩) (fun i σ' H' _ ⟨_, _, e⟩ => ex_l e F19) ?_ ?_
        · rintro i v σ' H' hi ⟨tv, rfl, e20⟩
          obtain ⟨n, hn, rfl⟩ := iv_get hi
          refine s_asg (ev_op (ev_op ev_c (ev_var rfl) (rv_I (.inl ⟨by decide, by decide⟩))) (ev_var rfl) rv_I0) fun H21 e21 => ⟨some (.int n), ?_, e20.trans e21⟩
          have eb : binv (f.take (i + 1)) 0 = 2 * binv (f.take i) 0 + n := by
            have h1 := (List.getElem?_eq_some_iff.mp hn).1
            rw [List.take_succ, hn]
            unfold binv
            rw [List.foldl_append]
            rfl
          rw [eb]
          rfl
        · rintro σ' H20 ⟨tv, rfl, e20⟩
          have et : (f.take (iv f).length) = f := by rw [iv_len, List.take_length]
          rw [et]
          have e1720 := (e18.trans e19).trans e20
          have R20 := ex_l e1720 R17
          have F20 := ex_l e1720 F17
          have hsum := sum_le (r := r) fun x hx => (ok.all x hx).2
          obtain ⟨b1, b2⟩ := num_full ok okf (c := r.sum) (Int.le_refl _)
          obtain ⟨b3, b4⟩ := num_full ok okf (c := 800) (by omega)
          obtain ⟨b5, b6⟩ := at_num ok okf b4
          refine s_ret (v := .bl true) (ev_andV (a := true) (b := true) (ev_is (ev_op (ev_call (vs := [.ref ra, .int r.sum, .ref fa]) (ea_cons (ev_var rfl) (ea_cons (ev_sumL (ev_var rfl) R20) (ea_cons (ev_var rfl) ea_nil))) (sp_number0 R20 F20 ok okf b2)) (ev_var rfl) (rv_eq rfl)) ?_) fun _ => ?_) fun H21 _ => q H21
          · rw [b1, dec_int]
            simp
          · refine ev_callL (y := .ref fa) (el_call (vs := [.ref ra, .int 800, .int (numFor r 800 f : Nat)]) (ea_cons (ev_var rfl) (ea_cons ev_c (ea_cons (ev_is (ev_var rfl) (congrArg V.int b3.symm)) ea_nil))) (sl_folding0 R20 ok b5)) (fun H1 e => ev_var rfl) fun l H1 hl e => ?_
            rw [b6] at hl
            have h := sp_numbers hl (ex_l e F20) (by omega)
            rw [decide_eq_true rfl] at h
            exact h
end
end Fo

/-! The law over the program's own text: printed by gen.py out of T.py. -/
namespace Lw
open PySem PySem.Spec PyProof.Rows L2 Evl Fo
def top (i : Nat) : Stmt := PySem.Challenge.pw_foldrule_k05_whole_numbers_of_greater_ru.main.body.getD i (.Pass ⟨0, 0, 0, 0⟩)
abbrev s_see_rule : Stmt := top 8
abbrev s_see_folding : Stmt := top 9
abbrev s_places_of : Stmt := top 10
abbrev s_span : Stmt := top 11
abbrev s_moved : Stmt := top 13
abbrev s_turned : Stmt := top 14
abbrev s_behind_turn : Stmt := top 15
abbrev s_ways_from : Stmt := top 16
abbrev s_many_fits : Stmt := top 17
abbrev s_folding_at : Stmt := top 18
abbrev s_number_of : Stmt := top 19
abbrev s__law_cell_at : Stmt := top 21
abbrev s__law_draw : Stmt := top 22
abbrev s__law_whole : Stmt := top 23
abbrev s__law_rule : Stmt := top 24
abbrev s__law_folding : Stmt := top 25
abbrev s__law_joints : Stmt := top 26
abbrev s__law_span : Stmt := top 27
abbrev s__law_numbers : Stmt := top 28
abbrev s_law : Stmt := top 29
theorem sc_see_rule : FnScope ["rule", "length"] ["rule"] (defScope s_see_rule) := ⟨rfl, rfl, rfl, by decide +kernel, rfl, by decide +kernel, by decide +kernel⟩
theorem sc_see_folding : FnScope ["rule", "folding", "turn"] ["rule", "folding"] (defScope s_see_folding) := ⟨rfl, rfl, rfl, by decide +kernel, rfl, by decide +kernel, by decide +kernel⟩
theorem sc_places_of : FnScope ["rule", "folding", "places", "way", "k"] ["rule", "folding"] (defScope s_places_of) := ⟨rfl, rfl, rfl, by decide +kernel, rfl, by decide +kernel, by decide +kernel⟩
theorem sc_span : FnScope ["rule", "folding", "places"] ["rule", "folding"] (defScope s_span) := ⟨rfl, rfl, rfl, by decide +kernel, rfl, by decide +kernel, by decide +kernel⟩
theorem sc_moved : FnScope ["state", "length"] ["state", "length"] (defScope s_moved) := ⟨rfl, rfl, rfl, by decide +kernel, rfl, by decide +kernel, by decide +kernel⟩
theorem sc_turned : FnScope ["state"] ["state"] (defScope s_turned) := ⟨rfl, rfl, rfl, by decide +kernel, rfl, by decide +kernel, by decide +kernel⟩
theorem sc_behind_turn : FnScope ["state", "turn", "length"] ["state", "turn", "length"] (defScope s_behind_turn) := ⟨rfl, rfl, rfl, by decide +kernel, rfl, by decide +kernel, by decide +kernel⟩
theorem sc_ways_from : FnScope ["rule", "done", "state", "case", "known", "key", "total", "turn"] ["rule", "done", "state", "case", "known"] (defScope s_ways_from) := ⟨rfl, rfl, rfl, by decide +kernel, rfl, by decide +kernel, by decide +kernel⟩
theorem sc_many_fits : FnScope ["rule", "case"] ["rule", "case"] (defScope s_many_fits) := ⟨rfl, rfl, rfl, by decide +kernel, rfl, by decide +kernel, by decide +kernel⟩
theorem sc_folding_at : FnScope ["rule", "case", "number", "known", "state", "folding", "done", "turn", "ways"] ["rule", "case", "number"] (defScope s_folding_at) := ⟨rfl, rfl, rfl, by decide +kernel, rfl, by decide +kernel, by decide +kernel⟩
theorem sc_number_of : FnScope ["rule", "case", "folding", "known", "state", "number", "done"] ["rule", "case", "folding"] (defScope s_number_of) := ⟨rfl, rfl, rfl, by decide +kernel, rfl, by decide +kernel, by decide +kernel⟩
theorem sc__law_cell_at : FnScope ["script", "k"] ["script", "k"] (defScope s__law_cell_at) := ⟨rfl, rfl, rfl, by decide +kernel, rfl, by decide +kernel, by decide +kernel⟩
theorem sc__law_draw : FnScope ["script", "k", "stir"] ["script", "k"] (defScope s__law_draw) := ⟨rfl, rfl, rfl, by decide +kernel, rfl, by decide +kernel, by decide +kernel⟩
theorem sc__law_whole : FnScope ["found"] ["found"] (defScope s__law_whole) := ⟨rfl, rfl, rfl, by decide +kernel, rfl, by decide +kernel, by decide +kernel⟩
theorem sc__law_rule : FnScope ["script", "pieces", "most", "rule", "k"] ["script", "pieces"] (defScope s__law_rule) := ⟨rfl, rfl, rfl, by decide +kernel, rfl, by decide +kernel, by decide +kernel⟩
theorem sc__law_folding : FnScope ["script", "start", "pieces", "k"] ["script", "start", "pieces"] (defScope s__law_folding) := ⟨rfl, rfl, rfl, by decide +kernel, rfl, by decide +kernel, by decide +kernel⟩
theorem sc__law_joints : FnScope ["rule", "folding", "places", "up", "k"] ["rule", "folding"] (defScope s__law_joints) := ⟨rfl, rfl, rfl, by decide +kernel, rfl, by decide +kernel, by decide +kernel⟩
theorem sc__law_span : FnScope ["rule", "folding", "places"] ["rule", "folding"] (defScope s__law_span) := ⟨rfl, rfl, rfl, by decide +kernel, rfl, by decide +kernel, by decide +kernel⟩
theorem sc__law_numbers : FnScope ["found", "due", "number"] ["found", "due"] (defScope s__law_numbers) := ⟨rfl, rfl, rfl, by decide +kernel, rfl, by decide +kernel, by decide +kernel⟩
theorem sc_law : FnScope ["script", "pieces", "rule", "folding", "case", "many", "number", "numbers", "rows", "one", "k", "last", "due", "turn"] ["script"] (defScope s_law) := ⟨rfl, rfl, rfl, by decide +kernel, rfl, by decide +kernel, by decide +kernel⟩
structure Txt (mg : Str → Option Value) : Prop where
  z_bool : mg "bool" = none
  z_int : mg "int" = none
  z_isinstance : mg "isinstance" = none
  z_len : mg "len" = none
  z_list : mg "list" = none
  z_max : mg "max" = none
  z_min : mg "min" = none
  z_range : mg "range" = none
  z_sorted : mg "sorted" = none
  z_sum : mg "sum" = none
  c_PIECES : ∃ t, mg "PIECES" = some (.int 12 t)
  c_LONGEST : ∃ t, mg "LONGEST" = some (.int 60 t)
section
variable {P : Program} {w : World} {K : PySem.W.Frag} {mg : Str → Option Value} {base : Heap}
theorem ok_see_rule (T : Txt mg) (F : Pd K mg "see_rule" s_see_rule ["rule"]) : Df P w K mg base 1 "see_rule" ["rule"] (p_see_rule0 K) := by
  refine F.df sc_see_rule (fun vs H Q E h => ?_) (fun f cdv A outer s H vs Q E hr h => ⟨(t_see_rule K E0 tNever tNever), ?_, r_see_rule0 h⟩)
  · repeat (first | (obtain ⟨rfl, _⟩ := h; rfl) | (obtain ⟨_, h⟩ := h))
  · exact (pss_cons (ps_if (pt_not (pt_chain op_le op_le pe_int (pe_callB call_len_seq (by rfl) T.z_len (by decide +kernel) (pa_cons (pv 0) pa_nil)) (pe_gint rfl T.c_PIECES))) (pss_one ps_never) pss_nil)
      (pss_one (ps_if (pt_cmpR (op_neD hr.units) (pe_lc (own := [("length", 1)]) (g := gName 1) rfl sc_see_rule.nd (pi_list (pv 0)) (blkOk_by (own := [("length", 1)]) (N := ["rule", "length"]) (sc := defScope s_see_rule) (by decide +kernel)) (fun _ _ _ _ _ => pg_name (i := 1) sc_see_rule.nd rfl (Or.inl rfl)) (fun _ _ _ _ _ => (pts_one (pt_not (pt_chain op_le op_le pe_int (pv 1) (pe_gint rfl T.c_LONGEST))))) (fun _ _ _ _ _ => (pv 1))) (pe_lst pa_nil) (nomark _)) (pss_one ps_never) pss_nil)))
theorem ok_see_folding (T : Txt mg) (F : Pd K mg "see_folding" s_see_folding ["rule", "folding"]) (D_see_rule : Df P w K mg base 1 "see_rule" ["rule"] (p_see_rule0 K)) : Df P w K mg base 2 "see_folding" ["rule", "folding"] (p_see_folding0 K) := by
  refine F.df sc_see_folding (fun vs H Q E h => ?_) (fun f cdv A outer s H vs Q E hr h => ⟨(t_see_folding K E0 (p_see_rule0 K) tNever), ?_, r_see_folding0 h⟩)
  · repeat (first | (obtain ⟨rfl, _⟩ := h; rfl) | (obtain ⟨_, h⟩ := h))
  · exact (pss_cons (ps_expr (pe_callD D_see_rule (hr.mono (by first | decide | omega)) rfl (pa_cons (pv 0) pa_nil)))
      (pss_one (ps_if (PW.pt (pw_or (pt_cmpR op_ne (pe_callB call_len_seq (by rfl) T.z_len (by decide +kernel) (pa_cons (pv 1) pa_nil)) (pe_op op_sub (pe_callB call_len_seq (by rfl) T.z_len (by decide +kernel) (pa_cons (pv 0) pa_nil)) pe_int) (nomark _)) (pw_or1 (pt_cmpR (op_neD hr.units) (pe_lc (own := [("turn", 2)]) (g := gName 2) rfl sc_see_folding.nd (pi_list (pv 1)) (blkOk_by (own := [("turn", 2)]) (N := ["rule", "folding", "turn"]) (sc := defScope s_see_folding) (by decide +kernel)) (fun _ _ _ _ _ => pg_name (i := 2) sc_see_folding.nd rfl (Or.inl rfl)) (fun _ _ _ _ _ => (pts_one (PW.pt (pw_and (pt_cmpR op_ne (pv 2) pe_int (nomark _)) (pw_and1 (pt_cmpR op_ne (pv 2) pe_int (nomark _))))))) (fun _ _ _ _ _ => (pv 2))) (pe_lst pa_nil) (nomark _))))) (pss_one ps_never) pss_nil)))
theorem ok_places_of (T : Txt mg) (F : Pd K mg "places_of" s_places_of ["rule", "folding"]) : Df P w K mg base 1 "places_of" ["rule", "folding"] (p_places_of K) := by
  refine F.df sc_places_of (fun vs H Q E h => ?_) (fun f cdv A outer s H vs Q E hr h => ⟨(t_places_of K E0), ?_, r_places_of h⟩)
  · repeat (first | (obtain ⟨rfl, _⟩ := h; rfl) | (obtain ⟨_, h⟩ := h))
  · exact (pss_cons (ps_set (i := 2) sc_places_of.nd rfl (Or.inl rfl) (pe_lst (pa_cons pe_int (pa_cons (pe_ix ix_list (pv 0) pe_int (fun _ _ => rfl)) pa_nil))))
      (pss_cons (ps_set (i := 3) sc_places_of.nd rfl (Or.inl rfl) pe_int)
      (pss_cons (ps_for PassesOwn.never rfl (pi_range1 rfl T.z_range (pa_cons (pe_callB call_len_seq (by rfl) T.z_len (by decide +kernel) (pa_cons (pv 1) pa_nil)) pa_nil)) (pg_name (i := 4) sc_places_of.nd rfl (Or.inl rfl)) (pss_cons (ps_if (pt_cmpR op_eq (pe_ix ix_list (pv 1) (pv 4) (fun _ _ => rfl)) pe_int (nomark _)) (pss_one (ps_set (i := 3) sc_places_of.nd rfl (Or.inl rfl) (pe_op op_sub pe_int (pv 3)))) pss_nil)
      (pss_one (ps_expr (pe_bm PySem.F.plainAttrs_list PySem.F.slot_list_append PySem.F.type_list_append mt_append (pv 2) (pa_cons (pe_op op_add (pe_ix ix_list (pv 2) (pe_un un_neg pe_int) (fun _ _ => rfl)) (pe_op op_mul (pv 3) (pe_ix ix_list (pv 0) (pe_op op_add (pv 4) pe_int) (fun _ _ => rfl)))) pa_nil))))))
      (pss_one (ps_ret (pv 2))))))
theorem ok_span (T : Txt mg) (F : Pd K mg "span" s_span ["rule", "folding"]) (D_see_folding : Df P w K mg base 2 "see_folding" ["rule", "folding"] (p_see_folding0 K)) (D_places_of : Df P w K mg base 1 "places_of" ["rule", "folding"] (p_places_of K)) : Df P w K mg base 3 "span" ["rule", "folding"] (p_span0 K) := by
  refine F.df sc_span (fun vs H Q E h => ?_) (fun f cdv A outer s H vs Q E hr h => ⟨(t_span K E0 (p_see_folding0 K) (p_places_of K)), ?_, r_span0 h⟩)
  · repeat (first | (obtain ⟨rfl, _⟩ := h; rfl) | (obtain ⟨_, h⟩ := h))
  · exact (pss_cons (ps_expr (pe_callD D_see_folding (hr.mono (by first | decide | omega)) rfl (pa_cons (pv 0) (pa_cons (pv 1) pa_nil))))
      (pss_cons (ps_set (i := 2) sc_span.nd rfl (Or.inl rfl) (pe_callD D_places_of (hr.mono (by first | decide | omega)) rfl (pa_cons (pv 0) (pa_cons (pv 1) pa_nil))))
      (pss_one (ps_ret (pe_op op_sub (pe_callB (cr_max rfl) (by rfl) T.z_max (by decide +kernel) (pa_cons (pv 2) pa_nil)) (pe_callB (cr_min rfl) (by rfl) T.z_min (by decide +kernel) (pa_cons (pv 2) pa_nil)))))))
theorem ok_moved (T : Txt mg) (F : Pd K mg "moved" s_moved ["state", "length"]) : Df P w K mg base 1 "moved" ["state", "length"] (p_moved K) := by
  refine F.df sc_moved (fun vs H Q E h => ?_) (fun f cdv A outer s H vs Q E hr h => ⟨(t_moved K E0), ?_, r_moved h⟩)
  · repeat (first | (obtain ⟨rfl, _⟩ := h; rfl) | (obtain ⟨_, h⟩ := h))
  · exact (pss_one (ps_ret (pe_tup (pa_cons (pe_op op_add (pe_ix ix_tup (pv 0) pe_int (fun _ _ => rfl)) (pv 1)) (pa_cons (pe_callB (call_max2 rfl) (by rfl) T.z_max (by decide +kernel) (pa_cons pe_int (pa_cons (pe_op op_sub (pe_ix ix_tup (pv 0) pe_int (fun _ _ => rfl)) (pv 1)) pa_nil))) pa_nil)))))
theorem ok_turned (T : Txt mg) (F : Pd K mg "turned" s_turned ["state"]) : Df P w K mg base 1 "turned" ["state"] (p_turned K) := by
  refine F.df sc_turned (fun vs H Q E h => ?_) (fun f cdv A outer s H vs Q E hr h => ⟨(t_turned K E0), ?_, r_turned h⟩)
  · repeat (first | (obtain ⟨rfl, _⟩ := h; rfl) | (obtain ⟨_, h⟩ := h))
  · exact (pss_one (ps_ret (pe_tup (pa_cons (pe_ix ix_tup (pv 0) pe_int (fun _ _ => rfl)) (pa_cons (pe_ix ix_tup (pv 0) pe_int (fun _ _ => rfl)) pa_nil)))))
theorem ok_behind_turn (T : Txt mg) (F : Pd K mg "behind_turn" s_behind_turn ["state", "turn", "length"]) (D_turned : Df P w K mg base 1 "turned" ["state"] (p_turned K)) (D_moved : Df P w K mg base 1 "moved" ["state", "length"] (p_moved K)) : Df P w K mg base 2 "behind_turn" ["state", "turn", "length"] (p_behind_turn K) := by
  refine F.df sc_behind_turn (fun vs H Q E h => ?_) (fun f cdv A outer s H vs Q E hr h => ⟨(t_behind_turn K E0 (p_turned K) (p_moved K)), ?_, r_behind_turn h⟩)
  · repeat (first | (obtain ⟨rfl, _⟩ := h; rfl) | (obtain ⟨_, h⟩ := h))
  · exact (pss_cons (ps_if (pt_cmpR op_eq (pv 1) pe_int (nomark _)) (pss_one (ps_set (i := 0) sc_behind_turn.nd rfl (Or.inl rfl) (pe_callD D_turned (hr.mono (by first | decide | omega)) rfl (pa_cons (pv 0) pa_nil)))) pss_nil)
      (pss_one (ps_ret (pe_callD D_moved (hr.mono (by first | decide | omega)) rfl (pa_cons (pv 0) (pa_cons (pv 2) pa_nil))))))
theorem ways_none (F : Pd K mg "ways_from" s_ways_from ["rule", "done", "state", "case", "known"]) : Df P w K mg base 3 "ways_from" ["rule", "done", "state", "case", "known"] (p_ways_from P w K 0) := by
  obtain ⟨f, fd, F1, hm, hb⟩ := F.ex
  have no : ∀ vs H Q E, ¬ p_ways_from P w K 0 vs H Q E := fun vs H Q E h => by
    obtain ⟨_, _, _, r, i, _, _, _, _, _, _, _, _, _, _, h1, h2, _⟩ := h
    omega
  exact ⟨f, fd, ⟨fun vs H Q E h => absurd h (no vs H Q E), fun A outer s H args us vs Q E _ _ _ _ h => absurd h (no vs H Q E)⟩, hm, F1.kp, hb⟩
theorem ways_step (T : Txt mg) (F : Pd K mg "ways_from" s_ways_from ["rule", "done", "state", "case", "known"]) (D_behind_turn : Df P w K mg base 2 "behind_turn" ["state", "turn", "length"] (p_behind_turn K)) {n : Nat} (D_ways_from : Df P w K mg base (n + 3) "ways_from" ["rule", "done", "state", "case", "known"] (p_ways_from P w K n)) : Df P w K mg base (n + 4) "ways_from" ["rule", "done", "state", "case", "known"] (p_ways_from P w K (n + 1)) := by
  refine F.df sc_ways_from (fun vs H Q E h => ?_) (fun f cdv A outer s H vs Q E hr h => ⟨(t_ways_from P w K E0 (p_behind_turn K) (p_ways_from P w K n)), ?_, r_ways_from h⟩)
  · obtain ⟨_, _, _, _, _, _, _, _, _, rfl, _⟩ := h
    rfl
  · exact (pss_cons (ps_if (pt_cmpR op_gt (pe_op op_add (pe_ix ix_tup (pv 2) pe_int (fun _ _ => rfl)) (pe_ix ix_tup (pv 2) pe_int (fun _ _ => rfl))) (pv 3) (nomark _)) (pss_one (ps_ret pe_int)) pss_nil)
      (pss_cons (ps_if (pt_cmpR op_eq (pv 1) (pe_callB call_len_seq (by rfl) T.z_len (by decide +kernel) (pa_cons (pv 0) pa_nil)) (nomark _)) (pss_one (ps_ret pe_int)) pss_nil)
      (pss_cons (ps_set (i := 5) sc_ways_from.nd rfl (Or.inl rfl) (pe_tup (pa_cons (pv 1) (pa_cons (pv 2) pa_nil))))
      (pss_cons (ps_if (pt_cmpR (op_memoNotIn hr.units) (pv 5) (pv 4) (by rfl)) (pss_cons (ps_set (i := 6) sc_ways_from.nd rfl (Or.inl rfl) pe_int)
      (pss_cons (ps_for PassesOwn.never rfl (pi_range1 rfl T.z_range (pa_cons pe_int pa_nil)) (pg_name (i := 7) sc_ways_from.nd rfl (Or.inl rfl)) (pss_one (ps_set (i := 6) sc_ways_from.nd rfl (Or.inl rfl) (pe_op op_add (pv 6) (pe_callD D_ways_from (hr.mono (by first | decide | omega)) rfl (pa_cons (pv 0) (pa_cons (pe_op op_add (pv 1) pe_int) (pa_cons (pe_callD D_behind_turn (hr.mono (by first | decide | omega)) rfl (pa_cons (pv 2) (pa_cons (pv 7) (pa_cons (pe_ix ix_list (pv 0) (pv 1) (fun _ _ => rfl)) pa_nil)))) (pa_cons (pv 3) (pa_cons (pv 4) pa_nil))))))))))
      (pss_one (ps_asg (pv 6) (pg_sub (pv 4) (pv 5) (set_memo hr.units)))))) pss_nil)
      (pss_one (ps_ret (pe_memoGet hr.units (pv 4) (pv 5))))))))
theorem ok_ways_from (T : Txt mg) (F : Pd K mg "ways_from" s_ways_from ["rule", "done", "state", "case", "known"]) (D_behind_turn : Df P w K mg base 2 "behind_turn" ["state", "turn", "length"] (p_behind_turn K)) : Df P w K mg base 16 "ways_from" ["rule", "done", "state", "case", "known"] (p_ways_from P w K 13) := by
  have h : ∀ n : Nat, Df P w K mg base (n + 3) "ways_from" ["rule", "done", "state", "case", "known"] (p_ways_from P w K n) := fun n => by
    induction n with
    | zero => exact ways_none F
    | succ n ih => exact ways_step T F D_behind_turn ih
  exact h 13
theorem ok_many_fits (T : Txt mg) (F : Pd K mg "many_fits" s_many_fits ["rule", "case"]) (D_see_rule : Df P w K mg base 1 "see_rule" ["rule"] (p_see_rule0 K)) (D_ways_from : Df P w K mg base 16 "ways_from" ["rule", "done", "state", "case", "known"] (p_ways_from P w K 13)) : Df P w K mg base 17 "many_fits" ["rule", "case"] (p_many_fits0 P w K) := by
  refine F.df sc_many_fits (fun vs H Q E h => ?_) (fun f cdv A outer s H vs Q E hr h => ⟨(t_many_fits P w K E0 (p_see_rule0 K) (p_ways_from P w K 13)), ?_, r_many_fits0 h⟩)
  · repeat (first | (obtain ⟨rfl, _⟩ := h; rfl) | (obtain ⟨_, h⟩ := h))
  · exact (pss_cons (ps_expr (pe_callD D_see_rule (hr.mono (by first | decide | omega)) rfl (pa_cons (pv 0) pa_nil)))
      (pss_one (ps_ret (pe_callD D_ways_from (hr.mono (by first | decide | omega)) rfl (pa_cons (pv 0) (pa_cons pe_int (pa_cons (pe_tup (pa_cons (pe_ix ix_list (pv 0) pe_int (fun _ _ => rfl)) (pa_cons pe_int pa_nil))) (pa_cons (pv 1) (pa_cons pe_memoNew pa_nil)))))))))
theorem ok_folding_at (T : Txt mg) (F : Pd K mg "folding_at" s_folding_at ["rule", "case", "number"]) (D_see_rule : Df P w K mg base 1 "see_rule" ["rule"] (p_see_rule0 K)) (D_many_fits : Df P w K mg base 17 "many_fits" ["rule", "case"] (p_many_fits0 P w K)) (D_behind_turn : Df P w K mg base 2 "behind_turn" ["state", "turn", "length"] (p_behind_turn K)) (D_ways_from : Df P w K mg base 16 "ways_from" ["rule", "done", "state", "case", "known"] (p_ways_from P w K 13)) : Df P w K mg base 18 "folding_at" ["rule", "case", "number"] (p_folding_at0 P w K) := by
  refine F.df sc_folding_at (fun vs H Q E h => ?_) (fun f cdv A outer s H vs Q E hr h => ⟨(t_folding_at P w K E0 (p_see_rule0 K) (p_many_fits0 P w K) (p_behind_turn K) (p_ways_from P w K 13) tNever), ?_, r_folding_at0 h⟩)
  · repeat (first | (obtain ⟨rfl, _⟩ := h; rfl) | (obtain ⟨_, h⟩ := h))
  · exact (pss_cons (ps_expr (pe_callD D_see_rule (hr.mono (by first | decide | omega)) rfl (pa_cons (pv 0) pa_nil)))
      (pss_cons (ps_if (pt_not (pt_chain op_le op_lt pe_int (pv 2) (pe_callD D_many_fits (hr.mono (by first | decide | omega)) rfl (pa_cons (pv 0) (pa_cons (pv 1) pa_nil))))) (pss_one ps_never) pss_nil)
      (pss_cons (ps_set (i := 3) sc_folding_at.nd rfl (Or.inl rfl) pe_memoNew)
      (pss_cons (ps_set (i := 4) sc_folding_at.nd rfl (Or.inl rfl) (pe_tup (pa_cons (pe_ix ix_list (pv 0) pe_int (fun _ _ => rfl)) (pa_cons pe_int pa_nil))))
      (pss_cons (ps_set (i := 5) sc_folding_at.nd rfl (Or.inl rfl) (pe_lst pa_nil))
      (pss_cons (ps_for PassesOwn.never rfl (pi_range2 rfl T.z_range (pa_cons pe_int (pa_cons (pe_callB call_len_seq (by rfl) T.z_len (by decide +kernel) (pa_cons (pv 0) pa_nil)) pa_nil))) (pg_name (i := 6) sc_folding_at.nd rfl (Or.inl rfl)) (pss_cons (ps_set (i := 7) sc_folding_at.nd rfl (Or.inl rfl) pe_int)
      (pss_cons (ps_set (i := 8) sc_folding_at.nd rfl (Or.inl rfl) (pe_callD D_ways_from (hr.mono (by first | decide | omega)) rfl (pa_cons (pv 0) (pa_cons (pe_op op_add (pv 6) pe_int) (pa_cons (pe_callD D_behind_turn (hr.mono (by first | decide | omega)) rfl (pa_cons (pv 4) (pa_cons pe_int (pa_cons (pe_ix ix_list (pv 0) (pv 6) (fun _ _ => rfl)) pa_nil)))) (pa_cons (pv 1) (pa_cons (pv 3) pa_nil)))))))
      (pss_cons (ps_if (pt_cmpR op_ge (pv 2) (pv 8) (nomark _)) (pss_cons (ps_set (i := 2) sc_folding_at.nd rfl (Or.inl rfl) (pe_op op_sub (pv 2) (pv 8)))
      (pss_one (ps_set (i := 7) sc_folding_at.nd rfl (Or.inl rfl) pe_int))) pss_nil)
      (pss_cons (ps_set (i := 4) sc_folding_at.nd rfl (Or.inl rfl) (pe_callD D_behind_turn (hr.mono (by first | decide | omega)) rfl (pa_cons (pv 4) (pa_cons (pv 7) (pa_cons (pe_ix ix_list (pv 0) (pv 6) (fun _ _ => rfl)) pa_nil)))))
      (pss_one (ps_expr (pe_bm PySem.F.plainAttrs_list PySem.F.slot_list_append PySem.F.type_list_append mt_append (pv 5) (pa_cons (pv 7) pa_nil)))))))))
      (pss_one (ps_ret (pv 5)))))))))
theorem ok_number_of (T : Txt mg) (F : Pd K mg "number_of" s_number_of ["rule", "case", "folding"]) (D_see_folding : Df P w K mg base 2 "see_folding" ["rule", "folding"] (p_see_folding0 K)) (D_span : Df P w K mg base 3 "span" ["rule", "folding"] (p_span0 K)) (D_behind_turn : Df P w K mg base 2 "behind_turn" ["state", "turn", "length"] (p_behind_turn K)) (D_ways_from : Df P w K mg base 16 "ways_from" ["rule", "done", "state", "case", "known"] (p_ways_from P w K 13)) : Df P w K mg base 17 "number_of" ["rule", "case", "folding"] (p_number_of0 P w K) := by
  refine F.df sc_number_of (fun vs H Q E h => ?_) (fun f cdv A outer s H vs Q E hr h => ⟨(t_number_of P w K E0 (p_see_folding0 K) (p_span0 K) (p_behind_turn K) (p_ways_from P w K 13) tNever), ?_, r_number_of0 h⟩)
  · repeat (first | (obtain ⟨rfl, _⟩ := h; rfl) | (obtain ⟨_, h⟩ := h))
  · exact (pss_cons (ps_expr (pe_callD D_see_folding (hr.mono (by first | decide | omega)) rfl (pa_cons (pv 0) (pa_cons (pv 2) pa_nil))))
      (pss_cons (ps_if (pt_cmpR op_gt (pe_callD D_span (hr.mono (by first | decide | omega)) rfl (pa_cons (pv 0) (pa_cons (pv 2) pa_nil))) (pv 1) (nomark _)) (pss_one ps_never) pss_nil)
      (pss_cons (ps_set (i := 3) sc_number_of.nd rfl (Or.inl rfl) pe_memoNew)
      (pss_cons (ps_set (i := 4) sc_number_of.nd rfl (Or.inl rfl) (pe_tup (pa_cons (pe_ix ix_list (pv 0) pe_int (fun _ _ => rfl)) (pa_cons pe_int pa_nil))))
      (pss_cons (ps_set (i := 5) sc_number_of.nd rfl (Or.inl rfl) pe_int)
      (pss_cons (ps_for PassesOwn.never rfl (pi_range2 rfl T.z_range (pa_cons pe_int (pa_cons (pe_callB call_len_seq (by rfl) T.z_len (by decide +kernel) (pa_cons (pv 0) pa_nil)) pa_nil))) (pg_name (i := 6) sc_number_of.nd rfl (Or.inl rfl)) (pss_cons (ps_if (pt_cmpR op_eq (pe_ix ix_list (pv 2) (pe_op op_sub (pv 6) pe_int) (fun _ _ => rfl)) pe_int (nomark _)) (pss_one (ps_set (i := 5) sc_number_of.nd rfl (Or.inl rfl) (pe_op op_add (pv 5) (pe_callD D_ways_from (hr.mono (by first | decide | omega)) rfl (pa_cons (pv 0) (pa_cons (pe_op op_add (pv 6) pe_int) (pa_cons (pe_callD D_behind_turn (hr.mono (by first | decide | omega)) rfl (pa_cons (pv 4) (pa_cons pe_int (pa_cons (pe_ix ix_list (pv 0) (pv 6) (fun _ _ => rfl)) pa_nil)))) (pa_cons (pv 1) (pa_cons (pv 3) pa_nil))))))))) pss_nil)
      (pss_one (ps_set (i := 4) sc_number_of.nd rfl (Or.inl rfl) (pe_callD D_behind_turn (hr.mono (by first | decide | omega)) rfl (pa_cons (pv 4) (pa_cons (pe_ix ix_list (pv 2) (pe_op op_sub (pv 6) pe_int) (fun _ _ => rfl)) (pa_cons (pe_ix ix_list (pv 0) (pv 6) (fun _ _ => rfl)) pa_nil))))))))
      (pss_one (ps_ret (pv 5)))))))))
theorem ok__law_cell_at (T : Txt mg) (F : Pd K mg "_law_cell_at" s__law_cell_at ["script", "k"]) : Df P w K mg base 1 "_law_cell_at" ["script", "k"] (p__law_cell_at K) := by
  refine F.df sc__law_cell_at (fun vs H Q E h => ?_) (fun f cdv A outer s H vs Q E hr h => ⟨(t__law_cell_at K E0), ?_, r__law_cell_at h⟩)
  · repeat (first | (obtain ⟨rfl, _⟩ := h; rfl) | (obtain ⟨_, h⟩ := h))
  · exact (pss_cons (ps_if (pt_cmpR op_lt (pv 1) (pe_callB call_len_seq (by rfl) T.z_len (by decide +kernel) (pa_cons (pv 0) pa_nil)) (nomark _)) (pss_one (ps_ret (pe_ix ix_list (pv 0) (pv 1) (fun _ _ => rfl)))) pss_nil)
      (pss_one (ps_ret pe_int)))
theorem ok__law_draw (T : Txt mg) (F : Pd K mg "_law_draw" s__law_draw ["script", "k"]) (D__law_cell_at : Df P w K mg base 1 "_law_cell_at" ["script", "k"] (p__law_cell_at K)) : Df P w K mg base 2 "_law_draw" ["script", "k"] (p__law_draw K) := by
  refine F.df sc__law_draw (fun vs H Q E h => ?_) (fun f cdv A outer s H vs Q E hr h => ⟨(t__law_draw K E0 (p__law_cell_at K)), ?_, r__law_draw h⟩)
  · repeat (first | (obtain ⟨rfl, _⟩ := h; rfl) | (obtain ⟨_, h⟩ := h))
  · exact (pss_cons (ps_set (i := 2) sc__law_draw.nd rfl (Or.inl rfl) (pe_op op_mod (pe_op op_mul (pe_op op_add (pe_op op_add (pe_callD D__law_cell_at (hr.mono (by first | decide | omega)) rfl (pa_cons (pv 0) (pa_cons (pe_op op_mod (pv 1) pe_int) pa_nil))) (pe_op op_mul pe_int (pv 1))) pe_int) pe_int) pe_int))
      (pss_cons (ps_set (i := 2) sc__law_draw.nd rfl (Or.inl rfl) (pe_op op_mod (pe_op op_mul (pv 2) (pv 2)) pe_int))
      (pss_one (ps_ret (pe_op op_fdiv (pe_op op_mod (pe_op op_mul (pv 2) pe_int) pe_int) pe_int)))))
theorem ok__law_whole (T : Txt mg) (F : Pd K mg "_law_whole" s__law_whole ["found"]) : Df P w K mg base 1 "_law_whole" ["found"] p__law_whole := by
  refine F.df sc__law_whole (fun vs H Q E h => ?_) (fun f cdv A outer s H vs Q E hr h => ⟨(t__law_whole K E0), ?_, r__law_whole h⟩)
  · repeat (first | (obtain ⟨rfl, _⟩ := h; rfl) | (obtain ⟨_, h⟩ := h))
  · exact (pss_one (ps_ret (pe_and (pe_callB call_isi (by rfl) T.z_isinstance (by decide +kernel) (pa_cons (pv 0) (pa_cons (pe_bltn rfl T.z_int (by decide +kernel) rfl) pa_nil))) (pe_one (pe_not (pe_callB call_isi (by rfl) T.z_isinstance (by decide +kernel) (pa_cons (pv 0) (pa_cons (pe_bltn rfl T.z_bool (by decide +kernel) rfl) pa_nil))))))))
theorem ok__law_rule (T : Txt mg) (F : Pd K mg "_law_rule" s__law_rule ["script", "pieces"]) (D__law_draw : Df P w K mg base 2 "_law_draw" ["script", "k"] (p__law_draw K)) : Df P w K mg base 3 "_law_rule" ["script", "pieces"] (p__law_rule K) := by
  refine F.df sc__law_rule (fun vs H Q E h => ?_) (fun f cdv A outer s H vs Q E hr h => ⟨(t__law_rule K E0 (p__law_draw K)), ?_, r__law_rule h⟩)
  · repeat (first | (obtain ⟨rfl, _⟩ := h; rfl) | (obtain ⟨_, h⟩ := h))
  · exact (pss_cons (ps_set (i := 2) sc__law_rule.nd rfl (Or.inr rfl) (pe_ix ix_list (pe_lst (pa_cons pe_int (pa_cons pe_int (pa_cons pe_int (pa_cons pe_int pa_nil))))) (pe_op op_mod (pe_callD D__law_draw (hr.mono (by first | decide | omega)) rfl (pa_cons (pv 0) (pa_cons pe_int pa_nil))) pe_int) (fun _ _ => rfl)))
      (pss_cons (ps_set (i := 3) sc__law_rule.nd rfl (Or.inr rfl) (pe_lc (own := [("k", 4)]) (g := gName 4) rfl sc__law_rule.nd (pi_range1 rfl T.z_range (pa_cons (pv 1) pa_nil)) (blkOk_by (own := [("k", 4)]) (N := ["script", "pieces", "most", "rule", "k"]) (sc := defScope s__law_rule) (by decide +kernel)) (fun _ _ _ _ _ => pg_name (i := 4) sc__law_rule.nd rfl (Or.inl rfl)) (fun _ _ _ _ _ => pts_nil) (fun _ _ _ _ _ => (pe_op op_add pe_int (pe_op op_mod (pe_callD D__law_draw (hr.mono (by first | decide | omega)) rfl (pa_cons (pv 0) (pa_cons (pe_op op_add pe_int (pv 4)) pa_nil))) (pv 2))))))
      (pss_cons (ps_if (pt_cmpR op_eq (pe_op op_mod (pe_callD D__law_draw (hr.mono (by first | decide | omega)) rfl (pa_cons (pv 0) (pa_cons pe_int pa_nil))) pe_int) pe_int (nomark _)) (pss_one (ps_set (i := 3) sc__law_rule.nd rfl (Or.inr rfl) (pe_lc (own := [("k", 4)]) (g := gName 4) rfl sc__law_rule.nd (pi_range1 rfl T.z_range (pa_cons (pv 1) pa_nil)) (blkOk_by (own := [("k", 4)]) (N := ["script", "pieces", "most", "rule", "k"]) (sc := defScope s__law_rule) (by decide +kernel)) (fun _ _ _ _ _ => pg_name (i := 4) sc__law_rule.nd rfl (Or.inl rfl)) (fun _ _ _ _ _ => pts_nil) (fun _ _ _ _ _ => (pe_ix ix_list (pv 3) (pe_op op_mod (pv 4) pe_int) (fun _ _ => rfl)))))) pss_nil)
      (pss_one (ps_ret (pv 3))))))
theorem ok__law_folding (T : Txt mg) (F : Pd K mg "_law_folding" s__law_folding ["script", "start", "pieces"]) (D__law_draw : Df P w K mg base 2 "_law_draw" ["script", "k"] (p__law_draw K)) : Df P w K mg base 3 "_law_folding" ["script", "start", "pieces"] (p__law_folding K) := by
  refine F.df sc__law_folding (fun vs H Q E h => ?_) (fun f cdv A outer s H vs Q E hr h => ⟨(t__law_folding K E0 (p__law_draw K)), ?_, r__law_folding h⟩)
  · repeat (first | (obtain ⟨rfl, _⟩ := h; rfl) | (obtain ⟨_, h⟩ := h))
  · exact (pss_one (ps_ret (pe_lc (own := [("k", 3)]) (g := gName 3) rfl sc__law_folding.nd (pi_range1 rfl T.z_range (pa_cons (pe_op op_sub (pv 2) pe_int) pa_nil)) (blkOk_by (own := [("k", 3)]) (N := ["script", "start", "pieces", "k"]) (sc := defScope s__law_folding) (by decide +kernel)) (fun _ _ _ _ _ => pg_name (i := 3) sc__law_folding.nd rfl (Or.inl rfl)) (fun _ _ _ _ _ => pts_nil) (fun _ _ _ _ _ => (pe_op op_mod (pe_callD D__law_draw (hr.mono (by first | decide | omega)) rfl (pa_cons (pv 0) (pa_cons (pe_op op_add (pv 1) (pv 3)) pa_nil))) pe_int)))))
theorem ok__law_joints (T : Txt mg) (F : Pd K mg "_law_joints" s__law_joints ["rule", "folding"]) : Df P w K mg base 1 "_law_joints" ["rule", "folding"] (p__law_joints K) := by
  refine F.df sc__law_joints (fun vs H Q E h => ?_) (fun f cdv A outer s H vs Q E hr h => ⟨(t__law_joints K E0), ?_, r__law_joints h⟩)
  · repeat (first | (obtain ⟨rfl, _⟩ := h; rfl) | (obtain ⟨_, h⟩ := h))
  · exact (pss_cons (ps_set (i := 2) sc__law_joints.nd rfl (Or.inl rfl) (pe_lst (pa_cons pe_int pa_nil)))
      (pss_cons (ps_set (i := 3) sc__law_joints.nd rfl (Or.inl rfl) pe_bl)
      (pss_cons (ps_for PassesOwn.never rfl (pi_range1 rfl T.z_range (pa_cons (pe_callB call_len_seq (by rfl) T.z_len (by decide +kernel) (pa_cons (pv 0) pa_nil)) pa_nil)) (pg_name (i := 4) sc__law_joints.nd rfl (Or.inl rfl)) (pss_cons (ps_if (PW.pt (pw_and (pt_cmpR op_gt (pv 4) pe_int (nomark _)) (pw_and1 (pt_cmpR op_eq (pe_ix ix_list (pv 1) (pe_op op_sub (pv 4) pe_int) (fun _ _ => rfl)) pe_int (nomark _))))) (pss_one (ps_set (i := 3) sc__law_joints.nd rfl (Or.inl rfl) (pe_not (pv 3)))) pss_nil)
      (pss_one (ps_if (pt_val (pv 3)) (pss_one (ps_expr (pe_bm PySem.F.plainAttrs_list PySem.F.slot_list_append PySem.F.type_list_append mt_append (pv 2) (pa_cons (pe_op op_add (pe_ix ix_list (pv 2) (pe_un un_neg pe_int) (fun _ _ => rfl)) (pe_ix ix_list (pv 0) (pv 4) (fun _ _ => rfl))) pa_nil)))) (pss_one (ps_expr (pe_bm PySem.F.plainAttrs_list PySem.F.slot_list_append PySem.F.type_list_append mt_append (pv 2) (pa_cons (pe_op op_sub (pe_ix ix_list (pv 2) (pe_un un_neg pe_int) (fun _ _ => rfl)) (pe_ix ix_list (pv 0) (pv 4) (fun _ _ => rfl))) pa_nil))))))))
      (pss_one (ps_ret (pv 2))))))
theorem ok__law_span (T : Txt mg) (F : Pd K mg "_law_span" s__law_span ["rule", "folding"]) (D__law_joints : Df P w K mg base 1 "_law_joints" ["rule", "folding"] (p__law_joints K)) : Df P w K mg base 2 "_law_span" ["rule", "folding"] (p__law_span K) := by
  refine F.df sc__law_span (fun vs H Q E h => ?_) (fun f cdv A outer s H vs Q E hr h => ⟨(t__law_span K E0 (p__law_joints K)), ?_, r__law_span h⟩)
  · repeat (first | (obtain ⟨rfl, _⟩ := h; rfl) | (obtain ⟨_, h⟩ := h))
  · exact (pss_cons (ps_set (i := 2) sc__law_span.nd rfl (Or.inl rfl) (pe_callB cr_sorted (by rfl) T.z_sorted (by decide +kernel) (pa_cons (pe_callD D__law_joints (hr.mono (by first | decide | omega)) rfl (pa_cons (pv 0) (pa_cons (pv 1) pa_nil))) pa_nil)))
      (pss_one (ps_ret (pe_op op_sub (pe_ix ix_list (pv 2) (pe_un un_neg pe_int) (fun _ _ => rfl)) (pe_ix ix_list (pv 2) pe_int (fun _ _ => rfl))))))
theorem ok__law_numbers (T : Txt mg) (F : Pd K mg "_law_numbers" s__law_numbers ["found", "due"]) (D__law_whole : Df P w K mg base 1 "_law_whole" ["found"] p__law_whole) : Df P w K mg base 2 "_law_numbers" ["found", "due"] (p__law_numbers K) := by
  refine F.df sc__law_numbers (fun vs H Q E h => ?_) (fun f cdv A outer s H vs Q E hr h => ⟨(t__law_numbers K E0 p__law_whole), ?_, r__law_numbers h⟩)
  · repeat (first | (obtain ⟨rfl, _⟩ := h; rfl) | (obtain ⟨_, h⟩ := h))
  · exact (pss_cons (ps_if (PW.pt (pw_or (pt_not (pt_val (pe_callB call_isi (by rfl) T.z_isinstance (by decide +kernel) (pa_cons (pv 0) (pa_cons (pe_bltn rfl T.z_list (by decide +kernel) rfl) pa_nil))))) (pw_or1 (pt_cmpR (op_neD hr.units) (pv 0) (pv 1) (nomark _))))) (pss_one (ps_ret pe_bl)) pss_nil)
      (pss_one (ps_ret (pe_cmpR op_notIn_seq pe_bl (pe_lc (own := [("number", 2)]) (g := gName 2) rfl sc__law_numbers.nd (pi_list (pv 0)) (blkOk_by (own := [("number", 2)]) (N := ["found", "due", "number"]) (sc := defScope s__law_numbers) (by decide +kernel)) (fun _ _ _ _ _ => pg_name (i := 2) sc__law_numbers.nd rfl (Or.inl rfl)) (fun _ _ _ _ _ => pts_nil) (fun _ _ _ _ _ => (pe_callD D__law_whole (hr.mono (by first | decide | omega)) rfl (pa_cons (pv 2) pa_nil)))) (by rfl)))))
theorem ok_law (T : Txt mg) {f : Addr} {fd : FuncData} (F : FunD K "law" "law" (defArgs s_law) (defBody s_law) (defScope s_law) [] [] f fd) (D__law_draw : Df P w K mg base 2 "_law_draw" ["script", "k"] (p__law_draw K)) (D__law_rule : Df P w K mg base 3 "_law_rule" ["script", "pieces"] (p__law_rule K)) (D__law_folding : Df P w K mg base 3 "_law_folding" ["script", "start", "pieces"] (p__law_folding K)) (D__law_span : Df P w K mg base 2 "_law_span" ["rule", "folding"] (p__law_span K)) (D_many_fits : Df P w K mg base 17 "many_fits" ["rule", "case"] (p_many_fits0 P w K)) (D_number_of : Df P w K mg base 17 "number_of" ["rule", "case", "folding"] (p_number_of0 P w K)) (D_folding_at : Df P w K mg base 18 "folding_at" ["rule", "case", "number"] (p_folding_at0 P w K)) (D__law_numbers : Df P w K mg base 2 "_law_numbers" ["found", "due"] (p__law_numbers K)) : FnOk P w K mg base CX0 19 f fd ["script"] (p_law K) := by
  refine F.ok sc_law (fun vs H Q E h => ?_) (fun cdv A outer s H vs Q E hr h => ⟨(t_law_k05 K E0 (p__law_draw K) (p__law_rule K) (p__law_folding K) (p__law_span K) (p_many_fits0 P w K) (p_number_of0 P w K) (p_folding_at0 P w K) (p__law_numbers K)), PSs.nox ?_, r_law_k05 h⟩)
  · obtain ⟨_, _, rfl, _⟩ := h
    rfl
  · exact (pss_cons (ps_set (i := 1) sc_law.nd rfl (Or.inl rfl) (pe_op op_add pe_int (pe_op op_mod (pe_callD D__law_draw (hr.mono (by first | decide | omega)) rfl (pa_cons (pv 0) (pa_cons pe_int pa_nil))) pe_int)))
      (pss_cons (ps_set (i := 2) sc_law.nd rfl (Or.inr rfl) (pe_callD D__law_rule (hr.mono (by first | decide | omega)) rfl (pa_cons (pv 0) (pa_cons (pv 1) pa_nil))))
      (pss_cons (ps_set (i := 3) sc_law.nd rfl (Or.inl rfl) (pe_callD D__law_folding (hr.mono (by first | decide | omega)) rfl (pa_cons (pv 0) (pa_cons pe_int (pa_cons (pv 1) pa_nil)))))
      (pss_cons (ps_set (i := 4) sc_law.nd rfl (Or.inr rfl) (pe_op op_add (pe_callD D__law_span (hr.mono (by first | decide | omega)) rfl (pa_cons (pv 2) (pa_cons (pv 3) pa_nil))) (pe_op op_mod (pe_callD D__law_draw (hr.mono (by first | decide | omega)) rfl (pa_cons (pv 0) (pa_cons pe_int pa_nil))) pe_int)))
      (pss_cons (ps_set (i := 5) sc_law.nd rfl (Or.inl rfl) (pe_callD D_many_fits (hr.mono (by first | decide | omega)) rfl (pa_cons (pv 2) (pa_cons (pv 4) pa_nil))))
      (pss_cons (ps_set (i := 6) sc_law.nd rfl (Or.inl rfl) (pe_callD D_number_of (hr.mono (by first | decide | omega)) rfl (pa_cons (pv 2) (pa_cons (pv 4) (pa_cons (pv 3) pa_nil)))))
      (pss_cons (ps_if (PW.pt (pw_or (pt_not (pt_chain op_le op_lt pe_int (pv 6) (pv 5))) (pw_or1 (pt_not (pt_val (pe_callD D__law_numbers (hr.mono (by first | decide | omega)) rfl (pa_cons (pe_callD D_folding_at (hr.mono (by first | decide | omega)) rfl (pa_cons (pv 2) (pa_cons (pv 4) (pa_cons (pv 6) pa_nil)))) (pa_cons (pv 3) pa_nil)))))))) (pss_one (ps_ret pe_bl)) pss_nil)
      (pss_cons (ps_set (i := 7) sc_law.nd rfl (Or.inl rfl) (pe_callB cr_sorted (by rfl) T.z_sorted (by decide +kernel) (pa_cons (pe_lst (pa_cons (pe_op op_mod (pe_callD D__law_draw (hr.mono (by first | decide | omega)) rfl (pa_cons (pv 0) (pa_cons pe_int pa_nil))) (pv 5)) (pa_cons (pe_op op_mod (pe_callD D__law_draw (hr.mono (by first | decide | omega)) rfl (pa_cons (pv 0) (pa_cons pe_int pa_nil))) (pv 5)) pa_nil))) pa_nil)))
      (pss_cons (ps_setLc (i := 8) (own := [("one", 9)]) (g := gName 9) rfl sc_law.nd rfl rfl (sw_true rfl rfl rfl (by decide +kernel)) (pi_list (pv 7)) (blkOk_by (own := [("one", 9)]) (N := ["script", "pieces", "rule", "folding", "case", "many", "number", "numbers", "rows", "one", "k", "last", "due", "turn"]) (sc := defScope s_law) (by decide +kernel)) (fun _ _ _ _ _ => pg_name (i := 9) sc_law.nd rfl (Or.inl rfl)) (fun _ _ _ _ _ => pts_nil) (fun _ _ _ _ _ => (pe_callD D_folding_at (hr.mono (by first | decide | omega)) rfl (pa_cons (pv 2) (pa_cons (pv 4) (pa_cons (pv 9) pa_nil))))))
      (pss_cons (ps_for PassesOwn.never rfl (pi_range1 rfl T.z_range (pa_cons pe_int pa_nil)) (pg_name (i := 10) sc_law.nd rfl (Or.inl rfl)) (pss_cons (ps_if (PW.pt (pw_or (pt_cmpR op_ne (pe_callB call_len_seq (by rfl) T.z_len (by decide +kernel) (pa_cons (pe_ix ix_list (pv 8) (pv 10) (fun _ _ => rfl)) pa_nil)) (pe_op op_sub (pv 1) pe_int) (nomark _)) (pw_or1 (pt_cmpR op_gt (pe_callD D__law_span (hr.mono (by first | decide | omega)) rfl (pa_cons (pv 2) (pa_cons (pe_ix ix_list (pv 8) (pv 10) (fun _ _ => rfl)) pa_nil))) (pv 4) (nomark _))))) (pss_one (ps_ret pe_bl)) pss_nil)
      (pss_one (ps_if (pt_cmpR op_ne (pe_callD D_number_of (hr.mono (by first | decide | omega)) rfl (pa_cons (pv 2) (pa_cons (pv 4) (pa_cons (pe_ix ix_list (pv 8) (pv 10) (fun _ _ => rfl)) pa_nil)))) (pe_ix ix_list (pv 7) (pv 10) (fun _ _ => rfl)) (nomark _)) (pss_one (ps_ret pe_bl)) pss_nil))))
      (pss_cons (ps_if (PW.pt (pw_or (PW.pt (pw_and (pt_cmpR op_lt (pe_ix ix_list (pv 7) pe_int (fun _ _ => rfl)) (pe_ix ix_list (pv 7) pe_int (fun _ _ => rfl)) (nomark _)) (pw_and1 (pt_cmpR (op_geL hr.units0) (pe_ix ix_list (pv 8) pe_int (fun _ _ => rfl)) (pe_ix ix_list (pv 8) pe_int (fun _ _ => rfl)) (nomark _))))) (pw_or1 (PW.pt (pw_and (pt_cmpR op_eq (pe_ix ix_list (pv 7) pe_int (fun _ _ => rfl)) (pe_ix ix_list (pv 7) pe_int (fun _ _ => rfl)) (nomark _)) (pw_and1 (pt_cmpR (op_neD hr.units) (pe_ix ix_list (pv 8) pe_int (fun _ _ => rfl)) (pe_ix ix_list (pv 8) pe_int (fun _ _ => rfl)) (nomark _)))))))) (pss_one (ps_ret pe_bl)) pss_nil)
      (pss_cons (ps_set (i := 11) sc_law.nd rfl (Or.inl rfl) (pe_callD D_folding_at (hr.mono (by first | decide | omega)) rfl (pa_cons (pv 2) (pa_cons (pv 4) (pa_cons (pe_op op_sub (pv 5) pe_int) pa_nil)))))
      (pss_cons (ps_if (PW.pt (pw_or (pt_cmpR op_ne (pe_callD D_number_of (hr.mono (by first | decide | omega)) rfl (pa_cons (pv 2) (pa_cons (pv 4) (pa_cons (pv 11) pa_nil)))) (pe_op op_sub (pv 5) pe_int) (nomark _)) (pw_or1 (pt_cmpR (op_ltL hr.units0) (pv 11) (pe_ix ix_list (pv 8) pe_int (fun _ _ => rfl)) (nomark _))))) (pss_one (ps_ret pe_bl)) pss_nil)
      (pss_cons (ps_expr (pe_bm PySem.F.plainAttrs_list PySem.F.slot_list_append PySem.F.type_list_append mt_append (pv 11) (pa_cons pe_int pa_nil)))
      (pss_cons (ps_if (pt_cmpR op_ne (pe_callB call_len_seq (by rfl) T.z_len (by decide +kernel) (pa_cons (pe_callD D_folding_at (hr.mono (by first | decide | omega)) rfl (pa_cons (pv 2) (pa_cons (pv 4) (pa_cons (pe_op op_sub (pv 5) pe_int) pa_nil)))) pa_nil)) (pe_op op_sub (pv 1) pe_int) (nomark _)) (pss_one (ps_ret pe_bl)) pss_nil)
      (pss_cons (ps_set (i := 12) sc_law.nd rfl (Or.inl rfl) pe_int)
      (pss_cons (ps_for PassesOwn.never rfl (pi_list (pv 3)) (pg_name (i := 13) sc_law.nd rfl (Or.inl rfl)) (pss_one (ps_set (i := 12) sc_law.nd rfl (Or.inl rfl) (pe_op op_add (pe_op op_mul pe_int (pv 12)) (pv 13)))))
      (pss_one (ps_ret (pe_and (pe_cmpR op_eq (pe_callD D_number_of (hr.mono (by first | decide | omega)) rfl (pa_cons (pv 2) (pa_cons (pe_callB (cr_sum rfl) (by rfl) T.z_sum (by decide +kernel) (pa_cons (pv 2) pa_nil)) (pa_cons (pv 3) pa_nil)))) (pv 12) (nomark _)) (pe_one (pe_callD D__law_numbers (hr.mono (by first | decide | omega)) rfl (pa_cons (pe_callD D_folding_at (hr.mono (by first | decide | omega)) rfl (pa_cons (pv 2) (pa_cons pe_int (pa_cons (pv 12) pa_nil)))) (pa_cons (pv 3) pa_nil))))))))))))))))))))))))
end
abbrev FnA (n : Str) (st : Stmt) : He.DefD := ⟨(n, none), n, n, defArgs st, defBody st, defScope st, [], []⟩
def fn : List He.DefD := [FnA "see_rule" s_see_rule, FnA "see_folding" s_see_folding, FnA "places_of" s_places_of, FnA "span" s_span, FnA "moved" s_moved, FnA "turned" s_turned, FnA "behind_turn" s_behind_turn, FnA "ways_from" s_ways_from, FnA "many_fits" s_many_fits, FnA "folding_at" s_folding_at, FnA "number_of" s_number_of, FnA "_law_cell_at" s__law_cell_at, FnA "_law_draw" s__law_draw, FnA "_law_whole" s__law_whole, FnA "_law_rule" s__law_rule, FnA "_law_folding" s__law_folding, FnA "_law_joints" s__law_joints, FnA "_law_span" s__law_span, FnA "_law_numbers" s__law_numbers, FnA "law" s_law]
def fa : List He.Fa := [.glo "see_rule", .glo "see_folding", .glo "places_of", .glo "span", .glo "moved", .glo "turned", .glo "behind_turn", .glo "ways_from", .glo "many_fits", .glo "folding_at", .glo "number_of", .glo "_law_cell_at", .glo "_law_draw", .glo "_law_whole", .glo "_law_rule", .glo "_law_folding", .glo "_law_joints", .glo "_law_span", .glo "_law_numbers", .glo "law", .free "bool", .free "int", .free "isinstance", .free "len", .free "list", .free "max", .free "min", .free "range", .free "sorted", .free "sum", .int "PIECES" 12, .int "LONGEST" 60]
abbrev R : PySem.W.OpenRow := PySem.W.OpenLaw.row PySem.Challenge.rw_foldrule_k05_whole_numbers_of_greater_ru
abbrev hk : PySem.W.Hook := He.hookD 4 fa fn
def ob (s : PySem.W.SharedT) : He.AlD := He.obsDG 4 fa fn (HandSHeadRun.getT s)
theorem ob_eq (s : PySem.W.SharedT) : ob s = hk.obs s.abs := He.obsDG_eq (HandSHeadRun.getT_eq s)
def loose : List Str := ["RuleError", "BadRule", "BadFolding", "NoSuch", "PIECES", "LONGEST", "see_rule", "see_folding", "places_of", "span", "moved", "turned", "behind_turn", "ways_from", "many_fits", "folding_at", "number_of", "_law_cell_at", "_law_draw", "_law_whole", "_law_rule", "_law_folding", "_law_joints", "_law_span", "_law_numbers"]
theorem run (w : World) : HandSHeadRun.RunEq R (PySem.W.view R.prog [29]) hk ob 6000 loose w := by
  intro os
  kernel_rfl
theorem facts {P : Program} {w : World} {K : PySem.W.Frag} {h : Heap} {mg : Str → Option Value} {f : Addr} (X : K.In h) (G : h.Ns mainGlobals mg) (hfa : mg ("law" : Str) = some (.ref f)) (c : He.SaysD fa fn K) :
    ∃ fd : FuncData, (∀ (s : Shared) (v : Value), BindsTo s fd ⟨[v], []⟩ [("script", v)]) ∧ ∀ base : Heap, K.In base → base.Ns mainGlobals mg → FnOk P w K mg base CX0 19 f fd ["script"] (p_law K) := by
  have T : Txt mg := ⟨He.free_ok X G (c.fact 20 (f := .free "bool") rfl), He.free_ok X G (c.fact 21 (f := .free "int") rfl), He.free_ok X G (c.fact 22 (f := .free "isinstance") rfl), He.free_ok X G (c.fact 23 (f := .free "len") rfl), He.free_ok X G (c.fact 24 (f := .free "list") rfl), He.free_ok X G (c.fact 25 (f := .free "max") rfl), He.free_ok X G (c.fact 26 (f := .free "min") rfl), He.free_ok X G (c.fact 27 (f := .free "range") rfl), He.free_ok X G (c.fact 28 (f := .free "sorted") rfl), He.free_ok X G (c.fact 29 (f := .free "sum") rfl), He.int_ok X G (c.fact 30 (f := .int "PIECES" 12) rfl), He.int_ok X G (c.fact 31 (f := .int "LONGEST" 60) rfl)⟩
  have P_see_rule : Pd K mg "see_rule" s_see_rule ["rule"] := by
    obtain ⟨fd, F⟩ := c.def_ 0 (d := FnA "see_rule" s_see_rule) rfl
    exact ⟨_, fd, F, He.glo_ok X G (c.fact 0 (f := .glo "see_rule") rfl), F.bindsN fun _ _ _ _ _ _ us hl => match us, hl with | [_], _ => rfl⟩
  have P_see_folding : Pd K mg "see_folding" s_see_folding ["rule", "folding"] := by
    obtain ⟨fd, F⟩ := c.def_ 1 (d := FnA "see_folding" s_see_folding) rfl
    exact ⟨_, fd, F, He.glo_ok X G (c.fact 1 (f := .glo "see_folding") rfl), F.bindsN fun _ _ _ _ _ _ us hl => match us, hl with | [_, _], _ => rfl⟩
  have P_places_of : Pd K mg "places_of" s_places_of ["rule", "folding"] := by
    obtain ⟨fd, F⟩ := c.def_ 2 (d := FnA "places_of" s_places_of) rfl
    exact ⟨_, fd, F, He.glo_ok X G (c.fact 2 (f := .glo "places_of") rfl), F.bindsN fun _ _ _ _ _ _ us hl => match us, hl with | [_, _], _ => rfl⟩
  have P_span : Pd K mg "span" s_span ["rule", "folding"] := by
    obtain ⟨fd, F⟩ := c.def_ 3 (d := FnA "span" s_span) rfl
    exact ⟨_, fd, F, He.glo_ok X G (c.fact 3 (f := .glo "span") rfl), F.bindsN fun _ _ _ _ _ _ us hl => match us, hl with | [_, _], _ => rfl⟩
  have P_moved : Pd K mg "moved" s_moved ["state", "length"] := by
    obtain ⟨fd, F⟩ := c.def_ 4 (d := FnA "moved" s_moved) rfl
    exact ⟨_, fd, F, He.glo_ok X G (c.fact 4 (f := .glo "moved") rfl), F.bindsN fun _ _ _ _ _ _ us hl => match us, hl with | [_, _], _ => rfl⟩
  have P_turned : Pd K mg "turned" s_turned ["state"] := by
    obtain ⟨fd, F⟩ := c.def_ 5 (d := FnA "turned" s_turned) rfl
    exact ⟨_, fd, F, He.glo_ok X G (c.fact 5 (f := .glo "turned") rfl), F.bindsN fun _ _ _ _ _ _ us hl => match us, hl with | [_], _ => rfl⟩
  have P_behind_turn : Pd K mg "behind_turn" s_behind_turn ["state", "turn", "length"] := by
    obtain ⟨fd, F⟩ := c.def_ 6 (d := FnA "behind_turn" s_behind_turn) rfl
    exact ⟨_, fd, F, He.glo_ok X G (c.fact 6 (f := .glo "behind_turn") rfl), F.bindsN fun _ _ _ _ _ _ us hl => match us, hl with | [_, _, _], _ => rfl⟩
  have P_ways_from : Pd K mg "ways_from" s_ways_from ["rule", "done", "state", "case", "known"] := by
    obtain ⟨fd, F⟩ := c.def_ 7 (d := FnA "ways_from" s_ways_from) rfl
    exact ⟨_, fd, F, He.glo_ok X G (c.fact 7 (f := .glo "ways_from") rfl), F.bindsN fun _ _ _ _ _ _ us hl => match us, hl with | [_, _, _, _, _], _ => rfl⟩
  have P_many_fits : Pd K mg "many_fits" s_many_fits ["rule", "case"] := by
    obtain ⟨fd, F⟩ := c.def_ 8 (d := FnA "many_fits" s_many_fits) rfl
    exact ⟨_, fd, F, He.glo_ok X G (c.fact 8 (f := .glo "many_fits") rfl), F.bindsN fun _ _ _ _ _ _ us hl => match us, hl with | [_, _], _ => rfl⟩
  have P_folding_at : Pd K mg "folding_at" s_folding_at ["rule", "case", "number"] := by
    obtain ⟨fd, F⟩ := c.def_ 9 (d := FnA "folding_at" s_folding_at) rfl
    exact ⟨_, fd, F, He.glo_ok X G (c.fact 9 (f := .glo "folding_at") rfl), F.bindsN fun _ _ _ _ _ _ us hl => match us, hl with | [_, _, _], _ => rfl⟩
  have P_number_of : Pd K mg "number_of" s_number_of ["rule", "case", "folding"] := by
    obtain ⟨fd, F⟩ := c.def_ 10 (d := FnA "number_of" s_number_of) rfl
    exact ⟨_, fd, F, He.glo_ok X G (c.fact 10 (f := .glo "number_of") rfl), F.bindsN fun _ _ _ _ _ _ us hl => match us, hl with | [_, _, _], _ => rfl⟩
  have P__law_cell_at : Pd K mg "_law_cell_at" s__law_cell_at ["script", "k"] := by
    obtain ⟨fd, F⟩ := c.def_ 11 (d := FnA "_law_cell_at" s__law_cell_at) rfl
    exact ⟨_, fd, F, He.glo_ok X G (c.fact 11 (f := .glo "_law_cell_at") rfl), F.bindsN fun _ _ _ _ _ _ us hl => match us, hl with | [_, _], _ => rfl⟩
  have P__law_draw : Pd K mg "_law_draw" s__law_draw ["script", "k"] := by
    obtain ⟨fd, F⟩ := c.def_ 12 (d := FnA "_law_draw" s__law_draw) rfl
    exact ⟨_, fd, F, He.glo_ok X G (c.fact 12 (f := .glo "_law_draw") rfl), F.bindsN fun _ _ _ _ _ _ us hl => match us, hl with | [_, _], _ => rfl⟩
  have P__law_whole : Pd K mg "_law_whole" s__law_whole ["found"] := by
    obtain ⟨fd, F⟩ := c.def_ 13 (d := FnA "_law_whole" s__law_whole) rfl
    exact ⟨_, fd, F, He.glo_ok X G (c.fact 13 (f := .glo "_law_whole") rfl), F.bindsN fun _ _ _ _ _ _ us hl => match us, hl with | [_], _ => rfl⟩
  have P__law_rule : Pd K mg "_law_rule" s__law_rule ["script", "pieces"] := by
    obtain ⟨fd, F⟩ := c.def_ 14 (d := FnA "_law_rule" s__law_rule) rfl
    exact ⟨_, fd, F, He.glo_ok X G (c.fact 14 (f := .glo "_law_rule") rfl), F.bindsN fun _ _ _ _ _ _ us hl => match us, hl with | [_, _], _ => rfl⟩
  have P__law_folding : Pd K mg "_law_folding" s__law_folding ["script", "start", "pieces"] := by
    obtain ⟨fd, F⟩ := c.def_ 15 (d := FnA "_law_folding" s__law_folding) rfl
    exact ⟨_, fd, F, He.glo_ok X G (c.fact 15 (f := .glo "_law_folding") rfl), F.bindsN fun _ _ _ _ _ _ us hl => match us, hl with | [_, _, _], _ => rfl⟩
  have P__law_joints : Pd K mg "_law_joints" s__law_joints ["rule", "folding"] := by
    obtain ⟨fd, F⟩ := c.def_ 16 (d := FnA "_law_joints" s__law_joints) rfl
    exact ⟨_, fd, F, He.glo_ok X G (c.fact 16 (f := .glo "_law_joints") rfl), F.bindsN fun _ _ _ _ _ _ us hl => match us, hl with | [_, _], _ => rfl⟩
  have P__law_span : Pd K mg "_law_span" s__law_span ["rule", "folding"] := by
    obtain ⟨fd, F⟩ := c.def_ 17 (d := FnA "_law_span" s__law_span) rfl
    exact ⟨_, fd, F, He.glo_ok X G (c.fact 17 (f := .glo "_law_span") rfl), F.bindsN fun _ _ _ _ _ _ us hl => match us, hl with | [_, _], _ => rfl⟩
  have P__law_numbers : Pd K mg "_law_numbers" s__law_numbers ["found", "due"] := by
    obtain ⟨fd, F⟩ := c.def_ 18 (d := FnA "_law_numbers" s__law_numbers) rfl
    exact ⟨_, fd, F, He.glo_ok X G (c.fact 18 (f := .glo "_law_numbers") rfl), F.bindsN fun _ _ _ _ _ _ us hl => match us, hl with | [_, _], _ => rfl⟩
  obtain ⟨fdL, FL⟩ := c.def_ 19 (d := FnA "law" s_law) rfl
  have gL := He.glo_ok X G (c.fact 19 (f := .glo "law") rfl)
  have bA := FunD.bindsA (ps := ["script"]) FL fun _ _ _ _ _ _ us hl => match us, hl with | [_], _ => rfl
  have eL := hfa.symm.trans gL
  cases eL
  refine ⟨fdL, fun s v => bA s [v] rfl, fun base _ _ => ?_⟩
  have D_see_rule := ok_see_rule (P := P) (w := w) (base := base) T P_see_rule
  have D_see_folding := ok_see_folding (P := P) (w := w) (base := base) T P_see_folding D_see_rule
  have D_places_of := ok_places_of (P := P) (w := w) (base := base) T P_places_of
  have D_span := ok_span (P := P) (w := w) (base := base) T P_span D_see_folding D_places_of
  have D_moved := ok_moved (P := P) (w := w) (base := base) T P_moved
  have D_turned := ok_turned (P := P) (w := w) (base := base) T P_turned
  have D_behind_turn := ok_behind_turn (P := P) (w := w) (base := base) T P_behind_turn D_turned D_moved
  have D_ways_from := ok_ways_from (P := P) (w := w) (base := base) T P_ways_from D_behind_turn
  have D_many_fits := ok_many_fits (P := P) (w := w) (base := base) T P_many_fits D_see_rule D_ways_from
  have D_folding_at := ok_folding_at (P := P) (w := w) (base := base) T P_folding_at D_see_rule D_many_fits D_behind_turn D_ways_from
  have D_number_of := ok_number_of (P := P) (w := w) (base := base) T P_number_of D_see_folding D_span D_behind_turn D_ways_from
  have D__law_cell_at := ok__law_cell_at (P := P) (w := w) (base := base) T P__law_cell_at
  have D__law_draw := ok__law_draw (P := P) (w := w) (base := base) T P__law_draw D__law_cell_at
  have D__law_whole := ok__law_whole (P := P) (w := w) (base := base) T P__law_whole
  have D__law_rule := ok__law_rule (P := P) (w := w) (base := base) T P__law_rule D__law_draw
  have D__law_folding := ok__law_folding (P := P) (w := w) (base := base) T P__law_folding D__law_draw
  have D__law_joints := ok__law_joints (P := P) (w := w) (base := base) T P__law_joints
  have D__law_span := ok__law_span (P := P) (w := w) (base := base) T P__law_span D__law_joints
  have D__law_numbers := ok__law_numbers (P := P) (w := w) (base := base) T P__law_numbers D__law_whole
  exact ok_law (P := P) (w := w) (base := base) T FL D__law_draw D__law_rule D__law_folding D__law_span D_many_fits D_number_of D_folding_at D__law_numbers
end Lw
open PySem PySem.W PySem.Calls PyProof.Rows
set_option maxRecDepth 100000 in
set_option maxHeartbeats 0 in
theorem PySem.Challenge.cw_foldrule_k05_whole_numbers_of_greater_ru_holds : PySem.Challenge.rw_foldrule_k05_whole_numbers_of_greater_ru.Holds := by
  w_on; o_law
  refine HandSHeadRun.head_any (r := OpenLaw.row PySem.Challenge.rw_foldrule_k05_whole_numbers_of_greater_ru) (q := view (OpenLaw.row PySem.Challenge.rw_foldrule_k05_whole_numbers_of_greater_ru).prog [29]) (H := Lw.hk) (ob := Lw.ob) (M := 6000) (loose := Lw.loose) (d := HandSHeadRun.topDef (OpenLaw.row PySem.Challenge.rw_foldrule_k05_whole_numbers_of_greater_ru).prog 29) (kwd := []) Lw.ob_eq
    (by kernel_rfl) (fun s => by kernel_rfl) Lw.run (by kernel_rfl) (by kernel_rfl) (by kernel_rfl) (by rfl) (by first | assumption | decide +kernel) (by decide +kernel) ⟨rfl, rfl, rfl, rfl, rfl, by decide +kernel⟩ ?hw ?hc
  case hw => w_witness2
  case hc =>
    refine L2.walk_ofE (l := PySem.Challenge.rw_foldrule_k05_whole_numbers_of_greater_ru) (n := 63) (k := 19) (x := "script") (CX := L2.CX0) rfl (by decide) (by kernel_rfl) ⟨rfl, by decide, by decide⟩ ?F (fun _ _ _ _ z => z)
    intro w mg fa h Y G hmg0
    obtain ⟨K, KX, c⟩ := Y
    have hmg : mg ("law" : PySem.Str) = some (.ref fa) := by
      have e : (HandSHeadRun.topDef (OpenLaw.row PySem.Challenge.rw_foldrule_k05_whole_numbers_of_greater_ru).prog 29).name = ("law" : PySem.Str) := by kernel_rfl
      rw [← e]
      exact hmg0
    obtain ⟨fd, hb, hF⟩ := Lw.facts (P := (PySem.Challenge.rw_foldrule_k05_whole_numbers_of_greater_ru).prog) (w := w) KX G hmg c
    exact ⟨K, fd, Fo.p_law K, KX, hb, fun H a ns hl _ hS => ⟨a, ns, rfl, hS, fun _ => rfl⟩, hF⟩
#print axioms PySem.Challenge.cw_foldrule_k05_whole_numbers_of_greater_ru_holds

