import PyProof.Rows.All
import Wide.All
import OpenK.AllK
import Wide.FinOn
import HandS.ForMost
import HandS.Evl
import HandS.Steps
import HandS.IsInst
import HandS.Defaults
import HandS.Head0
import HandS.Head1
import HandS.Head2
import HandS.HeadEnd
import HandS.HeadHook1
import HandS.HeadHook2
import PySem.Challenge.RW_foldrule_k01_joints_and_spans
set_option Elab.async false
set_option linter.all false
set_option maxRecDepth 100000
set_option maxHeartbeats 4000000
/-! Generic part: defs as data, calls by them, more of what evaluates to what. -/
namespace Fo
open PySem PySem.Spec PyProof.Rows L2 Evl
/-! ### a def of the top, its promise -/
/-- the def x of the text stands behind the top -/
structure Pd (K : PySem.W.Frag) (mg : Str → Option Value) (x : Str) (st : Stmt) (ps : List Str) : Prop where
  ex : ∃ f fd, FunD K x x (defArgs st) (defBody st) (defScope st) [] [] f fd ∧ mg x = some (.ref f) ∧ Binds K fd ps []
/-- it keeps a promise -/
structure Df (P : Program) (w : World) (K : PySem.W.Frag) (mg : Str → Option Value) (base : Heap) (k : Nat) (x : Str) (ps : List Str) (sp : Sp) : Prop where
  ex : ∃ f fd, FnOk P w K mg base CX0 k f fd ps sp ∧ mg x = some (.ref f) ∧ PySem.W.keepIn K (.ref f) = true ∧ Binds K fd ps []
section
variable {P : Program} {w : World} {K : PySem.W.Frag} {mg : Str → Option Value} {base : Heap} {x : Str} {st : Stmt} {ps N : List Str} {k : Nat} {sp : Sp}
theorem Pd.df (F : Pd K mg x st ps) (S : FnScope N ps (defScope st)) (len : ∀ vs H Q E, sp vs H Q E → vs.length = ps.length)
    (hbody : ∀ (f : Addr) (cdv : Value) (A : Around) (outer : List Env) (s : Shared) (H : Hp) (vs : List V) (Q : VK) (E : XK), Room k (A.deeper (envOfC x (defScope st) s.heap.objs.size f cdv)) → sp vs H Q E →
      ∃ t, PSs (cxOf CX0 P w K mg base N x (defScope st) f cdv A outer s H E).nox (defBody st) t ∧ t { nx := fun _ H' => Q .non H', rt := Q } (start N vs) H) : Df P w K mg base (k + 1) x ps sp := by
  obtain ⟨f, fd, F1, hm, hb⟩ := F.ex
  exact ⟨f, fd, F1.ok S len fun cdv A outer s H vs Q E hr h => let ⟨t, d, r⟩ := hbody f cdv A outer s H vs Q E hr h; ⟨t, d.nox, r⟩, hm, F1.kp, hb⟩
theorem Df.mono {j : Nat} (D : Df P w K mg base j x ps sp) (h : j ≤ k) : Df P w K mg base k x ps sp := by
  obtain ⟨f, fd, F, r⟩ := D.ex
  exact ⟨f, fd, F.mono h, r⟩
end
section
variable {X : Cx}
theorem pe_callD {k : Nat} {x : Str} {ps : List Str} {sp : Sp} {e : Expr} {es : List Expr} {t : TA} {p pos : Pos} (D : Df X.prog X.w X.K X.mg X.base k x ps sp) (hr : Room k X.A) (hg : Gl X x) (ha : PA X (e :: es) t) (hdb : (x == ("__debug__" : Str)) = false := by decide)
    (he : starEach (e :: es) X.env = (false, eval e X.env) :: starEach es X.env := by rfl) (hpl : (backTo pos (starEach es X.env)).any (·.1) = false := by rfl) :
    PE X (.Call (.Name x p) (e :: es) [] pos) (tCall sp [] E0 t) := by
  obtain ⟨f, fd, F, hm, hk, hb⟩ := D.ex
  exact pe_call F hr hg hm hk hb .nil pass0 ha hdb he hpl
theorem pe_gint {x : Str} {i : Int} {pos : Pos} (hg : Gl X x) (hm : ∃ t, X.mg x = some (.int i t)) (hd : (x == ("__debug__" : Str)) = false := by decide) : PE X (.Name x pos) (tC (.int i)) := by
  obtain ⟨t, h⟩ := hm
  exact pe_glob hg h ⟨t, rfl⟩ hd
theorem pe_gstr {x z : Str} {pos : Pos} (hg : Gl X x) (hm : ∃ t, X.mg x = some (.str z t)) (hd : (x == ("__debug__" : Str)) = false := by decide) : PE X (.Name x pos) (tC (.str z)) := by
  obtain ⟨t, h⟩ := hm
  exact pe_glob hg h ⟨t, rfl⟩ hd
end
/-! ### readings by short names -/
abbrev rAddI : R2 := rI0 fun i j => .int (i + j)
abbrev rSubI : R2 := rI0 fun i j => .int (i - j)
abbrev rMulI : R2 := rI CMul fun i j => .int (i * j)
abbrev rModI : R2 := rI (fun _ j => 0 < j) fun i j => .int (i % j)
abbrev rDivI : R2 := rI CDiv fun i j => .int (i / j)
abbrev rLtI : R2 := rI0 fun i j => .bl (decide (i < j))
abbrev rLeI : R2 := rI0 fun i j => .bl (decide (i ≤ j))
abbrev rGtI : R2 := rI0 fun i j => .bl (decide (j < i))
abbrev rGeI : R2 := rI0 fun i j => .bl (decide (j ≤ i))
abbrev rNegI : V → Hp → VK → Prop := rU fun i => .int (-i)
end Fo

namespace Fo
open PySem PySem.Spec PyProof.Rows L2 Evl
/-! ### lists of ints -/
abbrev iv (ns : List Int) : List V := ns.map V.int
theorem iv_get {ns : List Int} {i : Nat} {v : V} (h : (iv ns)[i]? = some v) : ∃ n, ns[i]? = some n ∧ v = .int n := by
  rw [List.getElem?_map] at h
  cases e : ns[i]? with
  | none => rw [e] at h; cases h
  | some n => rw [e] at h; exact ⟨n, rfl, (Option.some.inj h).symm⟩
theorem iv_at {ns : List Int} {i : Nat} {n : Int} (h : ns[i]? = some n) : (iv ns)[i]? = some (.int n) := by
  rw [List.getElem?_map, h]; rfl
theorem iv_len (ns : List Int) : (iv ns).length = ns.length := List.length_map _
/-! ### data -/
def dI (ns : List Int) : PyData := .list (ns.map PyData.int)
theorem dpAll_ints {K : PySem.W.Frag} {H : Hp} : ∀ ns : List Int, DpAll K H (iv ns) (ns.map PyData.int)
  | [] => .nil
  | n :: ns => .cons (.int n) (dpAll_ints ns)
theorem dp_ints {K : PySem.W.Frag} {H : Hp} {a : Addr} {ns : List Int} (h : SqL K H a (iv ns)) : Dp K H (.ref a) (dI ns) := .lst h (dpAll_ints ns)
theorem lay_ints : ∀ ns : List Int, PyData.canLayAll0 (ns.map PyData.int) = true
  | [] => by simp [PyData.canLayAll0]
  | n :: ns => by simp [PyData.canLayAll0, PyData.canLay0, lay_ints ns]
theorem depth_ints : ∀ ns : List Int, PyData.depthAll (ns.map PyData.int) ≤ 1
  | [] => by simp [PyData.depthAll]
  | n :: ns => by
    have := depth_ints ns
    simp only [List.map_cons, PyData.depthAll, PyData.depth]
    omega
theorem shaped_dI (ns : List Int) : SeqAt.shaped (dI ns) = true := by
  have := depth_ints ns
  simp only [SeqAt.shaped, dI, PyData.canLay0, lay_ints, PyData.depth, Bool.true_and, decide_eq_true_eq]
  omega
theorem eqvAll_ints : ∀ ns ms : List Int, PyData.eqvAll (ns.map PyData.int) (ms.map PyData.int) = decide (ns = ms)
  | [], [] => by simp [PyData.eqvAll]
  | [], _ :: _ => by simp [PyData.eqvAll]
  | _ :: _, [] => by simp [PyData.eqvAll]
  | n :: ns, m :: ms => by
    simp only [List.map_cons, PyData.eqvAll, PyData.eqv, eqvAll_ints ns ms]
    by_cases e : n = m
    · subst e; by_cases e2 : ns = ms <;> simp [e2]
    · simp [e]
theorem eqv_dI (ns ms : List Int) : PyData.eqv (dI ns) (dI ms) = decide (ns = ms) := by
  unfold dI
  rw [PyData.eqv]
  exact eqvAll_ints ns ms
/-- lists of lists of ints -/
def dLL (xs : List (List Int)) : PyData := .list (xs.map dI)
theorem lay_LL : ∀ xs : List (List Int), PyData.canLayAll0 (xs.map dI) = true
  | [] => by simp [PyData.canLayAll0]
  | n :: ns => by simp [PyData.canLayAll0, PyData.canLay0, dI, lay_ints, lay_LL ns]
theorem depth_LL : ∀ xs : List (List Int), PyData.depthAll (xs.map dI) ≤ 3
  | [] => by simp [PyData.depthAll]
  | n :: ns => by
    have h1 := depth_LL ns
    have h2 := depth_ints n
    simp only [List.map_cons, PyData.depthAll, dI, PyData.depth]
    omega
theorem shaped_dLL (xs : List (List Int)) : SeqAt.shaped (dLL xs) = true := by
  have := depth_LL xs
  simp only [SeqAt.shaped, dLL, PyData.canLay0, lay_LL, PyData.depth, Bool.true_and, decide_eq_true_eq]
  omega
theorem eqvAll_LL : ∀ xs ys : List (List Int), PyData.eqvAll (xs.map dI) (ys.map dI) = decide (xs = ys)
  | [], [] => by simp [PyData.eqvAll]
  | [], _ :: _ => by simp [PyData.eqvAll]
  | _ :: _, [] => by simp [PyData.eqvAll]
  | n :: ns, m :: ms => by
    simp only [List.map_cons, PyData.eqvAll, eqv_dI, eqvAll_LL ns ms]
    by_cases e : n = m
    · subst e; by_cases e2 : ns = ms <;> simp [e2]
    · simp [e]
theorem eqv_dLL (xs ys : List (List Int)) : PyData.eqv (dLL xs) (dLL ys) = decide (xs = ys) := by
  unfold dLL
  rw [PyData.eqv]
  exact eqvAll_LL xs ys
/-! ### more of what evaluates to what -/
section
variable {K : PySem.W.Frag} {σ : L2.St} {H H' : Hp} {ta tb tc te tx : TE} {t u : TT} {x y z v : V} {r r' : R2} {D : Ends} {tu tw tz : TS} {g : TG}
theorem ev_chain {a b : Bool} (ha : Ev ta σ H x) (hb : Ev tb σ H y) (h1 : RV r x y H (.bl a)) (hc : a = true → Ev tc σ H z) (h2 : a = true → RV r' y z H (.bl b)) : Ev (tChain r r' ta tb tc) σ H (.bl (a && b)) := fun H1 e Q q =>
  ha H1 e _ fun H2 e2 => hb H2 (e.trans e2) _ fun H3 e3 => h1 H3 ((e.trans e2).trans e3) _ fun H4 e4 => ⟨a, rfl, by
    cases a with
    | true =>
      rw [if_pos rfl]
      exact hc rfl H4 (((e.trans e2).trans e3).trans e4) _ fun H5 e5 => h2 rfl H5 ((((e.trans e2).trans e3).trans e4).trans e5) Q fun H6 e6 => q H6 ((((e2.trans e3).trans e4).trans e5).trans e6)
    | false =>
      rw [if_neg Bool.false_ne_true]
      exact q H4 ((e2.trans e3).trans e4)⟩
theorem rv_neI {a b : Addr} {ns ms : List Int} (h1 : SqL K H a (iv ns)) (h2 : SqL K H b (iv ms)) : RV (rNeD K) (.ref a) (.ref b) H (.bl (!decide (ns = ms))) := fun H1 e Q q =>
  ⟨dI ns, dI ms, dp_ints (ex_l e h1), dp_ints (ex_l e h2), shaped_dI _, shaped_dI _, by rw [eqv_dI]; exact q H1 (Ex.refl _)⟩
theorem rv_eqI {a b : Addr} {ns ms : List Int} (h1 : SqL K H a (iv ns)) (h2 : SqL K H b (iv ms)) : RV (rEqD K) (.ref a) (.ref b) H (.bl (decide (ns = ms))) := fun H1 e Q q =>
  ⟨dI ns, dI ms, dp_ints (ex_l e h1), dp_ints (ex_l e h2), shaped_dI _, shaped_dI _, by rw [eqv_dI]; exact q H1 (Ex.refl _)⟩
/-- a list of refs to lists of ints -/
def RowsAt (K : PySem.W.Frag) (H : Hp) : List V → List (List Int) → Prop := Paired fun v ns => ∃ a, v = .ref a ∧ SqL K H a (iv ns)
theorem RowsAt.mono (e : Ex H H') : ∀ {vs : List V} {xs : List (List Int)}, RowsAt K H vs xs → RowsAt K H' vs xs
  | _, _, .nil => .nil
  | _, _, .cons ⟨a, h1, h2⟩ t => .cons ⟨a, h1, ex_l e h2⟩ (RowsAt.mono e t)
theorem RowsAt.dp : ∀ {vs : List V} {xs : List (List Int)}, RowsAt K H vs xs → DpAll K H vs (xs.map dI)
  | _, _, .nil => .nil
  | _, _, .cons ⟨a, h1, h2⟩ t => by rw [h1]; exact .cons (dp_ints h2) (RowsAt.dp t)
theorem rv_neLL {a b : Addr} {vs ws : List V} {xs ys : List (List Int)} (h1 : SqL K H a vs) (r1 : RowsAt K H vs xs) (h2 : SqL K H b ws) (r2 : RowsAt K H ws ys) : RV (rNeD K) (.ref a) (.ref b) H (.bl (!decide (xs = ys))) := fun H1 e Q q =>
  ⟨dLL xs, dLL ys, .lst (ex_l e h1) (r1.mono e).dp, .lst (ex_l e h2) (r2.mono e).dp, shaped_dLL _, shaped_dLL _, by rw [eqv_dLL]; exact q H1 (Ex.refl _)⟩
theorem rv_eqLL {a b : Addr} {vs ws : List V} {xs ys : List (List Int)} (h1 : SqL K H a vs) (r1 : RowsAt K H vs xs) (h2 : SqL K H b ws) (r2 : RowsAt K H ws ys) : RV (rEqD K) (.ref a) (.ref b) H (.bl (decide (xs = ys))) := fun H1 e Q q =>
  ⟨dLL xs, dLL ys, .lst (ex_l e h1) (r1.mono e).dp, .lst (ex_l e h2) (r2.mono e).dp, shaped_dLL _, shaped_dLL _, by rw [eqv_dLL]; exact q H1 (Ex.refl _)⟩
/-- a comprehension without a test over range(n): all turns give -/
theorem given_all (n : Nat) (v : Nat → V) : given n (fun _ => true) v = (List.range n).map v := by
  unfold given
  rw [List.filter_eq_self.mpr (fun _ _ => rfl)]
theorem et_yes : EvT tYes σ H true := fun H1 _ Q q => q H1 (Ex.refl H1)
theorem el_lcRy {ta : TA} {j : Nat} {vs : List Nat} {n : Nat} (v : Nat → V) (h : EvA ta σ H [.int (n : Int)]) (hn : n ≤ 40000) (hw : ∀ x, wipe ((wipe σ vs).set j (some x)) vs = wipe σ vs)
    (he : ∀ (i : Nat) H1, Ex H H1 → i < n → Ev te ((wipe σ vs).set j (some (.int (i : Int)))) H1 (v i)) : EvL (tLc (iRng1 ta) (gName j) tYes te vs) σ H ((List.range n).map v) := by
  have h1 := el_lcR1 (te := te) (fun _ => true) v h ⟨by omega, by omega⟩ hw (fun i H1 e hi => et_yes) (fun i H1 e hi _ => he i H1 e (by omega))
  rw [given_all] at h1
  exact h1
theorem el_lcLy {a : Addr} {xs : List V} {tl : TE} {j : Nat} {vs : List Nat} (v : Nat → V) (h : Ev tl σ H (.ref a)) (hx : SqL K H a xs) (hz : xs.length ≤ 40000) (hw : ∀ x, wipe ((wipe σ vs).set j (some x)) vs = wipe σ vs)
    (he : ∀ (i : Nat) (x : V) H1, Ex H H1 → xs[i]? = some x → Ev te ((wipe σ vs).set j (some x)) H1 (v i)) : EvL (tLc (iList K tl) (gName j) tYes te vs) σ H ((List.range xs.length).map v) := by
  have h1 := el_lcL (te := te) (fun _ => true) v h hx hz hw (fun i x H1 e hi => et_yes) (fun i x H1 e hi _ => he i x H1 e hi)
  rw [given_all] at h1
  exact h1
/-- nothing is given where no turn's test holds; something where one does -/
theorem given_nil {n : Nat} {f : Nat → Bool} {v : Nat → V} (h : ∀ i, i < n → f i = false) : given n f v = [] := by
  unfold given
  rw [List.filter_eq_nil_iff.mpr (fun i hi => by rw [h i (List.mem_range.mp hi)]; exact Bool.false_ne_true)]
  rfl
theorem given_ints {n : Nat} {f : Nat → Bool} {g : Nat → Int} : given n f (fun i => V.int (g i)) = iv (((List.range n).filter f).map g) := by
  show (((List.range n).filter f).map fun i => V.int (g i)) = (((List.range n).filter f).map g).map V.int
  rw [List.map_map]
  rfl
theorem ev_maxL {a : Addr} {ns : List Int} {m : Int} (h : Ev te σ H (.ref a)) (hs : SqL K H a (iv ns)) (hm : m ∈ ns) (hle : ∀ y ∈ ns, y ≤ m) : Ev (tCB (rMax K) (tCons te tNil)) σ H (.int m) := fun H1 e Q q =>
  h H1 e _ fun H2 e2 => ⟨a, ns, rfl, ex_l (e.trans e2) hs, List.length_pos_of_mem hm, fun m' h1 h2 => by
    have e3 : m' = m := by have := hle m' h1; have := h2 m hm; omega
    rw [e3]
    exact q H2 e2⟩
theorem ev_minL {a : Addr} {ns : List Int} {m : Int} (h : Ev te σ H (.ref a)) (hs : SqL K H a (iv ns)) (hm : m ∈ ns) (hle : ∀ y ∈ ns, m ≤ y) : Ev (tCB (rMin K) (tCons te tNil)) σ H (.int m) := fun H1 e Q q =>
  h H1 e _ fun H2 e2 => ⟨a, ns, rfl, ex_l (e.trans e2) hs, List.length_pos_of_mem hm, fun m' h1 h2 => by
    have e3 : m' = m := by have := hle m' h1; have := h2 m hm; omega
    rw [e3]
    exact q H2 e2⟩
/-- isinstance -/
theorem ev_isi {c : V} {ty uu : Value} {b : Bool} (h : Ev te σ H x) (hc : Ev tc σ H c) (k : ClsV c uu) (ht : ∀ H1, Ex H H1 → TyX K H1 x ty) (hb : PySem.W.kitOne K ty uu = some b) : Ev (tCB (rIsi K) (tCons te (tCons tc tNil))) σ H (.bl b) := fun H1 e Q q =>
  h H1 e _ fun H2 e2 => hc H2 (e.trans e2) _ fun H3 e3 => ⟨x, c, ty, uu, b, rfl, k, ht H3 ((e.trans e2).trans e3), hb, q H3 (e2.trans e3)⟩
/-- a new list of values, the promise's shapes -/
def SqV (K : PySem.W.Frag) (H : Hp) (v : V) (ns : List Int) : Prop := ∃ a, v = .ref a ∧ SqL K H a (iv ns)
theorem SqV.mono {ns : List Int} (e : Ex H H') (h : SqV K H v ns) : SqV K H' v ns := let ⟨a, h1, h2⟩ := h; ⟨a, h1, ex_l e h2⟩
theorem sqv {a : Addr} {ns : List Int} (h : SqL K H a (iv ns)) : SqV K H (.ref a) ns := ⟨a, rfl, h⟩
end
end Fo

namespace Fo
open PySem PySem.Spec PyProof.Rows L2 Evl
/-! ### readings of the defs: printed by gen.py -/
def t__law_cell_at (K : PySem.W.Frag) (E : XK) : TS := (tSeq (tIfS (tTest (tOp rLtI (tVar 1) (tCB (rLenS K) (tCons (tVar 0) tNil)))) (tRet (tOp (rIxL K) (tVar 0) (tVar 1))) tNext)
    (tRet (tC (.int 0))))
def t__law_draw (K : PySem.W.Frag) (E : XK) (p__law_cell_at : Sp) : TS := (tSeq (tAsg (tOp rModI (tOp rMulI (tOp rAddI (tOp rAddI (tCall p__law_cell_at [] E (tCons (tVar 0) (tCons (tOp rModI (tVar 1) (tC (.int 61))) tNil))) (tOp rMulI (tC (.int 7919)) (tVar 1))) (tC (.int 104729))) (tC (.int 48271))) (tC (.int 2147483647))) (gName 2))
    (tSeq (tAsg (tOp rModI (tOp rMulI (tVar 2) (tVar 2)) (tC (.int 2147483647))) (gName 2))
    (tRet (tOp rDivI (tOp rModI (tOp rMulI (tVar 2) (tC (.int 16807))) (tC (.int 2147483647))) (tC (.int 8))))))
def t__law_whole (K : PySem.W.Frag) (E : XK) : TS := (tRet (tAndV (tCB (rIsi K) (tCons (tVar 0) (tCons (tC (.ty "int")) tNil))) (tNotV (tCB (rIsi K) (tCons (tVar 0) (tCons (tC (.ty "bool")) tNil))))))
def t__law_rule (K : PySem.W.Frag) (E : XK) (p__law_draw : Sp) : TS := (tSeq (tAsg (tOp (rIxL K) (tLst (tCons (tC (.int 4)) (tCons (tC (.int 9)) (tCons (tC (.int 60)) (tCons (tC (.int 20)) tNil))))) (tOp rModI (tCall p__law_draw [] E (tCons (tVar 0) (tCons (tC (.int 2)) tNil))) (tC (.int 4)))) (gName 2))
    (tSeq (tAsg (tLc (iRng1 (tCons (tVar 1) tNil)) (gName 4) tYes (tOp rAddI (tC (.int 1)) (tOp rModI (tCall p__law_draw [] E (tCons (tVar 0) (tCons (tOp rAddI (tC (.int 10)) (tVar 4)) tNil))) (tVar 2))) [4]) (gName 3))
    (tSeq (tIfS (tTest (tOp rEq (tOp rModI (tCall p__law_draw [] E (tCons (tVar 0) (tCons (tC (.int 3)) tNil))) (tC (.int 4))) (tC (.int 1)))) (tAsg (tLc (iRng1 (tCons (tVar 1) tNil)) (gName 4) tYes (tOp (rIxL K) (tVar 3) (tOp rModI (tVar 4) (tC (.int 2)))) [4]) (gName 3)) tNext)
    (tRet (tVar 3)))))
def t__law_folding (K : PySem.W.Frag) (E : XK) (p__law_draw : Sp) : TS := (tRet (tLc (iRng1 (tCons (tOp rSubI (tVar 2) (tC (.int 1))) tNil)) (gName 3) tYes (tOp rModI (tCall p__law_draw [] E (tCons (tVar 0) (tCons (tOp rAddI (tVar 1) (tVar 3)) tNil))) (tC (.int 2))) [3]))
def t__law_joints (K : PySem.W.Frag) (E : XK) : TS := (tSeq (tAsg (tLst (tCons (tC (.int 0)) tNil)) (gName 2))
    (tSeq (tAsg (tC (.bl true)) (gName 3))
    (tSeq (tFor (iRng1 (tCons (tCB (rLenS K) (tCons (tVar 0) tNil)) tNil)) (gName 4) (tSeq (tIfS (tAnd (tTest (tOp rGtI (tVar 4) (tC (.int 0)))) (tTest (tOp rEq (tOp (rIxL K) (tVar 1) (tOp rSubI (tVar 4) (tC (.int 1)))) (tC (.int 1))))) (tAsg (tNotV (tVar 3)) (gName 3)) tNext)
    (tIfS (tB (tVar 3)) (tDrop (tBM K "list" rAppend (tVar 2) (tCons (tOp rAddI (tOp (rIxL K) (tVar 2) (tUn rNegI (tC (.int 1)))) (tOp (rIxL K) (tVar 0) (tVar 4))) tNil))) (tDrop (tBM K "list" rAppend (tVar 2) (tCons (tOp rSubI (tOp (rIxL K) (tVar 2) (tUn rNegI (tC (.int 1)))) (tOp (rIxL K) (tVar 0) (tVar 4))) tNil))))))
    (tRet (tVar 2)))))
def t__law_span (K : PySem.W.Frag) (E : XK) (p__law_joints : Sp) : TS := (tSeq (tAsg (tCB (rSorted K) (tCons (tCall p__law_joints [] E (tCons (tVar 0) (tCons (tVar 1) tNil))) tNil)) (gName 2))
    (tRet (tOp rSubI (tOp (rIxL K) (tVar 2) (tUn rNegI (tC (.int 1)))) (tOp (rIxL K) (tVar 2) (tC (.int 0))))))
def t__law_numbers (K : PySem.W.Frag) (E : XK) (p__law_whole : Sp) : TS := (tSeq (tIfS (tOr (tNot (tB (tCB (rIsi K) (tCons (tVar 0) (tCons (tC (.ty "list")) tNil))))) (tTest (tOp (rNeD K) (tVar 0) (tVar 1)))) (tRet (tC (.bl false))) tNext)
    (tRet (tOp (rIn K true) (tC (.bl false)) (tLc (iList K (tVar 0)) (gName 2) tYes (tCall p__law_whole [] E (tCons (tVar 2) tNil)) [2]))))
def t_see_rule (K : PySem.W.Frag) (E : XK) (x_0 : TS) (x_1 : TS) : TS := (tSeq (tIfS (tNot (tTest (tChain rLeI rLeI (tC (.int 1)) (tCB (rLenS K) (tCons (tVar 0) tNil)) (tC (.int 12))))) x_0 tNext)
    (tIfS (tTest (tOp (rNeD K) (tLc (iList K (tVar 0)) (gName 1) (tNot (tTest (tChain rLeI rLeI (tC (.int 1)) (tVar 1) (tC (.int 60))))) (tVar 1) [1]) (tLst tNil))) x_1 tNext))
def t_see_folding (K : PySem.W.Frag) (E : XK) (p_see_rule : Sp) (x_0 : TS) : TS := (tSeq (tDrop (tCall p_see_rule [] E (tCons (tVar 0) tNil)))
    (tIfS (tOr (tTest (tOp rNe (tCB (rLenS K) (tCons (tVar 1) tNil)) (tOp rSubI (tCB (rLenS K) (tCons (tVar 0) tNil)) (tC (.int 1))))) (tTest (tOp (rNeD K) (tLc (iList K (tVar 1)) (gName 2) (tAnd (tTest (tOp rNe (tVar 2) (tC (.int 0)))) (tTest (tOp rNe (tVar 2) (tC (.int 1))))) (tVar 2) [2]) (tLst tNil)))) x_0 tNext))
def t_places_of (K : PySem.W.Frag) (E : XK) : TS := (tSeq (tAsg (tLst (tCons (tC (.int 0)) (tCons (tOp (rIxL K) (tVar 0) (tC (.int 0))) tNil))) (gName 2))
    (tSeq (tAsg (tC (.int 1)) (gName 3))
    (tSeq (tFor (iRng1 (tCons (tCB (rLenS K) (tCons (tVar 1) tNil)) tNil)) (gName 4) (tSeq (tIfS (tTest (tOp rEq (tOp (rIxL K) (tVar 1) (tVar 4)) (tC (.int 1)))) (tAsg (tOp rSubI (tC (.int 0)) (tVar 3)) (gName 3)) tNext)
    (tDrop (tBM K "list" rAppend (tVar 2) (tCons (tOp rAddI (tOp (rIxL K) (tVar 2) (tUn rNegI (tC (.int 1)))) (tOp rMulI (tVar 3) (tOp (rIxL K) (tVar 0) (tOp rAddI (tVar 4) (tC (.int 1)))))) tNil)))))
    (tRet (tVar 2)))))
def t_joints (K : PySem.W.Frag) (E : XK) (p_see_folding : Sp) (p_places_of : Sp) : TS := (tSeq (tDrop (tCall p_see_folding [] E (tCons (tVar 0) (tCons (tVar 1) tNil))))
    (tRet (tCall p_places_of [] E (tCons (tVar 0) (tCons (tVar 1) tNil)))))
def t_span (K : PySem.W.Frag) (E : XK) (p_see_folding : Sp) (p_places_of : Sp) : TS := (tSeq (tDrop (tCall p_see_folding [] E (tCons (tVar 0) (tCons (tVar 1) tNil))))
    (tSeq (tAsg (tCall p_places_of [] E (tCons (tVar 0) (tCons (tVar 1) tNil))) (gName 2))
    (tRet (tOp rSubI (tCB (rMax K) (tCons (tVar 2) tNil)) (tCB (rMin K) (tCons (tVar 2) tNil))))))
def t_fits (K : PySem.W.Frag) (E : XK) (p_see_folding : Sp) (p_span : Sp) : TS := (tSeq (tDrop (tCall p_see_folding [] E (tCons (tVar 0) (tCons (tVar 1) tNil))))
    (tRet (tOp rLeI (tCall p_span [] E (tCons (tVar 0) (tCons (tVar 1) tNil))) (tVar 2))))
def t_law_k01 (K : PySem.W.Frag) (E : XK) (p__law_draw : Sp) (p__law_rule : Sp) (p__law_folding : Sp) (p__law_joints : Sp) (p_joints : Sp) (p__law_numbers : Sp) (p_span : Sp) (p__law_whole : Sp) (p_fits : Sp) : TS := (tSeq (tAsg (tOp rAddI (tC (.int 1)) (tOp rModI (tCall p__law_draw [] E (tCons (tVar 0) (tCons (tC (.int 1)) tNil))) (tC (.int 12)))) (gName 1))
    (tSeq (tAsg (tCall p__law_rule [] E (tCons (tVar 0) (tCons (tVar 1) tNil))) (gName 2))
    (tSeq (tAsg (tCall p__law_folding [] E (tCons (tVar 0) (tCons (tC (.int 30)) (tCons (tVar 1) tNil)))) (gName 3))
    (tSeq (tAsg (tLst (tCons (tCB (rListS K) (tCons (tVar 2) tNil)) (tCons (tCB (rListS K) (tCons (tVar 3) tNil)) tNil))) (gName 4))
    (tSeq (tAsg (tCall p__law_joints [] E (tCons (tVar 2) (tCons (tVar 3) tNil))) (gName 5))
    (tSeq (tFor (iRng1 (tCons (tC (.int 2)) tNil)) (gName 6) (tSeq (tAsg (tCall p_joints [] E (tCons (tOp (rIxL K) (tVar 4) (tC (.int 0))) (tCons (tOp (rIxL K) (tVar 4) (tC (.int 1))) tNil))) (gName 7))
    (tSeq (tIfS (tOr (tNot (tB (tCall p__law_numbers [] E (tCons (tVar 7) (tCons (tVar 5) tNil))))) (tTest (tOp (rNeD K) (tVar 4) (tLst (tCons (tVar 2) (tCons (tVar 3) tNil)))))) (tRet (tC (.bl false))) tNext)
    (tDrop (tBM0 K "list" rClear (tVar 7))))))
    (tSeq (tAsg (tCall p_span [] E (tCons (tOp (rIxL K) (tVar 4) (tC (.int 0))) (tCons (tOp (rIxL K) (tVar 4) (tC (.int 1))) tNil))) (gName 8))
    (tSeq (tIfS (tOr (tNot (tB (tCall p__law_whole [] E (tCons (tVar 8) tNil)))) (tTest (tOp rNe (tVar 8) (tOp rSubI (tCB (rMax K) (tCons (tVar 5) tNil)) (tCB (rMin K) (tCons (tVar 5) tNil)))))) (tRet (tC (.bl false))) tNext)
    (tSeq (tFor (iList K (tLst (tCons (tVar 8) (tCons (tOp rSubI (tVar 8) (tC (.int 1))) (tCons (tOp rModI (tCall p__law_draw [] E (tCons (tVar 0) (tCons (tC (.int 50)) tNil))) (tC (.int 801))) tNil))))) (gName 9) (tSeq (tAsg (tCall p_fits [] E (tCons (tOp (rIxL K) (tVar 4) (tC (.int 0))) (tCons (tOp (rIxL K) (tVar 4) (tC (.int 1))) (tCons (tVar 9) tNil)))) (gName 7))
    (tIfS (tOr (tNot (tB (tCB (rIsi K) (tCons (tVar 7) (tCons (tC (.ty "bool")) tNil))))) (tTest (tOp rNe (tVar 7) (tOp rLeI (tVar 8) (tVar 9))))) (tRet (tC (.bl false))) tNext)))
    (tRet (tOp (rEqD K) (tVar 4) (tLst (tCons (tVar 2) (tCons (tVar 3) tNil))))))))))))))
end Fo

namespace Fo
open PySem PySem.Spec PyProof.Rows L2 Evl
abbrev En (Q : VK) : Ends := { nx := fun _ H' => Q .non H', rt := Q }
section
variable {K : PySem.W.Frag} {H : Hp} {Q : VK} {E E1 : XK} {vs : List V}
/-! ### a cell of the script, a draw -/
def cellAt (ns : List Int) (k : Nat) : Int := ns.getD k 0
def p__law_cell_at (K : PySem.W.Frag) : Sp := fun vs H Q _ => ∃ a ns, ∃ k : Nat, vs = [.ref a, .int k] ∧ SqL K H a (iv ns) ∧ RetV (.int (cellAt ns k)) H Q
theorem r__law_cell_at (h : p__law_cell_at K vs H Q E) : t__law_cell_at K E1 (En Q) (start ["script", "k"] vs) H := by
  obtain ⟨a, ns, k, rfl, hS, q⟩ := h
  refine q_when (et_test (ev_op (ev_var rfl) (ev_len (ev_var rfl) hS) rv_I0)) (fun hb H1 e => ?_) (fun hb H1 e => ?_)
  · rw [iv_len] at hb
    have hk : k < ns.length := by have := of_decide_eq_true hb; omega
    refine s_ret (ev_op (ev_var rfl) (ev_var rfl) (rv_ixL (ex_l e hS) (atI_nat (iv_at (List.getElem?_eq_getElem hk))))) fun H2 e2 => ?_
    have e3 : cellAt ns k = ns[k] := by unfold cellAt; rw [List.getD_eq_getElem?_getD, List.getElem?_eq_getElem hk]; rfl
    rw [← e3]
    exact q.go (e.trans e2)
  · rw [iv_len] at hb
    have hk : ¬ k < ns.length := by have := of_decide_eq_false hb; omega
    refine s_ret ev_c fun H2 e2 => ?_
    have e3 : cellAt ns k = 0 := by unfold cellAt; rw [List.getD_eq_getElem?_getD, List.getElem?_eq_none (by omega)]; rfl
    have q' := q.go (e.trans e2)
    rw [e3] at q'
    exact q'
theorem sp_cell {a : Addr} {ns : List Int} {k : Nat} (h : SqL K H a (iv ns)) : SpV (p__law_cell_at K) [.ref a, .int k] H (.int (cellAt ns k)) := fun H1 e Q q E => ⟨a, ns, k, rfl, ex_l e h, fun H2 e2 => q H2 e2⟩
def drawA (c : Int) : Int := c * 48271 % 2147483647
def drawB (s : Int) : Int := s * s % 2147483647
def drawC (s : Int) : Int := s * 16807 % 2147483647 / 8
def draw (ns : List Int) (k : Nat) : Int := drawC (drawB (drawA (cellAt ns (k % 61) + 7919 * k + 104729)))
theorem draw_nn (ns : List Int) (k : Nat) : 0 ≤ draw ns k := by
  unfold draw drawC
  omega
theorem draw_lt (ns : List Int) (k : Nat) : draw ns k < 268435456 := by
  unfold draw drawC
  omega
def p__law_draw (K : PySem.W.Frag) : Sp := fun vs H Q _ => ∃ a ns, ∃ k : Nat, vs = [.ref a, .int k] ∧ SqL K H a (iv ns) ∧ k ≤ 1000 ∧ RetV (.int (draw ns k)) H Q
theorem r__law_draw (h : p__law_draw K vs H Q E) : t__law_draw K E1 (p__law_cell_at K) (En Q) (start ["script", "k", "stir"] vs) H := by
  obtain ⟨a, ns, k, rfl, hS, hk, q⟩ := h
  have e61 : ((k : Int) % 61) = ((k % 61 : Nat) : Int) := by omega
  have hA : ∀ c : Int, 0 ≤ drawA c ∧ drawA c < 2147483647 := fun c => by unfold drawA; omega
  have hB : ∀ c : Int, 0 ≤ drawB c ∧ drawB c < 2147483647 := fun c => by unfold drawB; omega
  refine q_asg (v := .int (drawA (cellAt ns (k % 61) + 7919 * k + 104729))) ?_ fun H1 e1 => ?_
  · refine ev_op (ev_op (ev_op (ev_op (ev_call (vs := [.ref a, .int ((k % 61 : Nat) : Int)]) (ea_cons (ev_var rfl) (ea_cons (ev_is (ev_op (ev_var rfl) ev_c (rv_I (by decide))) (congrArg V.int e61)) ea_nil)) (sp_cell hS)) (ev_op ev_c (ev_var rfl) (rv_I (.inl ⟨by decide, by decide⟩))) rv_I0) ev_c rv_I0) ev_c (rv_I (.inr ⟨by decide, by decide⟩))) ev_c (rv_I (by decide))
  have hA1 := hA (cellAt ns (k % 61) + 7919 * k + 104729)
  refine q_asg (v := .int (drawB (drawA (cellAt ns (k % 61) + 7919 * k + 104729)))) ?_ fun H2 e2 => ?_
  · exact ev_op (ev_op (ev_var rfl) (ev_var rfl) (rv_I (.inl ⟨by omega, by omega⟩))) ev_c (rv_I (by decide))
  have hB1 := hB (drawA (cellAt ns (k % 61) + 7919 * k + 104729))
  refine s_ret (v := .int (draw ns k)) (ev_op (ev_op (ev_op (ev_var rfl) ev_c (rv_I (.inr ⟨by decide, by decide⟩))) ev_c (rv_I (by decide))) ev_c (rv_I ⟨by decide, by decide⟩)) fun H3 e3 => q.go ((e1.trans e2).trans e3)
theorem sp_draw {a : Addr} {ns : List Int} {k : Nat} (h : SqL K H a (iv ns)) (hk : k ≤ 1000) : SpV (p__law_draw K) [.ref a, .int k] H (.int (draw ns k)) := fun H1 e Q q E => ⟨a, ns, k, rfl, ex_l e h, hk, fun H2 e2 => q H2 e2⟩
end
end Fo

/-! Mathematics of folded rules: plain Lean. -/
namespace Fo
/-- does the k-th piece go upward -/
def upAt (f : List Int) : Nat → Bool
  | 0 => true
  | k + 1 => if f.getD k 0 = 1 then !(upAt f k) else upAt f k
def upU (f : List Int) : Nat → Bool
  | 0 => true
  | k + 1 => upAt f k
/-- the place behind k pieces -/
def plAt (r f : List Int) : Nat → Int
  | 0 => 0
  | k + 1 => if upAt f k then plAt r f k + r.getD k 0 else plAt r f k - r.getD k 0
def plTo (r f : List Int) (n : Nat) : List Int := (List.range n).map (plAt r f)
def jointsOf (r f : List Int) : List Int := plTo r f (r.length + 1)
theorem plTo_succ (r f : List Int) (n : Nat) : plTo r f (n + 1) = plTo r f n ++ [plAt r f n] := by
  unfold plTo
  rw [List.range_succ, List.map_append]
  rfl
theorem plTo_len (r f : List Int) (n : Nat) : (plTo r f n).length = n := by simp [plTo]
/-- the greatest, the least of a list that has nought in it -/
def mx (l : List Int) : Int := l.foldr max 0
def mn (l : List Int) : Int := l.foldr min 0
theorem mx_ge (l : List Int) : 0 ≤ mx l ∧ ∀ x ∈ l, x ≤ mx l := by
  induction l with
  | nil => exact ⟨Int.le_refl 0, fun x h => by cases h⟩
  | cons a l ih =>
    have e : mx (a :: l) = max a (mx l) := rfl
    rw [e]
    refine ⟨by omega, fun x h => ?_⟩
    rcases List.mem_cons.mp h with rfl | h
    · omega
    · have := ih.2 x h; omega
theorem mn_le (l : List Int) : mn l ≤ 0 ∧ ∀ x ∈ l, mn l ≤ x := by
  induction l with
  | nil => exact ⟨Int.le_refl 0, fun x h => by cases h⟩
  | cons a l ih =>
    have e : mn (a :: l) = min a (mn l) := rfl
    rw [e]
    refine ⟨by omega, fun x h => ?_⟩
    rcases List.mem_cons.mp h with rfl | h
    · omega
    · have := ih.2 x h; omega
theorem mx_mem' (l : List Int) : mx l = 0 ∨ mx l ∈ l := by
  induction l with
  | nil => exact .inl rfl
  | cons a l ih =>
    have e : mx (a :: l) = max a (mx l) := rfl
    rw [e]
    by_cases h : mx l ≤ a
    · rw [Int.max_eq_left h]; exact .inr List.mem_cons_self
    · rw [Int.max_eq_right (by omega)]
      rcases ih with h | h
      · exact .inl h
      · exact .inr (List.mem_cons_of_mem _ h)
theorem mn_mem' (l : List Int) : mn l = 0 ∨ mn l ∈ l := by
  induction l with
  | nil => exact .inl rfl
  | cons a l ih =>
    have e : mn (a :: l) = min a (mn l) := rfl
    rw [e]
    by_cases h : a ≤ mn l
    · rw [Int.min_eq_left h]; exact .inr List.mem_cons_self
    · rw [Int.min_eq_right (by omega)]
      rcases ih with h | h
      · exact .inl h
      · exact .inr (List.mem_cons_of_mem _ h)
theorem mx_mem {l : List Int} (h : (0 : Int) ∈ l) : mx l ∈ l := by
  rcases mx_mem' l with e | e
  · rw [e]; exact h
  · exact e
theorem mn_mem {l : List Int} (h : (0 : Int) ∈ l) : mn l ∈ l := by
  rcases mn_mem' l with e | e
  · rw [e]; exact h
  · exact e
theorem zero_joints (r f : List Int) : (0 : Int) ∈ jointsOf r f := List.mem_map.mpr ⟨0, List.mem_range.mpr (by omega), rfl⟩
def spanOf (r f : List Int) : Int := mx (jointsOf r f) - mn (jointsOf r f)
theorem mx_is {l : List Int} {m : Int} (h0 : (0 : Int) ∈ l) (hm : m ∈ l) (h : ∀ y ∈ l, y ≤ m) : mx l = m := by
  have h1 := (mx_ge l).2 m hm
  have h2 := h _ (mx_mem h0)
  omega
theorem mn_is {l : List Int} {m : Int} (h0 : (0 : Int) ∈ l) (hm : m ∈ l) (h : ∀ y ∈ l, m ≤ y) : mn l = m := by
  have h1 := (mn_le l).2 m hm
  have h2 := h _ (mn_mem h0)
  omega
/-- what a rule is, what a folding of it -/
structure OkR (r : List Int) : Prop where
  l1 : 1 ≤ r.length
  l12 : r.length ≤ 12
  all : ∀ x ∈ r, 1 ≤ x ∧ x ≤ 60
structure OkF (r f : List Int) : Prop where
  len : f.length + 1 = r.length
  all : ∀ t ∈ f, t = 0 ∨ t = 1
theorem getD_of {l : List Int} {i : Nat} (h : i < l.length) : l[i]? = some (l.getD i 0) := by
  rw [List.getD_eq_getElem?_getD, List.getElem?_eq_getElem h]; rfl
theorem getD_mem {l : List Int} {i : Nat} (h : i < l.length) : l.getD i 0 ∈ l := List.mem_of_getElem? (getD_of h)
end Fo

namespace Fo
open PySem PySem.Spec PyProof.Rows L2 Evl
/-- behind H a new list stands at l, all else as it was -/
structure Mk (H : Hp) (l : Addr) (H' : Hp) (xs : List V) : Prop where
  new : H l = none
  ex : Ex H H'
  at_ : H' l = some (.lst xs)
theorem Mk.app {H H' H1 : Hp} {l : Addr} {xs ys : List V} (m : Mk H l H' xs) (e : Ex H' H1) : Mk H l (upd H1 l (.lst ys)) ys := ⟨m.new, Ex.mut (m.ex.trans e) m.new, upd_same⟩
theorem Mk.mono {H H' H1 : Hp} {l : Addr} {xs : List V} (m : Mk H l H' xs) (e : Ex H' H1) : Mk H l H1 xs := ⟨m.new, m.ex.trans e, e _ _ m.at_⟩
theorem Mk.back {H0 H H' : Hp} {l : Addr} {xs : List V} (m : Mk H l H' xs) (e : Ex H0 H) : Mk H0 l H' xs := ⟨fresh_back e m.new, e.trans m.ex, m.at_⟩
theorem Mk.ret {H H' : Hp} {l : Addr} {xs : List V} {Q : VK} (m : Mk H l H' xs) (q : RetL xs H Q) : Q (.ref l) H' := q l H' m.new m.ex m.at_
section
variable {K : PySem.W.Frag} {H : Hp} {Q : VK} {E E1 : XK} {vs : List V}
/-! ### is it a whole number -/
def p__law_whole : Sp := fun vs H Q _ => ∃ n : Int, vs = [.int n] ∧ RetV (.bl true) H Q
theorem r__law_whole (h : p__law_whole vs H Q E) : t__law_whole K E1 (En Q) (start ["found"] vs) H := by
  obtain ⟨n, rfl, q⟩ := h
  refine s_ret (v := .bl true) ?_ fun H1 e => q.go e
  exact ev_andV (a := true) (b := true) (ev_isi (ev_var rfl) ev_c (.ty _) (fun H1 e => .base (.int n)) (kit_ty (by decide +kernel))) fun _ =>
    ev_notV (a := false) (ev_isi (ev_var rfl) ev_c (.ty _) (fun H1 e => .base (.int n)) (kit_ty (by decide +kernel)))
theorem sp_whole {n : Int} : SpV p__law_whole [.int n] H (.bl true) := fun H1 e Q q E => ⟨n, rfl, fun H2 e2 => q H2 e2⟩
/-! ### the joints, as the law walks them -/
def p__law_joints (K : PySem.W.Frag) : Sp := fun vs H Q _ => ∃ a b r f, vs = [.ref a, .ref b] ∧ SqL K H a (iv r) ∧ SqL K H b (iv f) ∧ f.length + 1 = r.length ∧ r.length ≤ 1000 ∧ RetL (iv (jointsOf r f)) H Q
theorem pl_last {r f : List Int} {i : Nat} : atI (iv (plTo r f (i + 1))) (-1) = some (.int (plAt r f i)) := by
  rw [plTo_succ]
  show atI ((plTo r f i ++ [plAt r f i]).map V.int) (-1) = _
  rw [List.map_append]
  exact atI_last _ _
theorem iv_app {xs : List Int} {y : Int} : iv xs ++ [V.int y] = iv (xs ++ [y]) := by simp [iv]
theorem r__law_joints (h : p__law_joints K vs H Q E) : t__law_joints K E1 (En Q) (start ["rule", "folding", "places", "up", "k"] vs) H := by
  obtain ⟨a, b, r, f, rfl, hr, hf, hl, hz, q⟩ := h
  refine q_asgL (el_lst (ea_cons ev_c ea_nil) (by decide)) fun p H1 hp e1 h1 => ?_
  refine q_asg ev_c fun H2 e2 => ?_
  refine q_forR1 (n := (r.length : Int)) (ea_cons (ev_is (ev_len (ev_var rfl) (ex_l (e1.trans e2) hr)) (by rw [iv_len])) ea_nil) ⟨by omega, by omega⟩
    (fun i σ' H' => ∃ kv, σ' = [some (.ref a), some (.ref b), some (.ref p), some (.bl (upU f i)), kv] ∧ Mk H p H' (iv (plTo r f (i + 1))))
    (fun H3 e3 => ⟨_, rfl, hp, (e1.trans e2).trans e3, e3 _ _ (e2 _ _ h1)⟩) ?_ ?_
  · rintro i σ' H' hi ⟨kv, rfl, m⟩
    have hi' : i < r.length := by omega
    have hr' := ex_l m.ex hr
    have hf' := ex_l m.ex hf
    -- if k > 0 and folding[k - 1] == 1: up = not up
    refine q_ifAsg (v := .bl (upAt f i)) (b := decide ((0 : Int) < i) && decide ((if 0 < i then f.getD (i - 1) 0 else 0) = 1)) ?_ ?_ ?_ ?_
    · refine et_and (et_test (ev_op (ev_var rfl) ev_c rv_I0)) fun hb => et_test ?_
      have h0 : 0 < i := by have := of_decide_eq_true hb; omega
      rw [if_pos h0]
      refine ev_is (ev_op (ev_op (ev_var rfl) (ev_is (ev_op (ev_var rfl) ev_c rv_I0) (congrArg V.int (show (i : Int) - 1 = ((i - 1 : Nat) : Int) by omega))) (rv_ixL hf' (atI_nat (iv_at (getD_of (i := i - 1) (by omega)))))) ev_c (rv_eq rfl)) ?_
      rw [dec_int]
      rfl
    · intro hb
      refine ev_is (ev_notV (a := upU f i) (ev_var rfl)) ?_
      obtain ⟨h1, h2⟩ := Bool.and_eq_true_iff.mp hb
      have h0 : 0 < i := by have := of_decide_eq_true h1; omega
      obtain ⟨j, rfl⟩ : ∃ j, i = j + 1 := ⟨i - 1, by omega⟩
      have h3 := of_decide_eq_true h2
      rw [if_pos h0] at h3
      show V.bl (!(upAt f j)) = V.bl (if f.getD j 0 = 1 then !(upAt f j) else upAt f j)
      rw [if_pos (show f.getD j 0 = 1 from h3)]
    · intro hb
      have e : upU f i = upAt f i := by
        cases i with
        | zero => rfl
        | succ j =>
          show upAt f j = if f.getD j 0 = 1 then !(upAt f j) else upAt f j
          have h2 : ¬ f.getD j 0 = 1 := fun z => by
            have : (decide ((0 : Int) < (j + 1 : Nat)) && decide ((if 0 < j + 1 then f.getD (j + 1 - 1) 0 else 0) = 1)) = true := by
              rw [if_pos (Nat.succ_pos j)]
              simp only [Bool.and_eq_true, decide_eq_true_eq]
              exact ⟨by omega, z⟩
            rw [this] at hb
            cases hb
          rw [if_neg h2]
      show List.set [some (V.ref a), some (V.ref b), some (V.ref p), some (V.bl (upU f i)), some (V.int (i : Int))] 3 (some (V.bl (upAt f i))) = _
      rw [← e]
      rfl
    · intro H3 e3
      refine s_if (et_B (ev_var rfl)) (fun hu H4 e4 => ?_) (fun hu H4 e4 => ?_)
      · refine s_app ((m.mono (e3.trans e4)).at_) (ev_var rfl) (ev_op (ev_op (ev_var rfl) (ev_un ev_c ru_neg) (rv_ixL (sq_of (m.mono (e3.trans e4)).at_) pl_last)) (ev_op (ev_var rfl) (ev_var rfl) (rv_ixL (ex_l (e3.trans e4) hr') (atI_nat (iv_at (getD_of hi'))))) rv_I0) (by rw [iv_len, plTo_len]; omega) fun H5 e5 => ?_
        refine ⟨_, rfl, ?_⟩
        have e : plTo r f (i + 1 + 1) = plTo r f (i + 1) ++ [plAt r f i + r.getD i 0] := by
          rw [plTo_succ r f (i + 1)]
          show _ ++ [if upAt f i then _ else _] = _
          rw [if_pos hu]
        rw [e, ← iv_app]
        exact (m.mono (e3.trans e4)).app e5
      · refine s_app ((m.mono (e3.trans e4)).at_) (ev_var rfl) (ev_op (ev_op (ev_var rfl) (ev_un ev_c ru_neg) (rv_ixL (sq_of (m.mono (e3.trans e4)).at_) pl_last)) (ev_op (ev_var rfl) (ev_var rfl) (rv_ixL (ex_l (e3.trans e4) hr') (atI_nat (iv_at (getD_of hi'))))) rv_I0) (by rw [iv_len, plTo_len]; omega) fun H5 e5 => ?_
        refine ⟨_, rfl, ?_⟩
        have e : plTo r f (i + 1 + 1) = plTo r f (i + 1) ++ [plAt r f i - r.getD i 0] := by
          rw [plTo_succ r f (i + 1)]
          show _ ++ [if upAt f i then _ else _] = _
          rw [if_neg (by rw [hu]; exact Bool.false_ne_true)]
        rw [e, ← iv_app]
        exact (m.mono (e3.trans e4)).app e5
  · rintro σ' H' ⟨kv, rfl, m⟩
    refine s_ret (ev_var rfl) fun H3 e3 => ?_
    exact (m.mono e3).ret q
theorem sl_joints {a b : Addr} {r f : List Int} (hr : SqL K H a (iv r)) (hf : SqL K H b (iv f)) (hl : f.length + 1 = r.length) (hz : r.length ≤ 1000) : SpL (p__law_joints K) [.ref a, .ref b] H (iv (jointsOf r f)) := fun H1 e Q q E =>
  ⟨a, b, r, f, rfl, ex_l e hr, ex_l e hf, hl, hz, fun p H2 hp e2 h2 => q p H2 hp e2 h2⟩
end
end Fo

namespace Fo
open PySem PySem.Spec PyProof.Rows L2 Evl
section
variable {K : PySem.W.Frag} {H : Hp} {Q : VK} {E E1 : XK} {vs : List V}
/-! ### the drawn rule, the drawn folding -/
def mostOf (ns : List Int) : Int := [(4 : Int), 9, 60, 20].getD (draw ns 2 % 4).toNat 0
theorem most_ok (ns : List Int) : 1 ≤ mostOf ns ∧ mostOf ns ≤ 60 := by
  unfold mostOf
  have h : (draw ns 2 % 4).toNat < 4 := by omega
  generalize (draw ns 2 % 4).toNat = i at h
  match i, h with
  | 0, _ => decide
  | 1, _ => decide
  | 2, _ => decide
  | 3, _ => decide
def baseOf (ns : List Int) (p : Nat) : List Int := (List.range p).map fun i => 1 + draw ns (10 + i) % mostOf ns
def ruleOf (ns : List Int) (p : Nat) : List Int := if draw ns 3 % 4 = 1 then (List.range p).map fun i => (baseOf ns p).getD (i % 2) 0 else baseOf ns p
theorem base_len (ns : List Int) (p : Nat) : (baseOf ns p).length = p := by simp [baseOf]
theorem rule_len (ns : List Int) (p : Nat) : (ruleOf ns p).length = p := by
  unfold ruleOf
  split
  · simp
  · exact base_len ns p
theorem base_ok (ns : List Int) (p : Nat) : ∀ x ∈ baseOf ns p, 1 ≤ x ∧ x ≤ 60 := by
  intro x hx
  obtain ⟨i, _, rfl⟩ := List.mem_map.mp hx
  have hm := most_ok ns
  have h1 : 0 ≤ draw ns (10 + i) % mostOf ns := Int.emod_nonneg _ (by omega)
  have h2 : draw ns (10 + i) % mostOf ns < mostOf ns := Int.emod_lt_of_pos _ (by omega)
  omega
theorem rule_ok (ns : List Int) (p : Nat) (h1 : 1 ≤ p) (h2 : p ≤ 12) : OkR (ruleOf ns p) := by
  refine ⟨by rw [rule_len]; exact h1, by rw [rule_len]; exact h2, fun x hx => ?_⟩
  unfold ruleOf at hx
  split at hx
  · obtain ⟨i, hi, rfl⟩ := List.mem_map.mp hx
    have hi' := List.mem_range.mp hi
    refine base_ok ns p _ (getD_mem ?_)
    rw [base_len]
    have : i % 2 ≤ i := Nat.mod_le _ _
    omega
  · exact base_ok ns p x hx
def p__law_rule (K : PySem.W.Frag) : Sp := fun vs H Q _ => ∃ a ns, ∃ p : Nat, vs = [.ref a, .int p] ∧ SqL K H a (iv ns) ∧ 1 ≤ p ∧ p ≤ 12 ∧ RetL (iv (ruleOf ns p)) H Q
theorem map_int {n : Nat} {g : Nat → Int} : (List.range n).map (fun i => V.int (g i)) = iv ((List.range n).map g) := by
  show _ = List.map V.int (List.map g _)
  rw [List.map_map]
  rfl
theorem r__law_rule (h : p__law_rule K vs H Q E) : t__law_rule K E1 (p__law_draw K) (En Q) (start ["script", "pieces", "most", "rule", "k"] vs) H := by
  obtain ⟨a, ns, p, rfl, hS, hp1, hp2, q⟩ := h
  have hm := most_ok ns
  refine q_asg (v := .int (mostOf ns)) ?_ fun H1 e1 => ?_
  · refine ev_opL1 (xs := iv [4, 9, 60, 20]) (y := .int (((draw ns 2 % 4).toNat : Nat) : Int)) (el_lst (ea_cons ev_c (ea_cons ev_c (ea_cons ev_c (ea_cons ev_c ea_nil)))) (by decide)) (fun H1 e => ?_) (fun p' H1 hp' e => rv_ixL (sq_of hp') (atI_nat (iv_at (getD_of (by have := draw_nn ns 2; simp; omega)))))
    refine ev_is (ev_op (ev_call (vs := [.ref a, .int ((2 : Nat) : Int)]) (ea_cons (ev_var rfl) (ea_cons ev_c ea_nil)) (sp_draw (ex_l e hS) (by decide))) ev_c (rv_I (by decide))) (congrArg V.int ?_)
    have := draw_nn ns 2
    omega
  refine q_asgL (xs := iv (baseOf ns p)) ?_ fun q1 H2 hq1 e2 h2 => ?_
  · have h := el_lcRy (te := tOp rAddI (tC (.int 1)) (tOp rModI (tCall (p__law_draw K) [] E0 (tCons (tVar 0) (tCons (tOp rAddI (tC (.int 10)) (tVar 4)) tNil))) (tVar 2))) (ta := tCons (tVar 1) tNil) (j := 4) (vs := [4]) (n := p) (σ := [some (.ref a), some (.int p), some (.int (mostOf ns)), none, none]) (H := H1) (fun i => V.int (1 + draw ns (10 + i) % mostOf ns)) (ea_cons (ev_var rfl) ea_nil) (by omega) (fun x => rfl) (fun i H2 e hi =>
      ev_op ev_c (ev_op (ev_call (vs := [.ref a, .int ((10 + i : Nat) : Int)]) (ea_cons (ev_var rfl) (ea_cons (ev_is (ev_op ev_c (ev_var rfl) rv_I0) (congrArg V.int (by omega))) ea_nil)) (sp_draw (ex_l (e1.trans e) hS) (by omega))) (ev_var rfl) (rv_I (by omega))) rv_I0)
    rw [map_int] at h
    exact h
  have S2 := ex_l (e1.trans e2) hS
  refine q_when (b := decide (draw ns 3 % 4 = 1)) (et_test ?_) (fun hb H3 e3 => ?_) (fun hb H3 e3 => ?_)
  · refine ev_is (ev_op (ev_op (ev_call (vs := [.ref a, .int ((3 : Nat) : Int)]) (ea_cons (ev_var rfl) (ea_cons ev_c ea_nil)) (sp_draw S2 (by decide))) ev_c (rv_I (by decide))) ev_c (rv_eq rfl)) ?_
    rw [dec_int]; rfl
  · have hb' := of_decide_eq_true hb
    refine s_asgL (xs := iv (ruleOf ns p)) ?_ fun q2 H4 hq2 e4 h4 => ?_
    · have h := el_lcRy (te := tOp (rIxL K) (tVar 3) (tOp rModI (tVar 4) (tC (.int 2)))) (ta := tCons (tVar 1) tNil) (j := 4) (vs := [4]) (n := p) (σ := [some (.ref a), some (.int p), some (.int (mostOf ns)), some (.ref q1), none]) (H := H3) (fun i => V.int ((baseOf ns p).getD (i % 2) 0)) (ea_cons (ev_var rfl) ea_nil) (by omega) (fun x => rfl) (fun i H4 e hi =>
        ev_op (ev_var rfl) (ev_is (ev_op (ev_var rfl) ev_c (rv_I (by decide))) (congrArg V.int (show (i : Int) % 2 = ((i % 2 : Nat) : Int) by omega))) (rv_ixL (sq_of ((e3.trans e) _ _ h2)) (atI_nat (iv_at (getD_of (by rw [base_len]; have : i % 2 ≤ i := Nat.mod_le _ _; omega))))))
      rw [map_int] at h
      have e : ruleOf ns p = (List.range p).map fun i => (baseOf ns p).getD (i % 2) 0 := if_pos hb'
      rw [e]
      exact h
    · exact s_ret (ev_var rfl) fun H5 e5 => q q2 H5 (fresh_back ((e1.trans e2).trans e3) hq2) ((((e1.trans e2).trans e3).trans e4).trans e5) (e5 _ _ h4)
  · have hb' := of_decide_eq_false hb
    have e : ruleOf ns p = baseOf ns p := if_neg hb'
    rw [e] at q
    exact s_ret (ev_var rfl) fun H5 e5 => q q1 H5 (fresh_back e1 hq1) (((e1.trans e2).trans e3).trans e5) ((e3.trans e5) _ _ h2)
theorem sl_rule {a : Addr} {ns : List Int} {p : Nat} (h : SqL K H a (iv ns)) (h1 : 1 ≤ p) (h2 : p ≤ 12) : SpL (p__law_rule K) [.ref a, .int p] H (iv (ruleOf ns p)) := fun H1 e Q q E => ⟨a, ns, p, rfl, ex_l e h, h1, h2, fun l H2 hl e2 h2 => q l H2 hl e2 h2⟩
def foldOf (ns : List Int) (start p : Nat) : List Int := (List.range (p - 1)).map fun i => draw ns (start + i) % 2
theorem fold_ok (ns : List Int) (s p : Nat) (r : List Int) (h : r.length = p) (h1 : 1 ≤ p) : OkF r (foldOf ns s p) := by
  refine ⟨by simp [foldOf]; omega, fun t ht => ?_⟩
  obtain ⟨i, _, rfl⟩ := List.mem_map.mp ht
  omega
def p__law_folding (K : PySem.W.Frag) : Sp := fun vs H Q _ => ∃ a ns, ∃ s p : Nat, vs = [.ref a, .int s, .int p] ∧ SqL K H a (iv ns) ∧ 1 ≤ p ∧ p ≤ 12 ∧ s ≤ 100 ∧ RetL (iv (foldOf ns s p)) H Q
theorem r__law_folding (h : p__law_folding K vs H Q E) : t__law_folding K E1 (p__law_draw K) (En Q) (start ["script", "start", "pieces", "k"] vs) H := by
  obtain ⟨a, ns, s, p, rfl, hS, h1, h2, hs, q⟩ := h
  refine s_retL (xs := iv (foldOf ns s p)) ?_ fun l H1 hl e hl1 => q l H1 hl e hl1
  have h := el_lcRy (te := tOp rModI (tCall (p__law_draw K) [] E0 (tCons (tVar 0) (tCons (tOp rAddI (tVar 1) (tVar 3)) tNil))) (tC (.int 2))) (ta := tCons (tOp rSubI (tVar 2) (tC (.int 1))) tNil) (j := 3) (vs := [3]) (n := p - 1) (σ := [some (.ref a), some (.int s), some (.int p), none]) (H := H) (fun i => V.int (draw ns (s + i) % 2)) (ea_cons (ev_is (ev_op (ev_var rfl) ev_c rv_I0) (congrArg V.int (by omega))) ea_nil) (by omega) (fun x => rfl) (fun i H2 e hi =>
    ev_op (ev_call (vs := [.ref a, .int ((s + i : Nat) : Int)]) (ea_cons (ev_var rfl) (ea_cons (ev_is (ev_op (ev_var rfl) (ev_var rfl) rv_I0) (congrArg V.int (by omega))) ea_nil)) (sp_draw (ex_l e hS) (by omega))) ev_c (rv_I (by decide)))
  rw [map_int] at h
  exact h
theorem sl_folding {a : Addr} {ns : List Int} {s p : Nat} (h : SqL K H a (iv ns)) (h1 : 1 ≤ p) (h2 : p ≤ 12) (hs : s ≤ 100) : SpL (p__law_folding K) [.ref a, .int s, .int p] H (iv (foldOf ns s p)) := fun H1 e Q q E => ⟨a, ns, s, p, rfl, ex_l e h, h1, h2, hs, fun l H2 hl e2 h2 => q l H2 hl e2 h2⟩
/-! ### the span, as the law reckons it -/
theorem srt_last {l : List Int} (h : l.Pairwise (· ≤ ·)) {i : Nat} (hi : i < l.length) : ∀ y ∈ l, l.getD 0 0 ≤ y ∧ y ≤ l.getD (l.length - 1) 0 := by
  intro y hy
  obtain ⟨j, hj, rfl⟩ := List.getElem_of_mem hy
  have p := List.pairwise_iff_getElem.mp h
  have e0 : l.getD 0 0 = l[0] := by rw [List.getD_eq_getElem?_getD, List.getElem?_eq_getElem (by omega)]; rfl
  have e1 : l.getD (l.length - 1) 0 = l[l.length - 1] := by rw [List.getD_eq_getElem?_getD, List.getElem?_eq_getElem (by omega)]; rfl
  rw [e0, e1]
  constructor
  · by_cases e : j = 0
    · subst e; exact Int.le_refl _
    · exact p 0 j (by omega) hj (by omega)
  · by_cases e : j = l.length - 1
    · subst e; exact Int.le_refl _
    · exact p j (l.length - 1) hj (by omega) (by omega)
def p__law_span (K : PySem.W.Frag) : Sp := fun vs H Q _ => ∃ a b r f, vs = [.ref a, .ref b] ∧ SqL K H a (iv r) ∧ SqL K H b (iv f) ∧ f.length + 1 = r.length ∧ r.length ≤ 40 ∧ RetV (.int (spanOf r f)) H Q
theorem r__law_span (h : p__law_span K vs H Q E) : t__law_span K E1 (p__law_joints K) (En Q) (start ["rule", "folding", "places"] vs) H := by
  obtain ⟨a, b, r, f, rfl, hr, hf, hl, hz, q⟩ := h
  have jl : (jointsOf r f).length = r.length + 1 := plTo_len _ _ _
  refine (el_call (vs := [.ref a, .ref b]) (ea_cons (ev_var rfl) (ea_cons (ev_var rfl) ea_nil)) (sl_joints hr hf hl (by omega))) H (Ex.refl H) _ fun p H1 hp e1 h1 => ?_
  refine ⟨p, jointsOf r f, rfl, sq_of h1, by rw [jl]; omega, fun ns' p' perm srt np => ?_⟩
  have e2 : Ex H1 (upd H1 p' (.lst (iv ns'))) := Ex.new np
  have nl : ns'.length = r.length + 1 := by rw [perm.length_eq, jl]
  have hs := srt_last srt (i := 0) (by omega)
  have hmx : mx (jointsOf r f) = ns'.getD (ns'.length - 1) 0 := mx_is (zero_joints r f) (perm.mem_iff.mp (getD_mem (by omega))) fun y hy => (hs y (perm.mem_iff.mpr hy)).2
  have hmn : mn (jointsOf r f) = ns'.getD 0 0 := mn_is (zero_joints r f) (perm.mem_iff.mp (getD_mem (by omega))) fun y hy => (hs y (perm.mem_iff.mpr hy)).1
  refine s_ret (v := .int (ns'.getD (ns'.length - 1) 0 - ns'.getD 0 0)) (ev_op (ev_op (ev_var rfl) (ev_un ev_c ru_neg) (rv_ixL (sq_of upd_same) ?_)) (ev_op (ev_var rfl) ev_c (rv_ixL (sq_of upd_same) (atI_nat (j := 0) (iv_at (getD_of (by omega)))))) rv_I0) fun H3 e3 => ?_
  · have e : ns' = ns'.dropLast ++ [ns'.getD (ns'.length - 1) 0] := by
      have hne : ns' ≠ [] := by intro z; rw [z] at nl; simp at nl
      have e1 := List.dropLast_concat_getLast hne
      have e2 : ns'.getD (ns'.length - 1) 0 = ns'.getLast hne := by
        rw [List.getLast_eq_getElem, List.getD_eq_getElem?_getD, List.getElem?_eq_getElem (by omega)]; rfl
      rw [e2, e1]
    have e3 : iv ns' = iv ns'.dropLast ++ [V.int (ns'.getD (ns'.length - 1) 0)] := by
      rw [iv_app]
      exact congrArg iv e
    rw [e3]
    exact atI_last _ _
  · have e4 : spanOf r f = ns'.getD (ns'.length - 1) 0 - ns'.getD 0 0 := by unfold spanOf; rw [hmx, hmn]
    rw [← e4]
    exact q.go ((e1.trans e2).trans e3)
theorem sp_lspan {a b : Addr} {r f : List Int} (hr : SqL K H a (iv r)) (hf : SqL K H b (iv f)) (hl : f.length + 1 = r.length) (hz : r.length ≤ 40) : SpV (p__law_span K) [.ref a, .ref b] H (.int (spanOf r f)) := fun H1 e Q q E =>
  ⟨a, b, r, f, rfl, ex_l e hr, ex_l e hf, hl, hz, fun H2 e2 => q H2 e2⟩
end
end Fo

namespace Fo
open PySem PySem.Spec PyProof.Rows L2 Evl
section
variable {K : PySem.W.Frag} {H : Hp} {Q : VK} {E E1 : XK} {vs : List V}
/-! ### two lists of whole numbers are one -/
theorem no_false (n : Nat) : inV (.bl false) ((List.range n).map fun _ => V.bl true) = false := by
  unfold inV
  rw [List.any_eq_false]
  intro x hx
  obtain ⟨_, _, rfl⟩ := List.mem_map.mp hx
  decide
theorem all_flat (n : Nat) : ((List.range n).map fun _ => V.bl true).all flatV = true := by
  rw [List.all_eq_true]
  intro x hx
  obtain ⟨_, _, rfl⟩ := List.mem_map.mp hx
  rfl
def p__law_numbers (K : PySem.W.Frag) : Sp := fun vs H Q _ => ∃ a b xs ys, vs = [.ref a, .ref b] ∧ H a = some (.lst (iv xs)) ∧ SqL K H b (iv ys) ∧ xs.length ≤ 10000 ∧ RetV (.bl (decide (xs = ys))) H Q
theorem r__law_numbers (h : p__law_numbers K vs H Q E) : t__law_numbers K E1 p__law_whole (En Q) (start ["found", "due", "number"] vs) H := by
  obtain ⟨a, b, xs, ys, rfl, ha, hb, hz, q⟩ := h
  have sa := SqL.of (K := K) ha
  refine q_when (b := false || !decide (xs = ys)) (et_or (et_not (a := true) (et_B (ev_isi (ev_var rfl) ev_c (.ty _) (fun H1 e => .base (.lst (e _ _ ha))) (kit_ty (by decide +kernel))))) fun _ => et_test (ev_op (ev_var rfl) (ev_var rfl) (rv_neI sa hb))) (fun hc H1 e => ?_) (fun hc H1 e => ?_)
  · have e1 : decide (xs = ys) = false := by simpa using hc
    rw [e1] at q
    exact s_ret ev_c fun H2 e2 => q.go (e.trans e2)
  · have e1 : decide (xs = ys) = true := by simpa using hc
    rw [e1] at q
    refine s_ret (v := .bl true) ?_ fun H2 e2 => q.go (e.trans e2)
    refine ev_opL (xs := (List.range xs.length).map fun _ => V.bl true) ev_c ?_ fun p H2 hp e2 => ?_
    · have h := el_lcLy (te := tCall p__law_whole [] E1 (tCons (tVar 2) tNil)) (tl := tVar 0) (j := 2) (vs := [2]) (xs := iv xs) (σ := [some (.ref a), some (.ref b), none]) (H := H1) (fun _ => V.bl true) (ev_var rfl) (ex_l e sa) (by rw [iv_len]; omega) (fun x => rfl) (fun i x H3 e3 hi => by
        obtain ⟨n, hn, rfl⟩ := iv_get hi
        exact ev_call (vs := [.int n]) (ea_cons (ev_var rfl) ea_nil) sp_whole)
      rw [iv_len] at h
      exact h
    · have h := rv_niL (K := K) (x := .bl false) (sq_of hp) rfl (all_flat xs.length)
      rw [no_false] at h
      exact h
theorem sp_numbers {a b : Addr} {xs ys : List Int} (ha : H a = some (.lst (iv xs))) (hb : SqL K H b (iv ys)) (hz : xs.length ≤ 10000) : SpV (p__law_numbers K) [.ref a, .ref b] H (.bl (decide (xs = ys))) := fun H1 e Q q E =>
  ⟨a, b, xs, ys, rfl, e _ _ ha, ex_l e hb, hz, fun H2 e2 => q H2 e2⟩
/-! ### the refusals, where nothing is to be refused -/
def p_see_rule0 (K : PySem.W.Frag) : Sp := fun vs H Q _ => ∃ a r, vs = [.ref a] ∧ SqL K H a (iv r) ∧ OkR r ∧ RetV .non H Q
theorem ok_at {r : List Int} (h : OkR r) {i : Nat} {x : V} (e : (iv r)[i]? = some x) : ∃ n, x = .int n ∧ 1 ≤ n ∧ n ≤ 60 := by
  obtain ⟨n, hn, rfl⟩ := iv_get e
  exact ⟨n, rfl, h.all n (List.mem_of_getElem? hn)⟩
theorem r_see_rule0 {x0 x1 : TS} (h : p_see_rule0 K vs H Q E) : t_see_rule K E1 x0 x1 (En Q) (start ["rule", "length"] vs) H := by
  obtain ⟨a, r, rfl, hr, ok, q⟩ := h
  have l1 := ok.l1
  have l2 := ok.l12
  refine q_when (b := !(true && true)) (et_not (et_test (ev_chain (x := .int 1) (y := .int r.length) (z := .int 12) ev_c (ev_is (ev_len (ev_var rfl) hr) (by rw [iv_len])) ?_ (fun _ => ev_c) fun _ => ?_))) (fun hc => by cases hc) (fun _ H1 e1 => ?_)
  · have h := rv_I0 (H := H) (g := fun i j => V.bl (decide (i ≤ j))) (i := 1) (j := (r.length : Int))
    rw [show decide ((1 : Int) ≤ (r.length : Int)) = true from decide_eq_true (by omega)] at h
    exact h
  · have h := rv_I0 (H := H) (g := fun i j => V.bl (decide (i ≤ j))) (i := (r.length : Int)) (j := 12)
    rw [show decide ((r.length : Int) ≤ (12 : Int)) = true from decide_eq_true (by omega)] at h
    exact h
  have hr1 := ex_l e1 hr
  refine s_when (b := !decide (([] : List Int) = [])) (et_test ?_) (fun hc => by simp at hc) (fun _ H2 e2 => q.go (e1.trans e2))
  refine ev_opLL (xs := iv []) (ys := iv []) ?_ (el_lst ea_nil (by decide)) fun p p' H2 hp hp' e2 => rv_neI (sq_of hp) (sq_of hp')
  have h := el_lcL (te := tVar 1) (t := tNot (tTest (tChain rLeI rLeI (tC (.int 1)) (tVar 1) (tC (.int 60))))) (tl := tVar 0) (j := 1) (vs := [1]) (σ := [some (.ref a), none]) (H := H1) (fun _ => false) (fun i => V.int (r.getD i 0)) (ev_var rfl) hr1 (by rw [iv_len]; omega) (fun x => rfl) (fun i x H2 e2 hi => by
    obtain ⟨n, rfl, n1, n2⟩ := ok_at ok hi
    refine et_not (a := true && true) (et_test (ev_chain (x := .int 1) (y := .int n) (z := .int 60) ev_c (ev_var rfl) ?_ (fun _ => ev_c) fun _ => ?_))
    · have h := rv_I0 (H := H2) (g := fun i j => V.bl (decide (i ≤ j))) (i := 1) (j := n)
      rw [show decide ((1 : Int) ≤ n) = true from decide_eq_true n1] at h
      exact h
    · have h := rv_I0 (H := H2) (g := fun i j => V.bl (decide (i ≤ j))) (i := n) (j := 60)
      rw [show decide (n ≤ (60 : Int)) = true from decide_eq_true n2] at h
      exact h) (fun i x H2 e2 hi hf => by cases hf)
  rw [given_nil (fun _ _ => rfl)] at h
  exact h
theorem sp_see_rule0 {a : Addr} {r : List Int} (hr : SqL K H a (iv r)) (ok : OkR r) : SpV (p_see_rule0 K) [.ref a] H .non := fun H1 e Q q E => ⟨a, r, rfl, ex_l e hr, ok, fun H2 e2 => q H2 e2⟩
def p_see_folding0 (K : PySem.W.Frag) : Sp := fun vs H Q _ => ∃ a b r f, vs = [.ref a, .ref b] ∧ SqL K H a (iv r) ∧ SqL K H b (iv f) ∧ OkR r ∧ OkF r f ∧ RetV .non H Q
theorem r_see_folding0 {x0 : TS} (h : p_see_folding0 K vs H Q E) : t_see_folding K E1 (p_see_rule0 K) x0 (En Q) (start ["rule", "folding", "turn"] vs) H := by
  obtain ⟨a, b, r, f, rfl, hr, hf, ok, okf, q⟩ := h
  have l1 := ok.l1
  have l2 := ok.l12
  have l3 := okf.len
  refine q_drop (ev_call (vs := [.ref a]) (ea_cons (ev_var rfl) ea_nil) (sp_see_rule0 hr ok)) fun H1 e1 => ?_
  have hr1 := ex_l e1 hr
  have hf1 := ex_l e1 hf
  refine s_when (b := false || !decide (([] : List Int) = [])) (et_or (et_test ?_) fun _ => et_test ?_) (fun hc => by simp at hc) (fun _ H2 e2 => q.go (e1.trans e2))
  · refine ev_is (ev_op (ev_len (ev_var rfl) hf1) (ev_op (ev_len (ev_var rfl) hr1) ev_c rv_I0) (rv_ne rfl)) ?_
    rw [dec_int, iv_len, iv_len]
    have e : ((f.length : Int) == (r.length : Int) - 1) = true := by rw [beq_iff_eq]; omega
    rw [e]
    rfl
  refine ev_opLL (xs := iv []) (ys := iv []) ?_ (el_lst ea_nil (by decide)) fun p p' H2 hp hp' e2 => rv_neI (sq_of hp) (sq_of hp')
  have h := el_lcL (te := tVar 2) (t := tAnd (tTest (tOp rNe (tVar 2) (tC (.int 0)))) (tTest (tOp rNe (tVar 2) (tC (.int 1))))) (tl := tVar 1) (j := 2) (vs := [2]) (σ := [some (.ref a), some (.ref b), none]) (H := H1) (fun _ => false) (fun i => V.int (f.getD i 0)) (ev_var rfl) hf1 (by rw [iv_len]; omega) (fun x => rfl) (fun i x H2 e2 hi => by
    obtain ⟨n, hn, rfl⟩ := iv_get hi
    have ht := okf.all n (List.mem_of_getElem? hn)
    refine et_is (et_and (a := !decide (n = 0)) (b := !decide (n = 1)) (et_test (ev_is (ev_op (ev_var rfl) ev_c (rv_ne rfl)) (by rw [dec_int]; rfl))) fun _ => et_test (ev_is (ev_op (ev_var rfl) ev_c (rv_ne rfl)) (by rw [dec_int]; rfl))) ?_
    rcases ht with rfl | rfl <;> decide) (fun i x H2 e2 hi hf => by cases hf)
  rw [given_nil (fun _ _ => rfl)] at h
  exact h
theorem sp_see_folding0 {a b : Addr} {r f : List Int} (hr : SqL K H a (iv r)) (hf : SqL K H b (iv f)) (ok : OkR r) (okf : OkF r f) : SpV (p_see_folding0 K) [.ref a, .ref b] H .non := fun H1 e Q q E => ⟨a, b, r, f, rfl, ex_l e hr, ex_l e hf, ok, okf, fun H2 e2 => q H2 e2⟩
/-! ### the places, the joints, the span, fits -/
def p_places_of (K : PySem.W.Frag) : Sp := fun vs H Q _ => ∃ a b r f, vs = [.ref a, .ref b] ∧ SqL K H a (iv r) ∧ SqL K H b (iv f) ∧ OkR r ∧ OkF r f ∧ RetL (iv (jointsOf r f)) H Q
def wayI (u : Bool) : Int := if u then 1 else -1
theorem wayI_not (u : Bool) : wayI (!u) = 0 - wayI u := by cases u <;> rfl
theorem r_places_of (h : p_places_of K vs H Q E) : t_places_of K E1 (En Q) (start ["rule", "folding", "places", "way", "k"] vs) H := by
  obtain ⟨a, b, r, f, rfl, hr, hf, ok, okf, q⟩ := h
  have l1 := ok.l1
  have l2 := ok.l12
  have l3 := okf.len
  refine q_asgL (xs := iv (plTo r f 2)) ?_ fun p H1 hp e1 h1 => ?_
  · have e : iv (plTo r f 2) = [V.int 0, V.int (r.getD 0 0)] := by
      show [V.int (plAt r f 0), V.int (plAt r f 1)] = _
      have e2 : plAt r f 1 = r.getD 0 0 := by show 0 + r.getD 0 0 = _; omega
      rw [e2]
      rfl
    rw [e]
    exact el_lst (ea_cons ev_c (ea_cons (ev_op (ev_var rfl) ev_c (rv_ixL hr (atI_nat (j := 0) (iv_at (getD_of (by omega)))))) ea_nil)) (by show 2 ≤ 100000; decide)
  refine q_asg ev_c fun H2 e2 => ?_
  refine q_forR1 (n := (f.length : Int)) (ea_cons (ev_is (ev_len (ev_var rfl) (ex_l (e1.trans e2) hf)) (by rw [iv_len])) ea_nil) ⟨by omega, by omega⟩
    (fun i σ' H' => ∃ kv, σ' = [some (.ref a), some (.ref b), some (.ref p), some (.int (wayI (upAt f i))), kv] ∧ Mk H p H' (iv (plTo r f (i + 2))))
    (fun H3 e3 => ⟨_, rfl, hp, (e1.trans e2).trans e3, e3 _ _ (e2 _ _ h1)⟩) ?_ ?_
  · rintro i σ' H' hi ⟨kv, rfl, m⟩
    have hi' : i < f.length := by omega
    have hr' := ex_l m.ex hr
    have hf' := ex_l m.ex hf
    refine q_ifAsg (v := .int (wayI (upAt f (i + 1)))) (b := decide (f.getD i 0 = 1)) ?_ ?_ ?_ ?_
    · refine et_test (ev_is (ev_op (ev_op (ev_var rfl) (ev_var rfl) (rv_ixL hf' (atI_nat (iv_at (getD_of hi'))))) ev_c (rv_eq rfl)) ?_)
      rw [dec_int]; rfl
    · intro hb
      refine ev_is (ev_op ev_c (ev_var rfl) rv_I0) (congrArg V.int ?_)
      show 0 - wayI (upAt f i) = wayI (if f.getD i 0 = 1 then !(upAt f i) else upAt f i)
      rw [if_pos (of_decide_eq_true hb), wayI_not]
    · intro hb
      have e : upAt f (i + 1) = upAt f i := by
        show (if f.getD i 0 = 1 then !(upAt f i) else upAt f i) = _
        rw [if_neg (of_decide_eq_false hb)]
      rw [e]
      rfl
    · intro H3 e3
      have m3 := m.mono e3
      refine s_app m3.at_ (ev_var rfl) (ev_op (ev_op (ev_var rfl) (ev_un ev_c ru_neg) (rv_ixL (sq_of m3.at_) (pl_last (i := i + 1)))) (ev_op (ev_var rfl) (ev_op (ev_var rfl) (ev_is (ev_op (ev_var rfl) ev_c rv_I0) (congrArg V.int (show (i : Int) + 1 = ((i + 1 : Nat) : Int) by omega))) (rv_ixL (ex_l e3 hr') (atI_nat (iv_at (getD_of (i := i + 1) (by omega)))))) (rv_I (.inl ?_))) rv_I0) (by rw [iv_len, plTo_len]; omega) fun H5 e5 => ?_
      · cases upAt f (i + 1) <;> decide
      refine ⟨_, rfl, ?_⟩
      have e : plTo r f (i + 1 + 2) = plTo r f (i + 2) ++ [plAt r f (i + 1) + wayI (upAt f (i + 1)) * r.getD (i + 1) 0] := by
        rw [plTo_succ r f (i + 2)]
        congr 2
        show (if upAt f (i + 1) then _ else _) = _
        cases upAt f (i + 1)
        · show plAt r f (i + 1) - r.getD (i + 1) 0 = plAt r f (i + 1) + -1 * r.getD (i + 1) 0
          omega
        · show plAt r f (i + 1) + r.getD (i + 1) 0 = plAt r f (i + 1) + 1 * r.getD (i + 1) 0
          omega
      rw [e, ← iv_app]
      exact m3.app e5
  · rintro σ' H' ⟨kv, rfl, m⟩
    refine s_ret (ev_var rfl) fun H3 e3 => ?_
    have e : plTo r f ((f.length : Int).toNat + 2) = jointsOf r f := by
      unfold jointsOf
      congr 1
      omega
    rw [e] at m
    exact (m.mono e3).ret q
theorem sl_places {a b : Addr} {r f : List Int} (hr : SqL K H a (iv r)) (hf : SqL K H b (iv f)) (ok : OkR r) (okf : OkF r f) : SpL (p_places_of K) [.ref a, .ref b] H (iv (jointsOf r f)) := fun H1 e Q q E =>
  ⟨a, b, r, f, rfl, ex_l e hr, ex_l e hf, ok, okf, fun p H2 hp e2 h2 => q p H2 hp e2 h2⟩
def p_joints0 (K : PySem.W.Frag) : Sp := p_places_of K
theorem r_joints0 (h : p_joints0 K vs H Q E) : t_joints K E1 (p_see_folding0 K) (p_places_of K) (En Q) (start ["rule", "folding"] vs) H := by
  obtain ⟨a, b, r, f, rfl, hr, hf, ok, okf, q⟩ := h
  refine q_drop (ev_call (vs := [.ref a, .ref b]) (ea_cons (ev_var rfl) (ea_cons (ev_var rfl) ea_nil)) (sp_see_folding0 hr hf ok okf)) fun H1 e1 => ?_
  exact s_retL (el_call (vs := [.ref a, .ref b]) (ea_cons (ev_var rfl) (ea_cons (ev_var rfl) ea_nil)) (sl_places (ex_l e1 hr) (ex_l e1 hf) ok okf)) fun p H2 hp e2 h2 => q.go e1 hp e2 h2
theorem sl_joints0 {a b : Addr} {r f : List Int} (hr : SqL K H a (iv r)) (hf : SqL K H b (iv f)) (ok : OkR r) (okf : OkF r f) : SpL (p_joints0 K) [.ref a, .ref b] H (iv (jointsOf r f)) := sl_places hr hf ok okf
def p_span0 (K : PySem.W.Frag) : Sp := fun vs H Q _ => ∃ a b r f, vs = [.ref a, .ref b] ∧ SqL K H a (iv r) ∧ SqL K H b (iv f) ∧ OkR r ∧ OkF r f ∧ RetV (.int (spanOf r f)) H Q
theorem r_span0 (h : p_span0 K vs H Q E) : t_span K E1 (p_see_folding0 K) (p_places_of K) (En Q) (start ["rule", "folding", "places"] vs) H := by
  obtain ⟨a, b, r, f, rfl, hr, hf, ok, okf, q⟩ := h
  refine q_drop (ev_call (vs := [.ref a, .ref b]) (ea_cons (ev_var rfl) (ea_cons (ev_var rfl) ea_nil)) (sp_see_folding0 hr hf ok okf)) fun H1 e1 => ?_
  refine q_asgL (el_call (vs := [.ref a, .ref b]) (ea_cons (ev_var rfl) (ea_cons (ev_var rfl) ea_nil)) (sl_places (ex_l e1 hr) (ex_l e1 hf) ok okf)) fun p H2 hp e2 h2 => ?_
  have z := zero_joints r f
  exact s_ret (ev_op (ev_maxL (ev_var rfl) (sq_of h2) (mx_mem z) (mx_ge _).2) (ev_minL (ev_var rfl) (sq_of h2) (mn_mem z) (mn_le _).2) rv_I0) fun H3 e3 => q.go ((e1.trans e2).trans e3)
theorem sp_span0 {a b : Addr} {r f : List Int} (hr : SqL K H a (iv r)) (hf : SqL K H b (iv f)) (ok : OkR r) (okf : OkF r f) : SpV (p_span0 K) [.ref a, .ref b] H (.int (spanOf r f)) := fun H1 e Q q E => ⟨a, b, r, f, rfl, ex_l e hr, ex_l e hf, ok, okf, fun H2 e2 => q H2 e2⟩
def p_fits0 (K : PySem.W.Frag) : Sp := fun vs H Q _ => ∃ a b r f c, vs = [.ref a, .ref b, .int c] ∧ SqL K H a (iv r) ∧ SqL K H b (iv f) ∧ OkR r ∧ OkF r f ∧ RetV (.bl (decide (spanOf r f ≤ c))) H Q
theorem r_fits0 (h : p_fits0 K vs H Q E) : t_fits K E1 (p_see_folding0 K) (p_span0 K) (En Q) (start ["rule", "folding", "case"] vs) H := by
  obtain ⟨a, b, r, f, c, rfl, hr, hf, ok, okf, q⟩ := h
  refine q_drop (ev_call (vs := [.ref a, .ref b]) (ea_cons (ev_var rfl) (ea_cons (ev_var rfl) ea_nil)) (sp_see_folding0 hr hf ok okf)) fun H1 e1 => ?_
  exact s_ret (ev_op (ev_call (vs := [.ref a, .ref b]) (ea_cons (ev_var rfl) (ea_cons (ev_var rfl) ea_nil)) (sp_span0 (ex_l e1 hr) (ex_l e1 hf) ok okf)) (ev_var rfl) rv_I0) fun H2 e2 => q.go (e1.trans e2)
theorem sp_fits0 {a b : Addr} {r f : List Int} {c : Int} (hr : SqL K H a (iv r)) (hf : SqL K H b (iv f)) (ok : OkR r) (okf : OkF r f) : SpV (p_fits0 K) [.ref a, .ref b, .int c] H (.bl (decide (spanOf r f ≤ c))) := fun H1 e Q q E => ⟨a, b, r, f, c, rfl, ex_l e hr, ex_l e hf, ok, okf, fun H2 e2 => q H2 e2⟩
end
end Fo

namespace Fo
open PySem PySem.Spec PyProof.Rows L2 Evl
/-! ### what a reading gives, told by a word of the value and the heap behind it -/
def EvR (te : TE) (σ : L2.St) (H : Hp) (P : V → Hp → Prop) : Prop := ∀ H1, Ex H H1 → ∀ Q : VK, (∀ v H2, Ex H1 H2 → P v H2 → Q v H2) → te σ H1 Q
def EvRA (ta : TA) (σ : L2.St) (H : Hp) (P : List V → Hp → Prop) : Prop := ∀ H1, Ex H H1 → ∀ Q : List V → Hp → Prop, (∀ vs H2, Ex H1 H2 → P vs H2 → Q vs H2) → ta σ H1 Q
def Up {α : Type} (P : α → Hp → Prop) : Prop := ∀ a H1 H2, Ex H1 H2 → P a H1 → P a H2
section
variable {K : PySem.W.Frag} {σ : L2.St} {H H' : Hp} {ta tb tc te tx : TE} {t u : TT} {x y z v : V} {r r' : R2} {D : Ends} {tu tw tz : TS} {g : TG} {P R : V → Hp → Prop}
theorem er_v (h : Ev te σ H v) : EvR te σ H (fun w _ => w = v) := fun H1 e Q q => h H1 e Q fun H2 e2 => q v H2 e2 rfl
theorem er_l {xs : List V} (h : EvL te σ H xs) : EvR te σ H (fun w H2 => ∃ p, w = .ref p ∧ H p = none ∧ H2 p = some (.lst xs)) := fun H1 e Q q => h H1 e Q fun p H2 hp e2 h2 => q _ H2 e2 ⟨p, rfl, fresh_back e hp, h2⟩
theorem er_imp {P' : V → Hp → Prop} (h : EvR te σ H P) (i : ∀ v H2, Ex H H2 → P v H2 → P' v H2) : EvR te σ H P' := fun H1 e Q q => h H1 e Q fun v H2 e2 p => q v H2 e2 (i v H2 (e.trans e2) p)
theorem era_nil : EvRA tNil σ H (fun vs _ => vs = []) := fun H1 e Q q => q [] H1 (Ex.refl _) rfl
theorem era_cons {tr : TA} {S : List V → Hp → Prop} (h : EvR te σ H P) (hP : Up P) (hr : EvRA tr σ H S) : EvRA (tCons te tr) σ H (fun vs H2 => ∃ v ws, vs = v :: ws ∧ P v H2 ∧ S ws H2) := fun H1 e Q q =>
  h H1 e _ fun v H2 e2 p => hr H2 (e.trans e2) _ fun ws H3 e3 s => q _ H3 (e2.trans e3) ⟨v, ws, rfl, hP v H2 H3 e3 p, s⟩
theorem era_v {ta : TA} {vs : List V} (h : EvA ta σ H vs) : EvRA ta σ H (fun ws _ => ws = vs) := fun H1 e Q q => h H1 e Q fun H2 e2 => q vs H2 e2 rfl
theorem er_lst {ta : TA} {S : List V → Hp → Prop} {n : Nat} (h : EvRA ta σ H S) (hS : Up S) (hn : ∀ vs H2, S vs H2 → vs.length ≤ 100000) : EvR (tLst ta) σ H (fun w H2 => ∃ p vs, w = .ref p ∧ H p = none ∧ H2 p = some (.lst vs) ∧ S vs H2) := fun H1 e Q q =>
  h H1 e _ fun vs H2 e2 s => ⟨sz_of (hn vs H2 s), fun p hp => q _ _ (e2.trans (Ex.new hp)) ⟨p, vs, rfl, fresh_back (e.trans e2) hp, upd_same, hS vs H2 _ (Ex.new hp) s⟩⟩
theorem s_asgR {i : Nat} (h : EvR te σ H P) (k : ∀ v H1, Ex H H1 → P v H1 → D.nx (σ.set i (some v)) H1) : tAsg te (gName i) D σ H := h H (Ex.refl H) _ fun v H1 e p => k v H1 e p
theorem q_asgR {i : Nat} (h : EvR te σ H P) (k : ∀ v H1, Ex H H1 → P v H1 → tz D (σ.set i (some v)) H1) : tSeq (tAsg te (gName i)) tz D σ H := s_asgR (D := { D with nx := tz D }) h k
theorem s_retR (h : EvR te σ H P) (k : ∀ v H1, Ex H H1 → P v H1 → D.rt v H1) : tRet te D σ H := h H (Ex.refl H) _ k
/-- xs.clear() -/
theorem s_clear {l : Addr} {xs : List V} (hl : H l = some (.lst xs)) (ha : Ev ta σ H (.ref l)) (k : ∀ H1, Ex H H1 → D.nx σ (upd H1 l (.lst []))) : tDrop (tBM0 K "list" rClear ta) D σ H := ha H (Ex.refl H) _ fun H1 e1 =>
  ⟨Or.inl ⟨rfl, xs, sq_of (e1 l _ hl)⟩, l, xs, rfl, rfl, e1 l _ hl, k H1 e1⟩
theorem q_clear {l : Addr} {xs : List V} (hl : H l = some (.lst xs)) (ha : Ev ta σ H (.ref l)) (k : ∀ H1, Ex H H1 → tz D σ (upd H1 l (.lst []))) : tSeq (tDrop (tBM0 K "list" rClear ta)) tz D σ H := s_clear (D := { D with nx := tz D }) hl ha k
/-- a new list of two new copies -/
theorem er_pair {tA tB : TE} {xs ys : List V} (h1 : EvL tA σ H xs) (h2 : EvL tB σ H ys) : EvR (tLst (tCons tA (tCons tB tNil))) σ H (fun w H2 => ∃ p a b, w = .ref p ∧ H p = none ∧ H2 p = some (.lst [.ref a, .ref b]) ∧ H a = none ∧ H b = none ∧ H2 a = some (.lst xs) ∧ H2 b = some (.lst ys)) := fun H1 e Q q =>
  h1 H1 e _ fun a H2 ha e2 hA => h2 H2 (e.trans e2) _ fun b H3 hb e3 hB => ⟨by show 2 ≤ sizeLine; decide, fun p hp =>
    q _ _ ((e2.trans e3).trans (Ex.new hp)) ⟨p, a, b, rfl, fresh_back ((e.trans e2).trans e3) hp, upd_same, fresh_back e ha, fresh_back (e.trans e2) hb, (Ex.new hp) _ _ (e3 _ _ hA), (Ex.new hp) _ _ hB⟩⟩
theorem rows2 {a b : Addr} {xs ys : List Int} (h1 : SqL K H a (iv xs)) (h2 : SqL K H b (iv ys)) : RowsAt K H [.ref a, .ref b] [xs, ys] := .cons ⟨a, rfl, h1⟩ (.cons ⟨b, rfl, h2⟩ .nil)
theorem rows1 {a : Addr} {xs : List Int} (h1 : SqL K H a (iv xs)) : RowsAt K H [.ref a] [xs] := .cons ⟨a, rfl, h1⟩ .nil
/-- o != [x, y], the names of two lists -/
theorem ev_ne2 {h a b c d : Addr} {xs ys zs ws : List Int} (hh : SqL K H h [.ref a, .ref b]) (ha : SqL K H a (iv xs)) (hb : SqL K H b (iv ys)) (hc : SqL K H c (iv zs)) (hd : SqL K H d (iv ws)) (e1 : Ev ta σ H (.ref h)) (e2 : Ev tb σ H (.ref c)) (e3 : Ev tc σ H (.ref d)) :
    Ev (tOp (rNeD K) ta (tLst (tCons tb (tCons tc tNil)))) σ H (.bl (!decide ([xs, ys] = [zs, ws]))) :=
  ev_opL e1 (el_lst (ea_cons e2 (ea_cons e3 ea_nil)) (by show 2 ≤ 100000; decide)) fun p H1 hp e => rv_neLL (ex_l e hh) (rows2 (ex_l e ha) (ex_l e hb)) (sq_of hp) (rows2 (ex_l e hc) (ex_l e hd))
theorem ev_eq2 {h a b c d : Addr} {xs ys zs ws : List Int} (hh : SqL K H h [.ref a, .ref b]) (ha : SqL K H a (iv xs)) (hb : SqL K H b (iv ys)) (hc : SqL K H c (iv zs)) (hd : SqL K H d (iv ws)) (e1 : Ev ta σ H (.ref h)) (e2 : Ev tb σ H (.ref c)) (e3 : Ev tc σ H (.ref d)) :
    Ev (tOp (rEqD K) ta (tLst (tCons tb (tCons tc tNil)))) σ H (.bl (decide ([xs, ys] = [zs, ws]))) :=
  ev_opL e1 (el_lst (ea_cons e2 (ea_cons e3 ea_nil)) (by show 2 ≤ 100000; decide)) fun p H1 hp e => rv_eqLL (ex_l e hh) (rows2 (ex_l e ha) (ex_l e hb)) (sq_of hp) (rows2 (ex_l e hc) (ex_l e hd))
end
/-- pieces = 1 + _law_draw(script, k) % m -/
def piecesOf (ns : List Int) (k m : Nat) : Nat := 1 + (draw ns k % m).toNat
theorem pieces_ok (ns : List Int) (k m : Nat) (hm : 1 ≤ m) : 1 ≤ piecesOf ns k m ∧ piecesOf ns k m ≤ m := by
  unfold piecesOf
  have h1 := draw_nn ns k
  have h2 : draw ns k % m < m := Int.emod_lt_of_pos _ (by omega)
  have h3 : 0 ≤ draw ns k % m := Int.emod_nonneg _ (by omega)
  omega
theorem pieces_eq (ns : List Int) (k m : Nat) (hm : 1 ≤ m) : 1 + draw ns k % m = ((piecesOf ns k m : Nat) : Int) := by
  unfold piecesOf
  have h3 : 0 ≤ draw ns k % m := Int.emod_nonneg _ (by omega)
  omega
def p_law (K : PySem.W.Frag) : Sp := fun vs H Q _ => ∃ a ns, vs = [.ref a] ∧ SqL K H a (iv ns) ∧ ∀ H', Q (.bl true) H'
end Fo

namespace Fo
open PySem PySem.Spec PyProof.Rows L2 Evl
section
variable {K : PySem.W.Frag} {H : Hp} {Q : VK} {E E1 : XK} {vs : List V}
theorem r_law_k01 (h : p_law K vs H Q E) : t_law_k01 K E1 (p__law_draw K) (p__law_rule K) (p__law_folding K) (p__law_joints K) (p_joints0 K) (p__law_numbers K) (p_span0 K) p__law_whole (p_fits0 K) (En Q)
    (start ["script", "pieces", "rule", "folding", "handed", "due", "turn", "found", "length", "case"] vs) H := by
  obtain ⟨a, ns, rfl, hS, q⟩ := h
  obtain ⟨hp1, hp2⟩ := pieces_ok ns 1 12 (by decide)
  have pe := pieces_eq ns 1 12 (by decide)
  generalize piecesOf ns 1 12 = p at hp1 hp2 pe
  refine q_asg (v := .int p) (ev_is (ev_op ev_c (ev_op (ev_call (vs := [.ref a, .int ((1 : Nat) : Int)]) (ea_cons (ev_var rfl) (ea_cons ev_c ea_nil)) (sp_draw hS (by decide))) ev_c (rv_I (by decide))) rv_I0) (congrArg V.int pe)) fun H1 e1 => ?_
  have S1 := ex_l e1 hS
  refine q_asgL (el_call (vs := [.ref a, .int p]) (ea_cons (ev_var rfl) (ea_cons (ev_var rfl) ea_nil)) (sl_rule S1 hp1 hp2)) fun ra H2 hra e2 h2 => ?_
  have S2 := ex_l e2 S1
  have ok := rule_ok ns p hp1 hp2
  have okf := fold_ok ns 30 p (ruleOf ns p) (rule_len ns p) hp1
  refine q_asgL (el_call (vs := [.ref a, .int ((30 : Nat) : Int), .int p]) (ea_cons (ev_var rfl) (ea_cons ev_c (ea_cons (ev_var rfl) ea_nil))) (sl_folding S2 hp1 hp2 (by decide))) fun fa H3 hfa e3 h3 => ?_
  generalize ruleOf ns p = r at ok okf h2
  generalize foldOf ns 30 p = f at okf h3
  have l1 := ok.l1
  have l2 := ok.l12
  have l3 := okf.len
  have R3 := SqL.of (K := K) (e3 _ _ h2)
  have F3 := SqL.of (K := K) h3
  refine q_asgR (er_pair (el_list (ev_var rfl) R3) (el_list (ev_var rfl) F3)) fun _ H4 e4 ⟨ha, x, y, ev, _, h4, _, _, hx, hy⟩ => ?_
  subst ev
  refine q_asgL (el_call (vs := [.ref ra, .ref fa]) (ea_cons (ev_var rfl) (ea_cons (ev_var rfl) ea_nil)) (sl_joints (ex_l e4 R3) (ex_l e4 F3) l3 (by omega))) fun da H5 hda e5 h5 => ?_
  have S5 := ex_l ((e3.trans e4).trans e5) S2
  have R5 := ex_l (e4.trans e5) R3
  have F5 := ex_l (e4.trans e5) F3
  have A5 := SqL.of (K := K) (e5 _ _ h4)
  have X5 := SqL.of (K := K) (e5 _ _ hx)
  have Y5 := SqL.of (K := K) (e5 _ _ hy)
  have D5 := SqL.of (K := K) h5
  refine q_forR1 (n := 2) (ea_cons ev_c ea_nil) ⟨by decide, by decide⟩
    (fun i σ' H' => ∃ kv fv, σ' = [some (.ref a), some (.int p), some (.ref ra), some (.ref fa), some (.ref ha), some (.ref da), kv, fv, none, none] ∧ Ex H5 H') (fun H6 e6 => ⟨_, _, rfl, e6⟩) ?_ ?_
  · rintro i σ' H' hi ⟨kv, fv, rfl, e6⟩
    refine q_asgL (el_call (vs := [.ref x, .ref y]) (ea_cons (ev_op (ev_var rfl) ev_c (rv_ixL (ex_l e6 A5) (atI_nat (j := 0) rfl))) (ea_cons (ev_op (ev_var rfl) ev_c (rv_ixL (ex_l e6 A5) (atI_nat (j := 1) rfl))) ea_nil)) (sl_joints0 (ex_l e6 X5) (ex_l e6 Y5) ok okf)) fun ja H7 hja e7 h7 => ?_
    have e57 := e6.trans e7
    refine q_when (b := (!true) || !decide ([r, f] = [r, f])) (et_or (et_not (et_B (ev_is (ev_call (vs := [.ref ja, .ref da]) (ea_cons (ev_var rfl) (ea_cons (ev_var rfl) ea_nil)) (sp_numbers h7 (ex_l e57 D5) (by rw [jointsOf, plTo_len]; omega))) (by rw [decide_eq_true rfl])))) fun _ => et_test (ev_ne2 (ex_l e57 A5) (ex_l e57 X5) (ex_l e57 Y5) (ex_l e57 R5) (ex_l e57 F5) (ev_var rfl) (ev_var rfl) (ev_var rfl)))
      (fun hc => by simp at hc) (fun _ H8 e8 => ?_)
    exact s_clear (e8 _ _ h7) (ev_var rfl) fun H9 e9 => ⟨_, _, rfl, e6.trans (Ex.mut ((e7.trans e8).trans e9) hja)⟩
  · rintro σ' H6 ⟨kv, fv, rfl, e6⟩
    refine q_asg (v := .int (spanOf r f)) (ev_call (vs := [.ref x, .ref y]) (ea_cons (ev_op (ev_var rfl) ev_c (rv_ixL (ex_l e6 A5) (atI_nat (j := 0) rfl))) (ea_cons (ev_op (ev_var rfl) ev_c (rv_ixL (ex_l e6 A5) (atI_nat (j := 1) rfl))) ea_nil)) (sp_span0 (ex_l e6 X5) (ex_l e6 Y5) ok okf)) fun H7 e7 => ?_
    have e57 := e6.trans e7
    have z := zero_joints r f
    refine q_when (b := (!true) || !decide (spanOf r f = spanOf r f)) (et_or (et_not (et_B (ev_call (vs := [.int (spanOf r f)]) (ea_cons (ev_var rfl) ea_nil) sp_whole))) fun _ => et_test (ev_is (ev_op (ev_var rfl) (ev_op (ev_maxL (ev_var rfl) (ex_l e57 D5) (mx_mem z) (mx_ge _).2) (ev_minL (ev_var rfl) (ex_l e57 D5) (mn_mem z) (mn_le _).2) rv_I0) (rv_ne rfl)) (by rw [dec_int]; rfl)))
      (fun hc => by simp at hc) (fun _ H8 e8 => ?_)
    have e58 := e57.trans e8
    refine q_forNLn (xs := iv [spanOf r f, spanOf r f - 1, draw ns 50 % 801]) (el_lst (ea_cons (ev_var rfl) (ea_cons (ev_op (ev_var rfl) ev_c rv_I0) (ea_cons (ev_op (ev_call (vs := [.ref a, .int ((50 : Nat) : Int)]) (ea_cons (ev_var rfl) (ea_cons ev_c ea_nil)) (sp_draw (ex_l e58 S5) (by decide))) ev_c (rv_I (by decide))) ea_nil))) (by show 3 ≤ 100000; decide))
      (fun l i σ' H' => ∃ kv fv cv, σ' = [some (.ref a), some (.int p), some (.ref ra), some (.ref fa), some (.ref ha), some (.ref da), kv, fv, some (.int (spanOf r f)), cv] ∧ Ex H5 H' ∧ H' l = some (.lst (iv [spanOf r f, spanOf r f - 1, draw ns 50 % 801])))
      (fun l H9 hl e9 h9 => ⟨_, _, _, rfl, e58.trans e9, h9⟩) (fun l i σ' H' hi ⟨_, _, _, _, _, h⟩ => sq_of h) ?_ ?_
    · rintro l i v σ' H' hi ⟨kv, fv, cv, rfl, e9, hl⟩
      obtain ⟨c, _, rfl⟩ := iv_get hi
      refine q_asg (v := .bl (decide (spanOf r f ≤ c))) (ev_call (vs := [.ref x, .ref y, .int c]) (ea_cons (ev_op (ev_var rfl) ev_c (rv_ixL (ex_l e9 A5) (atI_nat (j := 0) rfl))) (ea_cons (ev_op (ev_var rfl) ev_c (rv_ixL (ex_l e9 A5) (atI_nat (j := 1) rfl))) (ea_cons (ev_var rfl) ea_nil))) (sp_fits0 (ex_l e9 X5) (ex_l e9 Y5) ok okf)) fun H10 e10 => ?_
      refine s_when (b := (!true) || false) (et_or (et_not (et_B (ev_isi (ev_var rfl) ev_c (.ty _) (fun H1 e => .base (.bl _)) (kit_ty (by decide +kernel))))) fun _ => et_test (ev_is (ev_op (ev_var rfl) (ev_op (ev_var rfl) (ev_var rfl) rv_I0) (rv_ne rfl)) (by rw [dec_bl]; simp))) (fun hc => by cases hc) (fun _ H11 e11 => ?_)
      exact ⟨_, _, _, rfl, (e9.trans e10).trans e11, (e10.trans e11) _ _ hl⟩
    · rintro l σ' H' ⟨kv, fv, cv, rfl, e9, hl⟩
      refine s_ret (ev_is (ev_eq2 (ex_l e9 A5) (ex_l e9 X5) (ex_l e9 Y5) (ex_l e9 R5) (ex_l e9 F5) (ev_var rfl) (ev_var rfl) (ev_var rfl)) (by rw [decide_eq_true rfl])) fun H10 _ => q H10
end
end Fo

/-! The law over the program's own text: printed by gen.py out of T.py. -/
namespace Lw
open PySem PySem.Spec PyProof.Rows L2 Evl Fo
def top (i : Nat) : Stmt := PySem.Challenge.pw_foldrule_k01_joints_and_spans.main.body.getD i (.Pass ⟨0, 0, 0, 0⟩)
abbrev s_see_rule : Stmt := top 7
abbrev s_see_folding : Stmt := top 8
abbrev s_places_of : Stmt := top 9
abbrev s_joints : Stmt := top 10
abbrev s_span : Stmt := top 11
abbrev s_fits : Stmt := top 13
abbrev s__law_cell_at : Stmt := top 15
abbrev s__law_draw : Stmt := top 16
abbrev s__law_whole : Stmt := top 17
abbrev s__law_rule : Stmt := top 18
abbrev s__law_folding : Stmt := top 19
abbrev s__law_joints : Stmt := top 20
abbrev s__law_span : Stmt := top 21
abbrev s__law_numbers : Stmt := top 22
abbrev s_law : Stmt := top 23
theorem sc_see_rule : FnScope ["rule", "length"] ["rule"] (defScope s_see_rule) := ⟨rfl, rfl, rfl, by decide +kernel, rfl, by decide +kernel, by decide +kernel⟩
theorem sc_see_folding : FnScope ["rule", "folding", "turn"] ["rule", "folding"] (defScope s_see_folding) := ⟨rfl, rfl, rfl, by decide +kernel, rfl, by decide +kernel, by decide +kernel⟩
theorem sc_places_of : FnScope ["rule", "folding", "places", "way", "k"] ["rule", "folding"] (defScope s_places_of) := ⟨rfl, rfl, rfl, by decide +kernel, rfl, by decide +kernel, by decide +kernel⟩
theorem sc_joints : FnScope ["rule", "folding"] ["rule", "folding"] (defScope s_joints) := ⟨rfl, rfl, rfl, by decide +kernel, rfl, by decide +kernel, by decide +kernel⟩
theorem sc_span : FnScope ["rule", "folding", "places"] ["rule", "folding"] (defScope s_span) := ⟨rfl, rfl, rfl, by decide +kernel, rfl, by decide +kernel, by decide +kernel⟩
theorem sc_fits : FnScope ["rule", "folding", "case"] ["rule", "folding", "case"] (defScope s_fits) := ⟨rfl, rfl, rfl, by decide +kernel, rfl, by decide +kernel, by decide +kernel⟩
theorem sc__law_cell_at : FnScope ["script", "k"] ["script", "k"] (defScope s__law_cell_at) := ⟨rfl, rfl, rfl, by decide +kernel, rfl, by decide +kernel, by decide +kernel⟩
theorem sc__law_draw : FnScope ["script", "k", "stir"] ["script", "k"] (defScope s__law_draw) := ⟨rfl, rfl, rfl, by decide +kernel, rfl, by decide +kernel, by decide +kernel⟩
theorem sc__law_whole : FnScope ["found"] ["found"] (defScope s__law_whole) := ⟨rfl, rfl, rfl, by decide +kernel, rfl, by decide +kernel, by decide +kernel⟩
theorem sc__law_rule : FnScope ["script", "pieces", "most", "rule", "k"] ["script", "pieces"] (defScope s__law_rule) := ⟨rfl, rfl, rfl, by decide +kernel, rfl, by decide +kernel, by decide +kernel⟩
theorem sc__law_folding : FnScope ["script", "start", "pieces", "k"] ["script", "start", "pieces"] (defScope s__law_folding) := ⟨rfl, rfl, rfl, by decide +kernel, rfl, by decide +kernel, by decide +kernel⟩
theorem sc__law_joints : FnScope ["rule", "folding", "places", "up", "k"] ["rule", "folding"] (defScope s__law_joints) := ⟨rfl, rfl, rfl, by decide +kernel, rfl, by decide +kernel, by decide +kernel⟩
theorem sc__law_span : FnScope ["rule", "folding", "places"] ["rule", "folding"] (defScope s__law_span) := ⟨rfl, rfl, rfl, by decide +kernel, rfl, by decide +kernel, by decide +kernel⟩
theorem sc__law_numbers : FnScope ["found", "due", "number"] ["found", "due"] (defScope s__law_numbers) := ⟨rfl, rfl, rfl, by decide +kernel, rfl, by decide +kernel, by decide +kernel⟩
theorem sc_law : FnScope ["script", "pieces", "rule", "folding", "handed", "due", "turn", "found", "length", "case"] ["script"] (defScope s_law) := ⟨rfl, rfl, rfl, by decide +kernel, rfl, by decide +kernel, by decide +kernel⟩
structure Txt (mg : Str → Option Value) : Prop where
  z_bool : mg "bool" = none
  z_int : mg "int" = none
  z_isinstance : mg "isinstance" = none
  z_len : mg "len" = none
  z_list : mg "list" = none
  z_max : mg "max" = none
  z_min : mg "min" = none
  z_range : mg "range" = none
  z_sorted : mg "sorted" = none
  c_PIECES : ∃ t, mg "PIECES" = some (.int 12 t)
  c_LONGEST : ∃ t, mg "LONGEST" = some (.int 60 t)
section
variable {P : Program} {w : World} {K : PySem.W.Frag} {mg : Str → Option Value} {base : Heap}
theorem ok_see_rule (T : Txt mg) (F : Pd K mg "see_rule" s_see_rule ["rule"]) : Df P w K mg base 1 "see_rule" ["rule"] (p_see_rule0 K) := by
  refine F.df sc_see_rule (fun vs H Q E h => ?_) (fun f cdv A outer s H vs Q E hr h => ⟨(t_see_rule K E0 tNever tNever), ?_, r_see_rule0 h⟩)
  · repeat (first | (obtain ⟨rfl, _⟩ := h; rfl) | (obtain ⟨_, h⟩ := h))
  · exact (pss_cons (ps_if (pt_not (pt_chain op_le op_le pe_int (pe_callB call_len_seq (by rfl) T.z_len (by decide +kernel) (pa_cons (pv 0) pa_nil)) (pe_gint rfl T.c_PIECES))) (pss_one ps_never) pss_nil)
      (pss_one (ps_if (pt_cmpR (op_neD hr.units) (pe_lc (own := [("length", 1)]) (g := gName 1) rfl sc_see_rule.nd (pi_list (pv 0)) (blkOk_by (own := [("length", 1)]) (N := ["rule", "length"]) (sc := defScope s_see_rule) (by decide +kernel)) (fun _ _ _ _ _ => pg_name (i := 1) sc_see_rule.nd rfl (Or.inl rfl)) (fun _ _ _ _ _ => (pts_one (pt_not (pt_chain op_le op_le pe_int (pv 1) (pe_gint rfl T.c_LONGEST))))) (fun _ _ _ _ _ => (pv 1))) (pe_lst pa_nil) (nomark _)) (pss_one ps_never) pss_nil)))
theorem ok_see_folding (T : Txt mg) (F : Pd K mg "see_folding" s_see_folding ["rule", "folding"]) (D_see_rule : Df P w K mg base 1 "see_rule" ["rule"] (p_see_rule0 K)) : Df P w K mg base 2 "see_folding" ["rule", "folding"] (p_see_folding0 K) := by
  refine F.df sc_see_folding (fun vs H Q E h => ?_) (fun f cdv A outer s H vs Q E hr h => ⟨(t_see_folding K E0 (p_see_rule0 K) tNever), ?_, r_see_folding0 h⟩)
  · repeat (first | (obtain ⟨rfl, _⟩ := h; rfl) | (obtain ⟨_, h⟩ := h))
  · exact (pss_cons (ps_expr (pe_callD D_see_rule (hr.mono (by decide)) rfl (pa_cons (pv 0) pa_nil)))
      (pss_one (ps_if (PW.pt (pw_or (pt_cmpR op_ne (pe_callB call_len_seq (by rfl) T.z_len (by decide +kernel) (pa_cons (pv 1) pa_nil)) (pe_op op_sub (pe_callB call_len_seq (by rfl) T.z_len (by decide +kernel) (pa_cons (pv 0) pa_nil)) pe_int) (nomark _)) (pw_or1 (pt_cmpR (op_neD hr.units) (pe_lc (own := [("turn", 2)]) (g := gName 2) rfl sc_see_folding.nd (pi_list (pv 1)) (blkOk_by (own := [("turn", 2)]) (N := ["rule", "folding", "turn"]) (sc := defScope s_see_folding) (by decide +kernel)) (fun _ _ _ _ _ => pg_name (i := 2) sc_see_folding.nd rfl (Or.inl rfl)) (fun _ _ _ _ _ => (pts_one (PW.pt (pw_and (pt_cmpR op_ne (pv 2) pe_int (nomark _)) (pw_and1 (pt_cmpR op_ne (pv 2) pe_int (nomark _))))))) (fun _ _ _ _ _ => (pv 2))) (pe_lst pa_nil) (nomark _))))) (pss_one ps_never) pss_nil)))
theorem ok_places_of (T : Txt mg) (F : Pd K mg "places_of" s_places_of ["rule", "folding"]) : Df P w K mg base 1 "places_of" ["rule", "folding"] (p_places_of K) := by
  refine F.df sc_places_of (fun vs H Q E h => ?_) (fun f cdv A outer s H vs Q E hr h => ⟨(t_places_of K E0), ?_, r_places_of h⟩)
  · repeat (first | (obtain ⟨rfl, _⟩ := h; rfl) | (obtain ⟨_, h⟩ := h))
  · exact (pss_cons (ps_set (i := 2) sc_places_of.nd rfl (Or.inl rfl) (pe_lst (pa_cons pe_int (pa_cons (pe_ix ix_list (pv 0) pe_int (fun _ _ => rfl)) pa_nil))))
      (pss_cons (ps_set (i := 3) sc_places_of.nd rfl (Or.inl rfl) pe_int)
      (pss_cons (ps_for PassesOwn.never rfl (pi_range1 rfl T.z_range (pa_cons (pe_callB call_len_seq (by rfl) T.z_len (by decide +kernel) (pa_cons (pv 1) pa_nil)) pa_nil)) (pg_name (i := 4) sc_places_of.nd rfl (Or.inl rfl)) (pss_cons (ps_if (pt_cmpR op_eq (pe_ix ix_list (pv 1) (pv 4) (fun _ _ => rfl)) pe_int (nomark _)) (pss_one (ps_set (i := 3) sc_places_of.nd rfl (Or.inl rfl) (pe_op op_sub pe_int (pv 3)))) pss_nil)
      (pss_one (ps_expr (pe_bm PySem.F.plainAttrs_list PySem.F.slot_list_append PySem.F.type_list_append mt_append (pv 2) (pa_cons (pe_op op_add (pe_ix ix_list (pv 2) (pe_un un_neg pe_int) (fun _ _ => rfl)) (pe_op op_mul (pv 3) (pe_ix ix_list (pv 0) (pe_op op_add (pv 4) pe_int) (fun _ _ => rfl)))) pa_nil))))))
      (pss_one (ps_ret (pv 2))))))
theorem ok_joints (T : Txt mg) (F : Pd K mg "joints" s_joints ["rule", "folding"]) (D_see_folding : Df P w K mg base 2 "see_folding" ["rule", "folding"] (p_see_folding0 K)) (D_places_of : Df P w K mg base 1 "places_of" ["rule", "folding"] (p_places_of K)) : Df P w K mg base 3 "joints" ["rule", "folding"] (p_joints0 K) := by
  refine F.df sc_joints (fun vs H Q E h => ?_) (fun f cdv A outer s H vs Q E hr h => ⟨(t_joints K E0 (p_see_folding0 K) (p_places_of K)), ?_, r_joints0 h⟩)
  · repeat (first | (obtain ⟨rfl, _⟩ := h; rfl) | (obtain ⟨_, h⟩ := h))
  · exact (pss_cons (ps_expr (pe_callD D_see_folding (hr.mono (by decide)) rfl (pa_cons (pv 0) (pa_cons (pv 1) pa_nil))))
      (pss_one (ps_ret (pe_callD D_places_of (hr.mono (by decide)) rfl (pa_cons (pv 0) (pa_cons (pv 1) pa_nil))))))
theorem ok_span (T : Txt mg) (F : Pd K mg "span" s_span ["rule", "folding"]) (D_see_folding : Df P w K mg base 2 "see_folding" ["rule", "folding"] (p_see_folding0 K)) (D_places_of : Df P w K mg base 1 "places_of" ["rule", "folding"] (p_places_of K)) : Df P w K mg base 3 "span" ["rule", "folding"] (p_span0 K) := by
  refine F.df sc_span (fun vs H Q E h => ?_) (fun f cdv A outer s H vs Q E hr h => ⟨(t_span K E0 (p_see_folding0 K) (p_places_of K)), ?_, r_span0 h⟩)
  · repeat (first | (obtain ⟨rfl, _⟩ := h; rfl) | (obtain ⟨_, h⟩ := h))
  · exact (pss_cons (ps_expr (pe_callD D_see_folding (hr.mono (by decide)) rfl (pa_cons (pv 0) (pa_cons (pv 1) pa_nil))))
      (pss_cons (ps_set (i := 2) sc_span.nd rfl (Or.inl rfl) (pe_callD D_places_of (hr.mono (by decide)) rfl (pa_cons (pv 0) (pa_cons (pv 1) pa_nil))))
      (pss_one (ps_ret (pe_op op_sub (pe_callB (cr_max rfl) (by rfl) T.z_max (by decide +kernel) (pa_cons (pv 2) pa_nil)) (pe_callB (cr_min rfl) (by rfl) T.z_min (by decide +kernel) (pa_cons (pv 2) pa_nil)))))))
theorem ok_fits (T : Txt mg) (F : Pd K mg "fits" s_fits ["rule", "folding", "case"]) (D_see_folding : Df P w K mg base 2 "see_folding" ["rule", "folding"] (p_see_folding0 K)) (D_span : Df P w K mg base 3 "span" ["rule", "folding"] (p_span0 K)) : Df P w K mg base 4 "fits" ["rule", "folding", "case"] (p_fits0 K) := by
  refine F.df sc_fits (fun vs H Q E h => ?_) (fun f cdv A outer s H vs Q E hr h => ⟨(t_fits K E0 (p_see_folding0 K) (p_span0 K)), ?_, r_fits0 h⟩)
  · repeat (first | (obtain ⟨rfl, _⟩ := h; rfl) | (obtain ⟨_, h⟩ := h))
  · exact (pss_cons (ps_expr (pe_callD D_see_folding (hr.mono (by decide)) rfl (pa_cons (pv 0) (pa_cons (pv 1) pa_nil))))
      (pss_one (ps_ret (pe_cmpR op_le (pe_callD D_span (hr.mono (by decide)) rfl (pa_cons (pv 0) (pa_cons (pv 1) pa_nil))) (pv 2) (nomark _)))))
theorem ok__law_cell_at (T : Txt mg) (F : Pd K mg "_law_cell_at" s__law_cell_at ["script", "k"]) : Df P w K mg base 1 "_law_cell_at" ["script", "k"] (p__law_cell_at K) := by
  refine F.df sc__law_cell_at (fun vs H Q E h => ?_) (fun f cdv A outer s H vs Q E hr h => ⟨(t__law_cell_at K E0), ?_, r__law_cell_at h⟩)
  · repeat (first | (obtain ⟨rfl, _⟩ := h; rfl) | (obtain ⟨_, h⟩ := h))
  · exact (pss_cons (ps_if (pt_cmpR op_lt (pv 1) (pe_callB call_len_seq (by rfl) T.z_len (by decide +kernel) (pa_cons (pv 0) pa_nil)) (nomark _)) (pss_one (ps_ret (pe_ix ix_list (pv 0) (pv 1) (fun _ _ => rfl)))) pss_nil)
      (pss_one (ps_ret pe_int)))
theorem ok__law_draw (T : Txt mg) (F : Pd K mg "_law_draw" s__law_draw ["script", "k"]) (D__law_cell_at : Df P w K mg base 1 "_law_cell_at" ["script", "k"] (p__law_cell_at K)) : Df P w K mg base 2 "_law_draw" ["script", "k"] (p__law_draw K) := by
  refine F.df sc__law_draw (fun vs H Q E h => ?_) (fun f cdv A outer s H vs Q E hr h => ⟨(t__law_draw K E0 (p__law_cell_at K)), ?_, r__law_draw h⟩)
  · repeat (first | (obtain ⟨rfl, _⟩ := h; rfl) | (obtain ⟨_, h⟩ := h))
  · exact (pss_cons (ps_set (i := 2) sc__law_draw.nd rfl (Or.inl rfl) (pe_op op_mod (pe_op op_mul (pe_op op_add (pe_op op_add (pe_callD D__law_cell_at (hr.mono (by decide)) rfl (pa_cons (pv 0) (pa_cons (pe_op op_mod (pv 1) pe_int) pa_nil))) (pe_op op_mul pe_int (pv 1))) pe_int) pe_int) pe_int))
      (pss_cons (ps_set (i := 2) sc__law_draw.nd rfl (Or.inl rfl) (pe_op op_mod (pe_op op_mul (pv 2) (pv 2)) pe_int))
      (pss_one (ps_ret (pe_op op_fdiv (pe_op op_mod (pe_op op_mul (pv 2) pe_int) pe_int) pe_int)))))
theorem ok__law_whole (T : Txt mg) (F : Pd K mg "_law_whole" s__law_whole ["found"]) : Df P w K mg base 1 "_law_whole" ["found"] p__law_whole := by
  refine F.df sc__law_whole (fun vs H Q E h => ?_) (fun f cdv A outer s H vs Q E hr h => ⟨(t__law_whole K E0), ?_, r__law_whole h⟩)
  · repeat (first | (obtain ⟨rfl, _⟩ := h; rfl) | (obtain ⟨_, h⟩ := h))
  · exact (pss_one (ps_ret (pe_and (pe_callB call_isi (by rfl) T.z_isinstance (by decide +kernel) (pa_cons (pv 0) (pa_cons (pe_bltn rfl T.z_int (by decide +kernel) rfl) pa_nil))) (pe_one (pe_not (pe_callB call_isi (by rfl) T.z_isinstance (by decide +kernel) (pa_cons (pv 0) (pa_cons (pe_bltn rfl T.z_bool (by decide +kernel) rfl) pa_nil))))))))
theorem ok__law_rule (T : Txt mg) (F : Pd K mg "_law_rule" s__law_rule ["script", "pieces"]) (D__law_draw : Df P w K mg base 2 "_law_draw" ["script", "k"] (p__law_draw K)) : Df P w K mg base 3 "_law_rule" ["script", "pieces"] (p__law_rule K) := by
  refine F.df sc__law_rule (fun vs H Q E h => ?_) (fun f cdv A outer s H vs Q E hr h => ⟨(t__law_rule K E0 (p__law_draw K)), ?_, r__law_rule h⟩)
  · repeat (first | (obtain ⟨rfl, _⟩ := h; rfl) | (obtain ⟨_, h⟩ := h))
  · exact (pss_cons (ps_set (i := 2) sc__law_rule.nd rfl (Or.inr rfl) (pe_ix ix_list (pe_lst (pa_cons pe_int (pa_cons pe_int (pa_cons pe_int (pa_cons pe_int pa_nil))))) (pe_op op_mod (pe_callD D__law_draw (hr.mono (by decide)) rfl (pa_cons (pv 0) (pa_cons pe_int pa_nil))) pe_int) (fun _ _ => rfl)))
      (pss_cons (ps_set (i := 3) sc__law_rule.nd rfl (Or.inr rfl) (pe_lc (own := [("k", 4)]) (g := gName 4) rfl sc__law_rule.nd (pi_range1 rfl T.z_range (pa_cons (pv 1) pa_nil)) (blkOk_by (own := [("k", 4)]) (N := ["script", "pieces", "most", "rule", "k"]) (sc := defScope s__law_rule) (by decide +kernel)) (fun _ _ _ _ _ => pg_name (i := 4) sc__law_rule.nd rfl (Or.inl rfl)) (fun _ _ _ _ _ => pts_nil) (fun _ _ _ _ _ => (pe_op op_add pe_int (pe_op op_mod (pe_callD D__law_draw (hr.mono (by decide)) rfl (pa_cons (pv 0) (pa_cons (pe_op op_add pe_int (pv 4)) pa_nil))) (pv 2))))))
      (pss_cons (ps_if (pt_cmpR op_eq (pe_op op_mod (pe_callD D__law_draw (hr.mono (by decide)) rfl (pa_cons (pv 0) (pa_cons pe_int pa_nil))) pe_int) pe_int (nomark _)) (pss_one (ps_set (i := 3) sc__law_rule.nd rfl (Or.inr rfl) (pe_lc (own := [("k", 4)]) (g := gName 4) rfl sc__law_rule.nd (pi_range1 rfl T.z_range (pa_cons (pv 1) pa_nil)) (blkOk_by (own := [("k", 4)]) (N := ["script", "pieces", "most", "rule", "k"]) (sc := defScope s__law_rule) (by decide +kernel)) (fun _ _ _ _ _ => pg_name (i := 4) sc__law_rule.nd rfl (Or.inl rfl)) (fun _ _ _ _ _ => pts_nil) (fun _ _ _ _ _ => (pe_ix ix_list (pv 3) (pe_op op_mod (pv 4) pe_int) (fun _ _ => rfl)))))) pss_nil)
      (pss_one (ps_ret (pv 3))))))
theorem ok__law_folding (T : Txt mg) (F : Pd K mg "_law_folding" s__law_folding ["script", "start", "pieces"]) (D__law_draw : Df P w K mg base 2 "_law_draw" ["script", "k"] (p__law_draw K)) : Df P w K mg base 3 "_law_folding" ["script", "start", "pieces"] (p__law_folding K) := by
  refine F.df sc__law_folding (fun vs H Q E h => ?_) (fun f cdv A outer s H vs Q E hr h => ⟨(t__law_folding K E0 (p__law_draw K)), ?_, r__law_folding h⟩)
  · repeat (first | (obtain ⟨rfl, _⟩ := h; rfl) | (obtain ⟨_, h⟩ := h))
  · exact (pss_one (ps_ret (pe_lc (own := [("k", 3)]) (g := gName 3) rfl sc__law_folding.nd (pi_range1 rfl T.z_range (pa_cons (pe_op op_sub (pv 2) pe_int) pa_nil)) (blkOk_by (own := [("k", 3)]) (N := ["script", "start", "pieces", "k"]) (sc := defScope s__law_folding) (by decide +kernel)) (fun _ _ _ _ _ => pg_name (i := 3) sc__law_folding.nd rfl (Or.inl rfl)) (fun _ _ _ _ _ => pts_nil) (fun _ _ _ _ _ => (pe_op op_mod (pe_callD D__law_draw (hr.mono (by decide)) rfl (pa_cons (pv 0) (pa_cons (pe_op op_add (pv 1) (pv 3)) pa_nil))) pe_int)))))
theorem ok__law_joints (T : Txt mg) (F : Pd K mg "_law_joints" s__law_joints ["rule", "folding"]) : Df P w K mg base 1 "_law_joints" ["rule", "folding"] (p__law_joints K) := by
  refine F.df sc__law_joints (fun vs H Q E h => ?_) (fun f cdv A outer s H vs Q E hr h => ⟨(t__law_joints K E0), ?_, r__law_joints h⟩)
  · repeat (first | (obtain ⟨rfl, _⟩ := h; rfl) | (obtain ⟨_, h⟩ := h))
  · exact (pss_cons (ps_set (i := 2) sc__law_joints.nd rfl (Or.inl rfl) (pe_lst (pa_cons pe_int pa_nil)))
      (pss_cons (ps_set (i := 3) sc__law_joints.nd rfl (Or.inl rfl) pe_bl)
      (pss_cons (ps_for PassesOwn.never rfl (pi_range1 rfl T.z_range (pa_cons (pe_callB call_len_seq (by rfl) T.z_len (by decide +kernel) (pa_cons (pv 0) pa_nil)) pa_nil)) (pg_name (i := 4) sc__law_joints.nd rfl (Or.inl rfl)) (pss_cons (ps_if (PW.pt (pw_and (pt_cmpR op_gt (pv 4) pe_int (nomark _)) (pw_and1 (pt_cmpR op_eq (pe_ix ix_list (pv 1) (pe_op op_sub (pv 4) pe_int) (fun _ _ => rfl)) pe_int (nomark _))))) (pss_one (ps_set (i := 3) sc__law_joints.nd rfl (Or.inl rfl) (pe_not (pv 3)))) pss_nil)
      (pss_one (ps_if (pt_val (pv 3)) (pss_one (ps_expr (pe_bm PySem.F.plainAttrs_list PySem.F.slot_list_append PySem.F.type_list_append mt_append (pv 2) (pa_cons (pe_op op_add (pe_ix ix_list (pv 2) (pe_un un_neg pe_int) (fun _ _ => rfl)) (pe_ix ix_list (pv 0) (pv 4) (fun _ _ => rfl))) pa_nil)))) (pss_one (ps_expr (pe_bm PySem.F.plainAttrs_list PySem.F.slot_list_append PySem.F.type_list_append mt_append (pv 2) (pa_cons (pe_op op_sub (pe_ix ix_list (pv 2) (pe_un un_neg pe_int) (fun _ _ => rfl)) (pe_ix ix_list (pv 0) (pv 4) (fun _ _ => rfl))) pa_nil))))))))
      (pss_one (ps_ret (pv 2))))))
theorem ok__law_span (T : Txt mg) (F : Pd K mg "_law_span" s__law_span ["rule", "folding"]) (D__law_joints : Df P w K mg base 1 "_law_joints" ["rule", "folding"] (p__law_joints K)) : Df P w K mg base 2 "_law_span" ["rule", "folding"] (p__law_span K) := by
  refine F.df sc__law_span (fun vs H Q E h => ?_) (fun f cdv A outer s H vs Q E hr h => ⟨(t__law_span K E0 (p__law_joints K)), ?_, r__law_span h⟩)
  · repeat (first | (obtain ⟨rfl, _⟩ := h; rfl) | (obtain ⟨_, h⟩ := h))
  · exact (pss_cons (ps_set (i := 2) sc__law_span.nd rfl (Or.inl rfl) (pe_callB cr_sorted (by rfl) T.z_sorted (by decide +kernel) (pa_cons (pe_callD D__law_joints (hr.mono (by decide)) rfl (pa_cons (pv 0) (pa_cons (pv 1) pa_nil))) pa_nil)))
      (pss_one (ps_ret (pe_op op_sub (pe_ix ix_list (pv 2) (pe_un un_neg pe_int) (fun _ _ => rfl)) (pe_ix ix_list (pv 2) pe_int (fun _ _ => rfl))))))
theorem ok__law_numbers (T : Txt mg) (F : Pd K mg "_law_numbers" s__law_numbers ["found", "due"]) (D__law_whole : Df P w K mg base 1 "_law_whole" ["found"] p__law_whole) : Df P w K mg base 2 "_law_numbers" ["found", "due"] (p__law_numbers K) := by
  refine F.df sc__law_numbers (fun vs H Q E h => ?_) (fun f cdv A outer s H vs Q E hr h => ⟨(t__law_numbers K E0 p__law_whole), ?_, r__law_numbers h⟩)
  · repeat (first | (obtain ⟨rfl, _⟩ := h; rfl) | (obtain ⟨_, h⟩ := h))
  · exact (pss_cons (ps_if (PW.pt (pw_or (pt_not (pt_val (pe_callB call_isi (by rfl) T.z_isinstance (by decide +kernel) (pa_cons (pv 0) (pa_cons (pe_bltn rfl T.z_list (by decide +kernel) rfl) pa_nil))))) (pw_or1 (pt_cmpR (op_neD hr.units) (pv 0) (pv 1) (nomark _))))) (pss_one (ps_ret pe_bl)) pss_nil)
      (pss_one (ps_ret (pe_cmpR op_notIn_seq pe_bl (pe_lc (own := [("number", 2)]) (g := gName 2) rfl sc__law_numbers.nd (pi_list (pv 0)) (blkOk_by (own := [("number", 2)]) (N := ["found", "due", "number"]) (sc := defScope s__law_numbers) (by decide +kernel)) (fun _ _ _ _ _ => pg_name (i := 2) sc__law_numbers.nd rfl (Or.inl rfl)) (fun _ _ _ _ _ => pts_nil) (fun _ _ _ _ _ => (pe_callD D__law_whole (hr.mono (by decide)) rfl (pa_cons (pv 2) pa_nil)))) (by rfl)))))
theorem ok_law (T : Txt mg) {f : Addr} {fd : FuncData} (F : FunD K "law" "law" (defArgs s_law) (defBody s_law) (defScope s_law) [] [] f fd) (D__law_draw : Df P w K mg base 2 "_law_draw" ["script", "k"] (p__law_draw K)) (D__law_rule : Df P w K mg base 3 "_law_rule" ["script", "pieces"] (p__law_rule K)) (D__law_folding : Df P w K mg base 3 "_law_folding" ["script", "start", "pieces"] (p__law_folding K)) (D__law_joints : Df P w K mg base 1 "_law_joints" ["rule", "folding"] (p__law_joints K)) (D_joints : Df P w K mg base 3 "joints" ["rule", "folding"] (p_joints0 K)) (D__law_numbers : Df P w K mg base 2 "_law_numbers" ["found", "due"] (p__law_numbers K)) (D_span : Df P w K mg base 3 "span" ["rule", "folding"] (p_span0 K)) (D__law_whole : Df P w K mg base 1 "_law_whole" ["found"] p__law_whole) (D_fits : Df P w K mg base 4 "fits" ["rule", "folding", "case"] (p_fits0 K)) : FnOk P w K mg base CX0 5 f fd ["script"] (p_law K) := by
  refine F.ok sc_law (fun vs H Q E h => ?_) (fun cdv A outer s H vs Q E hr h => ⟨(t_law_k01 K E0 (p__law_draw K) (p__law_rule K) (p__law_folding K) (p__law_joints K) (p_joints0 K) (p__law_numbers K) (p_span0 K) p__law_whole (p_fits0 K)), PSs.nox ?_, r_law_k01 h⟩)
  · obtain ⟨_, _, rfl, _⟩ := h
    rfl
  · exact (pss_cons (ps_set (i := 1) sc_law.nd rfl (Or.inl rfl) (pe_op op_add pe_int (pe_op op_mod (pe_callD D__law_draw (hr.mono (by decide)) rfl (pa_cons (pv 0) (pa_cons pe_int pa_nil))) pe_int)))
      (pss_cons (ps_set (i := 2) sc_law.nd rfl (Or.inl rfl) (pe_callD D__law_rule (hr.mono (by decide)) rfl (pa_cons (pv 0) (pa_cons (pv 1) pa_nil))))
      (pss_cons (ps_set (i := 3) sc_law.nd rfl (Or.inl rfl) (pe_callD D__law_folding (hr.mono (by decide)) rfl (pa_cons (pv 0) (pa_cons pe_int (pa_cons (pv 1) pa_nil)))))
      (pss_cons (ps_set (i := 4) sc_law.nd rfl (Or.inl rfl) (pe_lst (pa_cons (pe_callTy call_list_of (by rfl) T.z_list (by decide +kernel) (pa_cons (pv 2) pa_nil)) (pa_cons (pe_callTy call_list_of (by rfl) T.z_list (by decide +kernel) (pa_cons (pv 3) pa_nil)) pa_nil))))
      (pss_cons (ps_set (i := 5) sc_law.nd rfl (Or.inl rfl) (pe_callD D__law_joints (hr.mono (by decide)) rfl (pa_cons (pv 2) (pa_cons (pv 3) pa_nil))))
      (pss_cons (ps_for PassesOwn.never rfl (pi_range1 rfl T.z_range (pa_cons pe_int pa_nil)) (pg_name (i := 6) sc_law.nd rfl (Or.inl rfl)) (pss_cons (ps_set (i := 7) sc_law.nd rfl (Or.inl rfl) (pe_callD D_joints (hr.mono (by decide)) rfl (pa_cons (pe_ix ix_list (pv 4) pe_int (fun _ _ => rfl)) (pa_cons (pe_ix ix_list (pv 4) pe_int (fun _ _ => rfl)) pa_nil))))
      (pss_cons (ps_if (PW.pt (pw_or (pt_not (pt_val (pe_callD D__law_numbers (hr.mono (by decide)) rfl (pa_cons (pv 7) (pa_cons (pv 5) pa_nil))))) (pw_or1 (pt_cmpR (op_neD hr.units) (pv 4) (pe_lst (pa_cons (pv 2) (pa_cons (pv 3) pa_nil))) (nomark _))))) (pss_one (ps_ret pe_bl)) pss_nil)
      (pss_one (ps_expr (pe_bm0 PySem.F.plainAttrs_list PySem.F.slot_list_clear PySem.F.type_list_clear mt_clear (pv 7)))))))
      (pss_cons (ps_set (i := 8) sc_law.nd rfl (Or.inl rfl) (pe_callD D_span (hr.mono (by decide)) rfl (pa_cons (pe_ix ix_list (pv 4) pe_int (fun _ _ => rfl)) (pa_cons (pe_ix ix_list (pv 4) pe_int (fun _ _ => rfl)) pa_nil))))
      (pss_cons (ps_if (PW.pt (pw_or (pt_not (pt_val (pe_callD D__law_whole (hr.mono (by decide)) rfl (pa_cons (pv 8) pa_nil)))) (pw_or1 (pt_cmpR op_ne (pv 8) (pe_op op_sub (pe_callB (cr_max rfl) (by rfl) T.z_max (by decide +kernel) (pa_cons (pv 5) pa_nil)) (pe_callB (cr_min rfl) (by rfl) T.z_min (by decide +kernel) (pa_cons (pv 5) pa_nil))) (nomark _))))) (pss_one (ps_ret pe_bl)) pss_nil)
      (pss_cons (ps_for PassesOwn.never rfl (pi_list (pe_lst (pa_cons (pv 8) (pa_cons (pe_op op_sub (pv 8) pe_int) (pa_cons (pe_op op_mod (pe_callD D__law_draw (hr.mono (by decide)) rfl (pa_cons (pv 0) (pa_cons pe_int pa_nil))) pe_int) pa_nil))))) (pg_name (i := 9) sc_law.nd rfl (Or.inl rfl)) (pss_cons (ps_set (i := 7) sc_law.nd rfl (Or.inl rfl) (pe_callD D_fits (hr.mono (by decide)) rfl (pa_cons (pe_ix ix_list (pv 4) pe_int (fun _ _ => rfl)) (pa_cons (pe_ix ix_list (pv 4) pe_int (fun _ _ => rfl)) (pa_cons (pv 9) pa_nil)))))
      (pss_one (ps_if (PW.pt (pw_or (pt_not (pt_val (pe_callB call_isi (by rfl) T.z_isinstance (by decide +kernel) (pa_cons (pv 7) (pa_cons (pe_bltn rfl T.z_bool (by decide +kernel) rfl) pa_nil))))) (pw_or1 (pt_cmpR op_ne (pv 7) (pe_cmpR op_le (pv 8) (pv 9) (nomark _)) (nomark _))))) (pss_one (ps_ret pe_bl)) pss_nil))))
      (pss_one (ps_ret (pe_cmpR (op_eqD hr.units) (pv 4) (pe_lst (pa_cons (pv 2) (pa_cons (pv 3) pa_nil))) (nomark _)))))))))))))
end
abbrev FnA (n : Str) (st : Stmt) : He.DefD := ⟨(n, none), n, n, defArgs st, defBody st, defScope st, [], []⟩
def fn : List He.DefD := [FnA "see_rule" s_see_rule, FnA "see_folding" s_see_folding, FnA "places_of" s_places_of, FnA "joints" s_joints, FnA "span" s_span, FnA "fits" s_fits, FnA "_law_cell_at" s__law_cell_at, FnA "_law_draw" s__law_draw, FnA "_law_whole" s__law_whole, FnA "_law_rule" s__law_rule, FnA "_law_folding" s__law_folding, FnA "_law_joints" s__law_joints, FnA "_law_span" s__law_span, FnA "_law_numbers" s__law_numbers, FnA "law" s_law]
def fa : List He.Fa := [.glo "see_rule", .glo "see_folding", .glo "places_of", .glo "joints", .glo "span", .glo "fits", .glo "_law_cell_at", .glo "_law_draw", .glo "_law_whole", .glo "_law_rule", .glo "_law_folding", .glo "_law_joints", .glo "_law_span", .glo "_law_numbers", .glo "law", .free "bool", .free "int", .free "isinstance", .free "len", .free "list", .free "max", .free "min", .free "range", .free "sorted", .int "PIECES" 12, .int "LONGEST" 60]
abbrev R : PySem.W.OpenRow := PySem.W.OpenLaw.row PySem.Challenge.rw_foldrule_k01_joints_and_spans
abbrev hk : PySem.W.Hook := He.hookD 4 fa fn
def ob (s : PySem.W.SharedT) : He.AlD := He.obsDG 4 fa fn (HandSHeadRun.getT s)
theorem ob_eq (s : PySem.W.SharedT) : ob s = hk.obs s.abs := He.obsDG_eq (HandSHeadRun.getT_eq s)
def loose : List Str := ["RuleError", "BadRule", "BadFolding", "PIECES", "LONGEST", "see_rule", "see_folding", "places_of", "joints", "span", "fits", "_law_cell_at", "_law_draw", "_law_whole", "_law_rule", "_law_folding", "_law_joints", "_law_span", "_law_numbers"]
theorem run (w : World) : HandSHeadRun.RunEq R (PySem.W.view R.prog [23]) hk ob 6000 loose w := by
  intro os
  kernel_rfl
theorem facts {P : Program} {w : World} {K : PySem.W.Frag} {h : Heap} {mg : Str → Option Value} {f : Addr} (X : K.In h) (G : h.Ns mainGlobals mg) (hfa : mg ("law" : Str) = some (.ref f)) (c : He.SaysD fa fn K) :
    ∃ fd : FuncData, (∀ (s : Shared) (v : Value), BindsTo s fd ⟨[v], []⟩ [("script", v)]) ∧ ∀ base : Heap, K.In base → base.Ns mainGlobals mg → FnOk P w K mg base CX0 5 f fd ["script"] (p_law K) := by
  have T : Txt mg := ⟨He.free_ok X G (c.fact 15 (f := .free "bool") rfl), He.free_ok X G (c.fact 16 (f := .free "int") rfl), He.free_ok X G (c.fact 17 (f := .free "isinstance") rfl), He.free_ok X G (c.fact 18 (f := .free "len") rfl), He.free_ok X G (c.fact 19 (f := .free "list") rfl), He.free_ok X G (c.fact 20 (f := .free "max") rfl), He.free_ok X G (c.fact 21 (f := .free "min") rfl), He.free_ok X G (c.fact 22 (f := .free "range") rfl), He.free_ok X G (c.fact 23 (f := .free "sorted") rfl), He.int_ok X G (c.fact 24 (f := .int "PIECES" 12) rfl), He.int_ok X G (c.fact 25 (f := .int "LONGEST" 60) rfl)⟩
  have P_see_rule : Pd K mg "see_rule" s_see_rule ["rule"] := by
    obtain ⟨fd, F⟩ := c.def_ 0 (d := FnA "see_rule" s_see_rule) rfl
    exact ⟨_, fd, F, He.glo_ok X G (c.fact 0 (f := .glo "see_rule") rfl), F.bindsN fun _ _ _ _ _ _ us hl => match us, hl with | [_], _ => rfl⟩
  have P_see_folding : Pd K mg "see_folding" s_see_folding ["rule", "folding"] := by
    obtain ⟨fd, F⟩ := c.def_ 1 (d := FnA "see_folding" s_see_folding) rfl
    exact ⟨_, fd, F, He.glo_ok X G (c.fact 1 (f := .glo "see_folding") rfl), F.bindsN fun _ _ _ _ _ _ us hl => match us, hl with | [_, _], _ => rfl⟩
  have P_places_of : Pd K mg "places_of" s_places_of ["rule", "folding"] := by
    obtain ⟨fd, F⟩ := c.def_ 2 (d := FnA "places_of" s_places_of) rfl
    exact ⟨_, fd, F, He.glo_ok X G (c.fact 2 (f := .glo "places_of") rfl), F.bindsN fun _ _ _ _ _ _ us hl => match us, hl with | [_, _], _ => rfl⟩
  have P_joints : Pd K mg "joints" s_joints ["rule", "folding"] := by
    obtain ⟨fd, F⟩ := c.def_ 3 (d := FnA "joints" s_joints) rfl
    exact ⟨_, fd, F, He.glo_ok X G (c.fact 3 (f := .glo "joints") rfl), F.bindsN fun _ _ _ _ _ _ us hl => match us, hl with | [_, _], _ => rfl⟩
  have P_span : Pd K mg "span" s_span ["rule", "folding"] := by
    obtain ⟨fd, F⟩ := c.def_ 4 (d := FnA "span" s_span) rfl
    exact ⟨_, fd, F, He.glo_ok X G (c.fact 4 (f := .glo "span") rfl), F.bindsN fun _ _ _ _ _ _ us hl => match us, hl with | [_, _], _ => rfl⟩
  have P_fits : Pd K mg "fits" s_fits ["rule", "folding", "case"] := by
    obtain ⟨fd, F⟩ := c.def_ 5 (d := FnA "fits" s_fits) rfl
    exact ⟨_, fd, F, He.glo_ok X G (c.fact 5 (f := .glo "fits") rfl), F.bindsN fun _ _ _ _ _ _ us hl => match us, hl with | [_, _, _], _ => rfl⟩
  have P__law_cell_at : Pd K mg "_law_cell_at" s__law_cell_at ["script", "k"] := by
    obtain ⟨fd, F⟩ := c.def_ 6 (d := FnA "_law_cell_at" s__law_cell_at) rfl
    exact ⟨_, fd, F, He.glo_ok X G (c.fact 6 (f := .glo "_law_cell_at") rfl), F.bindsN fun _ _ _ _ _ _ us hl => match us, hl with | [_, _], _ => rfl⟩
  have P__law_draw : Pd K mg "_law_draw" s__law_draw ["script", "k"] := by
    obtain ⟨fd, F⟩ := c.def_ 7 (d := FnA "_law_draw" s__law_draw) rfl
    exact ⟨_, fd, F, He.glo_ok X G (c.fact 7 (f := .glo "_law_draw") rfl), F.bindsN fun _ _ _ _ _ _ us hl => match us, hl with | [_, _], _ => rfl⟩
  have P__law_whole : Pd K mg "_law_whole" s__law_whole ["found"] := by
    obtain ⟨fd, F⟩ := c.def_ 8 (d := FnA "_law_whole" s__law_whole) rfl
    exact ⟨_, fd, F, He.glo_ok X G (c.fact 8 (f := .glo "_law_whole") rfl), F.bindsN fun _ _ _ _ _ _ us hl => match us, hl with | [_], _ => rfl⟩
  have P__law_rule : Pd K mg "_law_rule" s__law_rule ["script", "pieces"] := by
    obtain ⟨fd, F⟩ := c.def_ 9 (d := FnA "_law_rule" s__law_rule) rfl
    exact ⟨_, fd, F, He.glo_ok X G (c.fact 9 (f := .glo "_law_rule") rfl), F.bindsN fun _ _ _ _ _ _ us hl => match us, hl with | [_, _], _ => rfl⟩
  have P__law_folding : Pd K mg "_law_folding" s__law_folding ["script", "start", "pieces"] := by
    obtain ⟨fd, F⟩ := c.def_ 10 (d := FnA "_law_folding" s__law_folding) rfl
    exact ⟨_, fd, F, He.glo_ok X G (c.fact 10 (f := .glo "_law_folding") rfl), F.bindsN fun _ _ _ _ _ _ us hl => match us, hl with | [_, _, _], _ => rfl⟩
  have P__law_joints : Pd K mg "_law_joints" s__law_joints ["rule", "folding"] := by
    obtain ⟨fd, F⟩ := c.def_ 11 (d := FnA "_law_joints" s__law_joints) rfl
    exact ⟨_, fd, F, He.glo_ok X G (c.fact 11 (f := .glo "_law_joints") rfl), F.bindsN fun _ _ _ _ _ _ us hl => match us, hl with | [_, _], _ => rfl⟩
  have P__law_span : Pd K mg "_law_span" s__law_span ["rule", "folding"] := by
    obtain ⟨fd, F⟩ := c.def_ 12 (d := FnA "_law_span" s__law_span) rfl
    exact ⟨_, fd, F, He.glo_ok X G (c.fact 12 (f := .glo "_law_span") rfl), F.bindsN fun _ _ _ _ _ _ us hl => match us, hl with | [_, _], _ => rfl⟩
  have P__law_numbers : Pd K mg "_law_numbers" s__law_numbers ["found", "due"] := by
    obtain ⟨fd, F⟩ := c.def_ 13 (d := FnA "_law_numbers" s__law_numbers) rfl
    exact ⟨_, fd, F, He.glo_ok X G (c.fact 13 (f := .glo "_law_numbers") rfl), F.bindsN fun _ _ _ _ _ _ us hl => match us, hl with | [_, _], _ => rfl⟩
  obtain ⟨fdL, FL⟩ := c.def_ 14 (d := FnA "law" s_law) rfl
  have gL := He.glo_ok X G (c.fact 14 (f := .glo "law") rfl)
  have bA := FunD.bindsA (ps := ["script"]) FL fun _ _ _ _ _ _ us hl => match us, hl with | [_], _ => rfl
  have eL := hfa.symm.trans gL
  cases eL
  refine ⟨fdL, fun s v => bA s [v] rfl, fun base _ _ => ?_⟩
  have D_see_rule := ok_see_rule (P := P) (w := w) (base := base) T P_see_rule
  have D_see_folding := ok_see_folding (P := P) (w := w) (base := base) T P_see_folding D_see_rule
  have D_places_of := ok_places_of (P := P) (w := w) (base := base) T P_places_of
  have D_joints := ok_joints (P := P) (w := w) (base := base) T P_joints D_see_folding D_places_of
  have D_span := ok_span (P := P) (w := w) (base := base) T P_span D_see_folding D_places_of
  have D_fits := ok_fits (P := P) (w := w) (base := base) T P_fits D_see_folding D_span
  have D__law_cell_at := ok__law_cell_at (P := P) (w := w) (base := base) T P__law_cell_at
  have D__law_draw := ok__law_draw (P := P) (w := w) (base := base) T P__law_draw D__law_cell_at
  have D__law_whole := ok__law_whole (P := P) (w := w) (base := base) T P__law_whole
  have D__law_rule := ok__law_rule (P := P) (w := w) (base := base) T P__law_rule D__law_draw
  have D__law_folding := ok__law_folding (P := P) (w := w) (base := base) T P__law_folding D__law_draw
  have D__law_joints := ok__law_joints (P := P) (w := w) (base := base) T P__law_joints
  have D__law_span := ok__law_span (P := P) (w := w) (base := base) T P__law_span D__law_joints
  have D__law_numbers := ok__law_numbers (P := P) (w := w) (base := base) T P__law_numbers D__law_whole
  exact ok_law (P := P) (w := w) (base := base) T FL D__law_draw D__law_rule D__law_folding D__law_joints D_joints D__law_numbers D_span D__law_whole D_fits
end Lw
open PySem PySem.W PySem.Calls PyProof.Rows
set_option maxRecDepth 100000 in
set_option maxHeartbeats 0 in
theorem PySem.Challenge.cw_foldrule_k01_joints_and_spans_holds : PySem.Challenge.rw_foldrule_k01_joints_and_spans.Holds := by
  w_on; o_law
  refine HandSHeadRun.head_any (r := OpenLaw.row PySem.Challenge.rw_foldrule_k01_joints_and_spans) (q := view (OpenLaw.row PySem.Challenge.rw_foldrule_k01_joints_and_spans).prog [23]) (H := Lw.hk) (ob := Lw.ob) (M := 6000) (loose := Lw.loose) (d := HandSHeadRun.topDef (OpenLaw.row PySem.Challenge.rw_foldrule_k01_joints_and_spans).prog 23) (kwd := []) Lw.ob_eq
    (by kernel_rfl) (fun s => by kernel_rfl) Lw.run (by kernel_rfl) (by kernel_rfl) (by kernel_rfl) (by rfl) (by first | assumption | decide +kernel) (by decide +kernel) ⟨rfl, rfl, rfl, rfl, rfl, by decide +kernel⟩ ?hw ?hc
  case hw => w_witness2
  case hc =>
    refine L2.walk_ofE (l := PySem.Challenge.rw_foldrule_k01_joints_and_spans) (n := 63) (k := 5) (x := "script") (CX := L2.CX0) rfl (by decide) (by kernel_rfl) ⟨rfl, by decide, by decide⟩ ?F (fun _ _ _ _ z => z)
    intro w mg fa h Y G hmg0
    obtain ⟨K, KX, c⟩ := Y
    have hmg : mg ("law" : PySem.Str) = some (.ref fa) := by
      have e : (HandSHeadRun.topDef (OpenLaw.row PySem.Challenge.rw_foldrule_k01_joints_and_spans).prog 23).name = ("law" : PySem.Str) := by kernel_rfl
      rw [← e]
      exact hmg0
    obtain ⟨fd, hb, hF⟩ := Lw.facts (P := (PySem.Challenge.rw_foldrule_k01_joints_and_spans).prog) (w := w) KX G hmg c
    exact ⟨K, fd, Fo.p_law K, KX, hb, fun H a ns hl _ hS => ⟨a, ns, rfl, hS, fun _ => rfl⟩, hF⟩
#print axioms PySem.Challenge.cw_foldrule_k01_joints_and_spans_holds

