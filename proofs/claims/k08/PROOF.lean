import PyProof.Rows.All
import Wide.All
import OpenK.AllK
import Wide.FinOn
import HandS.ForMost
import HandS.Evl
import HandS.Steps
import HandS.IsInst
import HandS.Defaults
import HandS.Head0
import HandS.Head1
import HandS.Head2
import HandS.HeadEnd
import HandS.HeadHook1
import HandS.HeadHook2
import KE.KeyNested
import PyProof.DictRoadsH
import HandS.Dict
import KE.LtSeq
import HandS.Conv
import HandS.SetFor
import HandS.SortInts
import HandS.Strs
import HandS.Style
import HandS.ForExc
import HandS.ExcOwn
import HandS.ExcIs
import HandS.TryOnly
import HandS.TryMany
import KE.GoesRaise
import HandS.Comp
import HandS.SuiteRaise
import HandS.HotCalls
import HandS.ExcCtx
import HandS.Codes
import PySem.Challenge.RW_foldrule_k08_written_and_read
set_option Elab.async false
set_option linter.all false
set_option maxRecDepth 100000
set_option maxHeartbeats 4000000
/-! Generic part: defs as data, calls by them, more of what evaluates to what. -/
namespace Fo
open PySem PySem.Spec PyProof.Rows L2 Evl
/-! ### a def of the top, its promise -/
/-- the def x of the text stands behind the top -/
structure Pd (K : PySem.W.Frag) (mg : Str → Option Value) (x : Str) (st : Stmt) (ps : List Str) : Prop where
  ex : ∃ f fd, FunD K x x (defArgs st) (defBody st) (defScope st) [] [] f fd ∧ mg x = some (.ref f) ∧ Binds K fd ps []
/-- it keeps a promise -/
structure Df (P : Program) (w : World) (K : PySem.W.Frag) (mg : Str → Option Value) (base : Heap) (k : Nat) (x : Str) (ps : List Str) (sp : Sp) : Prop where
  ex : ∃ f fd, FnOk P w K mg base CX0 k f fd ps sp ∧ mg x = some (.ref f) ∧ PySem.W.keepIn K (.ref f) = true ∧ Binds K fd ps []
section
variable {P : Program} {w : World} {K : PySem.W.Frag} {mg : Str → Option Value} {base : Heap} {x : Str} {st : Stmt} {ps N : List Str} {k : Nat} {sp : Sp}
theorem Pd.df (F : Pd K mg x st ps) (S : FnScope N ps (defScope st)) (len : ∀ vs H Q E, sp vs H Q E → vs.length = ps.length)
    (hbody : ∀ (f : Addr) (cdv : Value) (A : Around) (outer : List Env) (s : Shared) (H : Hp) (vs : List V) (Q : VK) (E : XK), Room k (A.deeper (envOfC x (defScope st) s.heap.objs.size f cdv)) → sp vs H Q E →
      ∃ t, PSs (cxOf CX0 P w K mg base N x (defScope st) f cdv A outer s H E).nox (defBody st) t ∧ t { nx := fun _ H' => Q .non H', rt := Q } (start N vs) H) : Df P w K mg base (k + 1) x ps sp := by
  obtain ⟨f, fd, F1, hm, hb⟩ := F.ex
  exact ⟨f, fd, F1.ok S len fun cdv A outer s H vs Q E hr h => let ⟨t, d, r⟩ := hbody f cdv A outer s H vs Q E hr h; ⟨t, d.nox, r⟩, hm, F1.kp, hb⟩
theorem Df.mono {j : Nat} (D : Df P w K mg base j x ps sp) (h : j ≤ k) : Df P w K mg base k x ps sp := by
  obtain ⟨f, fd, F, r⟩ := D.ex
  exact ⟨f, fd, F.mono h, r⟩
end
section
variable {X : Cx}
theorem pe_callD {k : Nat} {x : Str} {ps : List Str} {sp : Sp} {e : Expr} {es : List Expr} {t : TA} {p pos : Pos} (D : Df X.prog X.w X.K X.mg X.base k x ps sp) (hr : Room k X.A) (hg : Gl X x) (ha : PA X (e :: es) t) (hdb : (x == ("__debug__" : Str)) = false := by decide)
    (he : starEach (e :: es) X.env = (false, eval e X.env) :: starEach es X.env := by rfl) (hpl : (backTo pos (starEach es X.env)).any (·.1) = false := by rfl) :
    PE X (.Call (.Name x p) (e :: es) [] pos) (tCall sp [] E0 t) := by
  obtain ⟨f, fd, F, hm, hk, hb⟩ := D.ex
  exact pe_call F hr hg hm hk hb .nil pass0 ha hdb he hpl
theorem pe_gint {x : Str} {i : Int} {pos : Pos} (hg : Gl X x) (hm : ∃ t, X.mg x = some (.int i t)) (hd : (x == ("__debug__" : Str)) = false := by decide) : PE X (.Name x pos) (tC (.int i)) := by
  obtain ⟨t, h⟩ := hm
  exact pe_glob hg h ⟨t, rfl⟩ hd
theorem pe_gstr {x z : Str} {pos : Pos} (hg : Gl X x) (hm : ∃ t, X.mg x = some (.str z t)) (hd : (x == ("__debug__" : Str)) = false := by decide) : PE X (.Name x pos) (tC (.str z)) := by
  obtain ⟨t, h⟩ := hm
  exact pe_glob hg h ⟨t, rfl⟩ hd
end
/-! ### readings by short names -/
abbrev rAddI : R2 := rI0 fun i j => .int (i + j)
abbrev rSubI : R2 := rI0 fun i j => .int (i - j)
abbrev rMulI : R2 := rI CMul fun i j => .int (i * j)
abbrev rModI : R2 := rI (fun _ j => 0 < j) fun i j => .int (i % j)
abbrev rDivI : R2 := rI CDiv fun i j => .int (i / j)
abbrev rLtI : R2 := rI0 fun i j => .bl (decide (i < j))
abbrev rLeI : R2 := rI0 fun i j => .bl (decide (i ≤ j))
abbrev rGtI : R2 := rI0 fun i j => .bl (decide (j < i))
abbrev rGeI : R2 := rI0 fun i j => .bl (decide (j ≤ i))
abbrev rNegI : V → Hp → VK → Prop := rU fun i => .int (-i)
end Fo

namespace Fo
open PySem PySem.Spec PyProof.Rows L2 Evl
/-! ### lists of ints -/
abbrev iv (ns : List Int) : List V := ns.map V.int
theorem iv_get {ns : List Int} {i : Nat} {v : V} (h : (iv ns)[i]? = some v) : ∃ n, ns[i]? = some n ∧ v = .int n := by
  rw [List.getElem?_map] at h
  cases e : ns[i]? with
  | none => rw [e] at h; cases h
  | some n => rw [e] at h; exact ⟨n, rfl, (Option.some.inj h).symm⟩
theorem iv_at {ns : List Int} {i : Nat} {n : Int} (h : ns[i]? = some n) : (iv ns)[i]? = some (.int n) := by
  rw [List.getElem?_map, h]; rfl
theorem iv_len (ns : List Int) : (iv ns).length = ns.length := List.length_map _
/-! ### data -/
def dI (ns : List Int) : PyData := .list (ns.map PyData.int)
theorem dpAll_ints {K : PySem.W.Frag} {H : Hp} : ∀ ns : List Int, DpAll K H (iv ns) (ns.map PyData.int)
  | [] => .nil
  | n :: ns => .cons (.int n) (dpAll_ints ns)
theorem dp_ints {K : PySem.W.Frag} {H : Hp} {a : Addr} {ns : List Int} (h : SqL K H a (iv ns)) : Dp K H (.ref a) (dI ns) := .lst h (dpAll_ints ns)
theorem lay_ints : ∀ ns : List Int, PyData.canLayAll0 (ns.map PyData.int) = true
  | [] => by simp [PyData.canLayAll0]
  | n :: ns => by simp [PyData.canLayAll0, PyData.canLay0, lay_ints ns]
theorem depth_ints : ∀ ns : List Int, PyData.depthAll (ns.map PyData.int) ≤ 1
  | [] => by simp [PyData.depthAll]
  | n :: ns => by
    have := depth_ints ns
    simp only [List.map_cons, PyData.depthAll, PyData.depth]
    omega
theorem shaped_dI (ns : List Int) : SeqAt.shaped (dI ns) = true := by
  have := depth_ints ns
  simp only [SeqAt.shaped, dI, PyData.canLay0, lay_ints, PyData.depth, Bool.true_and, decide_eq_true_eq]
  omega
theorem eqvAll_ints : ∀ ns ms : List Int, PyData.eqvAll (ns.map PyData.int) (ms.map PyData.int) = decide (ns = ms)
  | [], [] => by simp [PyData.eqvAll]
  | [], _ :: _ => by simp [PyData.eqvAll]
  | _ :: _, [] => by simp [PyData.eqvAll]
  | n :: ns, m :: ms => by
    simp only [List.map_cons, PyData.eqvAll, PyData.eqv, eqvAll_ints ns ms]
    by_cases e : n = m
    · subst e; by_cases e2 : ns = ms <;> simp [e2]
    · simp [e]
theorem eqv_dI (ns ms : List Int) : PyData.eqv (dI ns) (dI ms) = decide (ns = ms) := by
  unfold dI
  rw [PyData.eqv]
  exact eqvAll_ints ns ms
/-- lists of lists of ints -/
def dLL (xs : List (List Int)) : PyData := .list (xs.map dI)
theorem lay_LL : ∀ xs : List (List Int), PyData.canLayAll0 (xs.map dI) = true
  | [] => by simp [PyData.canLayAll0]
  | n :: ns => by simp [PyData.canLayAll0, PyData.canLay0, dI, lay_ints, lay_LL ns]
theorem depth_LL : ∀ xs : List (List Int), PyData.depthAll (xs.map dI) ≤ 3
  | [] => by simp [PyData.depthAll]
  | n :: ns => by
    have h1 := depth_LL ns
    have h2 := depth_ints n
    simp only [List.map_cons, PyData.depthAll, dI, PyData.depth]
    omega
theorem shaped_dLL (xs : List (List Int)) : SeqAt.shaped (dLL xs) = true := by
  have := depth_LL xs
  simp only [SeqAt.shaped, dLL, PyData.canLay0, lay_LL, PyData.depth, Bool.true_and, decide_eq_true_eq]
  omega
theorem eqvAll_LL : ∀ xs ys : List (List Int), PyData.eqvAll (xs.map dI) (ys.map dI) = decide (xs = ys)
  | [], [] => by simp [PyData.eqvAll]
  | [], _ :: _ => by simp [PyData.eqvAll]
  | _ :: _, [] => by simp [PyData.eqvAll]
  | n :: ns, m :: ms => by
    simp only [List.map_cons, PyData.eqvAll, eqv_dI, eqvAll_LL ns ms]
    by_cases e : n = m
    · subst e; by_cases e2 : ns = ms <;> simp [e2]
    · simp [e]
theorem eqv_dLL (xs ys : List (List Int)) : PyData.eqv (dLL xs) (dLL ys) = decide (xs = ys) := by
  unfold dLL
  rw [PyData.eqv]
  exact eqvAll_LL xs ys
/-! ### more of what evaluates to what -/
section
variable {K : PySem.W.Frag} {σ : L2.St} {H H' : Hp} {ta tb tc te tx : TE} {t u : TT} {x y z v : V} {r r' : R2} {D : Ends} {tu tw tz : TS} {g : TG}
theorem ev_chain {a b : Bool} (ha : Ev ta σ H x) (hb : Ev tb σ H y) (h1 : RV r x y H (.bl a)) (hc : a = true → Ev tc σ H z) (h2 : a = true → RV r' y z H (.bl b)) : Ev (tChain r r' ta tb tc) σ H (.bl (a && b)) := fun H1 e Q q =>
  ha H1 e _ fun H2 e2 => hb H2 (e.trans e2) _ fun H3 e3 => h1 H3 ((e.trans e2).trans e3) _ fun H4 e4 => ⟨a, rfl, by
    cases a with
    | true =>
      rw [if_pos rfl]
      exact hc rfl H4 (((e.trans e2).trans e3).trans e4) _ fun H5 e5 => h2 rfl H5 ((((e.trans e2).trans e3).trans e4).trans e5) Q fun H6 e6 => q H6 ((((e2.trans e3).trans e4).trans e5).trans e6)
    | false =>
      rw [if_neg Bool.false_ne_true]
      exact q H4 ((e2.trans e3).trans e4)⟩
theorem rv_neI {a b : Addr} {ns ms : List Int} (h1 : SqL K H a (iv ns)) (h2 : SqL K H b (iv ms)) : RV (rNeD K) (.ref a) (.ref b) H (.bl (!decide (ns = ms))) := fun H1 e Q q =>
  ⟨dI ns, dI ms, dp_ints (ex_l e h1), dp_ints (ex_l e h2), shaped_dI _, shaped_dI _, by rw [eqv_dI]; exact q H1 (Ex.refl _)⟩
theorem rv_eqI {a b : Addr} {ns ms : List Int} (h1 : SqL K H a (iv ns)) (h2 : SqL K H b (iv ms)) : RV (rEqD K) (.ref a) (.ref b) H (.bl (decide (ns = ms))) := fun H1 e Q q =>
  ⟨dI ns, dI ms, dp_ints (ex_l e h1), dp_ints (ex_l e h2), shaped_dI _, shaped_dI _, by rw [eqv_dI]; exact q H1 (Ex.refl _)⟩
/-- a list of refs to lists of ints -/
def RowsAt (K : PySem.W.Frag) (H : Hp) : List V → List (List Int) → Prop := Paired fun v ns => ∃ a, v = .ref a ∧ SqL K H a (iv ns)
theorem RowsAt.mono (e : Ex H H') : ∀ {vs : List V} {xs : List (List Int)}, RowsAt K H vs xs → RowsAt K H' vs xs
  | _, _, .nil => .nil
  | _, _, .cons ⟨a, h1, h2⟩ t => .cons ⟨a, h1, ex_l e h2⟩ (RowsAt.mono e t)
theorem RowsAt.dp : ∀ {vs : List V} {xs : List (List Int)}, RowsAt K H vs xs → DpAll K H vs (xs.map dI)
  | _, _, .nil => .nil
  | _, _, .cons ⟨a, h1, h2⟩ t => by rw [h1]; exact .cons (dp_ints h2) (RowsAt.dp t)
theorem rv_neLL {a b : Addr} {vs ws : List V} {xs ys : List (List Int)} (h1 : SqL K H a vs) (r1 : RowsAt K H vs xs) (h2 : SqL K H b ws) (r2 : RowsAt K H ws ys) : RV (rNeD K) (.ref a) (.ref b) H (.bl (!decide (xs = ys))) := fun H1 e Q q =>
  ⟨dLL xs, dLL ys, .lst (ex_l e h1) (r1.mono e).dp, .lst (ex_l e h2) (r2.mono e).dp, shaped_dLL _, shaped_dLL _, by rw [eqv_dLL]; exact q H1 (Ex.refl _)⟩
theorem rv_eqLL {a b : Addr} {vs ws : List V} {xs ys : List (List Int)} (h1 : SqL K H a vs) (r1 : RowsAt K H vs xs) (h2 : SqL K H b ws) (r2 : RowsAt K H ws ys) : RV (rEqD K) (.ref a) (.ref b) H (.bl (decide (xs = ys))) := fun H1 e Q q =>
  ⟨dLL xs, dLL ys, .lst (ex_l e h1) (r1.mono e).dp, .lst (ex_l e h2) (r2.mono e).dp, shaped_dLL _, shaped_dLL _, by rw [eqv_dLL]; exact q H1 (Ex.refl _)⟩
/-- a comprehension without a test over range(n): all turns give -/
theorem given_all (n : Nat) (v : Nat → V) : given n (fun _ => true) v = (List.range n).map v := by
  unfold given
  rw [List.filter_eq_self.mpr (fun _ _ => rfl)]
theorem et_yes : EvT tYes σ H true := fun H1 _ Q q => q H1 (Ex.refl H1)
theorem el_lcRy {ta : TA} {j : Nat} {vs : List Nat} {n : Nat} (v : Nat → V) (h : EvA ta σ H [.int (n : Int)]) (hn : n ≤ 40000) (hw : ∀ x, wipe ((wipe σ vs).set j (some x)) vs = wipe σ vs)
    (he : ∀ (i : Nat) H1, Ex H H1 → i < n → Ev te ((wipe σ vs).set j (some (.int (i : Int)))) H1 (v i)) : EvL (tLc (iRng1 ta) (gName j) tYes te vs) σ H ((List.range n).map v) := by
  have h1 := el_lcR1 (te := te) (fun _ => true) v h ⟨by omega, by omega⟩ hw (fun i H1 e hi => et_yes) (fun i H1 e hi _ => he i H1 e (by omega))
  rw [given_all] at h1
  exact h1
theorem el_lcLy {a : Addr} {xs : List V} {tl : TE} {j : Nat} {vs : List Nat} (v : Nat → V) (h : Ev tl σ H (.ref a)) (hx : SqL K H a xs) (hz : xs.length ≤ 40000) (hw : ∀ x, wipe ((wipe σ vs).set j (some x)) vs = wipe σ vs)
    (he : ∀ (i : Nat) (x : V) H1, Ex H H1 → xs[i]? = some x → Ev te ((wipe σ vs).set j (some x)) H1 (v i)) : EvL (tLc (iList K tl) (gName j) tYes te vs) σ H ((List.range xs.length).map v) := by
  have h1 := el_lcL (te := te) (fun _ => true) v h hx hz hw (fun i x H1 e hi => et_yes) (fun i x H1 e hi _ => he i x H1 e hi)
  rw [given_all] at h1
  exact h1
/-- nothing is given where no turn's test holds; something where one does -/
theorem given_nil {n : Nat} {f : Nat → Bool} {v : Nat → V} (h : ∀ i, i < n → f i = false) : given n f v = [] := by
  unfold given
  rw [List.filter_eq_nil_iff.mpr (fun i hi => by rw [h i (List.mem_range.mp hi)]; exact Bool.false_ne_true)]
  rfl
theorem given_ints {n : Nat} {f : Nat → Bool} {g : Nat → Int} : given n f (fun i => V.int (g i)) = iv (((List.range n).filter f).map g) := by
  show (((List.range n).filter f).map fun i => V.int (g i)) = (((List.range n).filter f).map g).map V.int
  rw [List.map_map]
  rfl
theorem ev_maxL {a : Addr} {ns : List Int} {m : Int} (h : Ev te σ H (.ref a)) (hs : SqL K H a (iv ns)) (hm : m ∈ ns) (hle : ∀ y ∈ ns, y ≤ m) : Ev (tCB (rMax K) (tCons te tNil)) σ H (.int m) := fun H1 e Q q =>
  h H1 e _ fun H2 e2 => ⟨a, ns, rfl, ex_l (e.trans e2) hs, List.length_pos_of_mem hm, fun m' h1 h2 => by
    have e3 : m' = m := by have := hle m' h1; have := h2 m hm; omega
    rw [e3]
    exact q H2 e2⟩
theorem ev_minL {a : Addr} {ns : List Int} {m : Int} (h : Ev te σ H (.ref a)) (hs : SqL K H a (iv ns)) (hm : m ∈ ns) (hle : ∀ y ∈ ns, m ≤ y) : Ev (tCB (rMin K) (tCons te tNil)) σ H (.int m) := fun H1 e Q q =>
  h H1 e _ fun H2 e2 => ⟨a, ns, rfl, ex_l (e.trans e2) hs, List.length_pos_of_mem hm, fun m' h1 h2 => by
    have e3 : m' = m := by have := hle m' h1; have := h2 m hm; omega
    rw [e3]
    exact q H2 e2⟩
/-- isinstance -/
theorem ev_isi {c : V} {ty uu : Value} {b : Bool} (h : Ev te σ H x) (hc : Ev tc σ H c) (k : ClsV c uu) (ht : ∀ H1, Ex H H1 → TyX K H1 x ty) (hb : PySem.W.kitOne K ty uu = some b) : Ev (tCB (rIsi K) (tCons te (tCons tc tNil))) σ H (.bl b) := fun H1 e Q q =>
  h H1 e _ fun H2 e2 => hc H2 (e.trans e2) _ fun H3 e3 => ⟨x, c, ty, uu, b, rfl, k, ht H3 ((e.trans e2).trans e3), hb, q H3 (e2.trans e3)⟩
/-- a new list of values, the promise's shapes -/
def SqV (K : PySem.W.Frag) (H : Hp) (v : V) (ns : List Int) : Prop := ∃ a, v = .ref a ∧ SqL K H a (iv ns)
theorem SqV.mono {ns : List Int} (e : Ex H H') (h : SqV K H v ns) : SqV K H' v ns := let ⟨a, h1, h2⟩ := h; ⟨a, h1, ex_l e h2⟩
theorem sqv {a : Addr} {ns : List Int} (h : SqL K H a (iv ns)) : SqV K H (.ref a) ns := ⟨a, rfl, h⟩
end
end Fo

namespace Fo
open PySem PySem.Spec PyProof.Rows L2 Evl
/-! ### readings of the defs: printed by gen.py -/
def t__law_cell_at (K : PySem.W.Frag) (E : XK) : TS := (tSeq (tIfS (tTest (tOp rLtI (tVar 1) (tCB (rLenS K) (tCons (tVar 0) tNil)))) (tRet (tOp (rIxL K) (tVar 0) (tVar 1))) tNext)
    (tRet (tC (.int 0))))
def t__law_draw (K : PySem.W.Frag) (E : XK) (p__law_cell_at : Sp) : TS := (tSeq (tAsg (tOp rModI (tOp rMulI (tOp rAddI (tOp rAddI (tCall p__law_cell_at [] E (tCons (tVar 0) (tCons (tOp rModI (tVar 1) (tC (.int 61))) tNil))) (tOp rMulI (tC (.int 7919)) (tVar 1))) (tC (.int 104729))) (tC (.int 48271))) (tC (.int 2147483647))) (gName 2))
    (tSeq (tAsg (tOp rModI (tOp rMulI (tVar 2) (tVar 2)) (tC (.int 2147483647))) (gName 2))
    (tRet (tOp rDivI (tOp rModI (tOp rMulI (tVar 2) (tC (.int 16807))) (tC (.int 2147483647))) (tC (.int 8))))))
def t__law_whole (K : PySem.W.Frag) (E : XK) : TS := (tRet (tAndV (tCB (rIsi K) (tCons (tVar 0) (tCons (tC (.ty "int")) tNil))) (tNotV (tCB (rIsi K) (tCons (tVar 0) (tCons (tC (.ty "bool")) tNil))))))
def t__law_rule (K : PySem.W.Frag) (E : XK) (p__law_draw : Sp) : TS := (tSeq (tAsg (tOp (rIxL K) (tLst (tCons (tC (.int 4)) (tCons (tC (.int 9)) (tCons (tC (.int 60)) (tCons (tC (.int 20)) tNil))))) (tOp rModI (tCall p__law_draw [] E (tCons (tVar 0) (tCons (tC (.int 2)) tNil))) (tC (.int 4)))) (gName 2))
    (tSeq (tAsg (tLc (iRng1 (tCons (tVar 1) tNil)) (gName 4) tYes (tOp rAddI (tC (.int 1)) (tOp rModI (tCall p__law_draw [] E (tCons (tVar 0) (tCons (tOp rAddI (tC (.int 10)) (tVar 4)) tNil))) (tVar 2))) [4]) (gName 3))
    (tSeq (tIfS (tTest (tOp rEq (tOp rModI (tCall p__law_draw [] E (tCons (tVar 0) (tCons (tC (.int 3)) tNil))) (tC (.int 4))) (tC (.int 1)))) (tAsg (tLc (iRng1 (tCons (tVar 1) tNil)) (gName 4) tYes (tOp (rIxL K) (tVar 3) (tOp rModI (tVar 4) (tC (.int 2)))) [4]) (gName 3)) tNext)
    (tRet (tVar 3)))))
def t__law_folding (K : PySem.W.Frag) (E : XK) (p__law_draw : Sp) : TS := (tRet (tLc (iRng1 (tCons (tOp rSubI (tVar 2) (tC (.int 1))) tNil)) (gName 3) tYes (tOp rModI (tCall p__law_draw [] E (tCons (tVar 0) (tCons (tOp rAddI (tVar 1) (tVar 3)) tNil))) (tC (.int 2))) [3]))
def t__law_joints (K : PySem.W.Frag) (E : XK) : TS := (tSeq (tAsg (tLst (tCons (tC (.int 0)) tNil)) (gName 2))
    (tSeq (tAsg (tC (.bl true)) (gName 3))
    (tSeq (tFor (iRng1 (tCons (tCB (rLenS K) (tCons (tVar 0) tNil)) tNil)) (gName 4) (tSeq (tIfS (tAnd (tTest (tOp rGtI (tVar 4) (tC (.int 0)))) (tTest (tOp rEq (tOp (rIxL K) (tVar 1) (tOp rSubI (tVar 4) (tC (.int 1)))) (tC (.int 1))))) (tAsg (tNotV (tVar 3)) (gName 3)) tNext)
    (tIfS (tB (tVar 3)) (tDrop (tBM K "list" rAppend (tVar 2) (tCons (tOp rAddI (tOp (rIxL K) (tVar 2) (tUn rNegI (tC (.int 1)))) (tOp (rIxL K) (tVar 0) (tVar 4))) tNil))) (tDrop (tBM K "list" rAppend (tVar 2) (tCons (tOp rSubI (tOp (rIxL K) (tVar 2) (tUn rNegI (tC (.int 1)))) (tOp (rIxL K) (tVar 0) (tVar 4))) tNil))))))
    (tRet (tVar 2)))))
def t__law_span (K : PySem.W.Frag) (E : XK) (p__law_joints : Sp) : TS := (tSeq (tAsg (tCB (rSorted K) (tCons (tCall p__law_joints [] E (tCons (tVar 0) (tCons (tVar 1) tNil))) tNil)) (gName 2))
    (tRet (tOp rSubI (tOp (rIxL K) (tVar 2) (tUn rNegI (tC (.int 1)))) (tOp (rIxL K) (tVar 2) (tC (.int 0))))))
def t__law_numbers (K : PySem.W.Frag) (E : XK) (p__law_whole : Sp) : TS := (tSeq (tIfS (tOr (tNot (tB (tCB (rIsi K) (tCons (tVar 0) (tCons (tC (.ty "list")) tNil))))) (tTest (tOp (rNeD K) (tVar 0) (tVar 1)))) (tRet (tC (.bl false))) tNext)
    (tRet (tOp (rIn K true) (tC (.bl false)) (tLc (iList K (tVar 0)) (gName 2) tYes (tCall p__law_whole [] E (tCons (tVar 2) tNil)) [2]))))
def t_see_rule (K : PySem.W.Frag) (E : XK) (x_0 : TS) (x_1 : TS) : TS := (tSeq (tIfS (tNot (tTest (tChain rLeI rLeI (tC (.int 1)) (tCB (rLenS K) (tCons (tVar 0) tNil)) (tC (.int 12))))) x_0 tNext)
    (tIfS (tTest (tOp (rNeD K) (tLc (iList K (tVar 0)) (gName 1) (tNot (tTest (tChain rLeI rLeI (tC (.int 1)) (tVar 1) (tC (.int 60))))) (tVar 1) [1]) (tLst tNil))) x_1 tNext))
def t_see_folding (K : PySem.W.Frag) (E : XK) (p_see_rule : Sp) (x_0 : TS) : TS := (tSeq (tDrop (tCall p_see_rule [] E (tCons (tVar 0) tNil)))
    (tIfS (tOr (tTest (tOp rNe (tCB (rLenS K) (tCons (tVar 1) tNil)) (tOp rSubI (tCB (rLenS K) (tCons (tVar 0) tNil)) (tC (.int 1))))) (tTest (tOp (rNeD K) (tLc (iList K (tVar 1)) (gName 2) (tAnd (tTest (tOp rNe (tVar 2) (tC (.int 0)))) (tTest (tOp rNe (tVar 2) (tC (.int 1))))) (tVar 2) [2]) (tLst tNil)))) x_0 tNext))
def t_places_of (K : PySem.W.Frag) (E : XK) : TS := (tSeq (tAsg (tLst (tCons (tC (.int 0)) (tCons (tOp (rIxL K) (tVar 0) (tC (.int 0))) tNil))) (gName 2))
    (tSeq (tAsg (tC (.int 1)) (gName 3))
    (tSeq (tFor (iRng1 (tCons (tCB (rLenS K) (tCons (tVar 1) tNil)) tNil)) (gName 4) (tSeq (tIfS (tTest (tOp rEq (tOp (rIxL K) (tVar 1) (tVar 4)) (tC (.int 1)))) (tAsg (tOp rSubI (tC (.int 0)) (tVar 3)) (gName 3)) tNext)
    (tDrop (tBM K "list" rAppend (tVar 2) (tCons (tOp rAddI (tOp (rIxL K) (tVar 2) (tUn rNegI (tC (.int 1)))) (tOp rMulI (tVar 3) (tOp (rIxL K) (tVar 0) (tOp rAddI (tVar 4) (tC (.int 1)))))) tNil)))))
    (tRet (tVar 2)))))
def t_joints (K : PySem.W.Frag) (E : XK) (p_see_folding : Sp) (p_places_of : Sp) : TS := (tSeq (tDrop (tCall p_see_folding [] E (tCons (tVar 0) (tCons (tVar 1) tNil))))
    (tRet (tCall p_places_of [] E (tCons (tVar 0) (tCons (tVar 1) tNil)))))
def t_span (K : PySem.W.Frag) (E : XK) (p_see_folding : Sp) (p_places_of : Sp) : TS := (tSeq (tDrop (tCall p_see_folding [] E (tCons (tVar 0) (tCons (tVar 1) tNil))))
    (tSeq (tAsg (tCall p_places_of [] E (tCons (tVar 0) (tCons (tVar 1) tNil))) (gName 2))
    (tRet (tOp rSubI (tCB (rMax K) (tCons (tVar 2) tNil)) (tCB (rMin K) (tCons (tVar 2) tNil))))))
def t_fits (K : PySem.W.Frag) (E : XK) (p_see_folding : Sp) (p_span : Sp) : TS := (tSeq (tDrop (tCall p_see_folding [] E (tCons (tVar 0) (tCons (tVar 1) tNil))))
    (tRet (tOp rLeI (tCall p_span [] E (tCons (tVar 0) (tCons (tVar 1) tNil))) (tVar 2))))
def t_law_k01 (K : PySem.W.Frag) (E : XK) (p__law_draw : Sp) (p__law_rule : Sp) (p__law_folding : Sp) (p__law_joints : Sp) (p_joints : Sp) (p__law_numbers : Sp) (p_span : Sp) (p__law_whole : Sp) (p_fits : Sp) : TS := (tSeq (tAsg (tOp rAddI (tC (.int 1)) (tOp rModI (tCall p__law_draw [] E (tCons (tVar 0) (tCons (tC (.int 1)) tNil))) (tC (.int 12)))) (gName 1))
    (tSeq (tAsg (tCall p__law_rule [] E (tCons (tVar 0) (tCons (tVar 1) tNil))) (gName 2))
    (tSeq (tAsg (tCall p__law_folding [] E (tCons (tVar 0) (tCons (tC (.int 30)) (tCons (tVar 1) tNil)))) (gName 3))
    (tSeq (tAsg (tLst (tCons (tCB (rListS K) (tCons (tVar 2) tNil)) (tCons (tCB (rListS K) (tCons (tVar 3) tNil)) tNil))) (gName 4))
    (tSeq (tAsg (tCall p__law_joints [] E (tCons (tVar 2) (tCons (tVar 3) tNil))) (gName 5))
    (tSeq (tFor (iRng1 (tCons (tC (.int 2)) tNil)) (gName 6) (tSeq (tAsg (tCall p_joints [] E (tCons (tOp (rIxL K) (tVar 4) (tC (.int 0))) (tCons (tOp (rIxL K) (tVar 4) (tC (.int 1))) tNil))) (gName 7))
    (tSeq (tIfS (tOr (tNot (tB (tCall p__law_numbers [] E (tCons (tVar 7) (tCons (tVar 5) tNil))))) (tTest (tOp (rNeD K) (tVar 4) (tLst (tCons (tVar 2) (tCons (tVar 3) tNil)))))) (tRet (tC (.bl false))) tNext)
    (tDrop (tBM0 K "list" rClear (tVar 7))))))
    (tSeq (tAsg (tCall p_span [] E (tCons (tOp (rIxL K) (tVar 4) (tC (.int 0))) (tCons (tOp (rIxL K) (tVar 4) (tC (.int 1))) tNil))) (gName 8))
    (tSeq (tIfS (tOr (tNot (tB (tCall p__law_whole [] E (tCons (tVar 8) tNil)))) (tTest (tOp rNe (tVar 8) (tOp rSubI (tCB (rMax K) (tCons (tVar 5) tNil)) (tCB (rMin K) (tCons (tVar 5) tNil)))))) (tRet (tC (.bl false))) tNext)
    (tSeq (tFor (iList K (tLst (tCons (tVar 8) (tCons (tOp rSubI (tVar 8) (tC (.int 1))) (tCons (tOp rModI (tCall p__law_draw [] E (tCons (tVar 0) (tCons (tC (.int 50)) tNil))) (tC (.int 801))) tNil))))) (gName 9) (tSeq (tAsg (tCall p_fits [] E (tCons (tOp (rIxL K) (tVar 4) (tC (.int 0))) (tCons (tOp (rIxL K) (tVar 4) (tC (.int 1))) (tCons (tVar 9) tNil)))) (gName 7))
    (tIfS (tOr (tNot (tB (tCB (rIsi K) (tCons (tVar 7) (tCons (tC (.ty "bool")) tNil))))) (tTest (tOp rNe (tVar 7) (tOp rLeI (tVar 8) (tVar 9))))) (tRet (tC (.bl false))) tNext)))
    (tRet (tOp (rEqD K) (tVar 4) (tLst (tCons (tVar 2) (tCons (tVar 3) tNil))))))))))))))
end Fo

namespace Fo
open PySem PySem.Spec PyProof.Rows L2 Evl
abbrev En (Q : VK) : Ends := { nx := fun _ H' => Q .non H', rt := Q }
section
variable {K : PySem.W.Frag} {H : Hp} {Q : VK} {E E1 : XK} {vs : List V}
/-! ### a cell of the script, a draw -/
def cellAt (ns : List Int) (k : Nat) : Int := ns.getD k 0
def p__law_cell_at (K : PySem.W.Frag) : Sp := fun vs H Q _ => ∃ a ns, ∃ k : Nat, vs = [.ref a, .int k] ∧ SqL K H a (iv ns) ∧ RetV (.int (cellAt ns k)) H Q
theorem r__law_cell_at (h : p__law_cell_at K vs H Q E) : t__law_cell_at K E1 (En Q) (start ["script", "k"] vs) H := by
  obtain ⟨a, ns, k, rfl, hS, q⟩ := h
  refine q_when (et_test (ev_op (ev_var rfl) (ev_len (ev_var rfl) hS) rv_I0)) (fun hb H1 e => ?_) (fun hb H1 e => ?_)
  · rw [iv_len] at hb
    have hk : k < ns.length := by have := of_decide_eq_true hb; omega
    refine s_ret (ev_op (ev_var rfl) (ev_var rfl) (rv_ixL (ex_l e hS) (atI_nat (iv_at (List.getElem?_eq_getElem hk))))) fun H2 e2 => ?_
    have e3 : cellAt ns k = ns[k] := by unfold cellAt; rw [List.getD_eq_getElem?_getD, List.getElem?_eq_getElem hk]; rfl
    rw [← e3]
    exact q.go (e.trans e2)
  · rw [iv_len] at hb
    have hk : ¬ k < ns.length := by have := of_decide_eq_false hb; omega
    refine s_ret ev_c fun H2 e2 => ?_
    have e3 : cellAt ns k = 0 := by unfold cellAt; rw [List.getD_eq_getElem?_getD, List.getElem?_eq_none (by omega)]; rfl
    have q' := q.go (e.trans e2)
    rw [e3] at q'
    exact q'
theorem sp_cell {a : Addr} {ns : List Int} {k : Nat} (h : SqL K H a (iv ns)) : SpV (p__law_cell_at K) [.ref a, .int k] H (.int (cellAt ns k)) := fun H1 e Q q E => ⟨a, ns, k, rfl, ex_l e h, fun H2 e2 => q H2 e2⟩
def drawA (c : Int) : Int := c * 48271 % 2147483647
def drawB (s : Int) : Int := s * s % 2147483647
def drawC (s : Int) : Int := s * 16807 % 2147483647 / 8
def draw (ns : List Int) (k : Nat) : Int := drawC (drawB (drawA (cellAt ns (k % 61) + 7919 * k + 104729)))
theorem draw_nn (ns : List Int) (k : Nat) : 0 ≤ draw ns k := by
  unfold draw drawC
  omega
theorem draw_lt (ns : List Int) (k : Nat) : draw ns k < 268435456 := by
  unfold draw drawC
  omega
def p__law_draw (K : PySem.W.Frag) : Sp := fun vs H Q _ => ∃ a ns, ∃ k : Nat, vs = [.ref a, .int k] ∧ SqL K H a (iv ns) ∧ k ≤ 1000 ∧ RetV (.int (draw ns k)) H Q
theorem r__law_draw (h : p__law_draw K vs H Q E) : t__law_draw K E1 (p__law_cell_at K) (En Q) (start ["script", "k", "stir"] vs) H := by
  obtain ⟨a, ns, k, rfl, hS, hk, q⟩ := h
  have e61 : ((k : Int) % 61) = ((k % 61 : Nat) : Int) := by omega
  have hA : ∀ c : Int, 0 ≤ drawA c ∧ drawA c < 2147483647 := fun c => by unfold drawA; omega
  have hB : ∀ c : Int, 0 ≤ drawB c ∧ drawB c < 2147483647 := fun c => by unfold drawB; omega
  refine q_asg (v := .int (drawA (cellAt ns (k % 61) + 7919 * k + 104729))) ?_ fun H1 e1 => ?_
  · refine ev_op (ev_op (ev_op (ev_op (ev_call (vs := [.ref a, .int ((k % 61 : Nat) : Int)]) (ea_cons (ev_var rfl) (ea_cons (ev_is (ev_op (ev_var rfl) ev_c (rv_I (by decide))) (congrArg V.int e61)) ea_nil)) (sp_cell hS)) (ev_op ev_c (ev_var rfl) (rv_I (.inl ⟨by decide, by decide⟩))) rv_I0) ev_c rv_I0) ev_c (rv_I (.inr ⟨by decide, by decide⟩))) ev_c (rv_I (by decide))
  have hA1 := hA (cellAt ns (k % 61) + 7919 * k + 104729)
  refine q_asg (v := .int (drawB (drawA (cellAt ns (k % 61) + 7919 * k + 104729)))) ?_ fun H2 e2 => ?_
  · exact ev_op (ev_op (ev_var rfl) (ev_var rfl) (rv_I (.inl ⟨by omega, by omega⟩))) ev_c (rv_I (by decide))
  have hB1 := hB (drawA (cellAt ns (k % 61) + 7919 * k + 104729))
  refine s_ret (v := .int (draw ns k)) (ev_op (ev_op (ev_op (ev_var rfl) ev_c (rv_I (.inr ⟨by decide, by decide⟩))) ev_c (rv_I (by decide))) ev_c (rv_I ⟨by decide, by decide⟩)) fun H3 e3 => q.go ((e1.trans e2).trans e3)
theorem sp_draw {a : Addr} {ns : List Int} {k : Nat} (h : SqL K H a (iv ns)) (hk : k ≤ 1000) : SpV (p__law_draw K) [.ref a, .int k] H (.int (draw ns k)) := fun H1 e Q q E => ⟨a, ns, k, rfl, ex_l e h, hk, fun H2 e2 => q H2 e2⟩
end
end Fo

/-! Mathematics of folded rules: plain Lean. -/
namespace Fo
/-- does the k-th piece go upward -/
def upAt (f : List Int) : Nat → Bool
  | 0 => true
  | k + 1 => if f.getD k 0 = 1 then !(upAt f k) else upAt f k
def upU (f : List Int) : Nat → Bool
  | 0 => true
  | k + 1 => upAt f k
/-- the place behind k pieces -/
def plAt (r f : List Int) : Nat → Int
  | 0 => 0
  | k + 1 => if upAt f k then plAt r f k + r.getD k 0 else plAt r f k - r.getD k 0
def plTo (r f : List Int) (n : Nat) : List Int := (List.range n).map (plAt r f)
def jointsOf (r f : List Int) : List Int := plTo r f (r.length + 1)
theorem plTo_succ (r f : List Int) (n : Nat) : plTo r f (n + 1) = plTo r f n ++ [plAt r f n] := by
  unfold plTo
  rw [List.range_succ, List.map_append]
  rfl
theorem plTo_len (r f : List Int) (n : Nat) : (plTo r f n).length = n := by simp [plTo]
/-- the greatest, the least of a list that has nought in it -/
def mx (l : List Int) : Int := l.foldr max 0
def mn (l : List Int) : Int := l.foldr min 0
theorem mx_ge (l : List Int) : 0 ≤ mx l ∧ ∀ x ∈ l, x ≤ mx l := by
  induction l with
  | nil => exact ⟨Int.le_refl 0, fun x h => by cases h⟩
  | cons a l ih =>
    have e : mx (a :: l) = max a (mx l) := rfl
    rw [e]
    refine ⟨by omega, fun x h => ?_⟩
    rcases List.mem_cons.mp h with rfl | h
    · omega
    · have := ih.2 x h; omega
theorem mn_le (l : List Int) : mn l ≤ 0 ∧ ∀ x ∈ l, mn l ≤ x := by
  induction l with
  | nil => exact ⟨Int.le_refl 0, fun x h => by cases h⟩
  | cons a l ih =>
    have e : mn (a :: l) = min a (mn l) := rfl
    rw [e]
    refine ⟨by omega, fun x h => ?_⟩
    rcases List.mem_cons.mp h with rfl | h
    · omega
    · have := ih.2 x h; omega
theorem mx_mem' (l : List Int) : mx l = 0 ∨ mx l ∈ l := by
  induction l with
  | nil => exact .inl rfl
  | cons a l ih =>
    have e : mx (a :: l) = max a (mx l) := rfl
    rw [e]
    by_cases h : mx l ≤ a
    · rw [Int.max_eq_left h]; exact .inr List.mem_cons_self
    · rw [Int.max_eq_right (by omega)]
      rcases ih with h | h
      · exact .inl h
      · exact .inr (List.mem_cons_of_mem _ h)
theorem mn_mem' (l : List Int) : mn l = 0 ∨ mn l ∈ l := by
  induction l with
  | nil => exact .inl rfl
  | cons a l ih =>
    have e : mn (a :: l) = min a (mn l) := rfl
    rw [e]
    by_cases h : a ≤ mn l
    · rw [Int.min_eq_left h]; exact .inr List.mem_cons_self
    · rw [Int.min_eq_right (by omega)]
      rcases ih with h | h
      · exact .inl h
      · exact .inr (List.mem_cons_of_mem _ h)
theorem mx_mem {l : List Int} (h : (0 : Int) ∈ l) : mx l ∈ l := by
  rcases mx_mem' l with e | e
  · rw [e]; exact h
  · exact e
theorem mn_mem {l : List Int} (h : (0 : Int) ∈ l) : mn l ∈ l := by
  rcases mn_mem' l with e | e
  · rw [e]; exact h
  · exact e
theorem zero_joints (r f : List Int) : (0 : Int) ∈ jointsOf r f := List.mem_map.mpr ⟨0, List.mem_range.mpr (by omega), rfl⟩
def spanOf (r f : List Int) : Int := mx (jointsOf r f) - mn (jointsOf r f)
theorem mx_is {l : List Int} {m : Int} (h0 : (0 : Int) ∈ l) (hm : m ∈ l) (h : ∀ y ∈ l, y ≤ m) : mx l = m := by
  have h1 := (mx_ge l).2 m hm
  have h2 := h _ (mx_mem h0)
  omega
theorem mn_is {l : List Int} {m : Int} (h0 : (0 : Int) ∈ l) (hm : m ∈ l) (h : ∀ y ∈ l, m ≤ y) : mn l = m := by
  have h1 := (mn_le l).2 m hm
  have h2 := h _ (mn_mem h0)
  omega
/-- what a rule is, what a folding of it -/
structure OkR (r : List Int) : Prop where
  l1 : 1 ≤ r.length
  l12 : r.length ≤ 12
  all : ∀ x ∈ r, 1 ≤ x ∧ x ≤ 60
structure OkF (r f : List Int) : Prop where
  len : f.length + 1 = r.length
  all : ∀ t ∈ f, t = 0 ∨ t = 1
theorem getD_of {l : List Int} {i : Nat} (h : i < l.length) : l[i]? = some (l.getD i 0) := by
  rw [List.getD_eq_getElem?_getD, List.getElem?_eq_getElem h]; rfl
theorem getD_mem {l : List Int} {i : Nat} (h : i < l.length) : l.getD i 0 ∈ l := List.mem_of_getElem? (getD_of h)
end Fo

namespace Fo
open PySem PySem.Spec PyProof.Rows L2 Evl
/-- behind H a new list stands at l, all else as it was -/
structure Mk (H : Hp) (l : Addr) (H' : Hp) (xs : List V) : Prop where
  new : H l = none
  ex : Ex H H'
  at_ : H' l = some (.lst xs)
theorem Mk.app {H H' H1 : Hp} {l : Addr} {xs ys : List V} (m : Mk H l H' xs) (e : Ex H' H1) : Mk H l (upd H1 l (.lst ys)) ys := ⟨m.new, Ex.mut (m.ex.trans e) m.new, upd_same⟩
theorem Mk.mono {H H' H1 : Hp} {l : Addr} {xs : List V} (m : Mk H l H' xs) (e : Ex H' H1) : Mk H l H1 xs := ⟨m.new, m.ex.trans e, e _ _ m.at_⟩
theorem Mk.back {H0 H H' : Hp} {l : Addr} {xs : List V} (m : Mk H l H' xs) (e : Ex H0 H) : Mk H0 l H' xs := ⟨fresh_back e m.new, e.trans m.ex, m.at_⟩
theorem Mk.ret {H H' : Hp} {l : Addr} {xs : List V} {Q : VK} (m : Mk H l H' xs) (q : RetL xs H Q) : Q (.ref l) H' := q l H' m.new m.ex m.at_
section
variable {K : PySem.W.Frag} {H : Hp} {Q : VK} {E E1 : XK} {vs : List V}
/-! ### is it a whole number -/
def p__law_whole : Sp := fun vs H Q _ => ∃ n : Int, vs = [.int n] ∧ RetV (.bl true) H Q
theorem r__law_whole (h : p__law_whole vs H Q E) : t__law_whole K E1 (En Q) (start ["found"] vs) H := by
  obtain ⟨n, rfl, q⟩ := h
  refine s_ret (v := .bl true) ?_ fun H1 e => q.go e
  exact ev_andV (a := true) (b := true) (ev_isi (ev_var rfl) ev_c (.ty _) (fun H1 e => .base (.int n)) (kit_ty (by decide +kernel))) fun _ =>
    ev_notV (a := false) (ev_isi (ev_var rfl) ev_c (.ty _) (fun H1 e => .base (.int n)) (kit_ty (by decide +kernel)))
theorem sp_whole {n : Int} : SpV p__law_whole [.int n] H (.bl true) := fun H1 e Q q E => ⟨n, rfl, fun H2 e2 => q H2 e2⟩
/-! ### the joints, as the law walks them -/
def p__law_joints (K : PySem.W.Frag) : Sp := fun vs H Q _ => ∃ a b r f, vs = [.ref a, .ref b] ∧ SqL K H a (iv r) ∧ SqL K H b (iv f) ∧ f.length + 1 = r.length ∧ r.length ≤ 1000 ∧ RetL (iv (jointsOf r f)) H Q
theorem pl_last {r f : List Int} {i : Nat} : atI (iv (plTo r f (i + 1))) (-1) = some (.int (plAt r f i)) := by
  rw [plTo_succ]
  show atI ((plTo r f i ++ [plAt r f i]).map V.int) (-1) = _
  rw [List.map_append]
  exact atI_last _ _
theorem iv_app {xs : List Int} {y : Int} : iv xs ++ [V.int y] = iv (xs ++ [y]) := by simp [iv]
theorem r__law_joints (h : p__law_joints K vs H Q E) : t__law_joints K E1 (En Q) (start ["rule", "folding", "places", "up", "k"] vs) H := by
  obtain ⟨a, b, r, f, rfl, hr, hf, hl, hz, q⟩ := h
  refine q_asgL (el_lst (ea_cons ev_c ea_nil) (by decide)) fun p H1 hp e1 h1 => ?_
  refine q_asg ev_c fun H2 e2 => ?_
  refine q_forR1 (n := (r.length : Int)) (ea_cons (ev_is (ev_len (ev_var rfl) (ex_l (e1.trans e2) hr)) (by rw [iv_len])) ea_nil) ⟨by omega, by omega⟩
    (fun i σ' H' => ∃ kv, σ' = [some (.ref a), some (.ref b), some (.ref p), some (.bl (upU f i)), kv] ∧ Mk H p H' (iv (plTo r f (i + 1))))
    (fun H3 e3 => ⟨_, rfl, hp, (e1.trans e2).trans e3, e3 _ _ (e2 _ _ h1)⟩) ?_ ?_
  · rintro i σ' H' hi ⟨kv, rfl, m⟩
    have hi' : i < r.length := by omega
    have hr' := ex_l m.ex hr
    have hf' := ex_l m.ex hf
    -- if k > 0 and folding[k - 1] == 1: up = not up
    refine q_ifAsg (v := .bl (upAt f i)) (b := decide ((0 : Int) < i) && decide ((if 0 < i then f.getD (i - 1) 0 else 0) = 1)) ?_ ?_ ?_ ?_
    · refine et_and (et_test (ev_op (ev_var rfl) ev_c rv_I0)) fun hb => et_test ?_
      have h0 : 0 < i := by have := of_decide_eq_true hb; omega
      rw [if_pos h0]
      refine ev_is (ev_op (ev_op (ev_var rfl) (ev_is (ev_op (ev_var rfl) ev_c rv_I0) (congrArg V.int (show (i : Int) - 1 = ((i - 1 : Nat) : Int) by omega))) (rv_ixL hf' (atI_nat (iv_at (getD_of (i := i - 1) (by omega)))))) ev_c (rv_eq rfl)) ?_
      rw [dec_int]
      rfl
    · intro hb
      refine ev_is (ev_notV (a := upU f i) (ev_var rfl)) ?_
      obtain ⟨h1, h2⟩ := Bool.and_eq_true_iff.mp hb
      have h0 : 0 < i := by have := of_decide_eq_true h1; omega
      obtain ⟨j, rfl⟩ : ∃ j, i = j + 1 := ⟨i - 1, by omega⟩
      have h3 := of_decide_eq_true h2
      rw [if_pos h0] at h3
      show V.bl (!(upAt f j)) = V.bl (if f.getD j 0 = 1 then !(upAt f j) else upAt f j)
      rw [if_pos (show f.getD j 0 = 1 from h3)]
    · intro hb
      have e : upU f i = upAt f i := by
        cases i with
        | zero => rfl
        | succ j =>
          show upAt f j = if f.getD j 0 = 1 then !(upAt f j) else upAt f j
          have h2 : ¬ f.getD j 0 = 1 := fun z => by
            have : (decide ((0 : Int) < (j + 1 : Nat)) && decide ((if 0 < j + 1 then f.getD (j + 1 - 1) 0 else 0) = 1)) = true := by
              rw [if_pos (Nat.succ_pos j)]
              simp only [Bool.and_eq_true, decide_eq_true_eq]
              exact ⟨by omega, z⟩
            rw [this] at hb
            cases hb
          rw [if_neg h2]
      show List.set [some (V.ref a), some (V.ref b), some (V.ref p), some (V.bl (upU f i)), some (V.int (i : Int))] 3 (some (V.bl (upAt f i))) = _
      rw [← e]
      rfl
    · intro H3 e3
      refine s_if (et_B (ev_var rfl)) (fun hu H4 e4 => ?_) (fun hu H4 e4 => ?_)
      · refine s_app ((m.mono (e3.trans e4)).at_) (ev_var rfl) (ev_op (ev_op (ev_var rfl) (ev_un ev_c ru_neg) (rv_ixL (sq_of (m.mono (e3.trans e4)).at_) pl_last)) (ev_op (ev_var rfl) (ev_var rfl) (rv_ixL (ex_l (e3.trans e4) hr') (atI_nat (iv_at (getD_of hi'))))) rv_I0) (by rw [iv_len, plTo_len]; omega) fun H5 e5 => ?_
        refine ⟨_, rfl, ?_⟩
        have e : plTo r f (i + 1 + 1) = plTo r f (i + 1) ++ [plAt r f i + r.getD i 0] := by
          rw [plTo_succ r f (i + 1)]
          show _ ++ [if upAt f i then _ else _] = _
          rw [if_pos hu]
        rw [e, ← iv_app]
        exact (m.mono (e3.trans e4)).app e5
      · refine s_app ((m.mono (e3.trans e4)).at_) (ev_var rfl) (ev_op (ev_op (ev_var rfl) (ev_un ev_c ru_neg) (rv_ixL (sq_of (m.mono (e3.trans e4)).at_) pl_last)) (ev_op (ev_var rfl) (ev_var rfl) (rv_ixL (ex_l (e3.trans e4) hr') (atI_nat (iv_at (getD_of hi'))))) rv_I0) (by rw [iv_len, plTo_len]; omega) fun H5 e5 => ?_
        refine ⟨_, rfl, ?_⟩
        have e : plTo r f (i + 1 + 1) = plTo r f (i + 1) ++ [plAt r f i - r.getD i 0] := by
          rw [plTo_succ r f (i + 1)]
          show _ ++ [if upAt f i then _ else _] = _
          rw [if_neg (by rw [hu]; exact Bool.false_ne_true)]
        rw [e, ← iv_app]
        exact (m.mono (e3.trans e4)).app e5
  · rintro σ' H' ⟨kv, rfl, m⟩
    refine s_ret (ev_var rfl) fun H3 e3 => ?_
    exact (m.mono e3).ret q
theorem sl_joints {a b : Addr} {r f : List Int} (hr : SqL K H a (iv r)) (hf : SqL K H b (iv f)) (hl : f.length + 1 = r.length) (hz : r.length ≤ 1000) : SpL (p__law_joints K) [.ref a, .ref b] H (iv (jointsOf r f)) := fun H1 e Q q E =>
  ⟨a, b, r, f, rfl, ex_l e hr, ex_l e hf, hl, hz, fun p H2 hp e2 h2 => q p H2 hp e2 h2⟩
end
end Fo

namespace Fo
open PySem PySem.Spec PyProof.Rows L2 Evl
section
variable {K : PySem.W.Frag} {H : Hp} {Q : VK} {E E1 : XK} {vs : List V}
/-! ### the drawn rule, the drawn folding -/
def mostOf (ns : List Int) : Int := [(4 : Int), 9, 60, 20].getD (draw ns 2 % 4).toNat 0
theorem most_ok (ns : List Int) : 1 ≤ mostOf ns ∧ mostOf ns ≤ 60 := by
  unfold mostOf
  have h : (draw ns 2 % 4).toNat < 4 := by omega
  generalize (draw ns 2 % 4).toNat = i at h
  match i, h with
  | 0, _ => decide
  | 1, _ => decide
  | 2, _ => decide
  | 3, _ => decide
def baseOf (ns : List Int) (p : Nat) : List Int := (List.range p).map fun i => 1 + draw ns (10 + i) % mostOf ns
def ruleOf (ns : List Int) (p : Nat) : List Int := if draw ns 3 % 4 = 1 then (List.range p).map fun i => (baseOf ns p).getD (i % 2) 0 else baseOf ns p
theorem base_len (ns : List Int) (p : Nat) : (baseOf ns p).length = p := by simp [baseOf]
theorem rule_len (ns : List Int) (p : Nat) : (ruleOf ns p).length = p := by
  unfold ruleOf
  split
  · simp
  · exact base_len ns p
theorem base_ok (ns : List Int) (p : Nat) : ∀ x ∈ baseOf ns p, 1 ≤ x ∧ x ≤ 60 := by
  intro x hx
  obtain ⟨i, _, rfl⟩ := List.mem_map.mp hx
  have hm := most_ok ns
  have h1 : 0 ≤ draw ns (10 + i) % mostOf ns := Int.emod_nonneg _ (by omega)
  have h2 : draw ns (10 + i) % mostOf ns < mostOf ns := Int.emod_lt_of_pos _ (by omega)
  omega
theorem rule_ok (ns : List Int) (p : Nat) (h1 : 1 ≤ p) (h2 : p ≤ 12) : OkR (ruleOf ns p) := by
  refine ⟨by rw [rule_len]; exact h1, by rw [rule_len]; exact h2, fun x hx => ?_⟩
  unfold ruleOf at hx
  split at hx
  · obtain ⟨i, hi, rfl⟩ := List.mem_map.mp hx
    have hi' := List.mem_range.mp hi
    refine base_ok ns p _ (getD_mem ?_)
    rw [base_len]
    have : i % 2 ≤ i := Nat.mod_le _ _
    omega
  · exact base_ok ns p x hx
def p__law_rule (K : PySem.W.Frag) : Sp := fun vs H Q _ => ∃ a ns, ∃ p : Nat, vs = [.ref a, .int p] ∧ SqL K H a (iv ns) ∧ 1 ≤ p ∧ p ≤ 12 ∧ RetL (iv (ruleOf ns p)) H Q
theorem map_int {n : Nat} {g : Nat → Int} : (List.range n).map (fun i => V.int (g i)) = iv ((List.range n).map g) := by
  show _ = List.map V.int (List.map g _)
  rw [List.map_map]
  rfl
theorem r__law_rule (h : p__law_rule K vs H Q E) : t__law_rule K E1 (p__law_draw K) (En Q) (start ["script", "pieces", "most", "rule", "k"] vs) H := by
  obtain ⟨a, ns, p, rfl, hS, hp1, hp2, q⟩ := h
  have hm := most_ok ns
  refine q_asg (v := .int (mostOf ns)) ?_ fun H1 e1 => ?_
  · refine ev_opL1 (xs := iv [4, 9, 60, 20]) (y := .int (((draw ns 2 % 4).toNat : Nat) : Int)) (el_lst (ea_cons ev_c (ea_cons ev_c (ea_cons ev_c (ea_cons ev_c ea_nil)))) (by decide)) (fun H1 e => ?_) (fun p' H1 hp' e => rv_ixL (sq_of hp') (atI_nat (iv_at (getD_of (by have := draw_nn ns 2; simp; omega)))))
    refine ev_is (ev_op (ev_call (vs := [.ref a, .int ((2 : Nat) : Int)]) (ea_cons (ev_var rfl) (ea_cons ev_c ea_nil)) (sp_draw (ex_l e hS) (by decide))) ev_c (rv_I (by decide))) (congrArg V.int ?_)
    have := draw_nn ns 2
    omega
  refine q_asgL (xs := iv (baseOf ns p)) ?_ fun q1 H2 hq1 e2 h2 => ?_
  · have h := el_lcRy (te := tOp rAddI (tC (.int 1)) (tOp rModI (tCall (p__law_draw K) [] E0 (tCons (tVar 0) (tCons (tOp rAddI (tC (.int 10)) (tVar 4)) tNil))) (tVar 2))) (ta := tCons (tVar 1) tNil) (j := 4) (vs := [4]) (n := p) (σ := [some (.ref a), some (.int p), some (.int (mostOf ns)), none, none]) (H := H1) (fun i => V.int (1 + draw ns (10 + i) % mostOf ns)) (ea_cons (ev_var rfl) ea_nil) (by omega) (fun x => rfl) (fun i H2 e hi =>
      ev_op ev_c (ev_op (ev_call (vs := [.ref a, .int ((10 + i : Nat) : Int)]) (ea_cons (ev_var rfl) (ea_cons (ev_is (ev_op ev_c (ev_var rfl) rv_I0) (congrArg V.int (by omega))) ea_nil)) (sp_draw (ex_l (e1.trans e) hS) (by omega))) (ev_var rfl) (rv_I (by omega))) rv_I0)
    rw [map_int] at h
    exact h
  have S2 := ex_l (e1.trans e2) hS
  refine q_when (b := decide (draw ns 3 % 4 = 1)) (et_test ?_) (fun hb H3 e3 => ?_) (fun hb H3 e3 => ?_)
  · refine ev_is (ev_op (ev_op (ev_call (vs := [.ref a, .int ((3 : Nat) : Int)]) (ea_cons (ev_var rfl) (ea_cons ev_c ea_nil)) (sp_draw S2 (by decide))) ev_c (rv_I (by decide))) ev_c (rv_eq rfl)) ?_
    rw [dec_int]; rfl
  · have hb' := of_decide_eq_true hb
    refine s_asgL (xs := iv (ruleOf ns p)) ?_ fun q2 H4 hq2 e4 h4 => ?_
    · have h := el_lcRy (te := tOp (rIxL K) (tVar 3) (tOp rModI (tVar 4) (tC (.int 2)))) (ta := tCons (tVar 1) tNil) (j := 4) (vs := [4]) (n := p) (σ := [some (.ref a), some (.int p), some (.int (mostOf ns)), some (.ref q1), none]) (H := H3) (fun i => V.int ((baseOf ns p).getD (i % 2) 0)) (ea_cons (ev_var rfl) ea_nil) (by omega) (fun x => rfl) (fun i H4 e hi =>
        ev_op (ev_var rfl) (ev_is (ev_op (ev_var rfl) ev_c (rv_I (by decide))) (congrArg V.int (show (i : Int) % 2 = ((i % 2 : Nat) : Int) by omega))) (rv_ixL (sq_of ((e3.trans e) _ _ h2)) (atI_nat (iv_at (getD_of (by rw [base_len]; have : i % 2 ≤ i := Nat.mod_le _ _; omega))))))
      rw [map_int] at h
      have e : ruleOf ns p = (List.range p).map fun i => (baseOf ns p).getD (i % 2) 0 := if_pos hb'
      rw [e]
      exact h
    · exact s_ret (ev_var rfl) fun H5 e5 => q q2 H5 (fresh_back ((e1.trans e2).trans e3) hq2) ((((e1.trans e2).trans e3).trans e4).trans e5) (e5 _ _ h4)
  · have hb' := of_decide_eq_false hb
    have e : ruleOf ns p = baseOf ns p := if_neg hb'
    rw [e] at q
    exact s_ret (ev_var rfl) fun H5 e5 => q q1 H5 (fresh_back e1 hq1) (((e1.trans e2).trans e3).trans e5) ((e3.trans e5) _ _ h2)
theorem sl_rule {a : Addr} {ns : List Int} {p : Nat} (h : SqL K H a (iv ns)) (h1 : 1 ≤ p) (h2 : p ≤ 12) : SpL (p__law_rule K) [.ref a, .int p] H (iv (ruleOf ns p)) := fun H1 e Q q E => ⟨a, ns, p, rfl, ex_l e h, h1, h2, fun l H2 hl e2 h2 => q l H2 hl e2 h2⟩
def foldOf (ns : List Int) (start p : Nat) : List Int := (List.range (p - 1)).map fun i => draw ns (start + i) % 2
theorem fold_ok (ns : List Int) (s p : Nat) (r : List Int) (h : r.length = p) (h1 : 1 ≤ p) : OkF r (foldOf ns s p) := by
  refine ⟨by simp [foldOf]; omega, fun t ht => ?_⟩
  obtain ⟨i, _, rfl⟩ := List.mem_map.mp ht
  omega
def p__law_folding (K : PySem.W.Frag) : Sp := fun vs H Q _ => ∃ a ns, ∃ s p : Nat, vs = [.ref a, .int s, .int p] ∧ SqL K H a (iv ns) ∧ 1 ≤ p ∧ p ≤ 12 ∧ s ≤ 100 ∧ RetL (iv (foldOf ns s p)) H Q
theorem r__law_folding (h : p__law_folding K vs H Q E) : t__law_folding K E1 (p__law_draw K) (En Q) (start ["script", "start", "pieces", "k"] vs) H := by
  obtain ⟨a, ns, s, p, rfl, hS, h1, h2, hs, q⟩ := h
  refine s_retL (xs := iv (foldOf ns s p)) ?_ fun l H1 hl e hl1 => q l H1 hl e hl1
  have h := el_lcRy (te := tOp rModI (tCall (p__law_draw K) [] E0 (tCons (tVar 0) (tCons (tOp rAddI (tVar 1) (tVar 3)) tNil))) (tC (.int 2))) (ta := tCons (tOp rSubI (tVar 2) (tC (.int 1))) tNil) (j := 3) (vs := [3]) (n := p - 1) (σ := [some (.ref a), some (.int s), some (.int p), none]) (H := H) (fun i => V.int (draw ns (s + i) % 2)) (ea_cons (ev_is (ev_op (ev_var rfl) ev_c rv_I0) (congrArg V.int (by omega))) ea_nil) (by omega) (fun x => rfl) (fun i H2 e hi =>
    ev_op (ev_call (vs := [.ref a, .int ((s + i : Nat) : Int)]) (ea_cons (ev_var rfl) (ea_cons (ev_is (ev_op (ev_var rfl) (ev_var rfl) rv_I0) (congrArg V.int (by omega))) ea_nil)) (sp_draw (ex_l e hS) (by omega))) ev_c (rv_I (by decide)))
  rw [map_int] at h
  exact h
theorem sl_folding {a : Addr} {ns : List Int} {s p : Nat} (h : SqL K H a (iv ns)) (h1 : 1 ≤ p) (h2 : p ≤ 12) (hs : s ≤ 100) : SpL (p__law_folding K) [.ref a, .int s, .int p] H (iv (foldOf ns s p)) := fun H1 e Q q E => ⟨a, ns, s, p, rfl, ex_l e h, h1, h2, hs, fun l H2 hl e2 h2 => q l H2 hl e2 h2⟩
/-! ### the span, as the law reckons it -/
theorem srt_last {l : List Int} (h : l.Pairwise (· ≤ ·)) {i : Nat} (hi : i < l.length) : ∀ y ∈ l, l.getD 0 0 ≤ y ∧ y ≤ l.getD (l.length - 1) 0 := by
  intro y hy
  obtain ⟨j, hj, rfl⟩ := List.getElem_of_mem hy
  have p := List.pairwise_iff_getElem.mp h
  have e0 : l.getD 0 0 = l[0] := by rw [List.getD_eq_getElem?_getD, List.getElem?_eq_getElem (by omega)]; rfl
  have e1 : l.getD (l.length - 1) 0 = l[l.length - 1] := by rw [List.getD_eq_getElem?_getD, List.getElem?_eq_getElem (by omega)]; rfl
  rw [e0, e1]
  constructor
  · by_cases e : j = 0
    · subst e; exact Int.le_refl _
    · exact p 0 j (by omega) hj (by omega)
  · by_cases e : j = l.length - 1
    · subst e; exact Int.le_refl _
    · exact p j (l.length - 1) hj (by omega) (by omega)
def p__law_span (K : PySem.W.Frag) : Sp := fun vs H Q _ => ∃ a b r f, vs = [.ref a, .ref b] ∧ SqL K H a (iv r) ∧ SqL K H b (iv f) ∧ f.length + 1 = r.length ∧ r.length ≤ 40 ∧ RetV (.int (spanOf r f)) H Q
theorem r__law_span (h : p__law_span K vs H Q E) : t__law_span K E1 (p__law_joints K) (En Q) (start ["rule", "folding", "places"] vs) H := by
  obtain ⟨a, b, r, f, rfl, hr, hf, hl, hz, q⟩ := h
  have jl : (jointsOf r f).length = r.length + 1 := plTo_len _ _ _
  refine (el_call (vs := [.ref a, .ref b]) (ea_cons (ev_var rfl) (ea_cons (ev_var rfl) ea_nil)) (sl_joints hr hf hl (by omega))) H (Ex.refl H) _ fun p H1 hp e1 h1 => ?_
  refine ⟨p, jointsOf r f, rfl, sq_of h1, by rw [jl]; omega, fun ns' p' perm srt np => ?_⟩
  have e2 : Ex H1 (upd H1 p' (.lst (iv ns'))) := Ex.new np
  have nl : ns'.length = r.length + 1 := by rw [perm.length_eq, jl]
  have hs := srt_last srt (i := 0) (by omega)
  have hmx : mx (jointsOf r f) = ns'.getD (ns'.length - 1) 0 := mx_is (zero_joints r f) (perm.mem_iff.mp (getD_mem (by omega))) fun y hy => (hs y (perm.mem_iff.mpr hy)).2
  have hmn : mn (jointsOf r f) = ns'.getD 0 0 := mn_is (zero_joints r f) (perm.mem_iff.mp (getD_mem (by omega))) fun y hy => (hs y (perm.mem_iff.mpr hy)).1
  refine s_ret (v := .int (ns'.getD (ns'.length - 1) 0 - ns'.getD 0 0)) (ev_op (ev_op (ev_var rfl) (ev_un ev_c ru_neg) (rv_ixL (sq_of upd_same) ?_)) (ev_op (ev_var rfl) ev_c (rv_ixL (sq_of upd_same) (atI_nat (j := 0) (iv_at (getD_of (by omega)))))) rv_I0) fun H3 e3 => ?_
  · have e : ns' = ns'.dropLast ++ [ns'.getD (ns'.length - 1) 0] := by
      have hne : ns' ≠ [] := by intro z; rw [z] at nl; simp at nl
      have e1 := List.dropLast_concat_getLast hne
      have e2 : ns'.getD (ns'.length - 1) 0 = ns'.getLast hne := by
        rw [List.getLast_eq_getElem, List.getD_eq_getElem?_getD, List.getElem?_eq_getElem (by omega)]; rfl
      rw [e2, e1]
    have e3 : iv ns' = iv ns'.dropLast ++ [V.int (ns'.getD (ns'.length - 1) 0)] := by
      rw [iv_app]
      exact congrArg iv e
    rw [e3]
    exact atI_last _ _
  · have e4 : spanOf r f = ns'.getD (ns'.length - 1) 0 - ns'.getD 0 0 := by unfold spanOf; rw [hmx, hmn]
    rw [← e4]
    exact q.go ((e1.trans e2).trans e3)
theorem sp_lspan {a b : Addr} {r f : List Int} (hr : SqL K H a (iv r)) (hf : SqL K H b (iv f)) (hl : f.length + 1 = r.length) (hz : r.length ≤ 40) : SpV (p__law_span K) [.ref a, .ref b] H (.int (spanOf r f)) := fun H1 e Q q E =>
  ⟨a, b, r, f, rfl, ex_l e hr, ex_l e hf, hl, hz, fun H2 e2 => q H2 e2⟩
end
end Fo

namespace Fo
open PySem PySem.Spec PyProof.Rows L2 Evl
section
variable {K : PySem.W.Frag} {H : Hp} {Q : VK} {E E1 : XK} {vs : List V}
/-! ### two lists of whole numbers are one -/
theorem no_false (n : Nat) : inV (.bl false) ((List.range n).map fun _ => V.bl true) = false := by
  unfold inV
  rw [List.any_eq_false]
  intro x hx
  obtain ⟨_, _, rfl⟩ := List.mem_map.mp hx
  decide
theorem all_flat (n : Nat) : ((List.range n).map fun _ => V.bl true).all flatV = true := by
  rw [List.all_eq_true]
  intro x hx
  obtain ⟨_, _, rfl⟩ := List.mem_map.mp hx
  rfl
def p__law_numbers (K : PySem.W.Frag) : Sp := fun vs H Q _ => ∃ a b xs ys, vs = [.ref a, .ref b] ∧ H a = some (.lst (iv xs)) ∧ SqL K H b (iv ys) ∧ xs.length ≤ 10000 ∧ RetV (.bl (decide (xs = ys))) H Q
theorem r__law_numbers (h : p__law_numbers K vs H Q E) : t__law_numbers K E1 p__law_whole (En Q) (start ["found", "due", "number"] vs) H := by
  obtain ⟨a, b, xs, ys, rfl, ha, hb, hz, q⟩ := h
  have sa := SqL.of (K := K) ha
  refine q_when (b := false || !decide (xs = ys)) (et_or (et_not (a := true) (et_B (ev_isi (ev_var rfl) ev_c (.ty _) (fun H1 e => .base (.lst (e _ _ ha))) (kit_ty (by decide +kernel))))) fun _ => et_test (ev_op (ev_var rfl) (ev_var rfl) (rv_neI sa hb))) (fun hc H1 e => ?_) (fun hc H1 e => ?_)
  · have e1 : decide (xs = ys) = false := by simpa using hc
    rw [e1] at q
    exact s_ret ev_c fun H2 e2 => q.go (e.trans e2)
  · have e1 : decide (xs = ys) = true := by simpa using hc
    rw [e1] at q
    refine s_ret (v := .bl true) ?_ fun H2 e2 => q.go (e.trans e2)
    refine ev_opL (xs := (List.range xs.length).map fun _ => V.bl true) ev_c ?_ fun p H2 hp e2 => ?_
    · have h := el_lcLy (te := tCall p__law_whole [] E1 (tCons (tVar 2) tNil)) (tl := tVar 0) (j := 2) (vs := [2]) (xs := iv xs) (σ := [some (.ref a), some (.ref b), none]) (H := H1) (fun _ => V.bl true) (ev_var rfl) (ex_l e sa) (by rw [iv_len]; omega) (fun x => rfl) (fun i x H3 e3 hi => by
        obtain ⟨n, hn, rfl⟩ := iv_get hi
        exact ev_call (vs := [.int n]) (ea_cons (ev_var rfl) ea_nil) sp_whole)
      rw [iv_len] at h
      exact h
    · have h := rv_niL (K := K) (x := .bl false) (sq_of hp) rfl (all_flat xs.length)
      rw [no_false] at h
      exact h
theorem sp_numbers {a b : Addr} {xs ys : List Int} (ha : H a = some (.lst (iv xs))) (hb : SqL K H b (iv ys)) (hz : xs.length ≤ 10000) : SpV (p__law_numbers K) [.ref a, .ref b] H (.bl (decide (xs = ys))) := fun H1 e Q q E =>
  ⟨a, b, xs, ys, rfl, e _ _ ha, ex_l e hb, hz, fun H2 e2 => q H2 e2⟩
/-! ### the refusals, where nothing is to be refused -/
def p_see_rule0 (K : PySem.W.Frag) : Sp := fun vs H Q _ => ∃ a r, vs = [.ref a] ∧ SqL K H a (iv r) ∧ OkR r ∧ RetV .non H Q
theorem ok_at {r : List Int} (h : OkR r) {i : Nat} {x : V} (e : (iv r)[i]? = some x) : ∃ n, x = .int n ∧ 1 ≤ n ∧ n ≤ 60 := by
  obtain ⟨n, hn, rfl⟩ := iv_get e
  exact ⟨n, rfl, h.all n (List.mem_of_getElem? hn)⟩
theorem r_see_rule0 {x0 x1 : TS} (h : p_see_rule0 K vs H Q E) : t_see_rule K E1 x0 x1 (En Q) (start ["rule", "length"] vs) H := by
  obtain ⟨a, r, rfl, hr, ok, q⟩ := h
  have l1 := ok.l1
  have l2 := ok.l12
  refine q_when (b := !(true && true)) (et_not (et_test (ev_chain (x := .int 1) (y := .int r.length) (z := .int 12) ev_c (ev_is (ev_len (ev_var rfl) hr) (by rw [iv_len])) ?_ (fun _ => ev_c) fun _ => ?_))) (fun hc => by cases hc) (fun _ H1 e1 => ?_)
  · have h := rv_I0 (H := H) (g := fun i j => V.bl (decide (i ≤ j))) (i := 1) (j := (r.length : Int))
    rw [show decide ((1 : Int) ≤ (r.length : Int)) = true from decide_eq_true (by omega)] at h
    exact h
  · have h := rv_I0 (H := H) (g := fun i j => V.bl (decide (i ≤ j))) (i := (r.length : Int)) (j := 12)
    rw [show decide ((r.length : Int) ≤ (12 : Int)) = true from decide_eq_true (by omega)] at h
    exact h
  have hr1 := ex_l e1 hr
  refine s_when (b := !decide (([] : List Int) = [])) (et_test ?_) (fun hc => by simp at hc) (fun _ H2 e2 => q.go (e1.trans e2))
  refine ev_opLL (xs := iv []) (ys := iv []) ?_ (el_lst ea_nil (by decide)) fun p p' H2 hp hp' e2 => rv_neI (sq_of hp) (sq_of hp')
  have h := el_lcL (te := tVar 1) (t := tNot (tTest (tChain rLeI rLeI (tC (.int 1)) (tVar 1) (tC (.int 60))))) (tl := tVar 0) (j := 1) (vs := [1]) (σ := [some (.ref a), none]) (H := H1) (fun _ => false) (fun i => V.int (r.getD i 0)) (ev_var rfl) hr1 (by rw [iv_len]; omega) (fun x => rfl) (fun i x H2 e2 hi => by
    obtain ⟨n, rfl, n1, n2⟩ := ok_at ok hi
    refine et_not (a := true && true) (et_test (ev_chain (x := .int 1) (y := .int n) (z := .int 60) ev_c (ev_var rfl) ?_ (fun _ => ev_c) fun _ => ?_))
    · have h := rv_I0 (H := H2) (g := fun i j => V.bl (decide (i ≤ j))) (i := 1) (j := n)
      rw [show decide ((1 : Int) ≤ n) = true from decide_eq_true n1] at h
      exact h
    · have h := rv_I0 (H := H2) (g := fun i j => V.bl (decide (i ≤ j))) (i := n) (j := 60)
      rw [show decide (n ≤ (60 : Int)) = true from decide_eq_true n2] at h
      exact h) (fun i x H2 e2 hi hf => by cases hf)
  rw [given_nil (fun _ _ => rfl)] at h
  exact h
theorem sp_see_rule0 {a : Addr} {r : List Int} (hr : SqL K H a (iv r)) (ok : OkR r) : SpV (p_see_rule0 K) [.ref a] H .non := fun H1 e Q q E => ⟨a, r, rfl, ex_l e hr, ok, fun H2 e2 => q H2 e2⟩
def p_see_folding0 (K : PySem.W.Frag) : Sp := fun vs H Q _ => ∃ a b r f, vs = [.ref a, .ref b] ∧ SqL K H a (iv r) ∧ SqL K H b (iv f) ∧ OkR r ∧ OkF r f ∧ RetV .non H Q
theorem r_see_folding0 {x0 : TS} (h : p_see_folding0 K vs H Q E) : t_see_folding K E1 (p_see_rule0 K) x0 (En Q) (start ["rule", "folding", "turn"] vs) H := by
  obtain ⟨a, b, r, f, rfl, hr, hf, ok, okf, q⟩ := h
  have l1 := ok.l1
  have l2 := ok.l12
  have l3 := okf.len
  refine q_drop (ev_call (vs := [.ref a]) (ea_cons (ev_var rfl) ea_nil) (sp_see_rule0 hr ok)) fun H1 e1 => ?_
  have hr1 := ex_l e1 hr
  have hf1 := ex_l e1 hf
  refine s_when (b := false || !decide (([] : List Int) = [])) (et_or (et_test ?_) fun _ => et_test ?_) (fun hc => by simp at hc) (fun _ H2 e2 => q.go (e1.trans e2))
  · refine ev_is (ev_op (ev_len (ev_var rfl) hf1) (ev_op (ev_len (ev_var rfl) hr1) ev_c rv_I0) (rv_ne rfl)) ?_
    rw [dec_int, iv_len, iv_len]
    have e : ((f.length : Int) == (r.length : Int) - 1) = true := by rw [beq_iff_eq]; omega
    rw [e]
    rfl
  refine ev_opLL (xs := iv []) (ys := iv []) ?_ (el_lst ea_nil (by decide)) fun p p' H2 hp hp' e2 => rv_neI (sq_of hp) (sq_of hp')
  have h := el_lcL (te := tVar 2) (t := tAnd (tTest (tOp rNe (tVar 2) (tC (.int 0)))) (tTest (tOp rNe (tVar 2) (tC (.int 1))))) (tl := tVar 1) (j := 2) (vs := [2]) (σ := [some (.ref a), some (.ref b), none]) (H := H1) (fun _ => false) (fun i => V.int (f.getD i 0)) (ev_var rfl) hf1 (by rw [iv_len]; omega) (fun x => rfl) (fun i x H2 e2 hi => by
    obtain ⟨n, hn, rfl⟩ := iv_get hi
    have ht := okf.all n (List.mem_of_getElem? hn)
    refine et_is (et_and (a := !decide (n = 0)) (b := !decide (n = 1)) (et_test (ev_is (ev_op (ev_var rfl) ev_c (rv_ne rfl)) (by rw [dec_int]; rfl))) fun _ => et_test (ev_is (ev_op (ev_var rfl) ev_c (rv_ne rfl)) (by rw [dec_int]; rfl))) ?_
    rcases ht with rfl | rfl <;> decide) (fun i x H2 e2 hi hf => by cases hf)
  rw [given_nil (fun _ _ => rfl)] at h
  exact h
theorem sp_see_folding0 {a b : Addr} {r f : List Int} (hr : SqL K H a (iv r)) (hf : SqL K H b (iv f)) (ok : OkR r) (okf : OkF r f) : SpV (p_see_folding0 K) [.ref a, .ref b] H .non := fun H1 e Q q E => ⟨a, b, r, f, rfl, ex_l e hr, ex_l e hf, ok, okf, fun H2 e2 => q H2 e2⟩
/-! ### the places, the joints, the span, fits -/
def p_places_of (K : PySem.W.Frag) : Sp := fun vs H Q _ => ∃ a b r f, vs = [.ref a, .ref b] ∧ SqL K H a (iv r) ∧ SqL K H b (iv f) ∧ OkR r ∧ OkF r f ∧ RetL (iv (jointsOf r f)) H Q
def wayI (u : Bool) : Int := if u then 1 else -1
theorem wayI_not (u : Bool) : wayI (!u) = 0 - wayI u := by cases u <;> rfl
theorem r_places_of (h : p_places_of K vs H Q E) : t_places_of K E1 (En Q) (start ["rule", "folding", "places", "way", "k"] vs) H := by
  obtain ⟨a, b, r, f, rfl, hr, hf, ok, okf, q⟩ := h
  have l1 := ok.l1
  have l2 := ok.l12
  have l3 := okf.len
  refine q_asgL (xs := iv (plTo r f 2)) ?_ fun p H1 hp e1 h1 => ?_
  · have e : iv (plTo r f 2) = [V.int 0, V.int (r.getD 0 0)] := by
      show [V.int (plAt r f 0), V.int (plAt r f 1)] = _
      have e2 : plAt r f 1 = r.getD 0 0 := by show 0 + r.getD 0 0 = _; omega
      rw [e2]
      rfl
    rw [e]
    exact el_lst (ea_cons ev_c (ea_cons (ev_op (ev_var rfl) ev_c (rv_ixL hr (atI_nat (j := 0) (iv_at (getD_of (by omega)))))) ea_nil)) (by show 2 ≤ 100000; decide)
  refine q_asg ev_c fun H2 e2 => ?_
  refine q_forR1 (n := (f.length : Int)) (ea_cons (ev_is (ev_len (ev_var rfl) (ex_l (e1.trans e2) hf)) (by rw [iv_len])) ea_nil) ⟨by omega, by omega⟩
    (fun i σ' H' => ∃ kv, σ' = [some (.ref a), some (.ref b), some (.ref p), some (.int (wayI (upAt f i))), kv] ∧ Mk H p H' (iv (plTo r f (i + 2))))
    (fun H3 e3 => ⟨_, rfl, hp, (e1.trans e2).trans e3, e3 _ _ (e2 _ _ h1)⟩) ?_ ?_
  · rintro i σ' H' hi ⟨kv, rfl, m⟩
    have hi' : i < f.length := by omega
    have hr' := ex_l m.ex hr
    have hf' := ex_l m.ex hf
    refine q_ifAsg (v := .int (wayI (upAt f (i + 1)))) (b := decide (f.getD i 0 = 1)) ?_ ?_ ?_ ?_
    · refine et_test (ev_is (ev_op (ev_op (ev_var rfl) (ev_var rfl) (rv_ixL hf' (atI_nat (iv_at (getD_of hi'))))) ev_c (rv_eq rfl)) ?_)
      rw [dec_int]; rfl
    · intro hb
      refine ev_is (ev_op ev_c (ev_var rfl) rv_I0) (congrArg V.int ?_)
      show 0 - wayI (upAt f i) = wayI (if f.getD i 0 = 1 then !(upAt f i) else upAt f i)
      rw [if_pos (of_decide_eq_true hb), wayI_not]
    · intro hb
      have e : upAt f (i + 1) = upAt f i := by
        show (if f.getD i 0 = 1 then !(upAt f i) else upAt f i) = _
        rw [if_neg (of_decide_eq_false hb)]
      rw [e]
      rfl
    · intro H3 e3
      have m3 := m.mono e3
      refine s_app m3.at_ (ev_var rfl) (ev_op (ev_op (ev_var rfl) (ev_un ev_c ru_neg) (rv_ixL (sq_of m3.at_) (pl_last (i := i + 1)))) (ev_op (ev_var rfl) (ev_op (ev_var rfl) (ev_is (ev_op (ev_var rfl) ev_c rv_I0) (congrArg V.int (show (i : Int) + 1 = ((i + 1 : Nat) : Int) by omega))) (rv_ixL (ex_l e3 hr') (atI_nat (iv_at (getD_of (i := i + 1) (by omega)))))) (rv_I (.inl ?_))) rv_I0) (by rw [iv_len, plTo_len]; omega) fun H5 e5 => ?_
      · cases upAt f (i + 1) <;> decide
      refine ⟨_, rfl, ?_⟩
      have e : plTo r f (i + 1 + 2) = plTo r f (i + 2) ++ [plAt r f (i + 1) + wayI (upAt f (i + 1)) * r.getD (i + 1) 0] := by
        rw [plTo_succ r f (i + 2)]
        congr 2
        show (if upAt f (i + 1) then _ else _) = _
        cases upAt f (i + 1)
        · show plAt r f (i + 1) - r.getD (i + 1) 0 = plAt r f (i + 1) + -1 * r.getD (i + 1) 0
          omega
        · show plAt r f (i + 1) + r.getD (i + 1) 0 = plAt r f (i + 1) + 1 * r.getD (i + 1) 0
          omega
      rw [e, ← iv_app]
      exact m3.app e5
  · rintro σ' H' ⟨kv, rfl, m⟩
    refine s_ret (ev_var rfl) fun H3 e3 => ?_
    have e : plTo r f ((f.length : Int).toNat + 2) = jointsOf r f := by
      unfold jointsOf
      congr 1
      omega
    rw [e] at m
    exact (m.mono e3).ret q
theorem sl_places {a b : Addr} {r f : List Int} (hr : SqL K H a (iv r)) (hf : SqL K H b (iv f)) (ok : OkR r) (okf : OkF r f) : SpL (p_places_of K) [.ref a, .ref b] H (iv (jointsOf r f)) := fun H1 e Q q E =>
  ⟨a, b, r, f, rfl, ex_l e hr, ex_l e hf, ok, okf, fun p H2 hp e2 h2 => q p H2 hp e2 h2⟩
def p_joints0 (K : PySem.W.Frag) : Sp := p_places_of K
theorem r_joints0 (h : p_joints0 K vs H Q E) : t_joints K E1 (p_see_folding0 K) (p_places_of K) (En Q) (start ["rule", "folding"] vs) H := by
  obtain ⟨a, b, r, f, rfl, hr, hf, ok, okf, q⟩ := h
  refine q_drop (ev_call (vs := [.ref a, .ref b]) (ea_cons (ev_var rfl) (ea_cons (ev_var rfl) ea_nil)) (sp_see_folding0 hr hf ok okf)) fun H1 e1 => ?_
  exact s_retL (el_call (vs := [.ref a, .ref b]) (ea_cons (ev_var rfl) (ea_cons (ev_var rfl) ea_nil)) (sl_places (ex_l e1 hr) (ex_l e1 hf) ok okf)) fun p H2 hp e2 h2 => q.go e1 hp e2 h2
theorem sl_joints0 {a b : Addr} {r f : List Int} (hr : SqL K H a (iv r)) (hf : SqL K H b (iv f)) (ok : OkR r) (okf : OkF r f) : SpL (p_joints0 K) [.ref a, .ref b] H (iv (jointsOf r f)) := sl_places hr hf ok okf
def p_span0 (K : PySem.W.Frag) : Sp := fun vs H Q _ => ∃ a b r f, vs = [.ref a, .ref b] ∧ SqL K H a (iv r) ∧ SqL K H b (iv f) ∧ OkR r ∧ OkF r f ∧ RetV (.int (spanOf r f)) H Q
theorem r_span0 (h : p_span0 K vs H Q E) : t_span K E1 (p_see_folding0 K) (p_places_of K) (En Q) (start ["rule", "folding", "places"] vs) H := by
  obtain ⟨a, b, r, f, rfl, hr, hf, ok, okf, q⟩ := h
  refine q_drop (ev_call (vs := [.ref a, .ref b]) (ea_cons (ev_var rfl) (ea_cons (ev_var rfl) ea_nil)) (sp_see_folding0 hr hf ok okf)) fun H1 e1 => ?_
  refine q_asgL (el_call (vs := [.ref a, .ref b]) (ea_cons (ev_var rfl) (ea_cons (ev_var rfl) ea_nil)) (sl_places (ex_l e1 hr) (ex_l e1 hf) ok okf)) fun p H2 hp e2 h2 => ?_
  have z := zero_joints r f
  exact s_ret (ev_op (ev_maxL (ev_var rfl) (sq_of h2) (mx_mem z) (mx_ge _).2) (ev_minL (ev_var rfl) (sq_of h2) (mn_mem z) (mn_le _).2) rv_I0) fun H3 e3 => q.go ((e1.trans e2).trans e3)
theorem sp_span0 {a b : Addr} {r f : List Int} (hr : SqL K H a (iv r)) (hf : SqL K H b (iv f)) (ok : OkR r) (okf : OkF r f) : SpV (p_span0 K) [.ref a, .ref b] H (.int (spanOf r f)) := fun H1 e Q q E => ⟨a, b, r, f, rfl, ex_l e hr, ex_l e hf, ok, okf, fun H2 e2 => q H2 e2⟩
def p_fits0 (K : PySem.W.Frag) : Sp := fun vs H Q _ => ∃ a b r f c, vs = [.ref a, .ref b, .int c] ∧ SqL K H a (iv r) ∧ SqL K H b (iv f) ∧ OkR r ∧ OkF r f ∧ RetV (.bl (decide (spanOf r f ≤ c))) H Q
theorem r_fits0 (h : p_fits0 K vs H Q E) : t_fits K E1 (p_see_folding0 K) (p_span0 K) (En Q) (start ["rule", "folding", "case"] vs) H := by
  obtain ⟨a, b, r, f, c, rfl, hr, hf, ok, okf, q⟩ := h
  refine q_drop (ev_call (vs := [.ref a, .ref b]) (ea_cons (ev_var rfl) (ea_cons (ev_var rfl) ea_nil)) (sp_see_folding0 hr hf ok okf)) fun H1 e1 => ?_
  exact s_ret (ev_op (ev_call (vs := [.ref a, .ref b]) (ea_cons (ev_var rfl) (ea_cons (ev_var rfl) ea_nil)) (sp_span0 (ex_l e1 hr) (ex_l e1 hf) ok okf)) (ev_var rfl) rv_I0) fun H2 e2 => q.go (e1.trans e2)
theorem sp_fits0 {a b : Addr} {r f : List Int} {c : Int} (hr : SqL K H a (iv r)) (hf : SqL K H b (iv f)) (ok : OkR r) (okf : OkF r f) : SpV (p_fits0 K) [.ref a, .ref b, .int c] H (.bl (decide (spanOf r f ≤ c))) := fun H1 e Q q E => ⟨a, b, r, f, c, rfl, ex_l e hr, ex_l e hf, ok, okf, fun H2 e2 => q H2 e2⟩
end
end Fo

namespace Fo
open PySem PySem.Spec PyProof.Rows L2 Evl
/-! ### what a reading gives, told by a word of the value and the heap behind it -/
def EvR (te : TE) (σ : L2.St) (H : Hp) (P : V → Hp → Prop) : Prop := ∀ H1, Ex H H1 → ∀ Q : VK, (∀ v H2, Ex H1 H2 → P v H2 → Q v H2) → te σ H1 Q
def EvRA (ta : TA) (σ : L2.St) (H : Hp) (P : List V → Hp → Prop) : Prop := ∀ H1, Ex H H1 → ∀ Q : List V → Hp → Prop, (∀ vs H2, Ex H1 H2 → P vs H2 → Q vs H2) → ta σ H1 Q
def Up {α : Type} (P : α → Hp → Prop) : Prop := ∀ a H1 H2, Ex H1 H2 → P a H1 → P a H2
section
variable {K : PySem.W.Frag} {σ : L2.St} {H H' : Hp} {ta tb tc te tx : TE} {t u : TT} {x y z v : V} {r r' : R2} {D : Ends} {tu tw tz : TS} {g : TG} {P R : V → Hp → Prop}
theorem er_v (h : Ev te σ H v) : EvR te σ H (fun w _ => w = v) := fun H1 e Q q => h H1 e Q fun H2 e2 => q v H2 e2 rfl
theorem er_l {xs : List V} (h : EvL te σ H xs) : EvR te σ H (fun w H2 => ∃ p, w = .ref p ∧ H p = none ∧ H2 p = some (.lst xs)) := fun H1 e Q q => h H1 e Q fun p H2 hp e2 h2 => q _ H2 e2 ⟨p, rfl, fresh_back e hp, h2⟩
theorem er_imp {P' : V → Hp → Prop} (h : EvR te σ H P) (i : ∀ v H2, Ex H H2 → P v H2 → P' v H2) : EvR te σ H P' := fun H1 e Q q => h H1 e Q fun v H2 e2 p => q v H2 e2 (i v H2 (e.trans e2) p)
theorem era_nil : EvRA tNil σ H (fun vs _ => vs = []) := fun H1 e Q q => q [] H1 (Ex.refl _) rfl
theorem era_cons {tr : TA} {S : List V → Hp → Prop} (h : EvR te σ H P) (hP : Up P) (hr : EvRA tr σ H S) : EvRA (tCons te tr) σ H (fun vs H2 => ∃ v ws, vs = v :: ws ∧ P v H2 ∧ S ws H2) := fun H1 e Q q =>
  h H1 e _ fun v H2 e2 p => hr H2 (e.trans e2) _ fun ws H3 e3 s => q _ H3 (e2.trans e3) ⟨v, ws, rfl, hP v H2 H3 e3 p, s⟩
theorem era_v {ta : TA} {vs : List V} (h : EvA ta σ H vs) : EvRA ta σ H (fun ws _ => ws = vs) := fun H1 e Q q => h H1 e Q fun H2 e2 => q vs H2 e2 rfl
theorem er_lst {ta : TA} {S : List V → Hp → Prop} {n : Nat} (h : EvRA ta σ H S) (hS : Up S) (hn : ∀ vs H2, S vs H2 → vs.length ≤ 100000) : EvR (tLst ta) σ H (fun w H2 => ∃ p vs, w = .ref p ∧ H p = none ∧ H2 p = some (.lst vs) ∧ S vs H2) := fun H1 e Q q =>
  h H1 e _ fun vs H2 e2 s => ⟨sz_of (hn vs H2 s), fun p hp => q _ _ (e2.trans (Ex.new hp)) ⟨p, vs, rfl, fresh_back (e.trans e2) hp, upd_same, hS vs H2 _ (Ex.new hp) s⟩⟩
theorem s_asgR {i : Nat} (h : EvR te σ H P) (k : ∀ v H1, Ex H H1 → P v H1 → D.nx (σ.set i (some v)) H1) : tAsg te (gName i) D σ H := h H (Ex.refl H) _ fun v H1 e p => k v H1 e p
theorem q_asgR {i : Nat} (h : EvR te σ H P) (k : ∀ v H1, Ex H H1 → P v H1 → tz D (σ.set i (some v)) H1) : tSeq (tAsg te (gName i)) tz D σ H := s_asgR (D := { D with nx := tz D }) h k
theorem s_retR (h : EvR te σ H P) (k : ∀ v H1, Ex H H1 → P v H1 → D.rt v H1) : tRet te D σ H := h H (Ex.refl H) _ k
/-- xs.clear() -/
theorem s_clear {l : Addr} {xs : List V} (hl : H l = some (.lst xs)) (ha : Ev ta σ H (.ref l)) (k : ∀ H1, Ex H H1 → D.nx σ (upd H1 l (.lst []))) : tDrop (tBM0 K "list" rClear ta) D σ H := ha H (Ex.refl H) _ fun H1 e1 =>
  ⟨Or.inl ⟨rfl, xs, sq_of (e1 l _ hl)⟩, l, xs, rfl, rfl, e1 l _ hl, k H1 e1⟩
theorem q_clear {l : Addr} {xs : List V} (hl : H l = some (.lst xs)) (ha : Ev ta σ H (.ref l)) (k : ∀ H1, Ex H H1 → tz D σ (upd H1 l (.lst []))) : tSeq (tDrop (tBM0 K "list" rClear ta)) tz D σ H := s_clear (D := { D with nx := tz D }) hl ha k
/-- a new list of two new copies -/
theorem er_pair {tA tB : TE} {xs ys : List V} (h1 : EvL tA σ H xs) (h2 : EvL tB σ H ys) : EvR (tLst (tCons tA (tCons tB tNil))) σ H (fun w H2 => ∃ p a b, w = .ref p ∧ H p = none ∧ H2 p = some (.lst [.ref a, .ref b]) ∧ H a = none ∧ H b = none ∧ H2 a = some (.lst xs) ∧ H2 b = some (.lst ys)) := fun H1 e Q q =>
  h1 H1 e _ fun a H2 ha e2 hA => h2 H2 (e.trans e2) _ fun b H3 hb e3 hB => ⟨by show 2 ≤ sizeLine; decide, fun p hp =>
    q _ _ ((e2.trans e3).trans (Ex.new hp)) ⟨p, a, b, rfl, fresh_back ((e.trans e2).trans e3) hp, upd_same, fresh_back e ha, fresh_back (e.trans e2) hb, (Ex.new hp) _ _ (e3 _ _ hA), (Ex.new hp) _ _ hB⟩⟩
theorem rows2 {a b : Addr} {xs ys : List Int} (h1 : SqL K H a (iv xs)) (h2 : SqL K H b (iv ys)) : RowsAt K H [.ref a, .ref b] [xs, ys] := .cons ⟨a, rfl, h1⟩ (.cons ⟨b, rfl, h2⟩ .nil)
theorem rows1 {a : Addr} {xs : List Int} (h1 : SqL K H a (iv xs)) : RowsAt K H [.ref a] [xs] := .cons ⟨a, rfl, h1⟩ .nil
/-- o != [x, y], the names of two lists -/
theorem ev_ne2 {h a b c d : Addr} {xs ys zs ws : List Int} (hh : SqL K H h [.ref a, .ref b]) (ha : SqL K H a (iv xs)) (hb : SqL K H b (iv ys)) (hc : SqL K H c (iv zs)) (hd : SqL K H d (iv ws)) (e1 : Ev ta σ H (.ref h)) (e2 : Ev tb σ H (.ref c)) (e3 : Ev tc σ H (.ref d)) :
    Ev (tOp (rNeD K) ta (tLst (tCons tb (tCons tc tNil)))) σ H (.bl (!decide ([xs, ys] = [zs, ws]))) :=
  ev_opL e1 (el_lst (ea_cons e2 (ea_cons e3 ea_nil)) (by show 2 ≤ 100000; decide)) fun p H1 hp e => rv_neLL (ex_l e hh) (rows2 (ex_l e ha) (ex_l e hb)) (sq_of hp) (rows2 (ex_l e hc) (ex_l e hd))
theorem ev_eq2 {h a b c d : Addr} {xs ys zs ws : List Int} (hh : SqL K H h [.ref a, .ref b]) (ha : SqL K H a (iv xs)) (hb : SqL K H b (iv ys)) (hc : SqL K H c (iv zs)) (hd : SqL K H d (iv ws)) (e1 : Ev ta σ H (.ref h)) (e2 : Ev tb σ H (.ref c)) (e3 : Ev tc σ H (.ref d)) :
    Ev (tOp (rEqD K) ta (tLst (tCons tb (tCons tc tNil)))) σ H (.bl (decide ([xs, ys] = [zs, ws]))) :=
  ev_opL e1 (el_lst (ea_cons e2 (ea_cons e3 ea_nil)) (by show 2 ≤ 100000; decide)) fun p H1 hp e => rv_eqLL (ex_l e hh) (rows2 (ex_l e ha) (ex_l e hb)) (sq_of hp) (rows2 (ex_l e hc) (ex_l e hd))
end
/-- pieces = 1 + _law_draw(script, k) % m -/
def piecesOf (ns : List Int) (k m : Nat) : Nat := 1 + (draw ns k % m).toNat
theorem pieces_ok (ns : List Int) (k m : Nat) (hm : 1 ≤ m) : 1 ≤ piecesOf ns k m ∧ piecesOf ns k m ≤ m := by
  unfold piecesOf
  have h1 := draw_nn ns k
  have h2 : draw ns k % m < m := Int.emod_lt_of_pos _ (by omega)
  have h3 : 0 ≤ draw ns k % m := Int.emod_nonneg _ (by omega)
  omega
theorem pieces_eq (ns : List Int) (k m : Nat) (hm : 1 ≤ m) : 1 + draw ns k % m = ((piecesOf ns k m : Nat) : Int) := by
  unfold piecesOf
  have h3 : 0 ≤ draw ns k % m := Int.emod_nonneg _ (by omega)
  omega
def p_law (K : PySem.W.Frag) : Sp := fun vs H Q _ => ∃ a ns, vs = [.ref a] ∧ SqL K H a (iv ns) ∧ ∀ H', Q (.bl true) H'
end Fo

/-! A dict whose keys are (i, (a, b)) of whole numbers, its values whole numbers. -/
namespace Fo
open PySem PySem.Spec PyProof.Rows L2 Evl
/-- an entry: the key's numbers, where its tuple stands, the value -/
abbrev MRow := (Int × Int × Int) × Addr × Int
def mkey (k : Int × Int × Int) : NestedKey := .tup [.num k.1, .tup [.num k.2.1, .num k.2.2]]
theorem mkey_inj {k l : Int × Int × Int} (h : mkey k = mkey l) : k = l := by
  obtain ⟨a, b, c⟩ := k
  obtain ⟨a', b', c'⟩ := l
  simp only [mkey, NestedKey.tup.injEq, List.cons.injEq, NestedKey.num.injEq, and_true] at h
  obtain ⟨rfl, rfl, rfl⟩ := h
  rfl
def valAt (L : List MRow) (k : Int × Int × Int) : Option Int := (L.find? fun p => decide (p.1 = k)).map (·.2.2)
theorem valAt_cons (p : MRow) (L : List MRow) (k : Int × Int × Int) : valAt (p :: L) k = if p.1 = k then some p.2.2 else valAt L k := by
  unfold valAt
  rw [List.find?_cons]
  by_cases h : p.1 = k
  · simp [h]
  · simp [h]
theorem valAt_app (L : List MRow) (p : MRow) (k : Int × Int × Int) (h : valAt L k = none) : valAt (L ++ [p]) k = if p.1 = k then some p.2.2 else none := by
  induction L with
  | nil => rw [List.nil_append, valAt_cons]; rfl
  | cons q L ih =>
    rw [valAt_cons] at h
    rw [List.cons_append, valAt_cons]
    split at h
    · cases h
    · rename_i hq
      rw [if_neg hq]
      exact ih h
theorem valAt_mem {L : List MRow} {k : Int × Int × Int} {n : Int} (h : valAt L k = some n) : ∃ p ∈ L, p.1 = k ∧ p.2.2 = n := by
  unfold valAt at h
  obtain ⟨p, hp, e⟩ := Option.map_eq_some_iff.mp h
  have h2 := List.find?_some hp
  exact ⟨p, List.mem_of_find?_eq_some hp, of_decide_eq_true (by simpa using h2), e⟩
section
variable (P : Program) (w : World)
abbrev MX := List (NestedKey × Addr × Value)
def MRel : MRow → NestedKey × Addr × Value → Prop := fun p q => q.1 = mkey p.1 ∧ q.2.1 = p.2.1 ∧ ∃ t, q.2.2 = Value.int p.2.2 t
def memoF (d : Addr) (L : List MRow) (h : Heap) : Prop := (d == sysModules) = false ∧ ∃ (xs : MX), Paired MRel L xs ∧ ∃ o es ep, h.get? d = some o ∧ o.ExactDict ∧ o.data = .dict es ep ∧ es.toList = xs.map (entryOfKey (nestedKind P w)) ∧ (xs.map (·.1)).Nodup
def memoHO (d : Addr) (L : List MRow) : HO := .ext (memoF P w d L)
theorem memo_ok {H : Hp} {h : Heap} {d : Addr} {L : List MRow} (f : memoF P w d L h) : ObjOk P w H h d (memoHO P w d L) := by
  refine ⟨f, ?_, fun h1 h2 f1 k => ?_⟩
  · obtain ⟨_, xs, _, o, _, _, e, _⟩ := f
    exact ⟨o, e⟩
  · obtain ⟨a, xs, r, o, es, ep, e, c⟩ := f1
    exact ⟨a, xs, r, o, es, ep, k o e, c⟩
/-- at T stands the tuple (i, (a, b)) -/
def KeyOk (H : Hp) (k : Int × Int × Int) (T : Addr) : Prop := ∃ S, H T = some (.tup [.int k.1, .ref S]) ∧ H S = some (.tup [.int k.2.1, .int k.2.2])
/-- at d stands such a dict -/
structure MemoAt (H : Hp) (d : Addr) (L : List MRow) : Prop where
  obj : H d = some (memoHO P w d L)
  len : L.length ≤ 1000000
  keys : ∀ p ∈ L, KeyOk H p.1 p.2.1
end
theorem KeyOk.mono {H H' : Hp} {k : Int × Int × Int} {T d : Addr} (h : KeyOk H k T) (e : ∀ a o, a ≠ d → H a = some o → H' a = some o) (hd : ∀ xs, H d ≠ some (.tup xs)) : KeyOk H' k T := by
  obtain ⟨S, h1, h2⟩ := h
  exact ⟨S, e _ _ (fun z => hd _ (z ▸ h1)) h1, e _ _ (fun z => hd _ (z ▸ h2)) h2⟩
section
variable {X : Cx} {pins : List (Addr × Obj)} {σ : L2.St} {H : Hp} {s : Shared} {d T : Addr} {L : List MRow} {k : Int × Int × Int}
theorem key_is (I : Inv X pins σ H s) (h : KeyOk H k T) : (nestedKind X.prog X.w).is s.heap (mkey k) T := by
  obtain ⟨S, h1, h2⟩ := h
  obtain ⟨its, r, ⟨o, e1, e2, n, e3⟩, _⟩ := I.tuple (SqT.of h1)
  obtain ⟨its2, r2, ⟨o2, f1, f2, n2, f3⟩, _⟩ := I.tuple (SqT.of h2)
  obtain ⟨u1, u2, rfl, a1, a2⟩ := vals2 r
  obtain ⟨v1, v2, rfl, b1, b2⟩ := vals2 r2
  obtain ⟨t1, rfl⟩ := a1
  cases (show u2 = Value.ref S from a2)
  obtain ⟨t2, rfl⟩ := b1
  obtain ⟨t3, rfl⟩ := b2
  refine ⟨NestedIs.tup e1 e2 e3 (NestedAll.cons (NestedIs.int _ _) (NestedAll.cons (NestedIs.tup f1 f2 f3 (NestedAll.cons (NestedIs.int _ _) (NestedAll.cons (NestedIs.int _ _) NestedAll.nil))) NestedAll.nil)), ?_⟩
  simp [mkey, NestedKey.depth, NestedKey.depthAll]
theorem paired_mem {α β : Type} {F : α → β → Prop} : ∀ {l : List α} {m : List β}, Paired F l m → ∀ y ∈ m, ∃ x ∈ l, F x y
  | _, _, .nil, y, h => by cases h
  | _, _, .cons r t, y, h => by
    rcases List.mem_cons.mp h with rfl | h
    · exact ⟨_, List.mem_cons_self, r⟩
    · obtain ⟨x, hx, f⟩ := paired_mem t y h
      exact ⟨x, List.mem_cons_of_mem _ hx, f⟩
theorem paired_app {α β : Type} {F : α → β → Prop} {x : α} {y : β} (f : F x y) : ∀ {l : List α} {m : List β}, Paired F l m → Paired F (l ++ [x]) (m ++ [y])
  | _, _, .nil => .cons f .nil
  | _, _, .cons r t => .cons r (paired_app f t)
theorem paired_len {α β : Type} {F : α → β → Prop} : ∀ {l : List α} {m : List β}, Paired F l m → l.length = m.length
  | _, _, .nil => rfl
  | _, _, .cons r t => by simp [paired_len t]
theorem memo_at (I : Inv X pins σ H s) (m : MemoAt X.prog X.w H d L) : (d == sysModules) = false ∧ ∃ xs : MX, Paired MRel L xs ∧ s.heap.DictOfH (nestedKind X.prog X.w) d xs := by
  obtain ⟨⟨a, xs, r, o, es, ep, e, c1, c2, c3, c4⟩, _, _⟩ := (show ObjOk X.prog X.w H s.heap d (memoHO X.prog X.w d L) from I.hok d _ m.obj)
  refine ⟨a, xs, r, o, es, ep, e, c1, c2, c3, fun x hx => ?_, c4⟩
  obtain ⟨p, hp, e1, e2, _⟩ := paired_mem r x hx
  rw [e1, e2]
  exact key_is I (m.keys p hp)
theorem atKey_cons (q : NestedKey × Addr × Value) (xs : MX) (k : NestedKey) : atKey (q :: xs) k = if q.1 = k then some q.2 else atKey xs k := by
  unfold atKey
  rw [List.find?_cons]
  by_cases h : q.1 = k
  · simp [h]
  · simp [h]
theorem atKey_val {k : Int × Int × Int} : ∀ {L : List MRow} {xs : MX}, Paired MRel L xs → (valAt L k = none → atKey xs (mkey k) = none) ∧ ∀ n, valAt L k = some n → ∃ p t, atKey xs (mkey k) = some (p, Value.int n t)
  | _, _, .nil => ⟨fun _ => rfl, fun n h => by cases h⟩
  | p :: L, q :: xs, .cons r t => by
    obtain ⟨i1, i2⟩ := atKey_val t
    obtain ⟨e1, e2, tt, e3⟩ := r
    rw [valAt_cons, atKey_cons]
    by_cases h : p.1 = k
    · rw [if_pos h, if_pos (by rw [e1, h])]
      refine ⟨(fun z => by cases z), fun n z => ⟨q.2.1, tt, ?_⟩⟩
      have z' : p.2.2 = n := Option.some.inj z
      rw [← z', ← e3]
    · rw [if_neg h, if_neg (by rw [e1]; exact fun z => h (mkey_inj z))]
      exact ⟨i1, i2⟩
/-- key not in known -/
def rMemoNotIn (P : Program) (w : World) : R2 := fun y x H Q => ∃ d T k L, x = .ref d ∧ y = .ref T ∧ KeyOk H k T ∧ MemoAt P w H d L ∧ Q (.bl (!(valAt L k).isSome)) H
theorem op_memoNotIn (hu : X.A.units + 64 < cLine) : OpR X (compareOp .NotIn) (rMemoNotIn X.prog X.w) := by
  intro pins s σ H y x u v Q I ry rx h
  obtain ⟨d, T, k, L, rfl, rfl, hk, m, q⟩ := h
  cases (show u = Value.ref T from ry)
  cases (show v = Value.ref d from rx)
  obtain ⟨hd, xs, r, dd⟩ := memo_at I m
  refine wpAny_notIn_heap (by show X.A.units + 1 + 8 < cLine; omega) (key_is I hk) hd dd ⟨.bl _, H, I.tok _, rfl, ?_⟩
  obtain ⟨a1, a2⟩ := atKey_val (k := k) r
  cases e : valAt L k with
  | none =>
    rw [e] at q
    rw [a1 e]
    exact q
  | some n =>
    rw [e] at q
    obtain ⟨p, t, e2⟩ := a2 n e
    rw [e2]
    exact q
/-- known[key] -/
def tMemoGet (P : Program) (w : World) (td ty : TE) : TE := fun σ H Q => td σ H fun x H1 => ty σ H1 fun y H2 => ∃ d T k L n, x = .ref d ∧ y = .ref T ∧ KeyOk H2 k T ∧ MemoAt P w H2 d L ∧ valAt L k = some n ∧ Q (.int n) H2
theorem pe_memoGet {o i : Expr} {td ty : TE} {pos : Pos} (hu : X.A.units + 64 < cLine) (ho : PE X o td) (hi : PE X i ty) (hs : NoSl i := by intro _ _; rfl) : PE X (.Subscript o i pos) (tMemoGet X.prog X.w td ty) := by
  refine ⟨fun pins s σ H Q I h => ?_⟩
  refine subD_of PySem.F.slot_dict_getitem.lookup hs (thn (ho.run pins s σ H _ I h) fun u s1 ⟨x, H1, I1, rx, q1⟩ => thn (hi.run pins s1 σ H1 _ I1 q1) fun iv s2 ⟨y, H2, I2, ry, d, T, k, L, n, ex, ey, hk, m, hv, q2⟩ => ?_)
  subst ex ey
  obtain rfl : u = Value.ref d := rx
  obtain rfl : iv = Value.ref T := ry
  obtain ⟨hd, xs, r, dd⟩ := memo_at I2 m
  obtain ⟨p, t, e2⟩ := (atKey_val (k := k) r).2 n hv
  exact ⟨dd.typeIs, wpAny_getItem_heap (by show X.A.units + 1 + 8 < cLine; omega) (key_is I2 hk) dd e2 ⟨.int n, H2, I2.tok _, ⟨t, rfl⟩, q2⟩⟩
/-- known[key] = n, a new key -/
def rSetMemo (P : Program) (w : World) : TSet := fun o i v H Q => ∃ d T k L n, o = .ref d ∧ i = .ref T ∧ v = .int n ∧ KeyOk H k T ∧ MemoAt P w H d L ∧ valAt L k = none ∧ L.length < 1000000 ∧ Q (upd H d (memoHO P w d (L ++ [(k, T, n)])))
theorem memo_noTup {P : Program} {w : World} (m : MemoAt P w H d L) : ∀ xs, H d ≠ some (.tup xs) := fun xs z => by
  rw [m.obj] at z
  cases z
theorem MemoAt.stored {P : Program} {w : World} {n : Int} (m : MemoAt P w H d L) (hk : KeyOk H k T) (hl : L.length < 1000000) : MemoAt P w (upd H d (memoHO P w d (L ++ [(k, T, n)]))) d (L ++ [(k, T, n)]) := by
  have up : ∀ a o, a ≠ d → H a = some o → upd H d (memoHO P w d (L ++ [(k, T, n)])) a = some o := fun a o ne e => by rw [upd_ne ne]; exact e
  refine ⟨upd_same, by simp; omega, fun p hp => ?_⟩
  rcases List.mem_append.mp hp with hp | hp
  · exact (m.keys p hp).mono up (memo_noTup m)
  · rw [List.mem_singleton.mp hp]
    exact hk.mono up (memo_noTup m)
theorem set_memo (hu : X.A.units + 64 < cLine) : PSet X (rSetMemo X.prog X.w) := by
  intro pins s σ H o i v ov iv u Q I ro ri rv h
  obtain ⟨d, T, k, L, n, rfl, rfl, rfl, hk, m, hv, hl, q⟩ := h
  cases (show ov = Value.ref d from ro)
  cases (show iv = Value.ref T from ri)
  obtain ⟨t, rfl⟩ := (show ∃ t, u = Value.int n t from rv)
  obtain ⟨hd, xs, r, dd⟩ := memo_at I m
  have e := (atKey_val (k := k) r).1 hv
  have hz : xs.length ≤ sizeLine := by
    rw [← paired_len r]
    exact Nat.le_trans (Nat.le_of_lt hl) (by decide)
  refine wpAny_setItem_heap (hsz := hz) (by show X.A.units + 1 + 8 < cLine; omega) (key_is I hk) dd fun h' dd' hs => ?_
  rw [storedH_new e] at dd'
  obtain ⟨o2, es, ep, e1, c1, c2, c3, _, c4⟩ := dd'
  refine ⟨_, d_write I (by rw [m.obj]; trivial) hs ⟨o2, e1⟩ (memo_ok X.prog X.w ⟨hd, _, paired_app ⟨rfl, rfl, t, rfl⟩ r, o2, es, ep, e1, c1, c2, c3, c4⟩), q⟩
/-- {} -/
def tMemoNew (P : Program) (w : World) : TE := fun _ H Q => ∀ p, H p = none → Q (.ref p) (upd H p (memoHO P w p []))
theorem pe_memoNew {pos : Pos} : PE X (.Dict [] [] pos) (tMemoNew X.prog X.w) := ⟨fun pins s σ H Q I h =>
  wpAny_Dict_empty ⟨.ref s.heap.objs.size, _, I.laid (a := s.heap.objs.size) (o := memoHO X.prog X.w s.heap.objs.size []) (t' := s.toks) (fun _ _ q => Heap.get?_push_of_some _ q) (Nat.le_refl _)
    (memo_ok X.prog X.w ⟨beq_eq_false_iff_ne.mpr (Ne.symm (Nat.ne_of_lt I.big)), [], .nil, _, #[], 0, Heap.get?_push_size _ rfl, ⟨rfl, rfl, rfl⟩, rfl, rfl, List.nodup_nil⟩), rfl, h _ (I.hok.fresh (Nat.le_refl _))⟩⟩
theorem memo_new {P : Program} {w : World} : MemoAt P w (upd H d (memoHO P w d [])) d [] := ⟨upd_same, by decide, fun p hp => by cases hp⟩
end
end Fo

namespace Fo
open PySem PySem.Spec PyProof.Rows L2 Evl
/-! ### readings of the defs: printed by gen.py -/
def t_moved (K : PySem.W.Frag) (E : XK) : TS := (tRet (tTup (tCons (tOp rAddI (tOp (rIxT K) (tVar 0) (tC (.int 0))) (tVar 1)) (tCons (tCB rMax2 (tCons (tC (.int 0)) (tCons (tOp rSubI (tOp (rIxT K) (tVar 0) (tC (.int 1))) (tVar 1)) tNil))) tNil))))
def t_turned (K : PySem.W.Frag) (E : XK) : TS := (tRet (tTup (tCons (tOp (rIxT K) (tVar 0) (tC (.int 1))) (tCons (tOp (rIxT K) (tVar 0) (tC (.int 0))) tNil))))
def t_behind_turn (K : PySem.W.Frag) (E : XK) (p_turned : Sp) (p_moved : Sp) : TS := (tSeq (tIfS (tTest (tOp rEq (tVar 1) (tC (.int 1)))) (tAsg (tCall p_turned [] E (tCons (tVar 0) tNil)) (gName 0)) tNext)
    (tRet (tCall p_moved [] E (tCons (tVar 0) (tCons (tVar 2) tNil)))))
def t_ways_from (P : Program) (w : World) (K : PySem.W.Frag) (E : XK) (p_behind_turn : Sp) (p_ways_from : Sp) : TS := (tSeq (tIfS (tTest (tOp rGtI (tOp rAddI (tOp (rIxT K) (tVar 2) (tC (.int 0))) (tOp (rIxT K) (tVar 2) (tC (.int 1)))) (tVar 3))) (tRet (tC (.int 0))) tNext)
    (tSeq (tIfS (tTest (tOp rEq (tVar 1) (tCB (rLenS K) (tCons (tVar 0) tNil)))) (tRet (tC (.int 1))) tNext)
    (tSeq (tAsg (tTup (tCons (tVar 1) (tCons (tVar 2) tNil))) (gName 5))
    (tSeq (tIfS (tTest (tOp (rMemoNotIn P w) (tVar 5) (tVar 4))) (tSeq (tAsg (tC (.int 0)) (gName 6))
    (tSeq (tFor (iRng1 (tCons (tC (.int 2)) tNil)) (gName 7) (tAsg (tOp rAddI (tVar 6) (tCall p_ways_from [] E (tCons (tVar 0) (tCons (tOp rAddI (tVar 1) (tC (.int 1))) (tCons (tCall p_behind_turn [] E (tCons (tVar 2) (tCons (tVar 7) (tCons (tOp (rIxL K) (tVar 0) (tVar 1)) tNil)))) (tCons (tVar 3) (tCons (tVar 4) tNil))))))) (gName 6)))
    (tAsg (tVar 6) (gSub (tVar 4) (tVar 5) (rSetMemo P w))))) tNext)
    (tRet (tMemoGet P w (tVar 4) (tVar 5)))))))
def t_many_fits (P : Program) (w : World) (K : PySem.W.Frag) (E : XK) (p_see_rule : Sp) (p_ways_from : Sp) : TS := (tSeq (tDrop (tCall p_see_rule [] E (tCons (tVar 0) tNil)))
    (tRet (tCall p_ways_from [] E (tCons (tVar 0) (tCons (tC (.int 1)) (tCons (tTup (tCons (tOp (rIxL K) (tVar 0) (tC (.int 0))) (tCons (tC (.int 0)) tNil))) (tCons (tVar 1) (tCons (tMemoNew P w) tNil))))))))
def t_folding_at (P : Program) (w : World) (K : PySem.W.Frag) (E : XK) (p_see_rule : Sp) (p_many_fits : Sp) (p_behind_turn : Sp) (p_ways_from : Sp) (x_0 : TS) : TS := (tSeq (tDrop (tCall p_see_rule [] E (tCons (tVar 0) tNil)))
    (tSeq (tIfS (tNot (tTest (tChain rLeI rLtI (tC (.int 0)) (tVar 2) (tCall p_many_fits [] E (tCons (tVar 0) (tCons (tVar 1) tNil)))))) x_0 tNext)
    (tSeq (tAsg (tMemoNew P w) (gName 3))
    (tSeq (tAsg (tTup (tCons (tOp (rIxL K) (tVar 0) (tC (.int 0))) (tCons (tC (.int 0)) tNil))) (gName 4))
    (tSeq (tAsg (tLst tNil) (gName 5))
    (tSeq (tFor (iRng2 (tCons (tC (.int 1)) (tCons (tCB (rLenS K) (tCons (tVar 0) tNil)) tNil))) (gName 6) (tSeq (tAsg (tC (.int 0)) (gName 7))
    (tSeq (tAsg (tCall p_ways_from [] E (tCons (tVar 0) (tCons (tOp rAddI (tVar 6) (tC (.int 1))) (tCons (tCall p_behind_turn [] E (tCons (tVar 4) (tCons (tC (.int 0)) (tCons (tOp (rIxL K) (tVar 0) (tVar 6)) tNil)))) (tCons (tVar 1) (tCons (tVar 3) tNil)))))) (gName 8))
    (tSeq (tIfS (tTest (tOp rGeI (tVar 2) (tVar 8))) (tSeq (tAsg (tOp rSubI (tVar 2) (tVar 8)) (gName 2))
    (tAsg (tC (.int 1)) (gName 7))) tNext)
    (tSeq (tAsg (tCall p_behind_turn [] E (tCons (tVar 4) (tCons (tVar 7) (tCons (tOp (rIxL K) (tVar 0) (tVar 6)) tNil)))) (gName 4))
    (tDrop (tBM K "list" rAppend (tVar 5) (tCons (tVar 7) tNil))))))))
    (tRet (tVar 5))))))))
def t_number_of (P : Program) (w : World) (K : PySem.W.Frag) (E : XK) (p_see_folding : Sp) (p_span : Sp) (p_behind_turn : Sp) (p_ways_from : Sp) (x_0 : TS) : TS := (tSeq (tDrop (tCall p_see_folding [] E (tCons (tVar 0) (tCons (tVar 2) tNil))))
    (tSeq (tIfS (tTest (tOp rGtI (tCall p_span [] E (tCons (tVar 0) (tCons (tVar 2) tNil))) (tVar 1))) x_0 tNext)
    (tSeq (tAsg (tMemoNew P w) (gName 3))
    (tSeq (tAsg (tTup (tCons (tOp (rIxL K) (tVar 0) (tC (.int 0))) (tCons (tC (.int 0)) tNil))) (gName 4))
    (tSeq (tAsg (tC (.int 0)) (gName 5))
    (tSeq (tFor (iRng2 (tCons (tC (.int 1)) (tCons (tCB (rLenS K) (tCons (tVar 0) tNil)) tNil))) (gName 6) (tSeq (tIfS (tTest (tOp rEq (tOp (rIxL K) (tVar 2) (tOp rSubI (tVar 6) (tC (.int 1)))) (tC (.int 1)))) (tAsg (tOp rAddI (tVar 5) (tCall p_ways_from [] E (tCons (tVar 0) (tCons (tOp rAddI (tVar 6) (tC (.int 1))) (tCons (tCall p_behind_turn [] E (tCons (tVar 4) (tCons (tC (.int 0)) (tCons (tOp (rIxL K) (tVar 0) (tVar 6)) tNil)))) (tCons (tVar 1) (tCons (tVar 3) tNil))))))) (gName 5)) tNext)
    (tAsg (tCall p_behind_turn [] E (tCons (tVar 4) (tCons (tOp (rIxL K) (tVar 2) (tOp rSubI (tVar 6) (tC (.int 1)))) (tCons (tOp (rIxL K) (tVar 0) (tVar 6)) tNil)))) (gName 4))))
    (tRet (tVar 5))))))))
end Fo

/-! Counting: plain Lean. -/
namespace Fo
/-- the foldings of the pieces left that keep within c, counted: a behind the end, b ahead of it -/
def cnt : List Int → Int → Int → Int → Nat
  | [], a, b, c => if a + b > c then 0 else 1
  | l :: rs, a, b, c => if a + b > c then 0 else cnt rs (a + l) (max 0 (b - l)) c + cnt rs (b + l) (max 0 (a - l)) c
/-- the folding of a number, the number of a folding -/
def foldAt : List Int → Int → Int → Int → Nat → List Int
  | [], _, _, _, _ => []
  | l :: rs, a, b, c, n => if cnt rs (a + l) (max 0 (b - l)) c ≤ n then 1 :: foldAt rs (b + l) (max 0 (a - l)) c (n - cnt rs (a + l) (max 0 (b - l)) c) else 0 :: foldAt rs (a + l) (max 0 (b - l)) c n
def numOf : List Int → Int → Int → Int → List Int → Nat
  | [], _, _, _, _ => 0
  | _ :: _, _, _, _, [] => 0
  | l :: rs, a, b, c, t :: f => if t = 1 then cnt rs (a + l) (max 0 (b - l)) c + numOf rs (b + l) (max 0 (a - l)) c f else numOf rs (a + l) (max 0 (b - l)) c f
/-- the span behind it all -/
def sp : Int → Int → List Int → List Int → Int
  | a, b, [], _ => a + b
  | a, b, _ :: _, [] => a + b
  | a, b, l :: rs, t :: f => if t = 1 then sp (b + l) (max 0 (a - l)) rs f else sp (a + l) (max 0 (b - l)) rs f
def allC : Nat → List (List Int)
  | 0 => [[]]
  | n + 1 => (allC n).map (0 :: ·) ++ (allC n).map (1 :: ·)
theorem sp_ge : ∀ (rs : List Int) (f : List Int) (a b : Int), (∀ x ∈ rs, 0 ≤ x) → a + b ≤ sp a b rs f
  | [], f, a, b, _ => by cases f <;> exact Int.le_refl _
  | l :: rs, [], a, b, _ => Int.le_refl _
  | l :: rs, t :: f, a, b, h => by
    have hl := h l List.mem_cons_self
    have hr : ∀ x ∈ rs, 0 ≤ x := fun x hx => h x (List.mem_cons_of_mem _ hx)
    show a + b ≤ if t = 1 then _ else _
    split
    · have := sp_ge rs f (b + l) (max 0 (a - l)) hr
      omega
    · have := sp_ge rs f (a + l) (max 0 (b - l)) hr
      omega
theorem allC_len : ∀ (n : Nat), ∀ f ∈ allC n, f.length = n
  | 0, f, h => by
    have e : f = [] := by simpa [allC] using h
    rw [e]; rfl
  | n + 1, f, h => by
    rcases List.mem_append.mp h with h | h
    · obtain ⟨g, hg, rfl⟩ := List.mem_map.mp h
      simp [allC_len n g hg]
    · obtain ⟨g, hg, rfl⟩ := List.mem_map.mp h
      simp [allC_len n g hg]
theorem allC_bits : ∀ (n : Nat), ∀ f ∈ allC n, ∀ t ∈ f, t = 0 ∨ t = 1
  | 0, f, h, t, ht => by
    have e : f = [] := by simpa [allC] using h
    rw [e] at ht; cases ht
  | n + 1, f, h, t, ht => by
    rcases List.mem_append.mp h with h | h
    · obtain ⟨g, hg, rfl⟩ := List.mem_map.mp h
      rcases List.mem_cons.mp ht with rfl | ht
      · exact .inl rfl
      · exact allC_bits n g hg t ht
    · obtain ⟨g, hg, rfl⟩ := List.mem_map.mp h
      rcases List.mem_cons.mp ht with rfl | ht
      · exact .inr rfl
      · exact allC_bits n g hg t ht
theorem allC_mem : ∀ (f : List Int), (∀ t ∈ f, t = 0 ∨ t = 1) → f ∈ allC f.length
  | [], _ => List.mem_singleton.mpr rfl
  | t :: f, h => by
    have ih := allC_mem f fun x hx => h x (List.mem_cons_of_mem _ hx)
    rcases h t List.mem_cons_self with rfl | rfl
    · exact List.mem_append_left _ (List.mem_map.mpr ⟨f, ih, rfl⟩)
    · exact List.mem_append_right _ (List.mem_map.mpr ⟨f, ih, rfl⟩)
theorem allC_count : ∀ n, (allC n).length = 2 ^ n
  | 0 => rfl
  | n + 1 => by
    show ((allC n).map _ ++ (allC n).map _).length = _
    rw [List.length_append, List.length_map, List.length_map, allC_count n, Nat.pow_succ]
    omega
/-- the foldings that fit, in order, are those of the numbers -/
theorem fits_list : ∀ (rs : List Int) (a b c : Int), (∀ x ∈ rs, 0 ≤ x) → (allC rs.length).filter (fun f => decide (sp a b rs f ≤ c)) = (List.range (cnt rs a b c)).map (foldAt rs a b c)
  | [], a, b, c, _ => by
    show [[]].filter (fun f => decide (sp a b [] f ≤ c)) = (List.range (if a + b > c then 0 else 1)).map _
    have es : (fun f => decide (sp a b [] f ≤ c)) = fun _ => decide (a + b ≤ c) := by
      funext f
      cases f <;> rfl
    rw [es]
    by_cases h : a + b > c
    · rw [if_pos h, decide_eq_false (by omega : ¬ a + b ≤ c)]
      rfl
    · rw [if_neg h, decide_eq_true (by omega : a + b ≤ c)]
      rfl
  | l :: rs, a, b, c, h => by
    have hr : ∀ x ∈ rs, 0 ≤ x := fun x hx => h x (List.mem_cons_of_mem _ hx)
    have i0 := fits_list rs (a + l) (max 0 (b - l)) c hr
    have i1 := fits_list rs (b + l) (max 0 (a - l)) c hr
    show ((allC rs.length).map (0 :: ·) ++ (allC rs.length).map (1 :: ·)).filter (fun f => decide (sp a b (l :: rs) f ≤ c)) = (List.range (if a + b > c then 0 else cnt rs (a + l) (max 0 (b - l)) c + cnt rs (b + l) (max 0 (a - l)) c)).map _
    by_cases hc : a + b > c
    · rw [if_pos hc]
      rw [List.filter_eq_nil_iff.mpr]
      · rfl
      · intro f hf hd
        have h1 := of_decide_eq_true hd
        have h2 := sp_ge (l :: rs) f a b h
        omega
    · rw [if_neg hc, List.filter_append, List.filter_map, List.filter_map]
      have e0 : ((fun f => decide (sp a b (l :: rs) f ≤ c)) ∘ fun x => (0 : Int) :: x) = fun f => decide (sp (a + l) (max 0 (b - l)) rs f ≤ c) := by
        funext f
        show decide ((if (0 : Int) = 1 then _ else sp (a + l) (max 0 (b - l)) rs f) ≤ c) = _
        rw [if_neg (by decide)]
      have e1 : ((fun f => decide (sp a b (l :: rs) f ≤ c)) ∘ fun x => (1 : Int) :: x) = fun f => decide (sp (b + l) (max 0 (a - l)) rs f ≤ c) := by
        funext f
        show decide ((if (1 : Int) = 1 then sp (b + l) (max 0 (a - l)) rs f else _) ≤ c) = _
        rw [if_pos rfl]
      rw [e0, e1, i0, i1, List.range_add, List.map_append, List.map_map, List.map_map, List.map_map]
      congr 1
      · refine List.map_congr_left fun n hn => ?_
        have hn' := List.mem_range.mp hn
        show 0 :: foldAt rs (a + l) (max 0 (b - l)) c n = if cnt rs (a + l) (max 0 (b - l)) c ≤ n then _ else 0 :: foldAt rs (a + l) (max 0 (b - l)) c n
        rw [if_neg (by omega)]
      · refine List.map_congr_left fun n hn => ?_
        show 1 :: foldAt rs (b + l) (max 0 (a - l)) c n = if cnt rs (a + l) (max 0 (b - l)) c ≤ cnt rs (a + l) (max 0 (b - l)) c + n then 1 :: foldAt rs (b + l) (max 0 (a - l)) c (cnt rs (a + l) (max 0 (b - l)) c + n - cnt rs (a + l) (max 0 (b - l)) c) else _
        rw [if_pos (by omega), Nat.add_sub_cancel_left]
theorem foldAt_fits {rs : List Int} {a b c : Int} {n : Nat} (h : ∀ x ∈ rs, 0 ≤ x) (hn : n < cnt rs a b c) : (foldAt rs a b c n).length = rs.length ∧ (∀ t ∈ foldAt rs a b c n, t = 0 ∨ t = 1) ∧ sp a b rs (foldAt rs a b c n) ≤ c := by
  have hm : foldAt rs a b c n ∈ (allC rs.length).filter (fun f => decide (sp a b rs f ≤ c)) := by
    rw [fits_list rs a b c h]
    exact List.mem_map.mpr ⟨n, List.mem_range.mpr hn, rfl⟩
  obtain ⟨h1, h2⟩ := List.mem_filter.mp hm
  exact ⟨allC_len _ _ h1, allC_bits _ _ h1, of_decide_eq_true h2⟩
theorem numOf_foldAt : ∀ (rs : List Int) (a b c : Int) (n : Nat), n < cnt rs a b c → numOf rs a b c (foldAt rs a b c n) = n
  | [], a, b, c, n, h => by
    have h' : n < if a + b > c then 0 else 1 := h
    show 0 = n
    split at h' <;> omega
  | l :: rs, a, b, c, n, h => by
    have h' : n < if a + b > c then 0 else cnt rs (a + l) (max 0 (b - l)) c + cnt rs (b + l) (max 0 (a - l)) c := h
    have h2 : n < cnt rs (a + l) (max 0 (b - l)) c + cnt rs (b + l) (max 0 (a - l)) c := by split at h' <;> omega
    by_cases hn : cnt rs (a + l) (max 0 (b - l)) c ≤ n
    · have e : foldAt (l :: rs) a b c n = 1 :: foldAt rs (b + l) (max 0 (a - l)) c (n - cnt rs (a + l) (max 0 (b - l)) c) := if_pos hn
      rw [e]
      show (if (1 : Int) = 1 then cnt rs (a + l) (max 0 (b - l)) c + numOf rs (b + l) (max 0 (a - l)) c _ else _) = n
      rw [if_pos rfl, numOf_foldAt rs _ _ c _ (by omega)]
      omega
    · have e : foldAt (l :: rs) a b c n = 0 :: foldAt rs (a + l) (max 0 (b - l)) c n := if_neg hn
      rw [e]
      show (if (0 : Int) = 1 then _ else numOf rs (a + l) (max 0 (b - l)) c _) = n
      rw [if_neg (by decide), numOf_foldAt rs _ _ c _ (by omega)]
theorem foldAt_numOf : ∀ (rs : List Int) (a b c : Int) (f : List Int), (∀ x ∈ rs, 0 ≤ x) → f.length = rs.length → (∀ t ∈ f, t = 0 ∨ t = 1) → sp a b rs f ≤ c → numOf rs a b c f < cnt rs a b c ∧ foldAt rs a b c (numOf rs a b c f) = f
  | [], a, b, c, f, _, hl, _, hs => by
    have e : f = [] := List.length_eq_zero_iff.mp hl
    subst e
    have hs' : a + b ≤ c := hs
    refine ⟨?_, rfl⟩
    show 0 < if a + b > c then 0 else 1
    rw [if_neg (by omega)]
    exact Nat.one_pos
  | l :: rs, a, b, c, [], _, hl, _, _ => by simp at hl
  | l :: rs, a, b, c, t :: f, h, hl, hb, hs => by
    have hr : ∀ x ∈ rs, 0 ≤ x := fun x hx => h x (List.mem_cons_of_mem _ hx)
    have hl' : f.length = rs.length := by simpa using hl
    have hb' : ∀ t ∈ f, t = 0 ∨ t = 1 := fun x hx => hb x (List.mem_cons_of_mem _ hx)
    have hge := sp_ge (l :: rs) (t :: f) a b h
    have ec : cnt (l :: rs) a b c = cnt rs (a + l) (max 0 (b - l)) c + cnt rs (b + l) (max 0 (a - l)) c := if_neg (by omega)
    rw [ec]
    rcases hb t List.mem_cons_self with rfl | rfl
    · have es : sp a b (l :: rs) (0 :: f) = sp (a + l) (max 0 (b - l)) rs f := if_neg (by decide)
      rw [es] at hs
      obtain ⟨i1, i2⟩ := foldAt_numOf rs _ _ c f hr hl' hb' hs
      have en : numOf (l :: rs) a b c (0 :: f) = numOf rs (a + l) (max 0 (b - l)) c f := if_neg (by decide)
      rw [en]
      refine ⟨by omega, ?_⟩
      have e : foldAt (l :: rs) a b c (numOf rs (a + l) (max 0 (b - l)) c f) = 0 :: foldAt rs (a + l) (max 0 (b - l)) c (numOf rs (a + l) (max 0 (b - l)) c f) := if_neg (by omega)
      rw [e, i2]
    · have es : sp a b (l :: rs) (1 :: f) = sp (b + l) (max 0 (a - l)) rs f := if_pos rfl
      rw [es] at hs
      obtain ⟨i1, i2⟩ := foldAt_numOf rs _ _ c f hr hl' hb' hs
      have en : numOf (l :: rs) a b c (1 :: f) = cnt rs (a + l) (max 0 (b - l)) c + numOf rs (b + l) (max 0 (a - l)) c f := if_pos rfl
      rw [en]
      refine ⟨by omega, ?_⟩
      have e : foldAt (l :: rs) a b c (cnt rs (a + l) (max 0 (b - l)) c + numOf rs (b + l) (max 0 (a - l)) c f) = 1 :: foldAt rs (b + l) (max 0 (a - l)) c (cnt rs (a + l) (max 0 (b - l)) c + numOf rs (b + l) (max 0 (a - l)) c f - cnt rs (a + l) (max 0 (b - l)) c) := if_pos (by omega)
      rw [e, Nat.add_sub_cancel_left, i2]
/-! ### the span by the state -/
theorem mx_app (l : List Int) (x : Int) : mx (l ++ [x]) = max (mx l) x := by
  induction l with
  | nil => show max x 0 = max 0 x; omega
  | cons a l ih =>
    show max a (mx (l ++ [x])) = max (max a (mx l)) x
    rw [ih]; omega
theorem mn_app (l : List Int) (x : Int) : mn (l ++ [x]) = min (mn l) x := by
  induction l with
  | nil => show min x 0 = min 0 x; omega
  | cons a l ih =>
    show min a (mn (l ++ [x])) = min (min a (mn l)) x
    rw [ih]; omega
def hiAt (r f : List Int) (i : Nat) : Int := mx (plTo r f (i + 1))
def loAt (r f : List Int) (i : Nat) : Int := mn (plTo r f (i + 1))
theorem hi_succ (r f : List Int) (i : Nat) : hiAt r f (i + 1) = max (hiAt r f i) (plAt r f (i + 1)) := by
  unfold hiAt
  rw [plTo_succ, mx_app]
theorem lo_succ (r f : List Int) (i : Nat) : loAt r f (i + 1) = min (loAt r f i) (plAt r f (i + 1)) := by
  unfold loAt
  rw [plTo_succ, mn_app]
theorem pl_between (r f : List Int) (i : Nat) : loAt r f i ≤ plAt r f i ∧ plAt r f i ≤ hiAt r f i := by
  have hm : plAt r f i ∈ plTo r f (i + 1) := List.mem_map.mpr ⟨i, List.mem_range.mpr (Nat.lt_succ_self i), rfl⟩
  exact ⟨(mn_le _).2 _ hm, (mx_ge _).2 _ hm⟩
/-- what is behind, what is ahead of the end of i + 1 pieces -/
def bhAt (r f : List Int) (i : Nat) : Int := if upAt f i then plAt r f (i + 1) - loAt r f (i + 1) else hiAt r f (i + 1) - plAt r f (i + 1)
def ahAt (r f : List Int) (i : Nat) : Int := if upAt f i then hiAt r f (i + 1) - plAt r f (i + 1) else plAt r f (i + 1) - loAt r f (i + 1)
theorem st_sum (r f : List Int) (i : Nat) : bhAt r f i + ahAt r f i = hiAt r f (i + 1) - loAt r f (i + 1) := by
  unfold bhAt ahAt
  split <;> omega
theorem st_step (r f : List Int) (i : Nat) (hl : 0 ≤ r.getD (i + 1) 0) :
    (f.getD i 0 = 1 → bhAt r f (i + 1) = ahAt r f i + r.getD (i + 1) 0 ∧ ahAt r f (i + 1) = max 0 (bhAt r f i - r.getD (i + 1) 0)) ∧
    (f.getD i 0 ≠ 1 → bhAt r f (i + 1) = bhAt r f i + r.getD (i + 1) 0 ∧ ahAt r f (i + 1) = max 0 (ahAt r f i - r.getD (i + 1) 0)) := by
  have hb := pl_between r f (i + 1)
  have hh := hi_succ r f (i + 1)
  have hlo := lo_succ r f (i + 1)
  have hp : plAt r f (i + 1 + 1) = if upAt f (i + 1) then plAt r f (i + 1) + r.getD (i + 1) 0 else plAt r f (i + 1) - r.getD (i + 1) 0 := rfl
  have hu : upAt f (i + 1) = if f.getD i 0 = 1 then !(upAt f i) else upAt f i := rfl
  unfold bhAt ahAt
  generalize plAt r f (i + 1 + 1) = P2 at *
  generalize plAt r f (i + 1) = P1 at *
  generalize hiAt r f (i + 1 + 1) = H2 at *
  generalize loAt r f (i + 1 + 1) = L2 at *
  generalize hiAt r f (i + 1) = H1 at *
  generalize loAt r f (i + 1) = L1 at *
  generalize r.getD (i + 1) 0 = l at *
  generalize upAt f (i + 1) = u2 at *
  generalize upAt f i = u1 at *
  constructor
  · intro h
    rw [if_pos h] at hu
    subst hu
    cases u1
    · simp only [Bool.not_false, if_true, if_false, Bool.false_eq_true] at hp ⊢
      omega
    · simp only [Bool.not_true, if_true, if_false, Bool.false_eq_true] at hp ⊢
      omega
  · intro h
    rw [if_neg h] at hu
    subst hu
    cases u2
    · simp only [if_true, if_false, Bool.false_eq_true] at hp ⊢
      omega
    · simp only [if_true, if_false, Bool.false_eq_true] at hp ⊢
      omega
theorem drop_getD {l : List Int} {i : Nat} (h : i < l.length) : l.drop i = l.getD i 0 :: l.drop (i + 1) := by
  rw [List.drop_eq_getElem_cons h, List.getD_eq_getElem?_getD, List.getElem?_eq_getElem h]; rfl
theorem span_from {r f : List Int} (hp : ∀ x ∈ r, 0 ≤ x) (hl : f.length + 1 = r.length) : ∀ (k i : Nat), i + 1 + k = r.length → sp (bhAt r f i) (ahAt r f i) (r.drop (i + 1)) (f.drop i) = spanOf r f
  | 0, i, h => by
    rw [List.drop_eq_nil_of_le (by omega), List.drop_eq_nil_of_le (by omega)]
    show bhAt r f i + ahAt r f i = _
    rw [st_sum]
    unfold spanOf jointsOf hiAt loAt
    rw [← h]
  | k + 1, i, h => by
    rw [drop_getD (l := r) (i := i + 1) (by omega), drop_getD (l := f) (i := i) (by omega)]
    obtain ⟨s1, s2⟩ := st_step r f i (hp _ (getD_mem (by omega)))
    have ih := span_from hp hl k (i + 1) (by omega)
    show (if f.getD i 0 = 1 then _ else _) = _
    by_cases ht : f.getD i 0 = 1
    · rw [if_pos ht]
      obtain ⟨e1, e2⟩ := s1 ht
      rw [← e1, ← e2]
      exact ih
    · rw [if_neg ht]
      obtain ⟨e1, e2⟩ := s2 ht
      rw [← e1, ← e2]
      exact ih
theorem st_first (r f : List Int) (h : 0 ≤ r.getD 0 0) : bhAt r f 0 = r.getD 0 0 ∧ ahAt r f 0 = 0 := by
  have e : plAt r f 1 = r.getD 0 0 := by show 0 + r.getD 0 0 = _; omega
  have h1 : hiAt r f 1 = max (hiAt r f 0) (plAt r f 1) := hi_succ r f 0
  have h2 : loAt r f 1 = min (loAt r f 0) (plAt r f 1) := lo_succ r f 0
  have h3 : hiAt r f 0 = 0 := rfl
  have h4 : loAt r f 0 = 0 := rfl
  unfold bhAt ahAt
  rw [show upAt f 0 = true from rfl, if_pos rfl, if_pos rfl]
  show plAt r f 1 - loAt r f 1 = _ ∧ hiAt r f 1 - plAt r f 1 = 0
  omega
theorem span_sp {r f : List Int} (hr : OkR r) (hl : f.length + 1 = r.length) : spanOf r f = sp (r.getD 0 0) 0 (r.drop 1) f := by
  have h1 := hr.l1
  have h0 : 0 ≤ r.getD 0 0 := by have := hr.all _ (getD_mem (i := 0) (by omega)); omega
  have h := span_from (r := r) (f := f) (fun x hx => by have := hr.all x hx; omega) hl (r.length - 1) 0 (by omega)
  obtain ⟨e1, e2⟩ := st_first r f h0
  rw [e1, e2] at h
  exact h.symm
/-! ### the whole rule -/
def many (r : List Int) (c : Int) : Nat := cnt (r.drop 1) (r.getD 0 0) 0 c
def atNum (r : List Int) (c : Int) (n : Nat) : List Int := foldAt (r.drop 1) (r.getD 0 0) 0 c n
def numFor (r : List Int) (c : Int) (f : List Int) : Nat := numOf (r.drop 1) (r.getD 0 0) 0 c f
theorem drop_nn {r : List Int} (hr : OkR r) : ∀ x ∈ r.drop 1, 0 ≤ x := fun x hx => by have := hr.all x (List.mem_of_mem_drop hx); omega
theorem all_fits {r : List Int} (hr : OkR r) (c : Int) : (allC (r.length - 1)).filter (fun f => decide (spanOf r f ≤ c)) = (List.range (many r c)).map (atNum r c) := by
  have h := fits_list (r.drop 1) (r.getD 0 0) 0 c (drop_nn hr)
  rw [List.length_drop] at h
  rw [← show _ = (List.range (many r c)).map (atNum r c) from h]
  refine List.filter_congr fun f hf => ?_
  have hl := allC_len _ f hf
  have := hr.l1
  rw [span_sp hr (by omega)]
theorem at_ok {r : List Int} (hr : OkR r) {c : Int} {n : Nat} (h : n < many r c) : OkF r (atNum r c n) ∧ spanOf r (atNum r c n) ≤ c := by
  obtain ⟨h1, h2, h3⟩ := foldAt_fits (drop_nn hr) h
  rw [List.length_drop] at h1
  have := hr.l1
  have hl : (atNum r c n).length + 1 = r.length := by unfold atNum; omega
  exact ⟨⟨hl, h2⟩, by rw [span_sp hr hl]; exact h3⟩
theorem num_at {r : List Int} {c : Int} {n : Nat} (h : n < many r c) : numFor r c (atNum r c n) = n := numOf_foldAt _ _ _ _ _ h
theorem at_num {r f : List Int} (hr : OkR r) (hf : OkF r f) {c : Int} (h : spanOf r f ≤ c) : numFor r c f < many r c ∧ atNum r c (numFor r c f) = f := by
  have := hf.len
  exact foldAt_numOf (r.drop 1) (r.getD 0 0) 0 c f (drop_nn hr) (by rw [List.length_drop]; omega) hf.all (by rw [← span_sp hr hf.len]; exact h)
theorem many_pos {r f : List Int} (hr : OkR r) (hf : OkF r f) {c : Int} (h : spanOf r f ≤ c) : 0 < many r c := by have := (at_num hr hf h).1; omega
end Fo

namespace Fo
open PySem PySem.Spec PyProof.Rows L2 Evl
/-! ### calls that hand back a new tuple -/
def RetU (xs : List V) (H : Hp) (Q : VK) : Prop := ∀ p H2, H p = none → Ex H H2 → H2 p = some (.tup xs) → Q (.ref p) H2
def SpU (sp : Sp) (vs : List V) (H : Hp) (xs : List V) : Prop := ∀ H1, Ex H H1 → ∀ Q : VK, (∀ p H2, H1 p = none → Ex H1 H2 → H2 p = some (.tup xs) → Q (.ref p) H2) → ∀ E : XK, sp vs H1 Q E
theorem RetU.go {H H' : Hp} {xs : List V} {Q : VK} (k : RetU xs H Q) (e : Ex H H') {p : Addr} {H2 : Hp} (hp : H' p = none) (e2 : Ex H' H2) (h : H2 p = some (.tup xs)) : Q (.ref p) H2 := k p H2 (fresh_back e hp) (e.trans e2) h
theorem eu_call {σ : L2.St} {H : Hp} {sp : Sp} {dvs vs xs : List V} {E : XK} {ta : TA} (h : EvA ta σ H vs) (hs : SpU sp (vs ++ dvs) H xs) : EvU (tCall sp dvs E ta) σ H xs := fun H1 e Q q =>
  h H1 e _ fun H2 e2 => hs H2 (e.trans e2) Q (fun p H3 hp e3 h3 => q p H3 (fresh_back e2 hp) (e2.trans e3) h3) E
/-! ### all but the object at d stays -/
def ExB (d : Addr) (H H' : Hp) : Prop := ∀ a o, a ≠ d → H a = some o → H' a = some o
theorem ExB.refl {d : Addr} (H : Hp) : ExB d H H := fun _ _ _ h => h
theorem ExB.trans {d : Addr} {H H1 H2 : Hp} (a : ExB d H H1) (b : ExB d H1 H2) : ExB d H H2 := fun x o n h => b x o n (a x o n h)
theorem ExB.of {d : Addr} {H H' : Hp} (e : Ex H H') : ExB d H H' := fun a o _ h => e a o h
theorem ExB.up {d : Addr} {H H' : Hp} {o : HO} (e : ExB d H H') : ExB d H (upd H' d o) := fun a u n h => by rw [upd_ne n]; exact e a u n h
theorem ExB.ex {d : Addr} {H H1 H2 : Hp} (e : Ex H H1) (b : ExB d H1 H2) (hn : H d = none) : Ex H H2 := fun a o h => b a o (ne_of_none h hn) (e a o h)
section
variable {P : Program} {w : World} {K : PySem.W.Frag} {H H' : Hp} {Q : VK} {E E1 : XK} {vs xs : List V} {d a : Addr} {L : List MRow}
theorem exb_l (m : MemoAt P w H d L) (e : ExB d H H') (h : SqL K H a xs) : SqL K H' a xs := by
  rcases h with (h | ⟨o, h⟩) | h
  · exact .inl (.inl (e _ _ (fun z => by rw [z, m.obj] at h; cases h) h))
  · exact .inl (.inr ⟨o, e _ _ (fun z => by rw [z, m.obj] at h; cases h) h⟩)
  · exact .inr h
theorem exb_t (m : MemoAt P w H d L) (e : ExB d H H') (h : H a = some (.tup xs)) : H' a = some (.tup xs) := e _ _ (fun z => memo_noTup m xs (z ▸ h)) h
theorem MemoAt.mono (m : MemoAt P w H d L) (e : Ex H H') : MemoAt P w H' d L := ⟨e _ _ m.obj, m.len, fun p hp => let ⟨S, h1, h2⟩ := m.keys p hp; ⟨S, e _ _ h1, e _ _ h2⟩⟩
/-- each value that is kept is the count -/
def GoodM (r : List Int) (c : Int) (L : List MRow) : Prop := ∀ p ∈ L, ∃ j : Nat, p.1.1 = j ∧ p.2.2 = (cnt (r.drop j) p.1.2.1 p.1.2.2 c : Int)
/-! ### the states -/
def p_moved (K : PySem.W.Frag) : Sp := fun vs H Q _ => ∃ S a b l, vs = [.ref S, .int l] ∧ H S = some (.tup [.int a, .int b]) ∧ RetU [.int (a + l), .int (max 0 (b - l))] H Q
theorem max0 (x : Int) : (if x > 0 then x else 0) = max 0 x := by
  by_cases h : x > 0
  · rw [if_pos h]; omega
  · rw [if_neg h]; omega
theorem r_moved (h : p_moved K vs H Q E) : t_moved K E1 (En Q) (start ["state", "length"] vs) H := by
  obtain ⟨S, a, b, l, rfl, hS, q⟩ := h
  refine s_retU (xs := [.int (a + l), .int (max 0 (b - l))]) (eu_tup ?_ (by show 2 ≤ 100000; decide)) fun p H1 hp e h1 => q p H1 hp e h1
  refine ea_cons (ev_op (ev_op (ev_var rfl) ev_c (rv_ixT (st_of hS) (atI_nat (j := 0) rfl))) (ev_var rfl) rv_I0) (ea_cons (ev_is (ev_max2 ev_c (ev_op (ev_op (ev_var rfl) ev_c (rv_ixT (st_of hS) (atI_nat (j := 1) rfl))) (ev_var rfl) rv_I0)) (congrArg V.int (max0 _))) ea_nil)
theorem su_moved {S : Addr} {a b l : Int} (h : H S = some (.tup [.int a, .int b])) : SpU (p_moved K) [.ref S, .int l] H [.int (a + l), .int (max 0 (b - l))] := fun H1 e Q q E => ⟨S, a, b, l, rfl, e _ _ h, fun p H2 hp e2 h2 => q p H2 hp e2 h2⟩
def p_turned (K : PySem.W.Frag) : Sp := fun vs H Q _ => ∃ S a b, vs = [.ref S] ∧ H S = some (.tup [.int a, .int b]) ∧ RetU [.int b, .int a] H Q
theorem r_turned (h : p_turned K vs H Q E) : t_turned K E1 (En Q) (start ["state"] vs) H := by
  obtain ⟨S, a, b, rfl, hS, q⟩ := h
  exact s_retU (xs := [.int b, .int a]) (eu_tup (ea_cons (ev_op (ev_var rfl) ev_c (rv_ixT (st_of hS) (atI_nat (j := 1) rfl))) (ea_cons (ev_op (ev_var rfl) ev_c (rv_ixT (st_of hS) (atI_nat (j := 0) rfl))) ea_nil)) (by show 2 ≤ 100000; decide)) fun p H1 hp e h1 => q p H1 hp e h1
theorem su_turned {S : Addr} {a b : Int} (h : H S = some (.tup [.int a, .int b])) : SpU (p_turned K) [.ref S] H [.int b, .int a] := fun H1 e Q q E => ⟨S, a, b, rfl, e _ _ h, fun p H2 hp e2 h2 => q p H2 hp e2 h2⟩
/-- the state behind a hinge -/
def bst (t a b l : Int) : List V := if t = 1 then [.int (b + l), .int (max 0 (a - l))] else [.int (a + l), .int (max 0 (b - l))]
def p_behind_turn (K : PySem.W.Frag) : Sp := fun vs H Q _ => ∃ S a b t l, vs = [.ref S, .int t, .int l] ∧ H S = some (.tup [.int a, .int b]) ∧ RetU (bst t a b l) H Q
theorem r_behind_turn (h : p_behind_turn K vs H Q E) : t_behind_turn K E1 (p_turned K) (p_moved K) (En Q) (start ["state", "turn", "length"] vs) H := by
  obtain ⟨S, a, b, t, l, rfl, hS, q⟩ := h
  refine q_when (b := decide (t = 1)) (et_test (ev_is (ev_op (ev_var rfl) ev_c (rv_eq rfl)) (by rw [dec_int]; rfl))) (fun hb H1 e1 => ?_) (fun hb H1 e1 => ?_)
  · have q' : RetU [.int (b + l), .int (max 0 (a - l))] H Q := by
      rw [← show bst t a b l = _ from if_pos (of_decide_eq_true hb)]
      exact q
    refine s_asgU (eu_call (vs := [.ref S]) (ea_cons (ev_var rfl) ea_nil) (su_turned (e1 _ _ hS))) fun p H2 hp e2 h2 => ?_
    exact s_retU (eu_call (vs := [.ref p, .int l]) (ea_cons (ev_var rfl) (ea_cons (ev_var rfl) ea_nil)) (su_moved h2)) fun p' H3 hp' e3 h3 => q'.go (e1.trans e2) hp' e3 h3
  · have q' : RetU [.int (a + l), .int (max 0 (b - l))] H Q := by
      rw [← show bst t a b l = _ from if_neg (of_decide_eq_false hb)]
      exact q
    exact s_retU (eu_call (vs := [.ref S, .int l]) (ea_cons (ev_var rfl) (ea_cons (ev_var rfl) ea_nil)) (su_moved (e1 _ _ hS))) fun p' H3 hp' e3 h3 => q'.go e1 hp' e3 h3
theorem su_behind {S : Addr} {a b t l : Int} (h : H S = some (.tup [.int a, .int b])) : SpU (p_behind_turn K) [.ref S, .int t, .int l] H (bst t a b l) := fun H1 e Q q E => ⟨S, a, b, t, l, rfl, e _ _ h, fun p H2 hp e2 h2 => q p H2 hp e2 h2⟩
/-! ### ways_from, with n calls allowed -/
def p_ways_from (P : Program) (w : World) (K : PySem.W.Frag) (n : Nat) : Sp := fun vs H Q _ => ∃ (ra S d : Addr) (r : List Int) (i : Nat) (a b c : Int) (L : List MRow), vs = [.ref ra, .int i, .ref S, .int c, .ref d] ∧
  SqL K H ra (iv r) ∧ r.length ≤ 12 ∧ H S = some (.tup [.int a, .int b]) ∧ MemoAt P w H d L ∧ GoodM r c L ∧ i ≤ r.length ∧ r.length + 1 ≤ i + n ∧ L.length + 2 ^ (r.length + 1 - i) ≤ 500000 ∧
  ∀ H' N, ExB d H H' → MemoAt P w H' d (L ++ N) → GoodM r c (L ++ N) → (∀ p ∈ N, (i : Int) ≤ p.1.1) → N.length + 1 ≤ 2 ^ (r.length + 1 - i) → Q (.int (cnt (r.drop i) a b c : Nat)) H'
theorem cnt_over (rs : List Int) (a b c : Int) (h : a + b > c) : cnt rs a b c = 0 := by
  cases rs with
  | nil => exact if_pos h
  | cons l rs => exact if_pos h
theorem beq_nat (i j : Nat) : ((i : Int) == (j : Int)) = decide (i = j) := by
  by_cases z : i = j
  · subst z; simp
  · rw [decide_eq_false z, beq_eq_false_iff_ne]; omega
/-- the arguments of a call of ways_from -/
theorem ea_ways {σ : L2.St} {H : Hp} {t0 t1 t2 t3 t4 : TE} {v0 v1 v3 v4 : V} {xs : List V} (h0 : Ev t0 σ H v0) (h1 : Ev t1 σ H v1) (h2 : EvU t2 σ H xs) (h3 : Ev t3 σ H v3) (h4 : Ev t4 σ H v4) {Q : List V → Hp → Prop}
    (k : ∀ p H1, Ex H H1 → H1 p = some (.tup xs) → Q [v0, v1, .ref p, v3, v4] H1) : tCons t0 (tCons t1 (tCons t2 (tCons t3 (tCons t4 tNil)))) σ H Q :=
  h0 H (Ex.refl H) _ fun H1 e1 => h1 H1 e1 _ fun H2 e2 => h2 H2 (e1.trans e2) _ fun p H3 _ e3 hp => h3 H3 ((e1.trans e2).trans e3) _ fun H4 e4 => h4 H4 (((e1.trans e2).trans e3).trans e4) _ fun H5 e5 =>
    k p H5 ((((e1.trans e2).trans e3).trans e4).trans e5) ((e4.trans e5) _ _ hp)
theorem bst0 (a b l : Int) : bst 0 a b l = [.int (a + l), .int (max 0 (b - l))] := if_neg (by decide)
theorem bst1 (a b l : Int) : bst 1 a b l = [.int (b + l), .int (max 0 (a - l))] := if_pos rfl
/-- the count behind one of two hinges -/
def cntT (rs : List Int) (t a b l c : Int) : Nat := if t = 1 then cnt rs (b + l) (max 0 (a - l)) c else cnt rs (a + l) (max 0 (b - l)) c
theorem bst_ex (t a b l : Int) : ∃ a' b', bst t a b l = [.int a', .int b'] ∧ ∀ rs c, cntT rs t a b l c = cnt rs a' b' c := by
  by_cases h : t = 1
  · exact ⟨_, _, if_pos h, fun rs c => if_pos h⟩
  · exact ⟨_, _, if_neg h, fun rs c => if_neg h⟩
def totOf (rs : List Int) (a b l c : Int) : Nat → Nat
  | 0 => 0
  | j + 1 => totOf rs a b l c j + cntT rs j a b l c
theorem r_ways_from {n : Nat} (h : p_ways_from P w K (n + 1) vs H Q E) : t_ways_from P w K E1 (p_behind_turn K) (p_ways_from P w K n) (En Q) (start ["rule", "done", "state", "case", "known", "key", "total", "turn"] vs) H := by
  obtain ⟨ra, S, d, r, i, a, b, c, L, rfl, hr, h12, hS, m, good, hi, hn, hL, q⟩ := h
  refine q_when (b := decide (c < a + b)) (et_test (ev_op (ev_op (ev_op (ev_var rfl) ev_c (rv_ixT (st_of hS) (atI_nat (j := 0) rfl))) (ev_op (ev_var rfl) ev_c (rv_ixT (st_of hS) (atI_nat (j := 1) rfl))) rv_I0) (ev_var rfl) rv_I0)) (fun hb H1 e1 => ?_) (fun hb H1 e1 => ?_)
  · refine s_ret ev_c fun H2 e2 => ?_
    have e := e1.trans e2
    have h := q H2 [] (.of e) (by rw [List.append_nil]; exact m.mono e) (by rw [List.append_nil]; exact good) (fun p hp => by cases hp) Nat.one_le_two_pow
    rw [cnt_over _ _ _ _ (of_decide_eq_true hb)] at h
    exact h
  have hle : ¬ a + b > c := of_decide_eq_false hb
  refine q_when (b := decide (i = r.length)) (et_test (ev_is (ev_op (ev_var rfl) (ev_len (ev_var rfl) (ex_l e1 hr)) (rv_eq rfl)) (by rw [dec_int, iv_len, beq_nat]))) (fun hb2 H2 e2 => ?_) (fun hb2 H2 e2 => ?_)
  · refine s_ret ev_c fun H3 e3 => ?_
    have e := (e1.trans e2).trans e3
    have h := q H3 [] (.of e) (by rw [List.append_nil]; exact m.mono e) (by rw [List.append_nil]; exact good) (fun p hp => by cases hp) Nat.one_le_two_pow
    rw [List.drop_eq_nil_of_le (by have := of_decide_eq_true hb2; omega)] at h
    have e1' : cnt [] a b c = 1 := if_neg hle
    rw [e1'] at h
    exact h
  have hi' : i < r.length := by have := of_decide_eq_false hb2; omega
  have ed := drop_getD hi'
  have ec : cnt (r.drop i) a b c = totOf (r.drop (i + 1)) a b (r.getD i 0) c 2 := by
    rw [ed]
    show (if a + b > c then 0 else _) = 0 + cntT _ 0 _ _ _ _ + cntT _ 1 _ _ _ _
    rw [if_neg hle]
    show _ = 0 + (if (0 : Int) = 1 then _ else cnt (r.drop (i + 1)) (a + r.getD i 0) (max 0 (b - r.getD i 0)) c) + (if (1 : Int) = 1 then cnt (r.drop (i + 1)) (b + r.getD i 0) (max 0 (a - r.getD i 0)) c else _)
    rw [if_neg (by decide), if_pos rfl, Nat.zero_add]
  have pw : 2 ^ (r.length + 1 - i) = 2 * 2 ^ (r.length + 1 - (i + 1)) := by
    rw [show r.length + 1 - i = (r.length + 1 - (i + 1)) + 1 by omega, Nat.pow_succ, Nat.mul_comm]
  refine q_asgU (eu_tup (ea_cons (ev_var rfl) (ea_cons (ev_var rfl) ea_nil)) (by show 2 ≤ 100000; decide)) fun T H3 hT e3 h3 => ?_
  have e13 := (e1.trans e2).trans e3
  have m3 := m.mono e13
  have hS3 := e13 _ _ hS
  have hk3 : KeyOk H3 ((i : Int), a, b) T := ⟨S, h3, hS3⟩
  refine q_when (b := !(valAt L ((i : Int), a, b)).isSome) (et_test (ev_op (ev_var rfl) (ev_var rfl) fun H1 e Q' q' => ⟨d, T, ((i : Int), a, b), L, rfl, rfl, ⟨S, e _ _ h3, e _ _ hS3⟩, m3.mono e, q' H1 (Ex.refl _)⟩)) (fun hb3 H4 e4 => ?_) (fun hb3 H4 e4 => ?_)
  · -- not known
    have hv : valAt L ((i : Int), a, b) = none := by
      cases z : valAt L ((i : Int), a, b) with
      | none => rfl
      | some _ => rw [z] at hb3; cases hb3
    refine q_asg ev_c fun H5 e5 => ?_
    have e35 := e4.trans e5
    have m5 := m3.mono e35
    have e15 := e13.trans e35
    have hr5 := ex_l e15 hr
    refine q_forR1 (n := 2) (ea_cons ev_c ea_nil) ⟨by decide, by decide⟩
      (fun j σ' H' => ∃ N kv, σ' = [some (.ref ra), some (.int i), some (.ref S), some (.int c), some (.ref d), some (.ref T), some (.int (totOf (r.drop (i + 1)) a b (r.getD i 0) c j : Nat)), kv] ∧ ExB d H5 H' ∧ MemoAt P w H' d (L ++ N) ∧ GoodM r c (L ++ N) ∧
        (∀ p ∈ N, ((i + 1 : Nat) : Int) ≤ p.1.1) ∧ N.length + j ≤ j * 2 ^ (r.length + 1 - (i + 1)))
      (fun H6 e6 => ⟨[], _, rfl, .of e6, by rw [List.append_nil]; exact m5.mono e6, by rw [List.append_nil]; exact good, (fun p hp => by cases hp), by show 0 + 0 ≤ _; omega⟩) ?_ ?_
    · rintro j σ' H' hj ⟨N, kv, rfl, eb, mN, gN, iN, lN⟩
      have hj2 : j ≤ 1 := by omega
      have hr' := exb_l m5 eb hr5
      have hS' := exb_t m5 eb (e35 _ _ hS3)
      obtain ⟨a', b', eb', ect⟩ := bst_ex (j : Int) a b (r.getD i 0)
      have hN2 : N.length + 2 ^ (r.length + 1 - (i + 1)) ≤ 2 * 2 ^ (r.length + 1 - (i + 1)) := by
        have : j * 2 ^ (r.length + 1 - (i + 1)) ≤ 1 * 2 ^ (r.length + 1 - (i + 1)) := Nat.mul_le_mul_right _ hj2
        omega
      refine ⟨_, rfl, ?_⟩
      refine ea_ways (ev_var rfl) (ev_op (ev_var rfl) ev_c rv_I0) (eu_call (vs := [.ref S, .int j, .int (r.getD i 0)]) (ea_cons (ev_var rfl) (ea_cons (ev_var rfl) (ea_cons (ev_op (ev_var rfl) (ev_var rfl) (rv_ixL hr' (atI_nat (iv_at (getD_of hi'))))) ea_nil))) (su_behind hS')) (ev_var rfl) (ev_var rfl) fun p H6 e6 h6 => ?_
      rw [eb'] at h6
      refine ⟨ra, p, d, r, i + 1, a', b', c, L ++ N, by rw [show ((i : Int) + 1) = ((i + 1 : Nat) : Int) by omega]; rfl, ex_l e6 hr', h12, h6, mN.mono e6, gN, by omega, by omega, by rw [List.length_append]; omega, fun H7 N' e7 m7 g7 i7 l7 => ?_⟩
      refine ⟨_, _, rfl, rfl, N ++ N', some (V.int (j : Int)), ?_, (eb.trans (.of e6)).trans e7, ?_, ?_, ?_, ?_⟩
      · show [some (V.ref ra), some (V.int i), some (V.ref S), some (V.int c), some (V.ref d), some (V.ref T), some (V.int ((totOf (r.drop (i + 1)) a b (r.getD i 0) c j : Int) + (cnt (r.drop (i + 1)) a' b' c : Int))), some (V.int (j : Int))] = _
        rw [← ect]
        rfl
      · rw [← List.append_assoc]; exact m7
      · rw [← List.append_assoc]; exact g7
      · intro p hp
        rcases List.mem_append.mp hp with hp | hp
        · exact iN p hp
        · exact i7 p hp
      · rw [List.length_append, Nat.succ_mul]
        omega
    · rintro σ' H' ⟨N, kv, rfl, eb, mN, gN, iN, lN⟩
      have et : totOf (r.drop (i + 1)) a b (r.getD i 0) c (Int.toNat 2) = cnt (r.drop i) a b c := ec.symm
      rw [et]
      have hk' : KeyOk H' ((i : Int), a, b) T := ⟨S, exb_t m5 eb (e35 _ _ h3), exb_t m5 eb (e35 _ _ hS3)⟩
      have hvN : valAt (L ++ N) ((i : Int), a, b) = none := by
        cases z : valAt (L ++ N) ((i : Int), a, b) with
        | none => rfl
        | some n =>
          obtain ⟨p, hp, e1, e2⟩ := valAt_mem z
          rcases List.mem_append.mp hp with hp | hp
          · have : valAt L ((i : Int), a, b) ≠ none := by
              unfold valAt
              rw [Ne, Option.map_eq_none_iff, List.find?_eq_none]
              intro h
              exact h p hp (decide_eq_true e1)
            exact absurd hv this
          · have := iN p hp
            rw [e1] at this
            simp only at this
            omega
      have lN' : N.length + 2 ≤ 2 * 2 ^ (r.length + 1 - (i + 1)) := lN
      refine ⟨_, rfl, _, rfl, _, rfl, d, T, ((i : Int), a, b), L ++ N, _, rfl, rfl, rfl, hk', mN, hvN, by rw [List.length_append]; omega, ?_⟩
      have mS := mN.stored (n := ((cnt (r.drop i) a b c : Nat) : Int)) hk' (by rw [List.length_append]; omega)
      refine ⟨_, rfl, _, rfl, d, T, ((i : Int), a, b), _, _, rfl, rfl, hk'.mono (fun x o ne e => by rw [upd_ne ne]; exact e) (memo_noTup mN), mS, by rw [valAt_app _ _ _ hvN, if_pos rfl], ?_⟩
      rw [List.append_assoc] at mS
      have el : (N ++ [(((i : Int), a, b), T, ((cnt (r.drop i) a b c : Nat) : Int))]).length = N.length + 1 := by simp
      show Q (V.int (cnt (r.drop i) a b c : Nat)) _
      refine q _ (N ++ [(((i : Int), a, b), T, ((cnt (r.drop i) a b c : Nat) : Int))]) (((ExB.of e15).trans eb).up) (by rw [List.append_assoc]; exact mS) ?_ ?_ (by rw [el]; omega)
      · intro p hp
        rw [← List.append_assoc] at hp
        rcases List.mem_append.mp hp with hp | hp
        · exact gN p hp
        · rw [List.mem_singleton.mp hp]
          exact ⟨i, rfl, rfl⟩
      · intro p hp
        rcases List.mem_append.mp hp with hp | hp
        · have := iN p hp; omega
        · rw [List.mem_singleton.mp hp]
          exact Int.le_refl _
  · -- known
    obtain ⟨v, hv⟩ : ∃ v, valAt L ((i : Int), a, b) = some v := by
      cases z : valAt L ((i : Int), a, b) with
      | none => rw [z] at hb3; cases hb3
      | some v => exact ⟨v, rfl⟩
    obtain ⟨p, hp, e1', e2'⟩ := valAt_mem hv
    obtain ⟨j, ej, ev⟩ := good p hp
    rw [e1'] at ej ev
    rw [e2'] at ev
    have ej' : j = i := by simp only at ej; omega
    rw [ej'] at ev
    refine ⟨_, rfl, _, rfl, d, T, ((i : Int), a, b), L, v, rfl, rfl, ⟨S, e4 _ _ h3, e4 _ _ hS3⟩, m3.mono e4, hv, ?_⟩
    have e := e13.trans e4
    have h := q H4 [] (.of e) (by rw [List.append_nil]; exact m.mono e) (by rw [List.append_nil]; exact good) (fun p hp => by cases hp) Nat.one_le_two_pow
    rw [ev]
    exact h
end
end Fo

namespace Fo
open PySem PySem.Spec PyProof.Rows L2 Evl
section
variable {P : Program} {w : World} {K : PySem.W.Frag} {H H' : Hp} {Q : VK} {E E1 : XK} {vs xs : List V} {d a : Addr} {L : List MRow}
theorem GoodM.nil {r : List Int} {c : Int} : GoodM r c [] := fun p hp => by cases hp
theorem pow13 (n : Nat) (h : n ≤ 13) : 2 ^ n ≤ 8192 := Nat.le_trans (Nat.pow_le_pow_right (by decide) h) (by decide)
theorem ea_waysN {σ : L2.St} {H : Hp} {t0 t1 t2 t3 : TE} {v0 v1 v3 : V} {xs : List V} (h0 : Ev t0 σ H v0) (h1 : Ev t1 σ H v1) (h2 : EvU t2 σ H xs) (h3 : Ev t3 σ H v3) {Q : List V → Hp → Prop}
    (k : ∀ p d H1, Ex H H1 → H1 p = some (.tup xs) → H1 d = none → Q [v0, v1, .ref p, v3, .ref d] (upd H1 d (memoHO P w d []))) : tCons t0 (tCons t1 (tCons t2 (tCons t3 (tCons (tMemoNew P w) tNil)))) σ H Q :=
  h0 H (Ex.refl H) _ fun H1 e1 => h1 H1 e1 _ fun H2 e2 => h2 H2 (e1.trans e2) _ fun p H3 _ e3 hp => h3 H3 ((e1.trans e2).trans e3) _ fun H4 e4 => fun d hd =>
    k p d H4 (((e1.trans e2).trans e3).trans e4) (e4 _ _ hp) hd
/-! ### how many fit -/
def p_many_fits0 (P : Program) (w : World) (K : PySem.W.Frag) : Sp := fun vs H Q _ => ∃ a r c, vs = [.ref a, .int c] ∧ SqL K H a (iv r) ∧ OkR r ∧ RetV (.int (many r c : Nat)) H Q
theorem r_many_fits0 (h : p_many_fits0 P w K vs H Q E) : t_many_fits P w K E1 (p_see_rule0 K) (p_ways_from P w K 13) (En Q) (start ["rule", "case"] vs) H := by
  obtain ⟨a, r, c, rfl, hr, ok, q⟩ := h
  have l1 := ok.l1
  have l2 := ok.l12
  refine q_drop (ev_call (vs := [.ref a]) (ea_cons (ev_var rfl) ea_nil) (sp_see_rule0 hr ok)) fun H1 e1 => ?_
  have hr1 := ex_l e1 hr
  show tCons (tVar 0) (tCons (tC (.int 1)) (tCons (tTup (tCons (tOp (rIxL K) (tVar 0) (tC (.int 0))) (tCons (tC (.int 0)) tNil))) (tCons (tVar 1) (tCons (tMemoNew P w) tNil)))) (start ["rule", "case"] [.ref a, .int c]) H1 (fun vs H2 => p_ways_from P w K 13 (vs ++ []) H2 Q E1)
  refine ea_waysN (ev_var rfl) ev_c (eu_tup (ea_cons (ev_op (ev_var rfl) ev_c (rv_ixL hr1 (atI_nat (j := 0) (iv_at (getD_of (by omega)))))) (ea_cons ev_c ea_nil)) (by show 2 ≤ 100000; decide)) (ev_var rfl) fun S d H5 e5 h4 hd => ?_
  have e15 := e1.trans e5
  have eN : Ex H5 (upd H5 d (memoHO P w d [])) := Ex.new hd
  have z : 2 ^ (r.length + 1 - 1) ≤ 8192 := pow13 _ (by omega)
  refine ⟨a, S, d, r, 1, r.getD 0 0, 0, c, [], rfl, ex_l (e15.trans eN) hr, l2, eN _ _ h4, memo_new, GoodM.nil, l1, by omega, by show 0 + _ ≤ _; omega, fun H7 N e7 m7 g7 i7 l7 => ?_⟩
  exact q H7 (ExB.ex e15 (fun a o n h => e7 a o n (by rw [upd_ne n]; exact h)) (fresh_back e15 hd))
theorem sp_many0 {a : Addr} {r : List Int} {c : Int} (hr : SqL K H a (iv r)) (ok : OkR r) : SpV (p_many_fits0 P w K) [.ref a, .int c] H (.int (many r c : Nat)) := fun H1 e Q q E => ⟨a, r, c, rfl, ex_l e hr, ok, fun H2 e2 => q H2 e2⟩
/-! ### the folding with a number -/
/-- what stands while the hinges are gone through: the dict at d, the state at S, the list at l -/
structure Wk (P : Program) (w : World) (H H' : Hp) (d S l : Addr) (r : List Int) (c a b : Int) (acc : List Int) (L : List MRow) (i : Nat) : Prop where
  ex : Ex H H'
  dn : H d = none
  ln : H l = none
  m : MemoAt P w H' d L
  g : GoodM r c L
  sz : L.length ≤ i * 8192
  st : H' S = some (.tup [.int a, .int b])
  ls : H' l = some (.lst (iv acc))
theorem Wk.mono {H H' H1 : Hp} {d S l : Addr} {r : List Int} {c a b : Int} {acc : List Int} {L : List MRow} {i : Nat} (k : Wk P w H H' d S l r c a b acc L i) (e : Ex H' H1) : Wk P w H H1 d S l r c a b acc L i :=
  ⟨k.ex.trans e, k.dn, k.ln, k.m.mono e, k.g, k.sz, e _ _ k.st, e _ _ k.ls⟩
theorem Wk.ne {H H' : Hp} {d S l : Addr} {r : List Int} {c a b : Int} {acc : List Int} {L : List MRow} {i : Nat} (k : Wk P w H H' d S l r c a b acc L i) : l ≠ d := fun z => by
  have h := k.ls
  rw [z, k.m.obj] at h
  cases h
/-- behind a call of ways_from -/
theorem Wk.call {H H' H1 : Hp} {d S l : Addr} {r : List Int} {c a b : Int} {acc : List Int} {L N : List MRow} {i : Nat} (k : Wk P w H H' d S l r c a b acc L i) (e : ExB d H' H1) (m : MemoAt P w H1 d (L ++ N)) (g : GoodM r c (L ++ N)) (hN : N.length ≤ 8192) :
    Wk P w H H1 d S l r c a b acc (L ++ N) (i + 1) :=
  ⟨ExB.ex k.ex e k.dn, k.dn, k.ln, m, g, by rw [List.length_append]; have := k.sz; omega, exb_t k.m e k.st, e _ _ k.ne k.ls⟩
theorem Wk.more {H H' : Hp} {d S l : Addr} {r : List Int} {c a b : Int} {acc : List Int} {L : List MRow} {i : Nat} (k : Wk P w H H' d S l r c a b acc L i) : Wk P w H H' d S l r c a b acc L (i + 1) :=
  ⟨k.ex, k.dn, k.ln, k.m, k.g, by have := k.sz; omega, k.st, k.ls⟩
theorem Wk.state {H H' : Hp} {d S S' l : Addr} {r : List Int} {c a b a' b' : Int} {acc : List Int} {L : List MRow} {i : Nat} (k : Wk P w H H' d S l r c a b acc L i) (h : H' S' = some (.tup [.int a', .int b'])) : Wk P w H H' d S' l r c a' b' acc L i :=
  ⟨k.ex, k.dn, k.ln, k.m, k.g, k.sz, h, k.ls⟩
theorem Wk.app {H H' : Hp} {d S l : Addr} {r : List Int} {c a b : Int} {acc : List Int} {L : List MRow} {i : Nat} (k : Wk P w H H' d S l r c a b acc L i) (ys : List Int) : Wk P w H (upd H' l (.lst (iv ys))) d S l r c a b ys L i := by
  have ne := k.ne
  have up : ∀ x o, x ≠ l → H' x = some o → upd H' l (.lst (iv ys)) x = some o := fun x o n h => by rw [upd_ne n]; exact h
  have tp : ∀ x zs, H' x = some (.tup zs) → x ≠ l := fun x zs h z => by rw [z, k.ls] at h; cases h
  exact ⟨Ex.mut k.ex k.ln, k.dn, k.ln, ⟨up _ _ ne.symm k.m.obj, k.m.len, fun p hp => let ⟨T, h1, h2⟩ := k.m.keys p hp; ⟨T, up _ _ (tp _ _ h1) h1, up _ _ (tp _ _ h2) h2⟩⟩, k.g, k.sz, up _ _ (tp _ _ k.st) k.st, upd_same⟩
/-- the call of ways_from in such a turn: behind the hinge i + 1 with turn 0 -/
theorem wk_ways {σ : L2.St} {t0 t1 t2 t3 t4 : TE} {H H' : Hp} {d S l ra : Addr} {r : List Int} {c a b : Int} {acc : List Int} {L : List MRow} {i : Nat} (k : Wk P w H H' d S l r c a b acc L i) (hr : SqL K H ra (iv r)) (h12 : r.length ≤ 12) (hi : i + 1 < r.length)
    (h0 : Ev t0 σ H' (.ref ra)) (h1 : Ev t1 σ H' (.int ((i + 2 : Nat) : Int))) (h2 : EvU t2 σ H' (bst 0 a b (r.getD (i + 1) 0))) (h3 : Ev t3 σ H' (.int c)) (h4 : Ev t4 σ H' (.ref d)) {Q : VK} {E : XK}
    (q : ∀ H1 N, Wk P w H H1 d S l r c a b acc (L ++ N) (i + 1) → Q (.int (cnt (r.drop (i + 2)) (a + r.getD (i + 1) 0) (max 0 (b - r.getD (i + 1) 0)) c : Nat)) H1) :
    tCall (p_ways_from P w K 13) [] E (tCons t0 (tCons t1 (tCons t2 (tCons t3 (tCons t4 tNil))))) σ H' Q := by
  refine ea_ways h0 h1 h2 h3 h4 fun p H1 e1 hp => ?_
  rw [bst0] at hp
  have k1 := k.mono e1
  have z : 2 ^ (r.length + 1 - (i + 2)) ≤ 8192 := pow13 _ (by omega)
  have hsz := k.sz
  refine ⟨ra, p, d, r, i + 2, _, _, c, L, rfl, ex_l k1.ex hr, h12, hp, k1.m, k1.g, by omega, by omega, ?_, fun H7 N e7 m7 g7 i7 l7 => ?_⟩
  · have : i * 8192 ≤ 12 * 8192 := Nat.mul_le_mul_right _ (by omega)
    omega
  · exact q H7 N (k1.call e7 m7 g7 (by omega))
def p_folding_at0 (P : Program) (w : World) (K : PySem.W.Frag) : Sp := fun vs H Q _ => ∃ a r c, ∃ n : Nat, vs = [.ref a, .int c, .int n] ∧ SqL K H a (iv r) ∧ OkR r ∧ n < many r c ∧ RetL (iv (atNum r c n)) H Q
theorem r_folding_at0 {x0 : TS} (h : p_folding_at0 P w K vs H Q E) : t_folding_at P w K E1 (p_see_rule0 K) (p_many_fits0 P w K) (p_behind_turn K) (p_ways_from P w K 13) x0 (En Q) (start ["rule", "case", "number", "known", "state", "folding", "done", "turn", "ways"] vs) H := by
  obtain ⟨ra, r, c, n, rfl, hr, ok, hn, q⟩ := h
  have l1 := ok.l1
  have l2 := ok.l12
  refine q_drop (ev_call (vs := [.ref ra]) (ea_cons (ev_var rfl) ea_nil) (sp_see_rule0 hr ok)) fun H1 e1 => ?_
  have hr1 := ex_l e1 hr
  refine q_when (b := !(true && true)) (et_not (et_test (ev_chain (x := .int 0) (y := .int n) (z := .int (many r c : Nat)) ev_c (ev_var rfl) ?_ (fun _ => ev_call (vs := [.ref ra, .int c]) (ea_cons (ev_var rfl) (ea_cons (ev_var rfl) ea_nil)) (sp_many0 hr1 ok)) fun _ => ?_))) (fun hc => by cases hc) (fun _ H2 e2 => ?_)
  · have h := rv_I0 (H := H1) (g := fun i j => V.bl (decide (i ≤ j))) (i := 0) (j := (n : Int))
    rw [show decide ((0 : Int) ≤ (n : Int)) = true from decide_eq_true (by omega)] at h
    exact h
  · have h := rv_I0 (H := H1) (g := fun i j => V.bl (decide (i < j))) (i := (n : Int)) (j := ((many r c : Nat) : Int))
    rw [show decide ((n : Int) < ((many r c : Nat) : Int)) = true from decide_eq_true (by omega)] at h
    exact h
  have e12 := e1.trans e2
  have hr2 := ex_l e12 hr
  intro d hd
  have e3 : Ex H2 (upd H2 d (memoHO P w d [])) := Ex.new hd
  refine q_asgU (xs := [.int (r.getD 0 0), .int 0]) (eu_tup (ea_cons (ev_op (ev_var rfl) ev_c (rv_ixL (ex_l e3 hr2) (atI_nat (j := 0) (iv_at (getD_of (by omega)))))) (ea_cons ev_c ea_nil)) (by show 2 ≤ 100000; decide)) fun S H4 hS e4 h4 => ?_
  refine q_asgL (xs := iv []) (el_lst ea_nil (by decide)) fun l H5 hl e5 h5 => ?_
  have e25 := (e3.trans e4).trans e5
  have k0 : Wk P w H2 H5 d S l r c (r.getD 0 0) 0 [] [] 0 := ⟨e25, hd, fresh_back (e3.trans e4) hl, (memo_new.mono e4).mono e5, GoodM.nil, Nat.zero_le _, e5 _ _ h4, h5⟩
  refine q_forR2 (lo := 1) (n := (r.length : Int)) (ea_cons ev_c (ea_cons (ev_is (ev_len (ev_var rfl) (ex_l e25 hr2)) (by rw [iv_len])) ea_nil)) ⟨by omega, by omega, by omega, by omega⟩
    (fun i σ' H' => ∃ (num : Nat) (S : Addr) (a b : Int) (acc : List Int) (L : List MRow) (k1 k2 k3 : Option V), σ' = [some (.ref ra), some (.int c), some (.int num), some (.ref d), some (.ref S), some (.ref l), k1, k2, k3] ∧ Wk P w H2 H' d S l r c a b acc L i ∧
      acc ++ foldAt (r.drop (i + 1)) a b c num = atNum r c n)
    (fun H6 e6 => ⟨n, S, _, _, [], [], _, _, _, rfl, k0.mono e6, rfl⟩) ?_ ?_
  · rintro i σ' H' hi ⟨num, S, a, b, acc, L, k1, k2, k3, rfl, k, eq⟩
    have hi' : i + 1 < r.length := by omega
    have edone : (1 : Int) + (i : Int) = ((i + 1 : Nat) : Int) := by omega
    rw [edone]
    have ed := drop_getD hi'
    refine q_asg ev_c fun H6 e6 => ?_
    have k6 := k.mono e6
    have hr6 := ex_l k6.ex hr2
    refine wk_ways k6 hr2 l2 hi' (ev_var rfl) (ev_is (ev_op (ev_var rfl) ev_c rv_I0) (congrArg V.int (by omega))) (eu_call (vs := [.ref S, .int 0, .int (r.getD (i + 1) 0)]) (ea_cons (ev_var rfl) (ea_cons ev_c (ea_cons (ev_op (ev_var rfl) (ev_var rfl) (rv_ixL hr6 (atI_nat (iv_at (getD_of hi'))))) ea_nil))) (su_behind k6.st)) (ev_var rfl) (ev_var rfl) fun H7 N k7 => ?_
    -- the tail
    have tail : ∀ (D : Ends) (tv : Int) (nm : Nat) (H8 : Hp) (a' b' : Int), (tv = 0 ∨ tv = 1) → bst tv a b (r.getD (i + 1) 0) = [.int a', .int b'] → Wk P w H2 H8 d S l r c a b acc (L ++ N) (i + 1) →
        (∀ S' H9, Wk P w H2 H9 d S' l r c a' b' (acc ++ [tv]) (L ++ N) (i + 1) → D.nx [some (.ref ra), some (.int c), some (.int nm), some (.ref d), some (.ref S'), some (.ref l), some (.int ((i + 1 : Nat) : Int)), some (.int tv), some (.int (cnt (r.drop (i + 2)) (a + r.getD (i + 1) 0) (max 0 (b - r.getD (i + 1) 0)) c : Nat))] H9) →
        tSeq (tAsg (tCall (p_behind_turn K) [] E1 (tCons (tVar 4) (tCons (tVar 7) (tCons (tOp (rIxL K) (tVar 0) (tVar 6)) tNil)))) (gName 4)) (tDrop (tBM K "list" rAppend (tVar 5) (tCons (tVar 7) tNil))) D
          [some (.ref ra), some (.int c), some (.int nm), some (.ref d), some (.ref S), some (.ref l), some (.int ((i + 1 : Nat) : Int)), some (.int tv), some (.int (cnt (r.drop (i + 2)) (a + r.getD (i + 1) 0) (max 0 (b - r.getD (i + 1) 0)) c : Nat))] H8 := by
      intro D tv nm H8 a' b' ht hb k8 nx
      refine q_asgU (eu_call (vs := [.ref S, .int tv, .int (r.getD (i + 1) 0)]) (ea_cons (ev_var rfl) (ea_cons (ev_var rfl) (ea_cons (ev_op (ev_var rfl) (ev_var rfl) (rv_ixL (ex_l k8.ex hr2) (atI_nat (iv_at (getD_of hi'))))) ea_nil))) (su_behind k8.st)) fun S' H9 hS' e9 h9 => ?_
      rw [hb] at h9
      have k9 := (k8.mono e9).state h9
      refine s_app k9.ls (ev_var rfl) (ev_var rfl) ?_ fun H10 e10 => ?_
      · rw [iv_len]
        have h1 := congrArg List.length eq
        rw [List.length_append] at h1
        have h2 := (at_ok ok hn).1.len
        omega
      · have k10 := (k9.mono e10).app (acc ++ [tv])
        rw [← iv_app] at k10
        exact nx S' _ k10
    refine q_when (b := decide (cnt (r.drop (i + 2)) (a + r.getD (i + 1) 0) (max 0 (b - r.getD (i + 1) 0)) c ≤ num)) (et_test (ev_is (ev_op (ev_var rfl) (ev_var rfl) rv_I0) (congrArg V.bl (decide_eq_decide.mpr (by omega))))) (fun hb H8 e8 => ?_) (fun hb H8 e8 => ?_)
    · have hb' := of_decide_eq_true hb
      refine q_asg (v := .int ((num - cnt (r.drop (i + 2)) (a + r.getD (i + 1) 0) (max 0 (b - r.getD (i + 1) 0)) c : Nat) : Int)) (ev_is (ev_op (ev_var rfl) (ev_var rfl) rv_I0) (congrArg V.int (by omega))) fun H9 e9 => ?_
      refine s_asg ev_c fun H10 e10 => ?_
      refine tail _ 1 _ H10 _ _ (.inr rfl) (bst1 a b _) (k7.mono ((e8.trans e9).trans e10)) fun S' H11 k11 => ?_
      refine ⟨_, S', _, _, acc ++ [1], L ++ N, _, _, _, rfl, k11, ?_⟩
      rw [List.append_assoc, ← eq, ed]
      have e : foldAt (r.getD (i + 1) 0 :: r.drop (i + 1 + 1)) a b c num = 1 :: foldAt (r.drop (i + 1 + 1)) (b + r.getD (i + 1) 0) (max 0 (a - r.getD (i + 1) 0)) c (num - cnt (r.drop (i + 1 + 1)) (a + r.getD (i + 1) 0) (max 0 (b - r.getD (i + 1) 0)) c) := if_pos hb'
      rw [e]
      rfl
    · have hb' := of_decide_eq_false hb
      refine tail _ 0 num H8 _ _ (.inl rfl) (bst0 a b _) (k7.mono e8) fun S' H11 k11 => ?_
      refine ⟨_, S', _, _, acc ++ [0], L ++ N, _, _, _, rfl, k11, ?_⟩
      rw [List.append_assoc, ← eq, ed]
      have e : foldAt (r.getD (i + 1) 0 :: r.drop (i + 1 + 1)) a b c num = 0 :: foldAt (r.drop (i + 1 + 1)) (a + r.getD (i + 1) 0) (max 0 (b - r.getD (i + 1) 0)) c num := if_neg hb'
      rw [e]
      rfl
  · rintro σ' H' ⟨num, S, a, b, acc, L, k1, k2, k3, rfl, k, eq⟩
    rw [List.drop_eq_nil_of_le (by omega)] at eq
    have eq' : acc = atNum r c n := by rw [← eq]; show acc = acc ++ []; rw [List.append_nil]
    refine s_ret (ev_var rfl) fun H7 e7 => ?_
    rw [← eq'] at q
    exact q l H7 (fresh_back e12 k.ln) (e12.trans (k.ex.trans e7)) (e7 _ _ k.ls)
theorem sl_folding0 {a : Addr} {r : List Int} {c : Int} {n : Nat} (hr : SqL K H a (iv r)) (ok : OkR r) (hn : n < many r c) : SpL (p_folding_at0 P w K) [.ref a, .int c, .int n] H (iv (atNum r c n)) := fun H1 e Q q E => ⟨a, r, c, n, rfl, ex_l e hr, ok, hn, fun p H2 hp e2 h2 => q p H2 hp e2 h2⟩
/-! ### the number of a folding -/
def p_number_of0 (P : Program) (w : World) (K : PySem.W.Frag) : Sp := fun vs H Q _ => ∃ a b r f c, vs = [.ref a, .int c, .ref b] ∧ SqL K H a (iv r) ∧ SqL K H b (iv f) ∧ OkR r ∧ OkF r f ∧ spanOf r f ≤ c ∧ RetV (.int (numFor r c f : Nat)) H Q
theorem r_number_of0 {x0 : TS} (h : p_number_of0 P w K vs H Q E) : t_number_of P w K E1 (p_see_folding0 K) (p_span0 K) (p_behind_turn K) (p_ways_from P w K 13) x0 (En Q) (start ["rule", "case", "folding", "known", "state", "number", "done"] vs) H := by
  obtain ⟨ra, fa, r, f, c, rfl, hr, hf, ok, okf, hs, q⟩ := h
  have l1 := ok.l1
  have l2 := ok.l12
  have l3 := okf.len
  refine q_drop (ev_call (vs := [.ref ra, .ref fa]) (ea_cons (ev_var rfl) (ea_cons (ev_var rfl) ea_nil)) (sp_see_folding0 hr hf ok okf)) fun H1 e1 => ?_
  refine q_when (b := decide (c < spanOf r f)) (et_test (ev_op (ev_call (vs := [.ref ra, .ref fa]) (ea_cons (ev_var rfl) (ea_cons (ev_var rfl) ea_nil)) (sp_span0 (ex_l e1 hr) (ex_l e1 hf) ok okf)) (ev_var rfl) rv_I0)) (fun hc => absurd (of_decide_eq_true hc) (by omega)) (fun _ H2 e2 => ?_)
  have e12 := e1.trans e2
  have hr2 := ex_l e12 hr
  have hf2 := ex_l e12 hf
  intro d hd
  have e3 : Ex H2 (upd H2 d (memoHO P w d [])) := Ex.new hd
  refine q_asgU (xs := [.int (r.getD 0 0), .int 0]) (eu_tup (ea_cons (ev_op (ev_var rfl) ev_c (rv_ixL (ex_l e3 hr2) (atI_nat (j := 0) (iv_at (getD_of (by omega)))))) (ea_cons ev_c ea_nil)) (by show 2 ≤ 100000; decide)) fun S H4 hS e4 h4 => ?_
  -- a list that is never touched stands for the one that Wk speaks of: the state's own
  refine q_asg ev_c fun H5 e5 => ?_
  have e25 := (e3.trans e4).trans e5
  have m5 : MemoAt P w H5 d [] := (memo_new.mono e4).mono e5
  refine q_forR2 (lo := 1) (n := (r.length : Int)) (ea_cons ev_c (ea_cons (ev_is (ev_len (ev_var rfl) (ex_l e25 hr2)) (by rw [iv_len])) ea_nil)) ⟨by omega, by omega, by omega, by omega⟩
    (fun i σ' H' => ∃ (num : Nat) (S : Addr) (a b : Int) (L : List MRow) (k1 : Option V), σ' = [some (.ref ra), some (.int c), some (.ref fa), some (.ref d), some (.ref S), some (.int num), k1] ∧ (Ex H2 H' ∧ MemoAt P w H' d L ∧ GoodM r c L ∧ L.length ≤ i * 8192 ∧ H' S = some (.tup [.int a, .int b])) ∧
      num + numOf (r.drop (i + 1)) a b c (f.drop i) = numFor r c f)
    (fun H6 e6 => ⟨0, S, _, _, [], _, rfl, ⟨e25.trans e6, m5.mono e6, GoodM.nil, Nat.zero_le _, e6 _ _ (e5 _ _ h4)⟩, by rw [Nat.zero_add]; rfl⟩) ?_ ?_
  · rintro i σ' H' hi ⟨num, S, a, b, L, k1, rfl, ⟨ex, m, g, sz, st⟩, eq⟩
    have hi' : i + 1 < r.length := by omega
    have hif : i < f.length := by omega
    have edone : (1 : Int) + (i : Int) = ((i + 1 : Nat) : Int) := by omega
    rw [edone]
    have ed := drop_getD hi'
    have edf := drop_getD hif
    rw [ed, edf] at eq
    have hr' := ex_l ex hr2
    have hf' := ex_l ex hf2
    have eix : ∀ H1 : Hp, Ex H' H1 → Ev (tOp (rIxL K) (tVar 2) (tOp rSubI (tVar 6) (tC (.int 1)))) [some (.ref ra), some (.int c), some (.ref fa), some (.ref d), some (.ref S), some (.int num), some (.int ((i + 1 : Nat) : Int))] H1 (.int (f.getD i 0)) := fun H1 e =>
      ev_op (ev_var rfl) (ev_is (ev_op (ev_var rfl) ev_c rv_I0) (congrArg V.int (show ((i + 1 : Nat) : Int) - 1 = (i : Int) by omega))) (rv_ixL (ex_l e hf') (atI_nat (iv_at (getD_of hif))))
    refine q_when (b := decide (f.getD i 0 = 1)) (et_test (ev_is (ev_op (eix H' (Ex.refl _)) ev_c (rv_eq rfl)) (by rw [dec_int]; rfl))) (fun hb H6 e6 => ?_) (fun hb H6 e6 => ?_)
    · have hb' := of_decide_eq_true hb
      have en : numOf (r.getD (i + 1) 0 :: r.drop (i + 1 + 1)) a b c (f.getD i 0 :: f.drop (i + 1)) = cnt (r.drop (i + 1 + 1)) (a + r.getD (i + 1) 0) (max 0 (b - r.getD (i + 1) 0)) c + numOf (r.drop (i + 1 + 1)) (b + r.getD (i + 1) 0) (max 0 (a - r.getD (i + 1) 0)) c (f.drop (i + 1)) := if_pos hb'
      rw [en] at eq
      refine ⟨_, rfl, ?_⟩
      refine ea_ways (ev_var rfl) (ev_is (ev_op (ev_var rfl) ev_c rv_I0) (congrArg V.int (show ((i + 1 : Nat) : Int) + 1 = ((i + 2 : Nat) : Int) by omega))) (eu_call (vs := [.ref S, .int 0, .int (r.getD (i + 1) 0)]) (ea_cons (ev_var rfl) (ea_cons ev_c (ea_cons (ev_op (ev_var rfl) (ev_var rfl) (rv_ixL (ex_l e6 hr') (atI_nat (iv_at (getD_of hi'))))) ea_nil))) (su_behind (e6 _ _ st))) (ev_var rfl) (ev_var rfl) fun p H7 e7 hp => ?_
      rw [bst0] at hp
      have z : 2 ^ (r.length + 1 - (i + 2)) ≤ 8192 := pow13 _ (by omega)
      have e67 := e6.trans e7
      refine ⟨ra, p, d, r, i + 2, _, _, c, L, rfl, ex_l e67 hr', l2, hp, m.mono e67, g, by omega, by omega, ?_, fun H8 N e8 m8 g8 i8 l8 => ?_⟩
      · have : i * 8192 ≤ 12 * 8192 := Nat.mul_le_mul_right _ (by omega)
        omega
      · have m7 := m.mono e67
        have st8 := exb_t m7 e8 (e67 _ _ st)
        have ex8 : Ex H2 H8 := fun x o h => by
          by_cases hx : x = d
          · rw [hx, hd] at h; cases h
          · exact e8 x o hx ((ex.trans e67) x o h)
        have hf8 := ex_l ex8 hf2
        have hr8 := ex_l ex8 hr2
        refine ⟨_, _, rfl, rfl, ?_⟩
        refine s_asgU (eu_call (vs := [.ref S, .int (f.getD i 0), .int (r.getD (i + 1) 0)]) (ea_cons (ev_var rfl) (ea_cons (ev_op (ev_var rfl) (ev_is (ev_op (ev_var rfl) ev_c rv_I0) (congrArg V.int (show ((i + 1 : Nat) : Int) - 1 = (i : Int) by omega))) (rv_ixL hf8 (atI_nat (iv_at (getD_of hif))))) (ea_cons (ev_op (ev_var rfl) (ev_var rfl) (rv_ixL hr8 (atI_nat (iv_at (getD_of hi'))))) ea_nil))) (su_behind st8)) fun S' H9 hS' e9 h9 => ?_
        rw [hb', bst1] at h9
        refine ⟨num + cnt (r.drop (i + 1 + 1)) (a + r.getD (i + 1) 0) (max 0 (b - r.getD (i + 1) 0)) c, S', _, _, L ++ N, some (.int ((i + 1 : Nat) : Int)), ?_, ⟨ex8.trans e9, m8.mono e9, g8, by rw [List.length_append]; omega, h9⟩, by omega⟩
        rw [Int.natCast_add]
        rfl
    · have hb' := of_decide_eq_false hb
      have en : numOf (r.getD (i + 1) 0 :: r.drop (i + 1 + 1)) a b c (f.getD i 0 :: f.drop (i + 1)) = numOf (r.drop (i + 1 + 1)) (a + r.getD (i + 1) 0) (max 0 (b - r.getD (i + 1) 0)) c (f.drop (i + 1)) := if_neg hb'
      rw [en] at eq
      refine s_asgU (eu_call (vs := [.ref S, .int (f.getD i 0), .int (r.getD (i + 1) 0)]) (ea_cons (ev_var rfl) (ea_cons (eix H6 e6) (ea_cons (ev_op (ev_var rfl) (ev_var rfl) (rv_ixL (ex_l e6 hr') (atI_nat (iv_at (getD_of hi'))))) ea_nil))) (su_behind (e6 _ _ st))) fun S' H9 hS' e9 h9 => ?_
      have eb : bst (f.getD i 0) a b (r.getD (i + 1) 0) = [.int (a + r.getD (i + 1) 0), .int (max 0 (b - r.getD (i + 1) 0))] := if_neg hb'
      rw [eb] at h9
      exact ⟨num, S', _, _, L, _, rfl, ⟨(ex.trans e6).trans e9, (m.mono e6).mono e9, g, by omega, h9⟩, eq⟩
  · rintro σ' H' ⟨num, S, a, b, L, k1, rfl, ⟨ex, m, g, sz, st⟩, eq⟩
    rw [List.drop_eq_nil_of_le (by omega)] at eq
    have eq' : num = numFor r c f := by rw [← eq]; rfl
    refine s_ret (ev_var rfl) fun H7 e7 => ?_
    rw [← eq'] at q
    exact q H7 ((e12.trans ex).trans e7)
theorem sp_number0 {a b : Addr} {r f : List Int} {c : Int} (hr : SqL K H a (iv r)) (hf : SqL K H b (iv f)) (ok : OkR r) (okf : OkF r f) (hs : spanOf r f ≤ c) : SpV (p_number_of0 P w K) [.ref a, .int c, .ref b] H (.int (numFor r c f : Nat)) := fun H1 e Q q E => ⟨a, b, r, f, c, rfl, ex_l e hr, ex_l e hf, ok, okf, hs, fun H2 e2 => q H2 e2⟩
end
end Fo

/-! Lists of whole numbers in their order: < and >=. -/
namespace Fo
open PySem PySem.Spec PyProof.Rows L2 Evl
open PySem.AutoSeq1 PySem.MeetsSeq PySem.MeetsSeq2 PySem.MeetsSeq3 PySem.SeqRoads2 PySem.SeqAt
section
theorem ints_at {us : List Value} {ns : List Int} (h : IntsAre us ns) (i : Nat) (hi : i < us.length) : ∃ t, us[i]? = some (Value.int (ns.getD i 0) t) ∧ i < ns.length := by
  induction h generalizing i with
  | nil => exact absurd hi (Nat.not_lt_zero _)
  | cons n t _ ih =>
    cases i with
    | zero => exact ⟨t, rfl, by simp⟩
    | succ j =>
      obtain ⟨t', h1, h2⟩ := ih j (by simpa using hi)
      exact ⟨t', by simpa using h1, by simp; omega⟩
theorem le_not (a b : Int) : decide (b ≤ a) = !decide (a < b) := by
  by_cases z : a < b
  · rw [decide_eq_true z, decide_eq_false (by omega)]; rfl
  · rw [decide_eq_false z, decide_eq_true (by omega)]; rfl
theorem sizes_ge {R : Result → Shared → Prop} {s : Shared} (m n : Nat) (k : Bool) (h : decide (m ≥ n) = k) : R (.ok (.ret (.bool k))) s ↔ R (.ok (.ret (.bool (decide (m ≥ n))))) s := by rw [h]
variable (la lb : Addr) (za zb : Array Value) (ka kb : Nat) (da db : Option Addr) (ea eb : Array (Option Value)) (na nb : List Int)
/-- the walk of list.__eq__.loop for >= -/
theorem geI_loop (ia : IntsAre za.toList na) (ib : IntsAre zb.toList nb) : ∀ (m i : Nat), i ≤ na.length → na.length - i = m →
    Meets (Builtin.«list.__eq__.loop» ⟨[.ref la, .ref lb, rawInt i, rawInt 5], []⟩)
      (fun _ R s => (s.heap.get? la = some { cls := .type "list", dict := da, data := .seq za ka, slots := ea } ∧ s.heap.get? lb = some { cls := .type "list", dict := db, data := .seq zb kb, slots := eb }) ∧ R (.ok (.ret (.bool (!HT.lexLt (na.drop i) (nb.drop i))))) s) := by
  have sa : za.size = na.length := by have := ia.length; simpa using this
  have sb : zb.size = nb.length := by have := ib.length; simpa using this
  intro m
  induction m with
  | zero =>
    intro i hle hm prog w A R s h
    obtain ⟨hp, g, d, tk, os⟩ := s
    obtain ⟨⟨h1, h2⟩, h⟩ := h
    rw [List.drop_eq_nil_of_le (show na.length ≤ i by omega)] at h
    have nn : za[((i : Nat) : Int).toNat]? = none := by simp; omega
    wp_walk using wpAny_loadPart' h1, wpAny_loadPart' h2
    rw [nn]
    wp_walk using wpAny_loadPart' h1, wpAny_loadPart' h2
    by_cases hb : i < nb.length
    · rw [drop_getD hb, HT.lexLt_nil_cons] at h
      exact (sizes_ge (za.size) zb.size false (decide_eq_false (by omega))).mp h
    · rw [List.drop_eq_nil_of_le (by omega), HT.lexLt_nil_nil] at h
      exact (sizes_ge (za.size) zb.size true (decide_eq_true (by omega))).mp h
  | succ m ih =>
    intro i hle hm prog w A R s h
    obtain ⟨hp, g, d, tk, os⟩ := s
    obtain ⟨⟨h1, h2⟩, h⟩ := h
    have hi : i < na.length := by omega
    obtain ⟨ta, ga, _⟩ := ints_at ia i (by simpa [sa] using hi)
    have ga' : za[((i : Nat) : Int).toNat]? = some (Value.int (na.getD i 0) ta) := by simpa using ga
    wp_walk using wpAny_loadPart' h1, wpAny_loadPart' h2
    rw [ga']
    by_cases hb : i < nb.length
    · obtain ⟨tb, gb, _⟩ := ints_at ib i (by simpa [sb] using hb)
      have gb' : zb[((i : Nat) : Int).toNat]? = some (Value.int (nb.getD i 0) tb) := by simpa using gb
      rw [gb']
      rw [drop_getD hi, drop_getD hb, HT.lexLt_cons] at h
      refine wpAny_bind (wpAny_eqBool_int ?_)
      by_cases e : na.getD i 0 = nb.getD i 0
      · rw [if_pos e] at h
        rw [show (na.getD i 0 == nb.getD i 0) = true from beq_iff_eq.mpr e]
        wp_walk
        rw [show ((i : Int) + 1) = ((i + 1 : Nat) : Int) by omega]
        exact ⟨plainId_quiet plain_eq_loop _, codeAny_builtin entry_eq_loop (by
          rw [Around.under_plainId plain_eq_loop _]
          exact ih (i + 1) (by omega) (by omega) prog w A R _ ⟨⟨h1, h2⟩, h⟩)⟩
      · rw [if_neg e] at h
        rw [show (na.getD i 0 == nb.getD i 0) = false from beq_eq_false_iff_ne.mpr e]
        wp_walk using wpAny_loadPart' h1, wpAny_loadPart' h2
        rw [ga', gb']
        dsimp only
        refine wpAny_bind (PyProof.Rows.ge_int ?_)
        wp_walk
        rw [le_not]
        exact h
    · have nn : zb[((i : Nat) : Int).toNat]? = none := by simp; omega
      rw [nn]
      rw [drop_getD hi, List.drop_eq_nil_of_le (show nb.length ≤ i by omega), HT.lexLt_cons_nil] at h
      wp_walk using wpAny_loadPart' h1, wpAny_loadPart' h2
      exact (sizes_ge (za.size) zb.size true (decide_eq_true (by omega))).mp h
theorem geI_list (ia : IntsAre za.toList na) (ib : IntsAre zb.toList nb) :
    Meets (Builtin.«list.__ge__» ⟨[.ref la, .ref lb], []⟩)
      (fun _ R s => (s.heap.get? la = some { cls := .type "list", dict := da, data := .seq za ka, slots := ea } ∧ s.heap.get? lb = some { cls := .type "list", dict := db, data := .seq zb kb, slots := eb }) ∧ R (.ok (.ret (.bool (!HT.lexLt na nb)))) s) := by
  intro prog w A R s h
  obtain ⟨hp, g, d, tk, os⟩ := s
  obtain ⟨⟨h1, h2⟩, h⟩ := h
  have f3 := AutoSeq1.sub_list_list
  wp_walk using wpAny_loadPart' h1, wpAny_loadPart' h2
  exact ⟨plainId_quiet plain_eq_loop _, codeAny_builtin entry_eq_loop (by
    rw [Around.under_plainId plain_eq_loop _]
    exact geI_loop la lb za zb ka kb da db ea eb na nb ia ib _ 0 (Nat.zero_le _) rfl prog w A R _ ⟨⟨h1, h2⟩, by simpa using h⟩)⟩
variable {X : Cx}
theorem op_geL (hu : X.A.units < cLine) : OpR X (compareOp .GtE) (fun x y H Q => ∃ a b ns ms, x = .ref a ∧ y = .ref b ∧ SqL X.K H a (iv ns) ∧ SqL X.K H b (iv ms) ∧ Q (.bl (!HT.lexLt ns ms)) H) := by
  intro pins s σ H x y v u Q I rx ry h
  obtain ⟨a, b, ns, ms, rfl, rfl, h1, h2, q⟩ := h
  cases (show v = Value.ref a from rx)
  cases (show u = Value.ref b from ry)
  obtain ⟨its, r1, ⟨⟨oc, od, dt, sl⟩, n, g1, g2, g3, g4⟩, _⟩ := I.list h1
  obtain ⟨its2, r2, ⟨⟨oc2, od2, dt2, sl2⟩, n2, f1, f2, f3, f4⟩, _⟩ := I.list h2
  simp only at g2 g3 g4 f2 f3 f4
  subst g2 g3 g4 f2 f3 f4
  refine richCompare_meets_room (op := .GtE) ⟨_, g1, rfl⟩ ⟨_, f1, rfl⟩ F.slot_list_ge F.entry_list_ge (F.args_list_ge_2 _ _) (geI_list a b its.toArray its2.toArray n n2 none none sl sl2 ns ms (by simpa using Vals.ints r1) (by simpa using Vals.ints r2)) ⟨⟨g1, f1⟩, ?_⟩ hu
  exact ⟨(fun x => nomatch x), .bl _, H, I, rfl, q⟩
theorem firstLt_lex : ∀ (k : Nat) (ns ms : List Int) (e r : Nat → Bool) (i : Nat), (∀ j, e j = true ↔ ns.getD j 0 = ms.getD j 0) → (∀ j, r j = decide (ns.getD j 0 < ms.getD j 0)) → min ns.length ms.length = i + k →
    firstLt e r (decide (ns.length < ms.length)) ((List.range (min ns.length ms.length)).drop i) = HT.lexLt (ns.drop i) (ms.drop i)
  | 0, ns, ms, e, r, i, he, hr, h => by
    rw [List.drop_eq_nil_of_le (by simp; omega)]
    show decide (ns.length < ms.length) = _
    by_cases h1 : ns.length ≤ i
    · rw [List.drop_eq_nil_of_le h1]
      by_cases h2 : i < ms.length
      · rw [drop_getD h2, HT.lexLt_nil_cons, decide_eq_true (by omega)]
      · rw [List.drop_eq_nil_of_le (by omega), HT.lexLt_nil_nil, decide_eq_false (by omega)]
    · rw [drop_getD (by omega), List.drop_eq_nil_of_le (show ms.length ≤ i by omega), HT.lexLt_cons_nil, decide_eq_false (by omega)]
  | k + 1, ns, ms, e, r, i, he, hr, h => by
    have hd : (List.range (min ns.length ms.length)).drop i = i :: (List.range (min ns.length ms.length)).drop (i + 1) := by
      rw [List.drop_eq_getElem_cons (by simp; omega)]
      simp
    rw [hd, drop_getD (show i < ns.length by omega), drop_getD (show i < ms.length by omega), HT.lexLt_cons, ← firstLt_lex k ns ms e r (i + 1) he hr (by omega)]
    by_cases z : ns.getD i 0 = ms.getD i 0
    · rw [if_pos z]
      exact firstLt_yes ((he i).mpr z)
    · rw [if_neg z, ← hr i]
      exact firstLt_no (Bool.eq_false_iff.mpr fun q => z ((he i).mp q))
theorem op_ltL (hu : X.A.units < cLine) : OpR X (compareOp .Lt) (fun x y H Q => ∃ a b ns ms, x = .ref a ∧ y = .ref b ∧ SqL X.K H a (iv ns) ∧ SqL X.K H b (iv ms) ∧ Q (.bl (HT.lexLt ns ms)) H) := by
  intro pins s σ H x y v u Q I rx ry h
  obtain ⟨a, b, ns, ms, rfl, rfl, h1, h2, q⟩ := h
  cases (show v = Value.ref a from rx)
  cases (show u = Value.ref b from ry)
  obtain ⟨its, r1, p1, _⟩ := I.list h1
  obtain ⟨its2, r2, p2, _⟩ := I.list h2
  have i1 := Vals.ints r1
  have i2 := Vals.ints r2
  have l1 := i1.length
  have l2 := i2.length
  have at1 : ∀ j (hj : j < its.toArray.size), ∃ t, its.toArray[j] = Value.int (ns.getD j 0) t := fun j hj => by
    obtain ⟨t, e, _⟩ := ints_at i1 j (by simpa using hj)
    exact ⟨t, by simpa using (List.getElem?_eq_some_iff.mp e).2⟩
  have at2 : ∀ j (hj : j < its2.toArray.size), ∃ t, its2.toArray[j] = Value.int (ms.getD j 0) t := fun j hj => by
    obtain ⟨t, e, _⟩ := ints_at i2 j (by simpa using hj)
    exact ⟨t, by simpa using (List.getElem?_eq_some_iff.mp e).2⟩
  refine RcLt.lists (e := fun j => decide (ns.getD j 0 = ms.getD j 0)) (r := fun j => decide (ns.getD j 0 < ms.getD j 0)) p1.isList p2.isList hu (fun j h1 h2 => ?_) (fun j h1 h2 _ => ?_) _ _ _ _ ?_
  · obtain ⟨t, e⟩ := at1 j h1
    obtain ⟨t', e'⟩ := at2 j h2
    rw [e, e']
    intro prog w E Q' hq
    refine wpAny_eqBool_int ?_
    rw [Bool.beq_eq_decide_eq]
    exact hq
  · obtain ⟨t, e⟩ := at1 j h1
    obtain ⟨t', e'⟩ := at2 j h2
    rw [e, e']
    intro prog w E Q' hq
    exact PyProof.Rows.lt_int hq
  · refine ⟨.bl _, H, I, rfl, ?_⟩
    have h := firstLt_lex (min ns.length ms.length) ns ms (fun j => decide (ns.getD j 0 = ms.getD j 0)) (fun j => decide (ns.getD j 0 < ms.getD j 0)) 0 (fun j => by simp) (fun j => rfl) (by omega)
    rw [List.drop_zero, List.drop_zero, List.drop_zero] at h
    simp only [List.size_toArray, l1, l2]
    rw [h]
    exact q
end
def rGeL (K : PySem.W.Frag) : R2 := fun x y H Q => ∃ a b ns ms, x = .ref a ∧ y = .ref b ∧ SqL K H a (iv ns) ∧ SqL K H b (iv ms) ∧ Q (.bl (!HT.lexLt ns ms)) H
def rLtL (K : PySem.W.Frag) : R2 := fun x y H Q => ∃ a b ns ms, x = .ref a ∧ y = .ref b ∧ SqL K H a (iv ns) ∧ SqL K H b (iv ms) ∧ Q (.bl (HT.lexLt ns ms)) H
end Fo

/-! The order of numbers and foldings; a case that takes all: plain Lean. -/
namespace Fo
/-- less in the order of lists -/
def lexI : List Int → List Int → Bool
  | [], [] => false
  | [], _ :: _ => true
  | _ :: _, [] => false
  | x :: xs, y :: ys => if x = y then lexI xs ys else decide (x < y)
theorem lexI_self : ∀ l : List Int, lexI l l = false
  | [] => rfl
  | x :: l => by show (if x = x then lexI l l else _) = false; rw [if_pos rfl]; exact lexI_self l
theorem lexI_asym : ∀ l m : List Int, lexI l m = true → lexI m l = false
  | [], [], h => rfl
  | [], _ :: _, _ => rfl
  | _ :: _, [], h => by cases h
  | x :: l, y :: m, h => by
    have h' : (if x = y then lexI l m else decide (x < y)) = true := h
    show (if y = x then lexI m l else decide (y < x)) = false
    by_cases e : x = y
    · rw [if_pos e] at h'
      rw [if_pos e.symm]
      exact lexI_asym l m h'
    · rw [if_neg e] at h'
      rw [if_neg fun z => e z.symm]
      have := of_decide_eq_true h'
      exact decide_eq_false (by omega)
theorem foldAt_lt : ∀ (rs : List Int) (a b c : Int) (n m : Nat), n < m → m < cnt rs a b c → lexI (foldAt rs a b c n) (foldAt rs a b c m) = true
  | [], a, b, c, n, m, h, hm => by
    have h' : m < if a + b > c then 0 else 1 := hm
    split at h' <;> omega
  | l :: rs, a, b, c, n, m, h, hm => by
    have hm' : m < if a + b > c then 0 else cnt rs (a + l) (max 0 (b - l)) c + cnt rs (b + l) (max 0 (a - l)) c := hm
    have hm2 : m < cnt rs (a + l) (max 0 (b - l)) c + cnt rs (b + l) (max 0 (a - l)) c := by split at hm' <;> omega
    by_cases h1 : cnt rs (a + l) (max 0 (b - l)) c ≤ n
    · have e1 : foldAt (l :: rs) a b c n = 1 :: foldAt rs (b + l) (max 0 (a - l)) c (n - cnt rs (a + l) (max 0 (b - l)) c) := if_pos h1
      have e2 : foldAt (l :: rs) a b c m = 1 :: foldAt rs (b + l) (max 0 (a - l)) c (m - cnt rs (a + l) (max 0 (b - l)) c) := if_pos (by omega)
      rw [e1, e2]
      show (if (1 : Int) = 1 then _ else _) = true
      rw [if_pos rfl]
      exact foldAt_lt rs _ _ c _ _ (by omega) (by omega)
    · have e1 : foldAt (l :: rs) a b c n = 0 :: foldAt rs (a + l) (max 0 (b - l)) c n := if_neg h1
      rw [e1]
      by_cases h2 : cnt rs (a + l) (max 0 (b - l)) c ≤ m
      · have e2 : foldAt (l :: rs) a b c m = 1 :: foldAt rs (b + l) (max 0 (a - l)) c (m - cnt rs (a + l) (max 0 (b - l)) c) := if_pos h2
        rw [e2]
        rfl
      · have e2 : foldAt (l :: rs) a b c m = 0 :: foldAt rs (a + l) (max 0 (b - l)) c m := if_neg h2
        rw [e2]
        show (if (0 : Int) = 0 then _ else _) = true
        rw [if_pos rfl]
        exact foldAt_lt rs _ _ c _ _ h (by omega)
def binv (f : List Int) (d : Int) : Int := f.foldl (fun d t => 2 * d + t) d
theorem binv_cons (t : Int) (f : List Int) (d : Int) : binv (t :: f) d = binv f (2 * d + t) := rfl
theorem binv_add : ∀ (f : List Int) (d : Int), binv f d = d * 2 ^ f.length + binv f 0
  | [], d => by show d = d * 1 + 0; omega
  | t :: f, d => by
    rw [binv_cons, binv_cons, binv_add f (2 * d + t), binv_add f (2 * 0 + t), List.length_cons, Int.pow_succ]
    generalize (2 : Int) ^ f.length = p
    have e1 : 2 * (0 : Int) + t = t := by omega
    have e2 : 2 * d * p = d * (p * 2) := by rw [Int.mul_comm 2 d, Int.mul_assoc, Int.mul_comm 2]
    rw [e1, Int.add_mul, e2]
    omega
theorem cnt_full : ∀ (rs : List Int) (a b c : Int), (∀ x ∈ rs, 0 ≤ x) → 0 ≤ a → 0 ≤ b → a + b + rs.sum ≤ c → cnt rs a b c = 2 ^ rs.length
  | [], a, b, c, _, _, _, h => by
    rw [List.sum_nil] at h
    exact if_neg (by omega)
  | l :: rs, a, b, c, hp, ha, hb, h => by
    rw [List.sum_cons] at h
    have hl := hp l List.mem_cons_self
    have hr : ∀ x ∈ rs, 0 ≤ x := fun x hx => hp x (List.mem_cons_of_mem _ hx)
    have hs : 0 ≤ rs.sum := by
      clear h
      induction rs with
      | nil => exact Int.le_refl _
      | cons y ys ih =>
        rw [List.sum_cons]
        have h1 := hr y List.mem_cons_self
        have h2 := ih (fun x hx => hp x (by
          rcases List.mem_cons.mp hx with rfl | hx
          · exact List.mem_cons_self
          · exact List.mem_cons_of_mem _ (List.mem_cons_of_mem _ hx))) (fun x hx => hr x (List.mem_cons_of_mem _ hx))
        omega
    show (if a + b > c then 0 else _) = _
    rw [if_neg (by omega), cnt_full rs _ _ c hr (by omega) (by omega) (by omega), cnt_full rs _ _ c hr (by omega) (by omega) (by omega), List.length_cons, Nat.pow_succ]
    omega
theorem sum_nn {l : List Int} (h : ∀ x ∈ l, 0 ≤ x) : 0 ≤ l.sum := by
  induction l with
  | nil => exact Int.le_refl _
  | cons y ys ih =>
    rw [List.sum_cons]
    have h1 := h y List.mem_cons_self
    have h2 := ih fun x hx => h x (List.mem_cons_of_mem _ hx)
    omega
theorem sp_le : ∀ (rs f : List Int) (a b : Int), (∀ x ∈ rs, 0 ≤ x) → 0 ≤ a → 0 ≤ b → sp a b rs f ≤ a + b + rs.sum
  | [], f, a, b, _, _, _ => by cases f <;> (show a + b ≤ a + b + 0; omega)
  | l :: rs, [], a, b, h, _, _ => by
    have := sum_nn h
    show a + b ≤ _
    omega
  | l :: rs, t :: f, a, b, h, ha, hb => by
    have hl := h l List.mem_cons_self
    have hr : ∀ x ∈ rs, 0 ≤ x := fun x hx => h x (List.mem_cons_of_mem _ hx)
    rw [List.sum_cons]
    show (if t = 1 then _ else _) ≤ _
    split
    · have := sp_le rs f (b + l) (max 0 (a - l)) hr (by omega) (by omega)
      omega
    · have := sp_le rs f (a + l) (max 0 (b - l)) hr (by omega) (by omega)
      omega
theorem numOf_full : ∀ (rs : List Int) (a b c : Int) (f : List Int), (∀ x ∈ rs, 0 ≤ x) → 0 ≤ a → 0 ≤ b → a + b + rs.sum ≤ c → f.length = rs.length → (∀ t ∈ f, t = 0 ∨ t = 1) → (numOf rs a b c f : Int) = binv f 0
  | [], a, b, c, f, _, _, _, _, hl, _ => by
    have e : f = [] := List.length_eq_zero_iff.mp hl
    subst e; rfl
  | l :: rs, a, b, c, [], _, _, _, _, hl, _ => by simp at hl
  | l :: rs, a, b, c, t :: f, hp, ha, hb, h, hl, ht => by
    rw [List.sum_cons] at h
    have hl' := hp l List.mem_cons_self
    have hr : ∀ x ∈ rs, 0 ≤ x := fun x hx => hp x (List.mem_cons_of_mem _ hx)
    have hlen : f.length = rs.length := by simpa using hl
    have hb' : ∀ t ∈ f, t = 0 ∨ t = 1 := fun x hx => ht x (List.mem_cons_of_mem _ hx)
    have hs := sum_nn hr
    rw [binv_cons]
    rcases ht t List.mem_cons_self with rfl | rfl
    · have e : numOf (l :: rs) a b c (0 :: f) = numOf rs (a + l) (max 0 (b - l)) c f := if_neg (by decide)
      rw [e, numOf_full rs _ _ c f hr (by omega) (by omega) (by omega) hlen hb']
      rfl
    · have e : numOf (l :: rs) a b c (1 :: f) = cnt rs (a + l) (max 0 (b - l)) c + numOf rs (b + l) (max 0 (a - l)) c f := if_pos rfl
      rw [e, Int.natCast_add, numOf_full rs _ _ c f hr (by omega) (by omega) (by omega) hlen hb', cnt_full rs _ _ c hr (by omega) (by omega) (by omega), binv_add f (2 * 0 + 1), hlen]
      simp
theorem at_lt {r : List Int} {c : Int} {n m : Nat} (h : n < m) (hm : m < many r c) : lexI (atNum r c n) (atNum r c m) = true := foldAt_lt _ _ _ _ _ _ h hm
theorem sum_split {r : List Int} (h : 1 ≤ r.length) : r.sum = r.getD 0 0 + (r.drop 1).sum := by
  cases r with
  | nil => simp at h
  | cons x r => simp
theorem num_full {r f : List Int} (hr : OkR r) (hf : OkF r f) {c : Int} (hc : r.sum ≤ c) : (numFor r c f : Int) = binv f 0 ∧ spanOf r f ≤ c := by
  have h1 := hr.l1
  have h0 := hr.all _ (getD_mem (i := 0) (by omega))
  have hs := sum_split h1
  have hlen := hf.len
  refine ⟨numOf_full _ _ _ c f (drop_nn hr) (by omega) (by omega) (by omega) (by rw [List.length_drop]; omega) hf.all, ?_⟩
  rw [span_sp hr hf.len]
  have := sp_le (r.drop 1) f (r.getD 0 0) 0 (drop_nn hr) (by omega) (by omega)
  omega
theorem sum_le {r : List Int} (h : ∀ x ∈ r, x ≤ 60) : r.sum ≤ 60 * r.length := by
  induction r with
  | nil => exact Int.le_refl _
  | cons y ys ih =>
    rw [List.sum_cons, List.length_cons]
    have h1 := h y List.mem_cons_self
    have h2 := ih fun x hx => h x (List.mem_cons_of_mem _ hx)
    omega
end Fo

namespace Fo
open PySem PySem.Spec PyProof.Rows L2 Evl
theorem lexLt_eq : ∀ l m : List Int, HT.lexLt l m = lexI l m
  | [], [] => rfl
  | [], _ :: _ => rfl
  | _ :: _, [] => rfl
  | x :: l, y :: m => by
    rw [HT.lexLt_cons, lexLt_eq l m]
    rfl
section
variable {K : PySem.W.Frag} {σ : L2.St} {H H' : Hp} {ta tb tc te tx tl : TE} {t u : TT} {x y z v : V} {r r' : R2}
/-- a call one of whose two arguments is a new list -/
theorem ev_callL {sp : Sp} {E : XK} {xs : List V} (h : EvL te σ H xs) (h2 : ∀ H1, Ex H H1 → Ev tb σ H1 y) (hs : ∀ p H1, H1 p = some (.lst xs) → Ex H H1 → SpV sp [.ref p, y] H1 z) : Ev (tCall sp [] E (tCons te (tCons tb tNil))) σ H z := fun H1 e Q q =>
  h H1 e _ fun p H2 _ e2 hp => h2 H2 (e.trans e2) H2 (Ex.refl _) _ fun H3 e3 => hs p H3 (e3 _ _ hp) ((e.trans e2).trans e3) H3 (Ex.refl _) Q (fun H4 e4 => q H4 ((e2.trans e3).trans e4)) E
theorem rv_ltL {a b : Addr} {ns ms : List Int} (h1 : SqL K H a (iv ns)) (h2 : SqL K H b (iv ms)) : RV (rLtL K) (.ref a) (.ref b) H (.bl (lexI ns ms)) := fun H1 e Q q => ⟨a, b, ns, ms, rfl, rfl, ex_l e h1, ex_l e h2, by rw [lexLt_eq]; exact q H1 (Ex.refl _)⟩
theorem rv_geL {a b : Addr} {ns ms : List Int} (h1 : SqL K H a (iv ns)) (h2 : SqL K H b (iv ms)) : RV (rGeL K) (.ref a) (.ref b) H (.bl (!lexI ns ms)) := fun H1 e Q q => ⟨a, b, ns, ms, rfl, rfl, ex_l e h1, ex_l e h2, by rw [lexLt_eq]; exact q H1 (Ex.refl _)⟩
theorem ev_sumL {a : Addr} {ns : List Int} (h : Ev te σ H (.ref a)) (hs : SqL K H a (iv ns)) : Ev (tCB (rSum K) (tCons te tNil)) σ H (.int ns.sum) := fun H1 e Q q => h H1 e _ fun H2 e2 => ⟨a, ns, rfl, ex_l (e.trans e2) hs, q H2 e2⟩
theorem er_sortN {ns : List Int} (h : EvL te σ H (iv ns)) (hz : ns.length < 64) : EvR (tCB (rSorted K) (tCons te tNil)) σ H (fun v H2 => ∃ p ns', v = .ref p ∧ H p = none ∧ H2 p = some (.lst (iv ns')) ∧ ns'.Perm ns ∧ ns'.Pairwise (· ≤ ·)) := fun H1 e Q q =>
  h H1 e _ fun a H2 _ e2 h2 => ⟨a, ns, rfl, sq_of h2, hz, fun ns' p perm srt hp => q _ _ (e2.trans (Ex.new hp)) ⟨p, ns', rfl, fresh_back (e.trans e2) hp, upd_same, perm, srt⟩⟩
/-- the lists that a comprehension has made, all new, no two of them one -/
structure Made (H H' : Hp) (D : Addr) (as : List Addr) (c : Nat → List V) : Prop where
  dn : H D = none
  ex : Ex H H'
  at_ : H' D = some (.lst (as.map V.ref))
  nd : as.Nodup
  dm : D ∉ as
  el : ∀ k l, as[k]? = some l → H l = none ∧ H' l = some (.lst (c k))
theorem Made.turn {H0 H H1 : Hp} {D p : Addr} {as : List Addr} {c : Nat → List V} (m : Made H0 H D as c) (e : Ex H H1) (hn : H p = none) (hp : H1 p = some (.lst (c as.length))) : Made H0 (upd H1 D (.lst (as.map V.ref ++ [.ref p]))) D (as ++ [p]) c := by
  have pD : p ≠ D := fun z => by rw [z, m.at_] at hn; cases hn
  have pas : p ∉ as := fun z => by
    obtain ⟨k, hk⟩ := List.mem_iff_getElem?.mp z
    have := (m.el k p hk).2
    rw [hn] at this; cases this
  have p0 : H0 p = none := fresh_back m.ex hn
  refine ⟨m.dn, Ex.mut (m.ex.trans e) m.dn, by rw [upd_same, List.map_append]; rfl, ?_, ?_, fun k l hk => ?_⟩
  · rw [List.nodup_append]
    exact ⟨m.nd, by simp, fun a ha b hb z => by rw [List.mem_singleton.mp hb] at z; exact pas (z ▸ ha)⟩
  · intro z
    rcases List.mem_append.mp z with z | z
    · exact m.dm z
    · exact pD (List.mem_singleton.mp z).symm
  · by_cases hk' : k < as.length
    · rw [List.getElem?_append_left hk'] at hk
      obtain ⟨h1, h2⟩ := m.el k l hk
      have lD : l ≠ D := fun z => m.dm (z ▸ List.mem_of_getElem? hk)
      exact ⟨h1, by rw [upd_ne lD]; exact e _ _ h2⟩
    · have hk2 : k = as.length := by
        have := (List.getElem?_eq_some_iff.mp hk).1
        rw [List.length_append, List.length_singleton] at this
        omega
      subst hk2
      rw [List.getElem?_append_right (Nat.le_refl _), Nat.sub_self] at hk
      have e1 : p = l := by simpa using hk
      subst e1
      exact ⟨p0, by rw [upd_ne pD]; exact hp⟩
theorem Made.start {H : Hp} {D : Addr} {c : Nat → List V} (h : H D = none) : Made H (upd H D (.lst [])) D [] c := ⟨h, Ex.new h, upd_same, List.nodup_nil, by simp, fun k l hk => by simp at hk⟩
theorem Made.back {H0 H H' : Hp} {D : Addr} {as : List Addr} {c : Nat → List V} (m : Made H H' D as c) (e : Ex H0 H) : Made H0 H' D as c := ⟨fresh_back e m.dn, e.trans m.ex, m.at_, m.nd, m.dm, fun k l hk => ⟨fresh_back e (m.el k l hk).1, (m.el k l hk).2⟩⟩
theorem er_lcLL {a : Addr} {xs : List V} {j : Nat} {vs : List Nat} (c : Nat → List V) (h : Ev tl σ H (.ref a)) (hx : SqL K H a xs) (hz : xs.length ≤ 40000) (hw : ∀ x, wipe ((wipe σ vs).set j (some x)) vs = wipe σ vs)
    (he : ∀ (i : Nat) (x : V) H1, Ex H H1 → xs[i]? = some x → EvL te ((wipe σ vs).set j (some x)) H1 (c i)) :
    EvR (tLc (iList K tl) (gName j) tYes te vs) σ H (fun w H2 => ∃ p as, w = .ref p ∧ as.length = xs.length ∧ Made H H2 p as c) := fun H0 e Q q => h H0 e _ fun H1 e1 => ⟨a, rfl, ⟨xs, ex_l (e.trans e1) hx⟩, fun Dl hD =>
  lc_list (xs := xs) (fun i H' => ∃ as, as.length = i ∧ Made H1 H' Dl as c) ⟨[], rfl, Made.start hD⟩ (fun i H' _ ⟨as, _, p⟩ => ex_l ((e.trans e1).trans p.ex) hx)
    (fun i x H' hi ⟨as, hl, p⟩ => ⟨hw x, by
      show te ((wipe σ vs).set j (some x)) H' fun y H4 => ∃ acc, H4 Dl = some (.lst acc) ∧ acc.length < sizeLine ∧ ∃ as, as.length = i + 1 ∧ Made H1 (upd H4 Dl (.lst (acc ++ [y]))) Dl as c
      refine he i x H' ((e.trans e1).trans p.ex) hi H' (Ex.refl _) _ fun p' H4 hp' e4 h4 => ⟨as.map V.ref, e4 _ _ p.at_, ?_, as ++ [p'], by simp [hl], p.turn e4 hp' (by rw [hl]; exact h4)⟩
      rw [List.length_map, hl]
      have := (List.getElem?_eq_some_iff.mp hi).1
      exact sz_lt (by omega)⟩)
    (fun H' ⟨as, hl, p⟩ => q _ H' (e1.trans p.ex) ⟨Dl, as, rfl, hl, p.back (e.trans e1)⟩)⟩
theorem er_lcRL {ta : TA} {n : Nat} {j : Nat} {vs : List Nat} (c : Nat → List V) (h : EvA ta σ H [.int (n : Int)]) (hz : n ≤ 40000) (hw : ∀ x, wipe ((wipe σ vs).set j (some x)) vs = wipe σ vs)
    (he : ∀ (i : Nat) H1, Ex H H1 → i < n → EvL te ((wipe σ vs).set j (some (.int (i : Int)))) H1 (c i)) :
    EvR (tLc (iRng1 ta) (gName j) tYes te vs) σ H (fun w H2 => ∃ p as, w = .ref p ∧ as.length = n ∧ Made H H2 p as c) := fun H0 e Q q => h H0 e _ fun H1 e1 => ⟨n, rfl, by omega, by omega, fun Dl hD =>
  lc_range (lo := 0) (n := (n : Int).toNat) (fun i H' => ∃ as, as.length = i ∧ Made H1 H' Dl as c) ⟨[], rfl, Made.start hD⟩
    (fun i H' hi ⟨as, hl, p⟩ => by
      have hi' : i < n := by omega
      rw [show (0 : Int) + (i : Int) = (i : Int) from Int.zero_add _]
      refine ⟨hw _, ?_⟩
      show te ((wipe σ vs).set j (some (.int (i : Int)))) H' fun y H4 => ∃ acc, H4 Dl = some (.lst acc) ∧ acc.length < sizeLine ∧ ∃ as, as.length = i + 1 ∧ Made H1 (upd H4 Dl (.lst (acc ++ [y]))) Dl as c
      refine he i H' ((e.trans e1).trans p.ex) hi' H' (Ex.refl _) _ fun p' H4 hp' e4 h4 => ⟨as.map V.ref, e4 _ _ p.at_, ?_, as ++ [p'], by simp [hl], p.turn e4 hp' (by rw [hl]; exact h4)⟩
      rw [List.length_map, hl]
      exact sz_lt (by omega))
    (fun H' ⟨as, hl, p⟩ => q _ H' (e1.trans p.ex) ⟨Dl, as, rfl, by simpa using hl, p.back (e.trans e1)⟩)⟩
theorem Made.get {H0 H : Hp} {D : Addr} {as : List Addr} {c : Nat → List V} (m : Made H0 H D as c) {i : Nat} (hi : i < as.length) : ∃ l, (as.map V.ref)[i]? = some (.ref l) ∧ H l = some (.lst (c i)) ∧ H0 l = none := by
  obtain ⟨h1, h2⟩ := m.el i as[i] (List.getElem?_eq_getElem hi)
  exact ⟨as[i], by rw [List.getElem?_map, List.getElem?_eq_getElem hi]; rfl, h2, h1⟩
theorem Made.mono {H0 H H1 : Hp} {D : Addr} {as : List Addr} {c : Nat → List V} (m : Made H0 H D as c) (e : Ex H H1) : Made H0 H1 D as c := ⟨m.dn, m.ex.trans e, e _ _ m.at_, m.nd, m.dm, fun k l hk => ⟨(m.el k l hk).1, e _ _ (m.el k l hk).2⟩⟩
end
end Fo

/-! Reachable places, the shortest case, the folding by half: plain Lean. -/
namespace Fo
/-! ### places that can be come to -/
def stepB (n : Nat) (m : Nat → Bool) (l : Nat) : Nat → Bool := fun p => (decide (l ≤ p) && m (p - l)) || (decide (p + l < n) && m (p + l))
def reachB (r : List Int) (n : Nat) : Nat → Nat → Bool
  | 0 => fun _ => true
  | k + 1 => stepB n (reachB r n k) (r.getD k 0).toNat
def rowOf (r : List Int) (n k : Nat) : List Int := ((List.range n).filter (reachB r n k)).map Int.ofNat
/-- a walk of k pieces within 0 .. n - 1 that ends at p -/
def Walks (r : List Int) (n k : Nat) (q : Nat → Int) : Prop := (∀ i, i ≤ k → 0 ≤ q i ∧ q i < n) ∧ ∀ i, i < k → q (i + 1) = q i + r.getD i 0 ∨ q (i + 1) = q i - r.getD i 0
theorem reach_walk {r : List Int} {n : Nat} (hr : ∀ x ∈ r, 1 ≤ x) : ∀ (k p : Nat), k ≤ r.length → p < n → (reachB r n k p = true ↔ ∃ q, Walks r n k q ∧ q k = p)
  | 0, p, _, hp => ⟨fun _ => ⟨fun _ => p, ⟨fun i _ => ⟨by show 0 ≤ (p : Int); omega, by show (p : Int) < n; omega⟩, fun i hi => absurd hi (Nat.not_lt_zero _)⟩, rfl⟩, fun _ => rfl⟩
  | k + 1, p, hk, hp => by
    have hl := hr _ (getD_mem (l := r) (i := k) (by omega))
    have ih := fun p hp => reach_walk (r := r) (n := n) hr k p (by omega) hp
    have hgn : ((r.getD k 0).toNat : Int) = r.getD k 0 := by omega
    show ((decide ((r.getD k 0).toNat ≤ p) && reachB r n k (p - (r.getD k 0).toNat)) || (decide (p + (r.getD k 0).toNat < n) && reachB r n k (p + (r.getD k 0).toNat))) = true ↔ _
    rw [Bool.or_eq_true, Bool.and_eq_true, Bool.and_eq_true, decide_eq_true_eq, decide_eq_true_eq]
    have ext : ∀ (q : Nat → Int), Walks r n k q → (p : Int) = q k + r.getD k 0 ∨ (p : Int) = q k - r.getD k 0 → ∃ q', Walks r n (k + 1) q' ∧ q' (k + 1) = p := by
      intro q hq hst
      refine ⟨fun i => if i ≤ k then q i else p, ⟨fun i hi => ?_, fun i hi => ?_⟩, by show (if k + 1 ≤ k then _ else _) = _; rw [if_neg (by omega)]⟩
      · show 0 ≤ (if i ≤ k then q i else p) ∧ (if i ≤ k then q i else p) < n
        split
        · exact hq.1 i (by omega)
        · omega
      · show (if i + 1 ≤ k then q (i + 1) else p) = (if i ≤ k then q i else p) + _ ∨ (if i + 1 ≤ k then q (i + 1) else p) = (if i ≤ k then q i else p) - _
        rw [if_pos (show i ≤ k by omega)]
        by_cases hik : i + 1 ≤ k
        · rw [if_pos hik]
          exact hq.2 i (by omega)
        · rw [if_neg hik]
          have e : i = k := by omega
          rw [e]
          exact hst
    constructor
    · rintro (⟨h1, h2⟩ | ⟨h1, h2⟩)
      · obtain ⟨q, hq, e⟩ := (ih _ (by omega)).mp h2
        exact ext q hq (.inl (by rw [e]; omega))
      · obtain ⟨q, hq, e⟩ := (ih _ (by omega)).mp h2
        exact ext q hq (.inr (by rw [e]; omega))
    · rintro ⟨q, ⟨hq1, hq2⟩, e⟩
      have wk : Walks r n k q := ⟨fun i hi => hq1 i (by omega), fun i hi => hq2 i (by omega)⟩
      have hb := hq1 k (by omega)
      rcases hq2 k (by omega) with h | h
      · rw [e] at h
        exact .inl ⟨by omega, (ih _ (by omega)).mpr ⟨q, wk, by omega⟩⟩
      · rw [e] at h
        exact .inr ⟨by omega, (ih _ (by omega)).mpr ⟨q, wk, by omega⟩⟩
theorem row_nonempty {r : List Int} {n k : Nat} (hr : ∀ x ∈ r, 1 ≤ x) (hk : k ≤ r.length) : rowOf r n k ≠ [] ↔ ∃ q, Walks r n k q := by
  constructor
  · intro h
    obtain ⟨x, hx⟩ := List.exists_mem_of_ne_nil _ h
    obtain ⟨p, hp, _⟩ := List.mem_map.mp hx
    obtain ⟨h1, h2⟩ := List.mem_filter.mp hp
    obtain ⟨q, hq, _⟩ := (reach_walk hr k p hk (List.mem_range.mp h1)).mp h2
    exact ⟨q, hq⟩
  · rintro ⟨q, hq⟩ h
    have hb := hq.1 k (Nat.le_refl _)
    have h2 := (reach_walk (n := n) hr k (q k).toNat hk (by omega)).mpr ⟨q, hq, by omega⟩
    have hm : Int.ofNat (q k).toNat ∈ rowOf r n k := List.mem_map.mpr ⟨_, List.mem_filter.mpr ⟨List.mem_range.mpr (by omega), h2⟩, rfl⟩
    rw [h] at hm
    cases hm
/-- a folding that fits gives a walk -/
theorem pl_step (r f : List Int) (i : Nat) : plAt r f (i + 1) = plAt r f i + r.getD i 0 ∨ plAt r f (i + 1) = plAt r f i - r.getD i 0 := by
  show (if upAt f i then _ else _) = _ ∨ (if upAt f i then _ else _) = _
  cases upAt f i
  · exact .inr rfl
  · exact .inl rfl
theorem pl_mem (r f : List Int) {i : Nat} (h : i ≤ r.length) : plAt r f i ∈ jointsOf r f := List.mem_map.mpr ⟨i, List.mem_range.mpr (by omega), rfl⟩
theorem walk_of_fold {r f : List Int} {c : Nat} (h : spanOf r f ≤ c) : ∃ q, Walks r (c + 1) r.length q := by
  refine ⟨fun i => plAt r f i - mn (jointsOf r f), fun i hi => ?_, fun i hi => ?_⟩
  · have hm := pl_mem r f hi
    have h1 := (mn_le (jointsOf r f)).2 _ hm
    have h2 := (mx_ge (jointsOf r f)).2 _ hm
    unfold spanOf at h
    show 0 ≤ plAt r f i - mn (jointsOf r f) ∧ plAt r f i - mn (jointsOf r f) < ((c + 1 : Nat) : Int)
    omega
  · show plAt r f (i + 1) - _ = plAt r f i - _ + _ ∨ plAt r f (i + 1) - _ = plAt r f i - _ - _
    rcases pl_step r f i with h | h <;> omega
/-- the turns of a walk whose first piece goes upward -/
def turnsOf (up : Nat → Bool) (n : Nat) : List Int := (List.range n).map fun i => if up i = up (i + 1) then 0 else 1
theorem up_turns (up : Nat → Bool) (n : Nat) (h0 : up 0 = true) : ∀ i, i ≤ n → upAt (turnsOf up n) i = up i
  | 0, _ => h0.symm
  | i + 1, h => by
    have ih := up_turns up n h0 i (by omega)
    show (if (turnsOf up n).getD i 0 = 1 then !(upAt (turnsOf up n) i) else upAt (turnsOf up n) i) = _
    have e : (turnsOf up n).getD i 0 = if up i = up (i + 1) then 0 else 1 := by
      unfold turnsOf
      rw [List.getD_eq_getElem?_getD, List.getElem?_map, List.getElem?_range (by omega)]
      rfl
    rw [e, ih]
    cases up i <;> cases up (i + 1) <;> rfl
theorem fold_of_walk {r : List Int} {c : Nat} (hr : OkR r) (h : ∃ q, Walks r (c + 1) r.length q) : ∃ f, OkF r f ∧ spanOf r f ≤ c := by
  have h1 := hr.l1
  have h0 := hr.all _ (getD_mem (i := 0) (by omega))
  -- a walk whose first step goes upward
  have key : ∀ q, Walks r (c + 1) r.length q → q 1 = q 0 + r.getD 0 0 → ∃ f, OkF r f ∧ spanOf r f ≤ c := by
    intro q hq hup
    let up : Nat → Bool := fun i => decide (q (i + 1) = q i + r.getD i 0)
    have up0 : up 0 = true := decide_eq_true hup
    refine ⟨turnsOf up (r.length - 1), ⟨by simp [turnsOf]; omega, fun t ht => ?_⟩, ?_⟩
    · obtain ⟨i, _, rfl⟩ := List.mem_map.mp ht
      show (if up i = up (i + 1) then (0 : Int) else 1) = 0 ∨ _
      split
      · exact .inl rfl
      · exact .inr rfl
    · have pl : ∀ i, i ≤ r.length → plAt r (turnsOf up (r.length - 1)) i = q i - q 0 := by
        intro i
        induction i with
        | zero => intro _; show (0 : Int) = _; omega
        | succ i ih =>
          intro hi
          have ih := ih (by omega)
          show (if upAt (turnsOf up (r.length - 1)) i then _ else _) = _
          rw [up_turns up _ up0 i (by omega), ih]
          by_cases z : q (i + 1) = q i + r.getD i 0
          · rw [if_pos (decide_eq_true z)]; omega
          · rw [if_neg (by show ¬ decide (q (i + 1) = q i + r.getD i 0) = true; rw [decide_eq_true_eq]; exact z)]
            rcases hq.2 i (by omega) with h | h
            · exact absurd h z
            · omega
      have jm : ∀ x ∈ jointsOf r (turnsOf up (r.length - 1)), 0 ≤ x + q 0 ∧ x + q 0 ≤ c := by
        intro x hx
        obtain ⟨i, hi, rfl⟩ := List.mem_map.mp hx
        have hi' := List.mem_range.mp hi
        have hb := hq.1 i (by omega)
        rw [pl i (by omega)]
        omega
      have a := jm _ (mx_mem (zero_joints r (turnsOf up (r.length - 1))))
      have b := jm _ (mn_mem (zero_joints r (turnsOf up (r.length - 1))))
      unfold spanOf
      omega
  obtain ⟨q, hq⟩ := h
  rcases hq.2 0 (by omega) with h | h
  · exact key q hq h
  · refine key (fun i => c - q i) ⟨fun i hi => ?_, fun i hi => ?_⟩ (by show (c : Int) - q (0 + 1) = c - q 0 + _; omega)
    · have := hq.1 i hi
      show 0 ≤ (c : Int) - q i ∧ (c : Int) - q i < ((c + 1 : Nat) : Int)
      omega
    · have := hq.2 i hi
      show (c : Int) - q (i + 1) = c - q i + _ ∨ (c : Int) - q (i + 1) = c - q i - _
      omega
theorem row_fits {r : List Int} (hr : OkR r) (c : Nat) : rowOf r (c + 1) r.length ≠ [] ↔ ∃ f, OkF r f ∧ spanOf r f ≤ c := by
  rw [row_nonempty (fun x hx => (hr.all x hx).1) (Nat.le_refl _)]
  exact ⟨fold_of_walk hr, fun ⟨f, _, h⟩ => walk_of_fold h⟩
/-! ### the shortest case -/
def minOf : List Int → Int
  | [] => 0
  | x :: xs => xs.foldl min x
theorem foldl_min : ∀ (xs : List Int) (x : Int), (xs.foldl min x = x ∨ xs.foldl min x ∈ xs) ∧ xs.foldl min x ≤ x ∧ ∀ y ∈ xs, xs.foldl min x ≤ y
  | [], x => ⟨.inl rfl, Int.le_refl _, fun y h => by cases h⟩
  | a :: xs, x => by
    obtain ⟨h1, h2, h3⟩ := foldl_min xs (min x a)
    have e : (a :: xs).foldl min x = xs.foldl min (min x a) := rfl
    rw [e]
    refine ⟨?_, by omega, fun y hy => ?_⟩
    · rcases h1 with h1 | h1
      · by_cases z : x ≤ a
        · exact .inl (by omega)
        · exact .inr (by rw [h1, Int.min_eq_right (by omega)]; exact List.mem_cons_self)
      · exact .inr (List.mem_cons_of_mem _ h1)
    · rcases List.mem_cons.mp hy with rfl | hy
      · omega
      · exact h3 y hy
theorem minOf_mem {l : List Int} (h : l ≠ []) : minOf l ∈ l := by
  cases l with
  | nil => exact absurd rfl h
  | cons x xs =>
    rcases (foldl_min xs x).1 with e | e
    · show xs.foldl min x ∈ _
      rw [e]; exact List.mem_cons_self
    · exact List.mem_cons_of_mem _ e
theorem minOf_le {l : List Int} {y : Int} (h : y ∈ l) : minOf l ≤ y := by
  cases l with
  | nil => cases h
  | cons x xs =>
    rcases List.mem_cons.mp h with rfl | h
    · exact (foldl_min xs y).2.1
    · exact (foldl_min xs x).2.2 y h
def SC (r : List Int) : Int := minOf ((allC (r.length - 1)).map (spanOf r))
theorem okF_mem {r f : List Int} (h : OkF r f) : f ∈ allC (r.length - 1) := by
  have := h.len
  rw [show r.length - 1 = f.length by omega]
  exact allC_mem f h.all
theorem mem_okF {r f : List Int} (hr : 1 ≤ r.length) (h : f ∈ allC (r.length - 1)) : OkF r f := ⟨by have := allC_len _ f h; omega, allC_bits _ f h⟩
theorem SC_le {r f : List Int} (h : OkF r f) : SC r ≤ spanOf r f := minOf_le (List.mem_map.mpr ⟨f, okF_mem h, rfl⟩)
theorem SC_at {r : List Int} (hr : 1 ≤ r.length) : ∃ f, OkF r f ∧ spanOf r f = SC r := by
  have hne : (allC (r.length - 1)).map (spanOf r) ≠ [] := by
    intro h
    have := congrArg List.length h
    rw [List.length_map, allC_count, List.length_nil] at this
    have h2 := Nat.pow_pos (n := r.length - 1) (show 0 < 2 by decide)
    omega
  obtain ⟨f, hf, e⟩ := List.mem_map.mp (minOf_mem hne)
  exact ⟨f, mem_okF hr hf, e⟩
theorem many_iff {r : List Int} (hr : OkR r) (c : Int) : 0 < many r c ↔ SC r ≤ c := by
  constructor
  · intro h
    obtain ⟨h1, h2⟩ := at_ok hr h
    have := SC_le h1
    omega
  · intro h
    obtain ⟨f, hf, e⟩ := SC_at hr.l1
    exact many_pos hr hf (by omega)
theorem row_SC {r : List Int} (hr : OkR r) (c : Nat) : rowOf r (c + 1) r.length = [] ↔ (c : Int) < SC r := by
  have h := row_fits hr c
  constructor
  · intro e
    obtain ⟨f, hf, es⟩ := SC_at hr.l1
    by_cases z : (c : Int) < SC r
    · exact z
    · exact absurd e (h.mpr ⟨f, hf, by omega⟩)
  · intro hc
    by_cases z : rowOf r (c + 1) r.length = []
    · exact z
    · obtain ⟨f, hf, hs⟩ := h.mp z
      have := SC_le hf
      omega
theorem span_piece {r f : List Int} (hp : ∀ x ∈ r, 0 ≤ x) {i : Nat} (hi : i < r.length) : r.getD i 0 ≤ spanOf r f := by
  have h1 := (mn_le (jointsOf r f)).2 _ (pl_mem r f (show i ≤ r.length by omega))
  have h2 := (mx_ge (jointsOf r f)).2 _ (pl_mem r f (show i ≤ r.length by omega))
  have h3 := (mn_le (jointsOf r f)).2 _ (pl_mem r f (show i + 1 ≤ r.length by omega))
  have h4 := (mx_ge (jointsOf r f)).2 _ (pl_mem r f (show i + 1 ≤ r.length by omega))
  have h5 := hp _ (getD_mem hi)
  unfold spanOf
  rcases pl_step r f i with h | h <;> omega
theorem SC_piece {r : List Int} (hr : OkR r) {x : Int} (hx : x ∈ r) : x ≤ SC r := by
  obtain ⟨f, hf, e⟩ := SC_at hr.l1
  obtain ⟨i, hi, rfl⟩ := List.getElem_of_mem hx
  have h := span_piece (r := r) (f := f) (fun x hx => by have := hr.all x hx; omega) hi
  have e2 : r.getD i 0 = r[i] := by rw [List.getD_eq_getElem?_getD, List.getElem?_eq_getElem hi]; rfl
  rw [e2] at h
  omega
/-! ### by half -/
/-- the place behind k pieces, the way of the k-th, where each goes upward from nought or below -/
def hpl (r : List Int) : Nat → Int
  | 0 => 0
  | k + 1 => if hpl r k ≤ 0 then hpl r k + r.getD k 0 else hpl r k - r.getD k 0
def hup (r : List Int) (k : Nat) : Bool := decide (hpl r k ≤ 0)
def halfF (r : List Int) : List Int := turnsOf (hup r) (r.length - 1)
theorem half_ok {r : List Int} (h : 1 ≤ r.length) : OkF r (halfF r) := by
  refine ⟨by simp [halfF, turnsOf]; omega, fun t ht => ?_⟩
  obtain ⟨i, _, rfl⟩ := List.mem_map.mp ht
  show (if hup r i = hup r (i + 1) then (0 : Int) else 1) = 0 ∨ _
  split
  · exact .inl rfl
  · exact .inr rfl
theorem half_pl (r : List Int) : ∀ i, i ≤ r.length → plAt r (halfF r) i = hpl r i
  | 0, _ => rfl
  | i + 1, h => by
    show (if upAt (halfF r) i then plAt r (halfF r) i + r.getD i 0 else plAt r (halfF r) i - r.getD i 0) = if hpl r i ≤ 0 then hpl r i + r.getD i 0 else hpl r i - r.getD i 0
    rw [half_pl r i (by omega), show upAt (halfF r) i = hup r i from up_turns (hup r) (r.length - 1) rfl i (by omega)]
    by_cases z : hpl r i ≤ 0
    · rw [if_pos z, if_pos (show hup r i = true from decide_eq_true z)]
    · rw [if_neg z, if_neg (show ¬ hup r i = true from fun e => z (of_decide_eq_true e))]
theorem hpl_in {r : List Int} {m : Int} (hm : 0 < m) (h : ∀ x ∈ r, 0 ≤ x ∧ x ≤ m) : ∀ i, i ≤ r.length → 0 - m < hpl r i ∧ hpl r i ≤ m
  | 0, _ => by show 0 - m < 0 ∧ 0 ≤ m; omega
  | i + 1, hi => by
    have ih := hpl_in hm h i (by omega)
    have hx := h _ (getD_mem (l := r) (i := i) (by omega))
    show 0 - m < (if hpl r i ≤ 0 then _ else _) ∧ (if hpl r i ≤ 0 then _ else _) ≤ m
    split <;> omega
theorem half_in {r : List Int} {m : Int} (hm : 0 < m) (h : ∀ x ∈ r, 0 ≤ x ∧ x ≤ m) : (∀ x ∈ jointsOf r (halfF r), 0 - m < x ∧ x ≤ m) ∧ spanOf r (halfF r) < 2 * m := by
  have a : ∀ x ∈ jointsOf r (halfF r), 0 - m < x ∧ x ≤ m := by
    intro x hx
    obtain ⟨i, hi, rfl⟩ := List.mem_map.mp hx
    have hi' := List.mem_range.mp hi
    rw [half_pl r i (by omega)]
    exact hpl_in hm h i (by omega)
  refine ⟨a, ?_⟩
  have h1 := a _ (mx_mem (zero_joints r (halfF r)))
  have h2 := a _ (mn_mem (zero_joints r (halfF r)))
  unfold spanOf
  omega
theorem max_of {r : List Int} (h : 1 ≤ r.length) : ∃ m ∈ r, ∀ x ∈ r, x ≤ m := by
  induction r with
  | nil => simp at h
  | cons a r ih =>
    by_cases z : 1 ≤ r.length
    · obtain ⟨m, hm, hx⟩ := ih z
      by_cases q : m ≤ a
      · exact ⟨a, List.mem_cons_self, fun x hx' => by
          rcases List.mem_cons.mp hx' with rfl | hx'
          · exact Int.le_refl _
          · have := hx x hx'; omega⟩
      · exact ⟨m, List.mem_cons_of_mem _ hm, fun x hx' => by
          rcases List.mem_cons.mp hx' with rfl | hx'
          · omega
          · exact hx x hx'⟩
    · have e : r = [] := List.length_eq_zero_iff.mp (by omega)
      subst e
      exact ⟨a, List.mem_cons_self, fun x hx' => by simp at hx'; omega⟩
theorem SC_half {r : List Int} (hr : OkR r) {m : Int} (hm : ∀ x ∈ r, x ≤ m) : SC r < 2 * m := by
  have h1 := hr.l1
  have h2 := SC_le (half_ok h1)
  have h0 := hr.all _ (getD_mem (i := 0) (by omega))
  have h3 := (half_in (r := r) (m := m) (by have := hm _ (getD_mem (l := r) (i := 0) (by omega)); omega) fun x hx => ⟨by have := hr.all x hx; omega, hm x hx⟩).2
  omega
end Fo

namespace Fo
open PySem PySem.Spec PyProof.Rows L2 Evl
def rInt1 : List V → Hp → VK → Prop := fun xs H Q => (∃ i, xs = [.int i] ∧ Q (.int i) H) ∨ ∃ k, xs = [.bl k] ∧ Q (.int (if k then 1 else 0)) H
section
variable {K : PySem.W.Frag} {σ : L2.St} {H H' : Hp} {ta tb tc te tx tl : TE} {t u : TT} {x y z v : V} {r r' : R2}
theorem ev_int1 {k : Bool} (h : Ev te σ H (.bl k)) : Ev (tCB rInt1 (tCons te tNil)) σ H (.int (if k then 1 else 0)) := fun H1 e Q q => h H1 e _ fun H2 e2 => .inr ⟨k, rfl, q H2 e2⟩
theorem el_rep {xs : List V} {n : Nat} (h : EvL ta σ H xs) (h2 : ∀ H1, Ex H H1 → Ev tb σ H1 (.int (n : Int))) (hz : xs.length * n ≤ 100000) (hn : n ≤ 100000) : EvL (tOp rRep ta tb) σ H (List.replicate n xs).flatten := fun H1 e Q q =>
  h H1 e _ fun p H2 _ e2 hp => h2 H2 (e.trans e2) H2 (Ex.refl _) _ fun H3 e3 => ⟨p, (n : Int), xs, rfl, rfl, e3 _ _ hp, by omega, by omega, sz_of (by simpa using hz), fun p' hp' => by
    have := q p' (upd H3 p' (.lst (List.replicate (n : Int).toNat xs).flatten)) (fresh_back (e2.trans e3) hp') ((e2.trans e3).trans (Ex.new hp')) (by rw [upd_same]; rfl)
    exact this⟩
theorem el_lstRg {n : Nat} (h : Ev te σ H (.int (n : Int))) (hn : n ≤ 100000) : EvL (tLstRg (tRg1 te)) σ H ((List.range n).map fun (i : Nat) => V.int (i : Int)) := fun H1 e Q q =>
  h H1 e _ fun H2 e2 => ⟨n, rfl, RgOk.of_le (by decide) (by omega) (by decide) (by omega), fun p hp => by
    have e3 : rgV 0 (n : Int) = (List.range n).map fun (i : Nat) => V.int (i : Int) := by
      unfold rgV
      rw [show ((n : Int) - 0).toNat = n by omega]
      exact List.map_congr_left fun i _ => by rw [Int.zero_add]
    rw [e3]
    exact q p _ (fresh_back e2 hp) (e2.trans (Ex.new hp)) upd_same⟩
/-- a new list with one new list in it -/
theorem er_one {c : Nat → List V} (h : EvL te σ H (c 0)) : EvR (tLst (tCons te tNil)) σ H (fun w H2 => ∃ D as, w = .ref D ∧ as.length = 1 ∧ Made H H2 D as c) := fun H1 e Q q =>
  h H1 e _ fun p H2 hp e2 h2 => ⟨by show 1 ≤ sizeLine; decide, fun D hD => by
    have pD : p ≠ D := fun z => by rw [z, hD] at h2; cases h2
    refine q _ _ (e2.trans (Ex.new hD)) ⟨D, [p], rfl, rfl, fresh_back (e.trans e2) hD, (e.trans e2).trans (Ex.new hD), upd_same, by simp, by simpa using pD.symm, fun k l hk => ?_⟩
    match k, hk with
    | 0, hk =>
      have e1 : p = l := by simpa using hk
      subst e1
      exact ⟨fresh_back e hp, by rw [upd_ne pD]; exact h2⟩⟩
theorem at_back {α : Type} {xs : List α} {v : α} (h : xs[xs.length - 1]? = some v) : atI xs (-1) = some v := by
  have h1 := (List.getElem?_eq_some_iff.mp h).1
  unfold atI ixN
  rw [if_neg (by decide), if_pos (by omega)]
  show xs[((-1 : Int) + (xs.length : Int)).toNat]? = _
  rw [show ((-1 : Int) + (xs.length : Int)).toNat = xs.length - 1 by omega]
  exact h
def bvs (n : Nat) (m : Nat → Bool) : List V := (List.range n).map fun p => V.bl (m p)
theorem bvs_at {n i : Nat} {m : Nat → Bool} (h : i < n) : (bvs n m)[i]? = some (.bl (m i)) := by
  unfold bvs
  rw [List.getElem?_map, List.getElem?_range h]
  rfl
theorem bvs_len {n : Nat} {m : Nat → Bool} : (bvs n m).length = n := by simp [bvs]
theorem bvs_succ {n : Nat} {m : Nat → Bool} : bvs (n + 1) m = bvs n m ++ [.bl (m n)] := by
  unfold bvs
  rw [List.range_succ, List.map_append]
  rfl
theorem bvs_true (n : Nat) : (List.replicate n [V.bl true]).flatten = bvs n fun _ => true := by
  induction n with
  | zero => rfl
  | succ n ih =>
    rw [bvs_succ, ← ih, List.replicate_succ', List.flatten_append]
    simp
end
end Fo

namespace Fo
open PySem PySem.Spec PyProof.Rows L2 Evl
/-! ### readings of the defs: printed by gen.py -/
def t_stepped (K : PySem.W.Frag) (E : XK) : TS := (tSeq (tAsg (tLst tNil) (gName 2))
    (tSeq (tFor (iRng1 (tCons (tCB (rLenS K) (tCons (tVar 0) tNil)) tNil)) (gName 3) (tSeq (tAsg (tAndV (tOp rGeI (tVar 3) (tVar 1)) (tOp (rIxL K) (tVar 0) (tOp rSubI (tVar 3) (tVar 1)))) (gName 4))
    (tDrop (tBM K "list" rAppend (tVar 2) (tCons (tOrV (tVar 4) (tAndV (tOp rLtI (tOp rAddI (tVar 3) (tVar 1)) (tCB (rLenS K) (tCons (tVar 0) tNil))) (tOp (rIxL K) (tVar 0) (tOp rAddI (tVar 3) (tVar 1))))) tNil)))))
    (tRet (tVar 2))))
def t_reachable (K : PySem.W.Frag) (E : XK) (p_see_rule : Sp) (p_stepped : Sp) : TS := (tSeq (tDrop (tCall p_see_rule [] E (tCons (tVar 0) tNil)))
    (tSeq (tAsg (tOp rRep (tLst (tCons (tC (.bl true)) tNil)) (tOp rAddI (tVar 1) (tC (.int 1)))) (gName 2))
    (tSeq (tAsg (tLst (tCons (tLstRg (tRg1 (tOp rAddI (tVar 1) (tC (.int 1))))) tNil)) (gName 3))
    (tSeq (tFor (iList K (tVar 0)) (gName 4) (tSeq (tAsg (tCall p_stepped [] E (tCons (tVar 2) (tCons (tVar 4) tNil))) (gName 2))
    (tDrop (tBM K "list" rAppend (tVar 3) (tCons (tLc (iRng1 (tCons (tOp rAddI (tVar 1) (tC (.int 1))) tNil)) (gName 5) (tB (tOp (rIxL K) (tVar 2) (tVar 5))) (tVar 5) [5]) tNil)))))
    (tRet (tVar 3))))))
def t_shortest_case (K : PySem.W.Frag) (E : XK) (p_see_rule : Sp) (p_reachable : Sp) (p_folding_at : Sp) : TS := (tSeq (tDrop (tCall p_see_rule [] E (tCons (tVar 0) tNil)))
    (tSeq (tAsg (tC (.int 0)) (gName 1))
    (tSeq (tAsg (tOp rMulI (tC (.int 2)) (tCB (rMax K) (tCons (tVar 0) tNil))) (gName 2))
    (tSeq (tWhile (tTest (tOp rGtI (tOp rSubI (tVar 2) (tVar 1)) (tC (.int 1)))) (tSeq (tAsg (tOp rDivI (tOp rAddI (tVar 1) (tVar 2)) (tC (.int 2))) (gName 3))
    (tIfS (tTest (tOp (rEqD K) (tOp (rIxL K) (tCall p_reachable [] E (tCons (tVar 0) (tCons (tVar 3) tNil))) (tUn rNegI (tC (.int 1)))) (tLst tNil))) (tAsg (tVar 3) (gName 1)) (tAsg (tVar 3) (gName 2)))))
    (tRet (tTup (tCons (tVar 2) (tCons (tCall p_folding_at [] E (tCons (tVar 0) (tCons (tVar 2) (tCons (tC (.int 0)) tNil)))) tNil))))))))
def t_by_half (K : PySem.W.Frag) (E : XK) (p_see_rule : Sp) : TS := (tSeq (tDrop (tCall p_see_rule [] E (tCons (tVar 0) tNil)))
    (tSeq (tAsg (tOp (rIxL K) (tVar 0) (tC (.int 0))) (gName 1))
    (tSeq (tAsg (tC (.int 1)) (gName 2))
    (tSeq (tAsg (tLst tNil) (gName 3))
    (tSeq (tFor (iList K (tSl (rSlL K) (tVar 0) (tPart (tC (.int 1))) tNoPart)) (gName 4) (tSeq (tAsg (tC (.int 1)) (gName 5))
    (tSeq (tIfS (tTest (tOp rGtI (tVar 1) (tC (.int 0)))) (tAsg (tUn rNegI (tC (.int 1))) (gName 5)) tNext)
    (tSeq (tDrop (tBM K "list" rAppend (tVar 3) (tCons (tCB rInt1 (tCons (tOp rNe (tVar 5) (tVar 2)) tNil)) tNil)))
    (tSeq (tAsg (tVar 5) (gName 2))
    (tAsg (tOp rAddI (tVar 1) (tOp rMulI (tVar 2) (tVar 4))) (gName 1)))))))
    (tRet (tVar 3)))))))
end Fo

namespace Fo
open PySem PySem.Spec PyProof.Rows L2 Evl
def SpR (sp : Sp) (vs : List V) (H : Hp) (P : V → Hp → Prop) : Prop := ∀ H1, Ex H H1 → ∀ Q : VK, (∀ v H2, Ex H1 H2 → P v H2 → Q v H2) → ∀ E : XK, sp vs H1 Q E
section
variable {K : PySem.W.Frag} {σ : L2.St} {H H' : Hp} {ta tb tc te tx tl : TE} {t u : TT} {x y z v : V} {r r' : R2}
theorem er_call {sp : Sp} {vs : List V} {E : XK} {ta : TA} {P : V → Hp → Prop} (h : EvA ta σ H vs) (hs : SpR sp vs H P) : EvR (tCall sp [] E ta) σ H P := fun H1 e Q q =>
  h H1 e _ fun H2 e2 => by
    have h2 := hs H2 (e.trans e2) Q (fun v H3 e3 p => q v H3 (e2.trans e3) p) E
    rw [← List.append_nil vs] at h2
    exact h2
theorem er_op {P P' : V → Hp → Prop} (h1 : EvR ta σ H P) (hP : Up P) (h2 : ∀ H1, Ex H H1 → Ev tb σ H1 y) (hr : ∀ v H1, Ex H H1 → P v H1 → ∃ z, RV r v y H1 z ∧ P' z H1) (hP' : Up P') : EvR (tOp r ta tb) σ H P' := fun H1 e Q q =>
  h1 H1 e _ fun v H2 e2 p => h2 H2 (e.trans e2) H2 (Ex.refl _) _ fun H3 e3 => by
    obtain ⟨z, hz, pz⟩ := hr v H3 ((e.trans e2).trans e3) (hP _ _ _ e3 p)
    exact hz H3 (Ex.refl _) Q fun H4 e4 => q z H4 ((e2.trans e3).trans e4) (hP' _ _ _ e4 pz)
theorem ev_opRL {P : V → Hp → Prop} {ys : List V} (h1 : EvR ta σ H P) (hP : Up P) (h2 : ∀ H1, Ex H H1 → EvL tb σ H1 ys) (hr : ∀ v q H1, Ex H H1 → P v H1 → H1 q = some (.lst ys) → RV r v (.ref q) H1 z) : Ev (tOp r ta tb) σ H z := fun H1 e Q q =>
  h1 H1 e _ fun v H2 e2 p => h2 H2 (e.trans e2) H2 (Ex.refl _) _ fun l H3 _ e3 hl => hr v l H3 ((e.trans e2).trans e3) (hP _ _ _ e3 p) hl H3 (Ex.refl _) Q fun H4 e4 => q H4 ((e2.trans e3).trans e4)
theorem ev_opRV {P : V → Hp → Prop} (h1 : EvR ta σ H P) (hP : Up P) (h2 : ∀ H1, Ex H H1 → Ev tb σ H1 y) (hr : ∀ v H1, Ex H H1 → P v H1 → RV r v y H1 z) : Ev (tOp r ta tb) σ H z := fun H1 e Q q =>
  h1 H1 e _ fun v H2 e2 p => h2 H2 (e.trans e2) H2 (Ex.refl _) _ fun H3 e3 => hr v H3 ((e.trans e2).trans e3) (hP _ _ _ e3 p) H3 (Ex.refl _) Q fun H4 e4 => q H4 ((e2.trans e3).trans e4)
/-- a new tuple of a value and a new list -/
theorem er_tup2 {ys : List V} (h1 : Ev ta σ H x) (h2 : EvL tb σ H ys) : EvR (tTup (tCons ta (tCons tb tNil))) σ H (fun w H2 => ∃ p l, w = .ref p ∧ H2 p = some (.tup [x, .ref l]) ∧ H l = none ∧ H2 l = some (.lst ys)) := fun H1 e Q q =>
  h1 H1 e _ fun H2 e2 => h2 H2 (e.trans e2) _ fun l H3 hl e3 h3 => ⟨by show 2 ≤ sizeLine; decide, fun p hp => q _ _ ((e2.trans e3).trans (Ex.new hp)) ⟨p, l, rfl, upd_same, fresh_back (e.trans e2) hl, (Ex.new hp) _ _ h3⟩⟩
end
section
variable {P : Program} {w : World} {K : PySem.W.Frag} {H H' : Hp} {Q : VK} {E E1 : XK} {vs xs : List V} {a : Addr}
/-! ### places a step on -/
def p_stepped (K : PySem.W.Frag) : Sp := fun vs H Q _ => ∃ ma n m, ∃ l : Nat, vs = [.ref ma, .int l] ∧ SqL K H ma (bvs n m) ∧ n ≤ 1000 ∧ RetL (bvs n (stepB n m l)) H Q
theorem r_stepped (h : p_stepped K vs H Q E) : t_stepped K E1 (En Q) (start ["marks", "length", "found", "place", "mark"] vs) H := by
  obtain ⟨ma, n, m, l, rfl, hm, hn, q⟩ := h
  refine q_asgL (el_lst ea_nil (by decide)) fun p H1 hp e1 h1 => ?_
  refine q_forR1 (n := (n : Int)) (ea_cons (ev_is (ev_len (ev_var rfl) (ex_l e1 hm)) (by rw [bvs_len])) ea_nil) ⟨by omega, by omega⟩
    (fun i σ' H' => ∃ kv mv, σ' = [some (.ref ma), some (.int l), some (.ref p), kv, mv] ∧ Mk H p H' (bvs i (stepB n m l)))
    (fun H2 e2 => ⟨_, _, rfl, hp, e1.trans e2, e2 _ _ h1⟩) ?_ ?_
  · rintro i σ' H' hi ⟨kv, mv, rfl, k⟩
    have hi' : i < n := by omega
    have hm' := ex_l k.ex hm
    refine q_asg (v := .bl (decide ((l : Int) ≤ (i : Int)) && m (i - l))) (ev_andV (ev_op (ev_var rfl) (ev_var rfl) rv_I0) fun hb => ?_) fun H2 e2 => ?_
    · have hli : l ≤ i := by have := of_decide_eq_true hb; omega
      exact ev_op (ev_var rfl) (ev_is (ev_op (ev_var rfl) (ev_var rfl) rv_I0) (congrArg V.int (show (i : Int) - (l : Int) = ((i - l : Nat) : Int) by omega))) (rv_ixL hm' (atI_nat (bvs_at (by omega))))
    · have k2 := k.mono e2
      have hm2 := ex_l e2 hm'
      refine s_app k2.at_ (ev_var rfl) (v := .bl (stepB n m l i)) (ev_is (ev_orV (b := decide (((i : Int) + (l : Int)) < (n : Int)) && m (i + l)) (ev_var rfl) fun _ => ev_andV (ev_op (ev_op (ev_var rfl) (ev_var rfl) rv_I0) (ev_is (ev_len (ev_var rfl) hm2) (by rw [bvs_len])) rv_I0) fun hb => ?_) ?_) (by rw [bvs_len]; omega) fun H3 e3 => ⟨_, _, rfl, ?_⟩
      · have hli : i + l < n := by have := of_decide_eq_true hb; omega
        exact ev_op (ev_var rfl) (ev_is (ev_op (ev_var rfl) (ev_var rfl) rv_I0) (congrArg V.int (show (i : Int) + (l : Int) = ((i + l : Nat) : Int) by omega))) (rv_ixL hm2 (atI_nat (bvs_at hli)))
      · show V.bl ((decide ((l : Int) ≤ (i : Int)) && m (i - l)) || (decide (((i : Int) + (l : Int)) < (n : Int)) && m (i + l))) = V.bl ((decide (l ≤ i) && m (i - l)) || (decide (i + l < n) && m (i + l)))
        rw [show decide ((l : Int) ≤ (i : Int)) = decide (l ≤ i) from decide_eq_decide.mpr (by omega), show decide (((i : Int) + (l : Int)) < (n : Int)) = decide (i + l < n) from decide_eq_decide.mpr (by omega)]
      · rw [bvs_succ]
        exact k2.app e3
  · rintro σ' H' ⟨kv, mv, rfl, k⟩
    refine s_ret (ev_var rfl) fun H2 e2 => ?_
    rw [show (n : Int).toNat = n by omega] at k
    exact (k.mono e2).ret q
theorem sl_stepped {ma : Addr} {n l : Nat} {m : Nat → Bool} (hm : SqL K H ma (bvs n m)) (hn : n ≤ 1000) : SpL (p_stepped K) [.ref ma, .int l] H (bvs n (stepB n m l)) := fun H1 e Q q E => ⟨ma, n, m, l, rfl, ex_l e hm, hn, fun p H2 hp e2 h2 => q p H2 hp e2 h2⟩
/-! ### the places that can be come to -/
def rowsOf (r : List Int) (c : Nat) : Nat → List V := fun k => iv (rowOf r (c + 1) k)
def RetM (n : Nat) (c : Nat → List V) (H : Hp) (Q : VK) : Prop := ∀ D as H2, as.length = n → Made H H2 D as c → Q (.ref D) H2
def p_reachable0 (K : PySem.W.Frag) : Sp := fun vs H Q _ => ∃ a r, ∃ c : Nat, vs = [.ref a, .int c] ∧ SqL K H a (iv r) ∧ OkR r ∧ c ≤ 900 ∧ RetM (r.length + 1) (rowsOf r c) H Q
theorem row0 (r : List Int) (n : Nat) : iv (rowOf r n 0) = (List.range n).map fun (i : Nat) => V.int (i : Int) := by
  unfold rowOf
  rw [show (List.range n).filter (reachB r n 0) = List.range n from List.filter_eq_self.mpr fun _ _ => rfl]
  show ((List.range n).map Int.ofNat).map V.int = _
  rw [List.map_map]
  rfl
theorem r_reachable0 (h : p_reachable0 K vs H Q E) : t_reachable K E1 (p_see_rule0 K) (p_stepped K) (En Q) (start ["rule", "case", "marks", "rows", "length", "place"] vs) H := by
  obtain ⟨a, r, c, rfl, hr, ok, hc, q⟩ := h
  have l1 := ok.l1
  have l2 := ok.l12
  have ec : (c : Int) + 1 = ((c + 1 : Nat) : Int) := by omega
  refine q_drop (ev_call (vs := [.ref a]) (ea_cons (ev_var rfl) ea_nil) (sp_see_rule0 hr ok)) fun H1 e1 => ?_
  refine q_asgL (xs := bvs (c + 1) (reachB r (c + 1) 0)) ?_ fun p H2 hp e2 h2 => ?_
  · have h := el_rep (σ := [some (.ref a), some (.int c), none, none, none, none]) (H := H1) (tb := tOp rAddI (tVar 1) (tC (.int 1))) (n := c + 1) (xs := [V.bl true]) (el_lst (ea_cons (ev_c (v := .bl true)) ea_nil) (by show 1 ≤ 100000; decide)) (fun H' e' => ev_is (ev_op (ev_var (i := 1) rfl) ev_c rv_I0) (congrArg V.int ec)) (by show 1 * (c + 1) ≤ 100000; omega) (by omega)
    rw [bvs_true] at h
    exact h
  refine q_asgR (er_one (c := rowsOf r c) (by
    have h := el_lstRg (te := tOp rAddI (tVar 1) (tC (.int 1))) (σ := [some (.ref a), some (.int c), some (.ref p), none, none, none]) (H := H2) (n := c + 1) (ev_is (ev_op (ev_var (i := 1) rfl) ev_c rv_I0) (congrArg V.int ec)) (by omega)
    rw [← row0 r (c + 1)] at h
    exact h)) fun v H3 e3 h3 => ?_
  obtain ⟨D, as0, rfl, hl0, m0⟩ := h3
  have e13 := (e1.trans e2).trans e3
  have m0 := m0.back (e1.trans e2)
  refine q_forLn (xs := iv r) (ev_var rfl) (ex_l e13 hr) (fun i σ' H' => ∃ p as kv jv, σ' = [some (.ref a), some (.int c), some (.ref p), some (.ref D), kv, jv] ∧ SqL K H' p (bvs (c + 1) (reachB r (c + 1) i)) ∧ as.length = i + 1 ∧ Made H H' D as (rowsOf r c))
    (fun H4 e4 => ⟨p, as0, _, _, rfl, sq_of (e4 _ _ (e3 _ _ h2)), hl0, m0.mono e4⟩) (fun i σ' H' _ ⟨_, _, _, _, _, _, _, m⟩ => ex_l m.ex hr) ?_ ?_
  · rintro i v σ' H' hi ⟨p, as, kv, jv, rfl, hm, hl, m⟩
    obtain ⟨n, hn, rfl⟩ := iv_get hi
    have hir := (List.getElem?_eq_some_iff.mp hn).1
    have hn1 := ok.all n (List.mem_of_getElem? hn)
    have en : n = ((r.getD i 0).toNat : Int) := by
      have := getD_of hir
      rw [hn] at this
      have := Option.some.inj this
      rw [← this]
      omega
    refine q_asgL (xs := bvs (c + 1) (reachB r (c + 1) (i + 1))) (el_call (vs := [.ref p, .int ((r.getD i 0).toNat : Nat)]) (ea_cons (ev_var rfl) (ea_cons (ev_is (ev_var rfl) (congrArg V.int en)) ea_nil)) (sl_stepped hm (by omega))) fun p2 H2 hp2 e2 h2 => ?_
    have m2 := m.mono e2
    refine s_appL (ys := rowsOf r c (i + 1)) m2.at_ (ev_var rfl) ?_ (by rw [List.length_map]; omega) fun p3 H3 hp3 e3 h3 => ⟨p2, as ++ [p3], _, _, rfl, ?_, by simp [hl], m2.turn e3 hp3 (by rw [hl]; exact h3)⟩
    · have h := el_lcR1 (te := tVar 5) (ta := tCons (tOp rAddI (tVar 1) (tC (.int 1))) tNil) (n := ((c + 1 : Nat) : Int)) (t := tB (tOp (rIxL K) (tVar 2) (tVar 5))) (j := 5) (vs := [5]) (σ := [some (.ref a), some (.int c), some (.ref p2), some (.ref D), some (.int n), jv]) (H := H2) (reachB r (c + 1) (i + 1)) (fun k => V.int (k : Int)) (ea_cons (ev_is (ev_op (ev_var (i := 1) rfl) ev_c rv_I0) (congrArg V.int ec)) ea_nil) ⟨by omega, by omega⟩ (fun x => rfl)
        (fun k H4 e4 hk => et_B (ev_op (ev_var rfl) (ev_var rfl) (rv_ixL (sq_of (e4 _ _ h2)) (atI_nat (bvs_at (by omega)))))) (fun k H4 e4 hk _ => ev_var rfl)
      rw [given_ints] at h
      exact h
    · have hD : p2 ≠ D := fun z => by rw [z, m.at_] at hp2; cases hp2
      exact sq_of (by rw [upd_ne hD]; exact e3 _ _ h2)
  · rintro σ' H' ⟨p, as, kv, jv, rfl, hm, hl, m⟩
    rw [iv_len] at hl
    exact s_ret (ev_var rfl) fun H4 e4 => q D as H4 hl (m.mono e4)
theorem sr_reachable0 {a : Addr} {r : List Int} {c : Nat} (hr : SqL K H a (iv r)) (ok : OkR r) (hc : c ≤ 900) : SpR (p_reachable0 K) [.ref a, .int c] H (fun v H2 => ∃ D as, v = .ref D ∧ as.length = r.length + 1 ∧ Made H H2 D as (rowsOf r c)) := fun H1 e Q q E =>
  ⟨a, r, c, rfl, ex_l e hr, ok, hc, fun D as H2 hl m => q _ H2 m.ex ⟨D, as, rfl, hl, m.back e⟩⟩
/-- the last row -/
theorem er_lastRow {ta : TE} {σ : L2.St} {r : List Int} {c : Nat} {n : Nat} (h : EvR ta σ H (fun v H2 => ∃ D as, v = .ref D ∧ as.length = n + 1 ∧ Made H H2 D as (rowsOf r c))) : EvR (tOp (rIxL K) ta (tUn rNegI (tC (.int 1)))) σ H (fun v H2 => ∃ l, v = .ref l ∧ H2 l = some (.lst (rowsOf r c n))) :=
  er_op h (fun v H1 H2 e ⟨D, as, h1, h2, m⟩ => ⟨D, as, h1, h2, m.mono e⟩) (fun H1 e => ev_un ev_c ru_neg) (fun v H1 e ⟨D, as, h1, h2, m⟩ => by
    obtain ⟨l, g1, g2, g3⟩ := m.get (i := n) (by omega)
    subst h1
    exact ⟨_, rv_ixL (sq_of m.at_) (at_back (by rw [List.length_map, h2]; exact g1)), l, rfl, g2⟩) (fun v H1 H2 e ⟨l, h1, h2⟩ => ⟨l, h1, e _ _ h2⟩)
/-! ### the shortest case -/
def RetT (x : V) (ys : List V) (H : Hp) (Q : VK) : Prop := ∀ p l H2, Ex H H2 → H2 p = some (.tup [x, .ref l]) → H l = none → H2 l = some (.lst ys) → Q (.ref p) H2
def p_shortest_case0 (P : Program) (w : World) (K : PySem.W.Frag) : Sp := fun vs H Q _ => ∃ a r, vs = [.ref a] ∧ SqL K H a (iv r) ∧ OkR r ∧ RetT (.int (SC r)) (iv (atNum r (SC r) 0)) H Q
theorem r_shortest_case0 (h : p_shortest_case0 P w K vs H Q E) : t_shortest_case K E1 (p_see_rule0 K) (p_reachable0 K) (p_folding_at0 P w K) (En Q) (start ["rule", "low", "high", "middle"] vs) H := by
  obtain ⟨a, r, rfl, hr, ok, q⟩ := h
  have l1 := ok.l1
  obtain ⟨m, hm, hmx⟩ := max_of l1
  have hm1 := ok.all m hm
  have hS := SC_half ok hmx
  have hS1 := SC_piece ok hm
  refine q_drop (ev_call (vs := [.ref a]) (ea_cons (ev_var rfl) ea_nil) (sp_see_rule0 hr ok)) fun H1 e1 => ?_
  refine q_asg ev_c fun H2 e2 => ?_
  refine q_asg (v := .int (2 * m)) (ev_op ev_c (ev_maxL (ev_var rfl) (ex_l (e1.trans e2) hr) hm hmx) (rv_I (.inl ⟨by decide, by decide⟩))) fun H3 e3 => ?_
  have e13 := (e1.trans e2).trans e3
  refine q_while (fun n σ' H' => ∃ lo hi mv, σ' = [some (.ref a), some (.int lo), some (.int hi), mv] ∧ Ex H H' ∧ 0 ≤ lo ∧ lo < SC r ∧ SC r ≤ hi ∧ hi ≤ 120 ∧ n = (hi - lo).toNat) _ ⟨0, 2 * m, _, rfl, e13, by omega, by omega, by omega, by omega, rfl⟩ ?_
  rintro n σ' H' ⟨lo, hi, mv, rfl, e, h1, h2, h3, h4, rfl⟩
  refine ⟨decide (1 < hi - lo), et_test (ev_op (ev_op (ev_var rfl) (ev_var rfl) rv_I0) ev_c rv_I0), fun hb H4 e4 => ?_, fun hb H4 e4 => ?_⟩
  · have hb' := of_decide_eq_true hb
    refine ⟨fun σ2 H2 => ∃ lo' hi' mv, σ2 = [some (.ref a), some (.int lo'), some (.int hi'), mv] ∧ Ex H H2 ∧ 0 ≤ lo' ∧ lo' < SC r ∧ SC r ≤ hi' ∧ hi' ≤ 120 ∧ (hi' - lo').toNat < (hi - lo).toNat, fun σ2 H2 ⟨lo', hi', mv, z1, z2, z3, z4, z5, z6, z7⟩ => ⟨_, z7, lo', hi', mv, z1, z2, z3, z4, z5, z6, rfl⟩, ?_⟩
    obtain ⟨c, hc⟩ : ∃ c : Nat, (lo + hi) / 2 = (c : Int) := ⟨((lo + hi) / 2).toNat, by omega⟩
    refine q_asg (v := .int (c : Int)) (ev_is (ev_op (ev_op (ev_var rfl) (ev_var rfl) rv_I0) ev_c (rv_I ⟨by decide, by decide⟩)) (congrArg V.int hc)) fun H5 e5 => ?_
    have e05 := (e.trans e4).trans e5
    refine s_if (b := decide (rowOf r (c + 1) r.length = [])) (et_test (ev_opRL (er_lastRow (er_call (vs := [.ref a, .int (c : Int)]) (ea_cons (ev_var rfl) (ea_cons (ev_var rfl) ea_nil)) (sr_reachable0 (ex_l e05 hr) ok (by omega)))) (fun v H1 H2 e h => h.elim fun l h => ⟨l, h.1, e _ _ h.2⟩) (fun H6 e6 => el_lst ea_nil (by decide)) fun v p H6 e6 h hp => ?_)) (fun hb2 H6 e6 => ?_) (fun hb2 H6 e6 => ?_)
    · obtain ⟨l, hv, hl⟩ := h
      subst hv
      exact rv_eqI (ns := rowOf r (c + 1) r.length) (ms := []) (sq_of hl) (sq_of hp)
    · have hlt := (row_SC ok c).mp (of_decide_eq_true hb2)
      exact s_asg (ev_var rfl) fun H7 e7 => ⟨(c : Int), hi, _, rfl, (e05.trans e6).trans e7, by omega, hlt, h3, h4, by omega⟩
    · have hge : ¬ (c : Int) < SC r := fun z => (of_decide_eq_false hb2) ((row_SC ok c).mpr z)
      exact s_asg (ev_var rfl) fun H7 e7 => ⟨lo, (c : Int), _, rfl, (e05.trans e6).trans e7, h1, h2, by omega, by omega, by omega⟩
  · have hb' := of_decide_eq_false hb
    have e5 : hi = SC r := by omega
    subst e5
    refine s_retR (er_tup2 (ev_var rfl) (el_call (vs := [.ref a, .int (SC r), .int (0 : Nat)]) (ea_cons (ev_var rfl) (ea_cons (ev_var rfl) (ea_cons ev_c ea_nil))) (sl_folding0 (ex_l (e.trans e4) hr) ok ((many_iff ok _).mpr (Int.le_refl _))))) fun v H5 e5 ⟨p, l, hv, hp, hl, hl2⟩ => ?_
    subst hv
    exact q p l H5 ((e.trans e4).trans e5) hp (fresh_back (e.trans e4) hl) hl2
theorem sr_short0 {a : Addr} {r : List Int} (hr : SqL K H a (iv r)) (ok : OkR r) : SpR (p_shortest_case0 P w K) [.ref a] H (fun v H2 => ∃ p l, v = .ref p ∧ H2 p = some (.tup [.int (SC r), .ref l]) ∧ H l = none ∧ H2 l = some (.lst (iv (atNum r (SC r) 0)))) := fun H1 e Q q E =>
  ⟨a, r, rfl, ex_l e hr, ok, fun p l H2 e2 h1 h2 h3 => q _ H2 e2 ⟨p, l, rfl, h1, fresh_back e h2, h3⟩⟩
/-! ### by half -/
def p_by_half0 (K : PySem.W.Frag) : Sp := fun vs H Q _ => ∃ a r, vs = [.ref a] ∧ SqL K H a (iv r) ∧ OkR r ∧ RetL (iv (halfF r)) H Q
theorem cut1 (r : List Int) (h : 1 ≤ r.length) : cutV (iv r) (some 1) none = iv (r.drop 1) := by
  have e1 : HT.sIx (iv r).length 0 (some 1) = 1 := by
    rw [iv_len]
    unfold HT.sIx
    simp
    omega
  have e2 : HT.sIx (iv r).length (iv r).length none = r.length := by
    rw [iv_len]
    rfl
  unfold cutV
  rw [e1, e2, ← List.map_drop, List.take_of_length_le]
  rw [iv_len, List.length_drop]
  omega
theorem halfF_take {r : List Int} {i : Nat} (h : i + 1 < r.length) : (halfF r).take (i + 1) = (halfF r).take i ++ [if hup r i = hup r (i + 1) then 0 else 1] := by
  have h2 : (halfF r)[i]? = some (if hup r i = hup r (i + 1) then 0 else 1) := by
    unfold halfF turnsOf
    rw [List.getElem?_map, List.getElem?_range (by omega)]
    rfl
  rw [List.take_succ, h2]
  rfl
theorem r_by_half0 (h : p_by_half0 K vs H Q E) : t_by_half K E1 (p_see_rule0 K) (En Q) (start ["rule", "place", "way", "folding", "length", "next_way"] vs) H := by
  obtain ⟨a, r, rfl, hr, ok, q⟩ := h
  have l1 := ok.l1
  have l2 := ok.l12
  refine q_drop (ev_call (vs := [.ref a]) (ea_cons (ev_var rfl) ea_nil) (sp_see_rule0 hr ok)) fun H1 e1 => ?_
  refine q_asg (v := .int (hpl r 1)) (ev_is (ev_op (ev_var rfl) ev_c (rv_ixL (ex_l e1 hr) (atI_nat (j := 0) (iv_at (getD_of (by omega)))))) (congrArg V.int (show r.getD 0 0 = 0 + r.getD 0 0 by omega))) fun H2 e2 => ?_
  refine q_asg (v := .int (wayI (hup r 0))) ev_c fun H3 e3 => ?_
  refine q_asgL (el_lst ea_nil (by decide)) fun p H4 hp e4 h4 => ?_
  have e03 := (e1.trans e2).trans e3
  have e04 := e03.trans e4
  refine q_forNLn (xs := iv (r.drop 1)) (by rw [← cut1 r l1]; exact el_sl (ev_var rfl) (eo_some ev_c) eo_none (ex_l e04 hr)) (fun L i σ' H' => ∃ kv nv, σ' = [some (.ref a), some (.int (hpl r (i + 1))), some (.int (wayI (hup r i))), some (.ref p), kv, nv] ∧ H' L = some (.lst (iv (r.drop 1))) ∧ L ≠ p ∧ Mk H p H' (iv ((halfF r).take i)))
    (fun L H5 hL e5 h5 => ⟨_, _, rfl, h5, (fun z => by rw [z, h4] at hL; cases hL), fresh_back e03 hp, e04.trans e5, e5 _ _ h4⟩) (fun L i σ' H' _ ⟨_, _, _, h, _, _⟩ => sq_of h) ?_ ?_
  · rintro L i v σ' H' hi ⟨kv, nv, rfl, hL, hne, m⟩
    obtain ⟨n, hn, rfl⟩ := iv_get hi
    have hl := (List.getElem?_eq_some_iff.mp hn).1
    rw [List.length_drop] at hl
    have hir : i + 1 < r.length := by omega
    have en : n = r.getD (i + 1) 0 := by
      rw [List.getElem?_drop, Nat.add_comm 1 i, getD_of hir] at hn
      exact (Option.some.inj hn).symm
    have hn1 := ok.all _ (getD_mem hir)
    refine q_asg ev_c fun H5 e5 => ?_
    refine q_ifAsg (v := .int (wayI (hup r (i + 1)))) (b := decide (0 < hpl r (i + 1))) (et_test (ev_op (ev_var rfl) ev_c rv_I0)) (fun hb => ?_) (fun hb => ?_) fun H6 e6 => ?_
    · refine ev_is (ev_un ev_c ru_neg) (congrArg V.int ?_)
      rw [show hup r (i + 1) = false from decide_eq_false (by have := of_decide_eq_true hb; omega)]
      rfl
    · rw [show hup r (i + 1) = true from decide_eq_true (by have := of_decide_eq_false hb; omega)]
      rfl
    have m6 := (m.mono e5).mono e6
    have hL6 := e6 _ _ (e5 _ _ hL)
    have lk : ((halfF r).take i).length ≤ 12 := by
      rw [List.length_take]
      unfold halfF turnsOf
      rw [List.length_map, List.length_range]
      omega
    refine q_app m6.at_ (v := .int (if hup r i = hup r (i + 1) then 0 else 1)) (ev_var rfl) (ev_is (ev_int1 (ev_is (ev_op (ev_var rfl) (ev_var rfl) (rv_ne rfl)) rfl)) ?_) (by rw [iv_len]; omega) fun H7 e7 => ?_
    · rw [dec_int]
      cases hup r i <;> cases hup r (i + 1) <;> rfl
    have m7 := m6.app (ys := iv ((halfF r).take i) ++ [.int (if hup r i = hup r (i + 1) then 0 else 1)]) e7
    rw [iv_app, ← halfF_take hir] at m7
    have hL7 : upd H7 p (.lst (iv ((halfF r).take i) ++ [.int (if hup r i = hup r (i + 1) then 0 else 1)])) L = some (.lst (iv (r.drop 1))) := by
      rw [upd_ne hne]
      exact e7 _ _ hL6
    rw [iv_app, ← halfF_take hir] at hL7 ⊢
    refine q_asg (ev_var rfl) fun H8 e8 => ?_
    refine s_asg (v := .int (hpl r (i + 2))) (ev_is (ev_op (ev_var rfl) (ev_op (ev_var rfl) (ev_var rfl) (rv_I (.inl ?_))) rv_I0) ?_) fun H9 e9 => ⟨_, _, rfl, e9 _ _ (e8 _ _ hL7), hne, (m7.mono e8).mono e9⟩
    · cases hup r (i + 1) <;> decide
    · rw [en]
      refine congrArg V.int ?_
      show hpl r (i + 1) + wayI (decide (hpl r (i + 1) ≤ 0)) * r.getD (i + 1) 0 = if hpl r (i + 1) ≤ 0 then hpl r (i + 1) + r.getD (i + 1) 0 else hpl r (i + 1) - r.getD (i + 1) 0
      by_cases z : hpl r (i + 1) ≤ 0
      · rw [if_pos z, decide_eq_true z]
        show _ + 1 * _ = _
        omega
      · rw [if_neg z, decide_eq_false z]
        show _ + -1 * _ = _
        omega
  · rintro L σ' H' ⟨kv, nv, rfl, _, _, m⟩
    refine s_ret (ev_var rfl) fun H5 e5 => ?_
    rw [List.take_of_length_le (by rw [iv_len, List.length_drop]; unfold halfF turnsOf; rw [List.length_map, List.length_range]; omega)] at m
    exact (m.mono e5).ret q
theorem sl_by_half0 {a : Addr} {r : List Int} (hr : SqL K H a (iv r)) (ok : OkR r) : SpL (p_by_half0 K) [.ref a] H (iv (halfF r)) := fun H1 e Q q E => ⟨a, r, rfl, ex_l e hr, ok, fun p H2 hp e2 h2 => q p H2 hp e2 h2⟩
end
end Fo

namespace Fo
open PySem PySem.Spec PyProof.Rows L2 Evl
/-! ### set(a list of ints), sorted(such a set), any number of them: turned from the kit's proofs for tuples, for few -/
section
variable {P : Program} {w : World} {A : Around} {E : Value → Shared → Prop} {s : Shared}
set_option maxRecDepth 100000 in
set_option maxHeartbeats 3200000 in
theorem set_listI {l : Addr} {items : Array Value} (ns : List Int) {Q : Value → Shared → Prop} (hh : A.handled = none) (hl : s.heap.IsList l items) (hit : IntsAre items.toList ns) (hb : ns.length + 1 < scanBound)
    (h : ∀ (h' : Heap) (tk c : Nat), SetR w h' s.heap.objs.size (fun j => decide (j ∈ ns)) c → c ≤ ns.length → (∀ b o, s.heap.get? b = some o → h'.get? b = some o) → Q (.ref s.heap.objs.size) { s with heap := h', toks := tk }) :
    wpAny (model P w) A (call (.type "set") [.ref l]) Q E s := by
  have hisz : items.size = ns.length := by
    have q := IntsAre.length hit
    rw [Array.length_toList] at q
    exact q
  obtain ⟨c, tl, hmro⟩ := F.called_set.mro
  have hmade := F.called_set.made
  have hsub := F.called_set.sub
  refine wpAny_call (codeAny_of_tree ?_)
  show wpAny _ _ (callAny (.type "set") _) _ _ _
  refine wpAny_pure ⟨Code.quiet_builtin _ (by decide +kernel), codeAny_builtin F.entry_type_call ?_⟩
  rw [Around.under_plain (weight_type_call_type "set" [.ref l] []) rfl]
  have h1 := F.called_set.notType
  have h2 := F.called_set.canCreate
  have hct := F.typeCall_set_1 (.ref l)
  repeat (any_goals (first | assumption | wp_step))

  refine codeAny_mono (code_set_led1 (.ref l) (E := E) (Q₁ := fun obj s₁ => obj = .ref s.heap.objs.size ∧ s₁ = { s with heap := s.heap.push { cls := .type "set", dict := none, data := .set #[] 0 (.fresh 0 0 (!w.params.followText "set-order")) } }) ⟨rfl, rfl⟩) fun r s₁ hr => ?_
  cases r with
  | error e => exact hr
  | ok fl =>
    cases fl with
    | ret obj =>
      obtain ⟨rfl, rfl⟩ := hr
      have hS : (s.heap.push { cls := .type "set", dict := none, data := .set #[] 0 (.fresh 0 0 (!w.params.followText "set-order")) }).get? s.heap.objs.size = some { cls := .type "set", dict := none, data := .set #[] 0 (.fresh 0 0 (!w.params.followText "set-order")) } := Heap.get?_push_size _ rfl
      have hT : Shared.TypeIs { s with heap := s.heap.push { cls := .type "set", dict := none, data := .set #[] 0 (.fresh 0 0 (!w.params.followText "set-order")) } } (.ref s.heap.objs.size) "set" := ⟨_, hS, rfl⟩
      have hli := F.called_set.init.lookup
      have hbi := F.called_set.init.bind (.ref s.heap.objs.size)
      repeat (any_goals (first | assumption | wp_step))

      refine codeAny_mono (codeAny_call_builtin (R := wants (fun r s₂ => r = .none ∧ ∃ h' tk c, s₂ = { s with heap := h', toks := tk } ∧ SetR w h' s.heap.objs.size (fun j => decide (j ∈ ns)) c ∧ c ≤ ns.length ∧
          (∀ b o, s.heap.get? b = some o → h'.get? b = some o)) E) F.called_set.init.plain F.entry_set_init (check_set_init_1 hT ?_)) fun r₂ s₂ hr₂ => ?_
      · obtain ⟨ol, hol, hcl, nl, hdl⟩ := hl
        obtain ⟨ocls, odict, odata, oslots⟩ := ol
        simp only at hcl hdl
        subst hcl; subst hdl
        have hol' : (s.heap.push { cls := .type "set", dict := none, data := .set #[] 0 (.fresh 0 0 (!w.params.followText "set-order")) }).get? l = some { cls := .type "list", dict := odict, data := .seq items nl, slots := oslots } := Heap.get?_push_of_some _ hol
        have hsls := F.sub_list_set
        have hslf := F.sub_list_frozenset
        have hne : (Value.type "list" == Value.type "dict") = false := by decide
        have hl1 : (s.heap.push { cls := .type "set", dict := none, data := .set #[] 0 (.fresh 0 0 (!w.params.followText "set-order")) }).IsList l items := ⟨_, hol', rfl, nl, rfl⟩
        unfold Builtin.«set.__init__» noKeywords Builtin.Frozenset.updateFrom
        generalize hPI : pyIter = PI
        wp_walk
        subst hPI

        refine wpAny_pyIter_list hl1 ?_
        refine wpAny_bind (wpAny_runValue ?_)
        have hlS : l < s.heap.objs.size := Heap.lt_size hol
        have hh3 : A.in1.in1.in1.handled = none := by simp [hh]
        have hz1 : (s.heap.push { cls := .type "set", dict := none, data := .set #[] 0 (.fresh 0 0 (!w.params.followText "set-order")) }).objs.size = s.heap.objs.size + 1 := Heap.size_push ..
        have hneI : l ≠ (s.heap.push { cls := .type "set", dict := none, data := .set #[] 0 (.fresh 0 0 (!w.params.followText "set-order")) }).objs.size := by
          rw [Heap.size_push]; exact Nat.ne_of_lt (Nat.lt_succ_of_lt hlS)
        have hSf : s.heap.objs.size ∉ [(s.heap.push { cls := .type "set", dict := none, data := .set #[] 0 (.fresh 0 0 (!w.params.followText "set-order")) }).objs.size, l] := by
          rw [Heap.size_push]; simp only [List.mem_cons, List.mem_singleton, List.not_mem_nil, or_false, not_or]
          exact ⟨Nat.ne_of_lt (Nat.lt_succ_self _), Nat.ne_of_gt hlS⟩
        have hval : ∀ (i : Nat) (v : Value), items[i]? = some v → ∃ k t, ns[i]? = some k ∧ v = .int k t := fun i v hv => by
          have hi : i < ns.length := by rw [← hisz]; exact (Array.getElem?_eq_some_iff.mp hv).1
          obtain ⟨t, e⟩ := PyProof.Rows.IntsAre.int_at hit i v (by rw [Array.getElem?_toList]; exact hv)
          refine ⟨ns[i], t, List.getElem?_eq_getElem hi, ?_⟩
          rw [e, List.getD_eq_getElem?_getD, List.getElem?_eq_getElem hi] <;> rfl
        refine set_update_ints ((Walks.list hh3 _ l hneI items).toS) s.heap.objs.size
          hSf ns hisz hb hval (items.size - 0) 0 _ (by omega) (Nat.zero_le _)
          ⟨⟨_, Heap.get?_push_size _ rfl, rfl, rfl⟩, (hl1.push _)⟩ ?hS0 ?hR
        case hS0 =>
          have hget : ((s.heap.push { cls := .type "set", dict := none, data := .set #[] 0 (.fresh 0 0 (!w.params.followText "set-order")) }).push { cls := .type "list_iterator", data := .fields #[.ref l, .int 0 0] }).get? s.heap.objs.size
              = some { cls := .type "set", dict := none, data := .set #[] 0 (.fresh 0 0 (!w.params.followText "set-order")) } := Heap.get?_push_of_some _ hS
          exact ⟨0, Nat.le_refl 0, setR_new_at hget⟩
        case hR =>
          intro s' c' hm hc' hS'
          obtain ⟨h', g2, d', tk', os'⟩ := s'
          have eg : g2 = s.gens := hm.gens
          have ed : d' = s.drawn := hm.drawn
          have eo : os' = s.os := hm.os
          subst eg; subst ed; subst eo
          show wpAny _ _ _ _ _ _
          refine wpAny_pure ?_
          show wpAny _ _ (ret Value.none) _ _ _
          rw [hisz] at hc'
          refine wpAny_pure ⟨rfl, h', tk', c', rfl, hS', hc', fun b o e => ?_⟩
          have hb0 : b < s.heap.objs.size := Heap.lt_size e
          have hb1 : b ≠ s.heap.objs.size := Nat.ne_of_lt hb0
          have hb2 : b ≠ (s.heap.push { cls := .type "set", dict := none, data := .set #[] 0 (.fresh 0 0 (!w.params.followText "set-order")) }).objs.size := by
            rw [Heap.size_push]; exact Nat.ne_of_lt (Nat.lt_succ_of_lt hb0)
          exact hm.heap b o (by simp only [List.mem_cons, List.mem_singleton, List.not_mem_nil, or_false, not_or]; exact ⟨hb1, hb2⟩) (Heap.get?_push_of_some _ (Heap.get?_push_of_some _ e))

      · cases r₂ with
        | error e => exact hr₂
        | ok fl₂ =>
          cases fl₂ with
          | ret r =>
            obtain ⟨rfl, h', tk, c', rfl, hS', hc', hk'⟩ := hr₂
            repeat (any_goals (first | assumption | wp_step))
            exact h _ _ _ hS' hc' hk'
          | _ => exact hr₂.elim
    | _ => exact hr.elim

theorem sorted_setI {a : Addr} {S : Int → Bool} {n : Nat} {Q : Value → Shared → Prop} (R : SetR w s.heap a S n) (hh : A.handled = none)
    (hQ : ∀ s' p (out : Array Value) (c : Nat) (ns : List Int), (∀ b o, s.heap.get? b = some o → s'.heap.get? b = some o) → s'.gens = s.gens → s'.os = s.os → s.heap.objs.size ≤ p →
      s'.heap.get? p = some (seqObj "list" out c) → IntsAre out.toList ns → ns.Pairwise (· < ·) → (∀ k, k ∈ ns ↔ S k = true) → ns.length < 4096 → Q (.ref p) s') :
    wpAny (model P w) A (call (.builtin "sorted") [.ref a]) Q E s := by
  obtain ⟨o, es, ep, t, ho, hex, hd, g, nd, hm, hb, hf, hn, hr, hl⟩ := R
  refine Calls.call_function_entry kind_sorted plain_sorted entry_sorted (args_sorted1 _) ?_
  unfold Builtin.«sorted»
  refine wpAny_bind (m := checkCount "sorted" 1 1 _) (wpAny_pure ?_)
  refine wpAny_bind (collect_set (A := A.in1) hh ⟨o, ho, hex.1, hd⟩ hf hb hr hl fun s1 vs k1 hz g1 o1 pm => ?_)
  have hvl : vs.length = n := by rw [pm.length_eq, List.length_map, Array.length_toList]; exact hn
  have hbn : n < 4096 := by rw [← hn]; exact hb
  have hI : IntsAre vs (vs.map SrtO.iv) := SrtO.ints_iv fun v hv => by
    obtain ⟨e, he, q⟩ := List.mem_map.mp (pm.mem_iff.mp hv)
    obtain ⟨k, tk, h1, _⟩ := g e he
    exact ⟨k, tk, by rw [← q]; exact h1⟩
  have pk : (vs.map SrtO.iv).Perm (es.toList.map keyOf) := by
    have q := pm.map SrtO.iv
    rw [List.map_map] at q
    exact q
  have hz2 : vs.length ≤ sizeLine := by rw [hvl]; exact sz_of (by omega)
  refine wpAny_bind (wpAny_newList ?_ hz2)
  have hoL : (s1.heap.push (seqObj "list" vs.toArray 0)).get? s1.heap.objs.size = some (seqObj "list" vs.toArray 0) := Heap.get?_push_size _ rfl
  refine wpAny_bind (wpAny_holding (wpAny_call_entry slot_list_sort ⟨_, hoL, rfl⟩ entry_list_sort (SrtO.list_sort_ord SrtO.swo_int hoL hz2 (fun h2 => SrtO.ints_sortable hI h2) fun out hs hb2 => ⟨_, rfl, ?_⟩) (args_list_sort _)))
  obtain ⟨a1, a2, a3⟩ := SrtO.ints_out hI hs hb2
  obtain ⟨c, hc⟩ := sortedHeap_at (vs := vs) (out := out.toArray) hoL
  have pn : (out.map SrtO.iv).Perm (es.toList.map keyOf) := a2.trans pk
  refine wpAny_pure ⟨_, rfl, hQ _ s1.heap.objs.size out.toArray c (out.map SrtO.iv) (fun b u e => ?_) g1 o1 hz hc (by simpa using a1) (lt_of_le_nodup _ a3 (pn.nodup_iff.mpr nd)) (fun k => by rw [pn.mem_iff, ← hm k]) ?_⟩
  · have q := k1 b u e
    have hlt := Heap.lt_size q
    show (sortedHeap (s1.heap.push (seqObj "list" vs.toArray 0)) s1.heap.objs.size vs out.toArray).get? b = some u
    rw [sortedHeap_old (Nat.ne_of_lt hlt) (by rw [size_push']; exact Nat.lt_succ_of_lt hlt)]
    exact Heap.get?_push_of_some _ q
  · rw [pn.length_eq, List.length_map, Array.length_toList, hn]; exact hbn
end
def rSetI (P : Program) (w : World) (K : PySem.W.Frag) : List V → Hp → VK → Prop := fun xs H Q => ∃ (l : Addr) (ns : List Int), xs = [V.ref l] ∧ SqL K H l (ns.map V.int) ∧ ns.length < 4000 ∧ ∀ a c, H a = none → Q (.ref a) (upd H a (SetO w a (fun j => decide (j ∈ ns)) c))
def rSortedS (P : Program) (w : World) : List V → Hp → VK → Prop := fun xs H Q => ∃ (a : Addr) (S : Int → Bool) (n : Nat), xs = [V.ref a] ∧ H a = some (SetO w a S n) ∧
  ∀ (ns : List Int) (p : Addr), ns.Pairwise (· < ·) → (∀ k : Int, k ∈ ns ↔ S k = true) → H p = none → Q (.ref p) (upd H p (.lst (ns.map V.int)))
section
variable {X : Cx}
theorem cr_setI (hc : X.calm = true) : CallR X (.type "set") (rSetI X.prog X.w X.K) := by
  intro pins s σ H xs us Q I r h
  obtain ⟨l, ns, rfl, hl, hb, q⟩ := h
  rw [Vals.ref1 r]
  obtain ⟨its, rv, pl, hz⟩ := I.list hl
  refine set_listI (P := X.prog) (w := X.w) ns (I.ok.hd hc) pl.isList (by simpa using rv.ints) (by unfold scanBound; omega) fun h' tk c R hc' k => ?_
  exact ⟨.ref s.heap.objs.size, upd H s.heap.objs.size (SetO X.w s.heap.objs.size (fun j => decide (j ∈ ns)) c), I.laid (t' := tk) k (Nat.le_refl _) (setO_new R), rfl, q _ c (I.hok.fresh (Nat.le_refl _))⟩
theorem cr_sortedS (hc : X.calm = true) : CallR X (.builtin "sorted") (rSortedS X.prog X.w) := by
  intro pins s σ H vs us Q I r h
  obtain ⟨a, S, n, rfl, ha, q⟩ := h
  have R := setO_get I ha
  rw [Vals.ref1 r]
  refine sorted_setI R (I.ok.hd hc) fun s' p out c ns k g o hp hg hi hs hm hl => ?_
  have hlen : (ns.map V.int).length ≤ sizeLine := by rw [List.length_map]; exact Nat.le_trans (Nat.le_of_lt hl) (sz_of (by decide))
  have hn : H p = none := I.hok.fresh hp
  have J : Inv X pins σ (upd H p (.lst (ns.map V.int))) { s with heap := s'.heap, gens := s'.gens, drawn := s'.drawn, toks := s'.toks } :=
    I.call (ch := []) (Un.laid k hp hn) (I.hok.laid k hp ⟨hlen, out.toList, c, vals_of_ints hi, hg⟩) (by rw [g]; exact I.bare) (fun _ z => nomatch z)
  have e : s' = { s with heap := s'.heap, gens := s'.gens, drawn := s'.drawn, toks := s'.toks } := by
    cases s'
    cases s
    cases o
    rfl
  rw [e]
  exact ⟨.ref p, _, J, rfl, q ns p hs hm hn⟩
end
section
open Evl
variable {P : Program} {w : World} {K : PySem.W.Frag} {σ : L2.St} {H : Hp} {te : TE}
theorem srt_unique : ∀ {xs ys : List Int}, xs.Pairwise (· < ·) → ys.Pairwise (· < ·) → (∀ k, k ∈ xs ↔ k ∈ ys) → xs = ys
  | [], [], _, _, _ => rfl
  | [], y :: ys, _, _, h => absurd ((h y).mpr List.mem_cons_self) (by simp)
  | x :: xs, [], _, _, h => absurd ((h x).mp List.mem_cons_self) (by simp)
  | x :: xs, y :: ys, h1, h2, h => by
    obtain ⟨a1, b1⟩ := List.pairwise_cons.mp h1
    obtain ⟨a2, b2⟩ := List.pairwise_cons.mp h2
    have e : x = y := by
      rcases List.mem_cons.mp ((h x).mp List.mem_cons_self) with e | hx
      · exact e
      · rcases List.mem_cons.mp ((h y).mpr List.mem_cons_self) with e | hy
        · exact e.symm
        · have := a2 x hx
          have := a1 y hy
          omega
    subst e
    rw [srt_unique b1 b2 fun k => ⟨fun hk => ?_, fun hk => ?_⟩]
    · rcases List.mem_cons.mp ((h k).mp (List.mem_cons_of_mem _ hk)) with e | h
      · have := a1 k hk
        omega
      · exact h
    · rcases List.mem_cons.mp ((h k).mpr (List.mem_cons_of_mem _ hk)) with e | h
      · have := a2 k hk
        omega
      · exact h
/-- sorted(set(xs)) is the rising list of the same members -/
theorem el_sortedSet {a : Addr} {xs ys : List Int} (h : Ev te σ H (.ref a)) (hs : SqL K H a (iv xs)) (hz : xs.length < 4000) (hy : ys.Pairwise (· < ·)) (hm : ∀ k, k ∈ ys ↔ k ∈ xs) :
    EvL (tCB (rSortedS P w) (tCons (tCB (rSetI P w K) (tCons te tNil)) tNil)) σ H (iv ys) := fun H1 e Q q =>
  h H1 e _ fun H2 e2 => ⟨a, xs, rfl, ex_l (e.trans e2) hs, hz, fun b c hb => ⟨b, fun j => decide (j ∈ xs), c, rfl, upd_same, fun ns p hn hk hp => by
    have e3 : ns = ys := srt_unique hn hy fun k => by rw [hk k, decide_eq_true_eq, hm k]
    subst e3
    exact q p _ (fresh_back (e2.trans (Ex.new hb)) hp) ((e2.trans (Ex.new hb)).trans (Ex.new hp)) upd_same⟩⟩
end
end Fo

namespace Fo
open PySem PySem.Spec PyProof.Rows L2 Evl
/-! ### readings of the defs: printed by gen.py -/
def t__law_by_half (K : PySem.W.Frag) (E : XK) : TS := (tSeq (tAsg (tOp (rIxL K) (tVar 0) (tC (.int 0))) (gName 1))
    (tSeq (tAsg (tC (.bl true)) (gName 2))
    (tSeq (tAsg (tLst tNil) (gName 3))
    (tSeq (tFor (iList K (tSl (rSlL K) (tVar 0) (tPart (tC (.int 1))) tNoPart)) (gName 4) (tSeq (tDrop (tBM K "list" rAppend (tVar 3) (tCons (tCB rInt1 (tCons (tOp rEq (tVar 2) (tOp rGtI (tVar 1) (tC (.int 0)))) tNil)) tNil)))
    (tSeq (tAsg (tOp rLeI (tVar 1) (tC (.int 0))) (gName 2))
    (tIfS (tB (tVar 2)) (tAsg (tOp rAddI (tVar 1) (tVar 4)) (gName 1)) (tAsg (tOp rSubI (tVar 1) (tVar 4)) (gName 1))))))
    (tRet (tVar 3))))))
def t__law_paper (P : Program) (w : World) (K : PySem.W.Frag) (E : XK) : TS := (tSeq (tAsg (tLst (tCons (tLstRg (tRg1 (tOp rAddI (tVar 1) (tC (.int 1))))) tNil)) (gName 2))
    (tSeq (tFor (iList K (tVar 0)) (gName 3) (tSeq (tAsg (tLst tNil) (gName 4))
    (tSeq (tFor (iList K (tOp (rIxL K) (tVar 2) (tUn rNegI (tC (.int 1))))) (gName 5) (tSeq (tIfS (tTest (tOp rGeI (tVar 5) (tVar 3))) (tDrop (tBM K "list" rAppend (tVar 4) (tCons (tOp rSubI (tVar 5) (tVar 3)) tNil))) tNext)
    (tIfS (tTest (tOp rLeI (tOp rAddI (tVar 5) (tVar 3)) (tVar 1))) (tDrop (tBM K "list" rAppend (tVar 4) (tCons (tOp rAddI (tVar 5) (tVar 3)) tNil))) tNext)))
    (tDrop (tBM K "list" rAppend (tVar 2) (tCons (tCB (rSortedS P w) (tCons (tCB (rSetI P w K) (tCons (tVar 4) tNil)) tNil)) tNil))))))
    (tRet (tVar 2))))
def t_law_k06 (K : PySem.W.Frag) (E : XK) (p__law_draw : Sp) (p__law_rule : Sp) (p__law_by_half : Sp) (p_by_half : Sp) (p__law_numbers : Sp) (p_joints : Sp) (p_fits : Sp) (p_shortest_case : Sp) (p_span : Sp) (p__law_span : Sp) (p_folding_at : Sp) (p__law_paper : Sp) (p_reachable : Sp) : TS := (tSeq (tAsg (tCall p__law_rule [] E (tCons (tVar 0) (tCons (tOp rAddI (tC (.int 1)) (tOp rModI (tCall p__law_draw [] E (tCons (tVar 0) (tCons (tC (.int 1)) tNil))) (tC (.int 12)))) tNil))) (gName 1))
    (tSeq (tAsg (tCall p__law_by_half [] E (tCons (tVar 1) tNil)) (gName 2))
    (tSeq (tAsg (tCB (rListS K) (tCons (tVar 1) tNil)) (gName 3))
    (tSeq (tFor (iRng1 (tCons (tC (.int 2)) tNil)) (gName 4) (tSeq (tAsg (tCall p_by_half [] E (tCons (tVar 3) tNil)) (gName 5))
    (tSeq (tIfS (tOr (tNot (tB (tCall p__law_numbers [] E (tCons (tVar 5) (tCons (tVar 2) tNil))))) (tTest (tOp (rNeD K) (tVar 3) (tVar 1)))) (tRet (tC (.bl false))) tNext)
    (tDrop (tBM K "list" rAppend (tVar 5) (tCons (tC (.int 1)) tNil))))))
    (tSeq (tAsg (tCB (rMax K) (tCons (tVar 1) tNil)) (gName 6))
    (tSeq (tAsg (tCall p_joints [] E (tCons (tVar 1) (tCons (tVar 2) tNil))) (gName 7))
    (tSeq (tIfS (tOr (tTest (tOp rGtI (tCB (rMax K) (tCons (tVar 7) tNil)) (tVar 6))) (tOr (tTest (tOp rLeI (tCB (rMin K) (tCons (tVar 7) tNil)) (tOp rSubI (tC (.int 0)) (tVar 6)))) (tTest (tOp rNotB (tCall p_fits [] E (tCons (tVar 1) (tCons (tVar 2) (tCons (tOp rMulI (tC (.int 2)) (tVar 6)) tNil)))) (tC (.bl true)))))) (tRet (tC (.bl false))) tNext)
    (tSeq (tAsg (tCall p_shortest_case [] E (tCons (tCB (rListS K) (tCons (tVar 1) tNil)) tNil)) (gName 8))
    (tSeq (tIfS (tOr (tNot (tTest (tChain rLeI rLeI (tVar 6) (tOp (rIxT K) (tVar 8) (tC (.int 0))) (tCall p_span [] E (tCons (tVar 1) (tCons (tVar 2) tNil)))))) (tTest (tOp rNe (tCB (rLenS K) (tCons (tOp (rIxT K) (tVar 8) (tC (.int 1))) tNil)) (tOp rSubI (tCB (rLenS K) (tCons (tVar 1) tNil)) (tC (.int 1)))))) (tRet (tC (.bl false))) tNext)
    (tSeq (tIfS (tOr (tTest (tOp rNe (tCall p__law_span [] E (tCons (tVar 1) (tCons (tOp (rIxT K) (tVar 8) (tC (.int 1))) tNil))) (tOp (rIxT K) (tVar 8) (tC (.int 0))))) (tTest (tOp (rNeD K) (tCall p_folding_at [] E (tCons (tVar 1) (tCons (tOp (rIxT K) (tVar 8) (tC (.int 0))) (tCons (tC (.int 0)) tNil)))) (tOp (rIxT K) (tVar 8) (tC (.int 1)))))) (tRet (tC (.bl false))) tNext)
    (tSeq (tFor (iList K (tLst (tCons (tOp rSubI (tOp (rIxT K) (tVar 8) (tC (.int 0))) (tC (.int 1))) (tCons (tOp (rIxT K) (tVar 8) (tC (.int 0))) tNil)))) (gName 9) (tSeq (tAsg (tCall p__law_paper [] E (tCons (tVar 1) (tCons (tVar 9) tNil))) (gName 10))
    (tIfS (tOr (tTest (tOp (rNeD K) (tCall p_reachable [] E (tCons (tCB (rListS K) (tCons (tVar 1) tNil)) (tCons (tVar 9) tNil))) (tVar 10))) (tTest (tOp rNe (tOp (rEqD K) (tOp (rIxL K) (tVar 10) (tUn rNegI (tC (.int 1)))) (tLst tNil)) (tOp rLtI (tVar 9) (tOp (rIxT K) (tVar 8) (tC (.int 0))))))) (tRet (tC (.bl false))) tNext)))
    (tRet (tC (.bl true))))))))))))))
end Fo

namespace Fo
open PySem PySem.Spec PyProof.Rows L2 Evl
/-! ### the places found on paper -/
def fnd (l c : Int) (xs : List Int) : List Int := xs.flatMap fun p => (if l ≤ p then [p - l] else []) ++ (if p + l ≤ c then [p + l] else [])
theorem mem_fnd {l c x : Int} {xs : List Int} : x ∈ fnd l c xs ↔ ∃ p ∈ xs, (l ≤ p ∧ x = p - l) ∨ (p + l ≤ c ∧ x = p + l) := by
  unfold fnd
  rw [List.mem_flatMap]
  constructor
  · rintro ⟨p, hp, h⟩
    refine ⟨p, hp, ?_⟩
    rcases List.mem_append.mp h with h | h
    · by_cases z : l ≤ p
      · rw [if_pos z] at h; exact .inl ⟨z, List.mem_singleton.mp h⟩
      · rw [if_neg z] at h; cases h
    · by_cases z : p + l ≤ c
      · rw [if_pos z] at h; exact .inr ⟨z, List.mem_singleton.mp h⟩
      · rw [if_neg z] at h; cases h
  · rintro ⟨p, hp, h⟩
    refine ⟨p, hp, List.mem_append.mpr ?_⟩
    rcases h with ⟨z, e⟩ | ⟨z, e⟩
    · exact .inl (by rw [if_pos z, e]; exact List.mem_singleton_self _)
    · exact .inr (by rw [if_pos z, e]; exact List.mem_singleton_self _)
theorem fnd_take {l c : Int} {xs : List Int} {j : Nat} {p : Int} (h : xs[j]? = some p) : fnd l c (xs.take (j + 1)) = fnd l c (xs.take j) ++ (if l ≤ p then [p - l] else []) ++ (if p + l ≤ c then [p + l] else []) := by
  rw [List.take_succ, h]
  unfold fnd
  rw [List.flatMap_append, List.append_assoc]
  simp
theorem fnd_len {l c : Int} : ∀ {xs : List Int}, (fnd l c xs).length ≤ 2 * xs.length
  | [] => Nat.le_refl _
  | x :: xs => by
    have h := fnd_len (l := l) (c := c) (xs := xs)
    have e : fnd l c (x :: xs) = ((if l ≤ x then [x - l] else []) ++ (if x + l ≤ c then [x + l] else [])) ++ fnd l c xs := List.flatMap_cons
    rw [e, List.length_append, List.length_append, List.length_cons]
    have h1 : (if l ≤ x then [x - l] else []).length ≤ 1 := by split <;> simp
    have h2 : (if x + l ≤ c then [x + l] else []).length ≤ 1 := by split <;> simp
    omega
theorem mem_row {r : List Int} {n k : Nat} {x : Int} : x ∈ rowOf r n k ↔ ∃ p : Nat, x = (p : Int) ∧ p < n ∧ reachB r n k p = true := by
  unfold rowOf
  rw [List.mem_map]
  constructor
  · rintro ⟨p, h, rfl⟩
    obtain ⟨h1, h2⟩ := List.mem_filter.mp h
    exact ⟨p, rfl, List.mem_range.mp h1, h2⟩
  · rintro ⟨p, rfl, h1, h2⟩
    exact ⟨p, List.mem_filter.mpr ⟨List.mem_range.mpr h1, h2⟩, rfl⟩
theorem row_rise (r : List Int) (n k : Nat) : (rowOf r n k).Pairwise (· < ·) := by
  unfold rowOf
  refine List.pairwise_map.mpr (((List.pairwise_lt_range).filter _).imp fun h => ?_)
  show Int.ofNat _ < Int.ofNat _
  exact Int.ofNat_lt.mpr h
theorem row_len (r : List Int) (n k : Nat) : (rowOf r n k).length ≤ n := by
  unfold rowOf
  rw [List.length_map]
  exact Nat.le_trans (List.length_filter_le _ _) (by rw [List.length_range]; exact Nat.le_refl _)
theorem row_fnd {r : List Int} {c i : Nat} (hi : i < r.length) (hr : ∀ x ∈ r, 1 ≤ x) (x : Int) : x ∈ rowOf r (c + 1) (i + 1) ↔ x ∈ fnd (r.getD i 0) c (rowOf r (c + 1) i) := by
  have hl := hr _ (getD_mem hi)
  rw [mem_row, mem_fnd]
  constructor
  · rintro ⟨p, rfl, hp, h⟩
    have h : ((decide ((r.getD i 0).toNat ≤ p) && reachB r (c + 1) i (p - (r.getD i 0).toNat)) || (decide (p + (r.getD i 0).toNat < c + 1) && reachB r (c + 1) i (p + (r.getD i 0).toNat))) = true := h
    rw [Bool.or_eq_true, Bool.and_eq_true, Bool.and_eq_true, decide_eq_true_eq, decide_eq_true_eq] at h
    rcases h with ⟨h1, h2⟩ | ⟨h1, h2⟩
    · exact ⟨((p - (r.getD i 0).toNat : Nat) : Int), mem_row.mpr ⟨_, rfl, by omega, h2⟩, .inr ⟨by omega, by omega⟩⟩
    · exact ⟨((p + (r.getD i 0).toNat : Nat) : Int), mem_row.mpr ⟨_, rfl, by omega, h2⟩, .inl ⟨by omega, by omega⟩⟩
  · rintro ⟨q, hq, h⟩
    obtain ⟨p, rfl, hp, h2⟩ := mem_row.mp hq
    have key : ∀ m : Nat, m < c + 1 → ((r.getD i 0).toNat ≤ m ∧ m - (r.getD i 0).toNat = p ∨ m + (r.getD i 0).toNat = p) → reachB r (c + 1) (i + 1) m = true := by
      intro m hm hm2
      show ((decide ((r.getD i 0).toNat ≤ m) && reachB r (c + 1) i (m - (r.getD i 0).toNat)) || (decide (m + (r.getD i 0).toNat < c + 1) && reachB r (c + 1) i (m + (r.getD i 0).toNat))) = true
      rw [Bool.or_eq_true, Bool.and_eq_true, Bool.and_eq_true, decide_eq_true_eq, decide_eq_true_eq]
      rcases hm2 with ⟨h1, h3⟩ | h3
      · exact .inl ⟨h1, by rw [h3]; exact h2⟩
      · exact .inr ⟨by omega, by rw [h3]; exact h2⟩
    rcases h with ⟨h1, e⟩ | ⟨h1, e⟩
    · exact ⟨p - (r.getD i 0).toNat, by omega, by omega, key _ (by omega) (.inr (by omega))⟩
    · exact ⟨p + (r.getD i 0).toNat, by omega, by omega, key _ (by omega) (.inl ⟨by omega, by omega⟩)⟩
section
variable {P : Program} {w : World} {K : PySem.W.Frag} {σ : L2.St} {H H' H0 : Hp} {Q : VK} {E E1 : XK} {vs xs : List V} {a l : Addr} {ta te : TE} {t : TT} {v : V} {D : Ends} {tz : TS}
/-- a list grows by one where a test holds -/
theorem s_ifApp {b : Bool} (h : EvT t σ H b) (m : Mk H0 l H xs) (ha : ∀ H1, Ex H H1 → Ev ta σ H1 (.ref l)) (he : b = true → ∀ H1, Ex H H1 → Ev te σ H1 v) (hz : xs.length < 100000)
    (k : ∀ H1, Mk H0 l H1 (xs ++ if b then [v] else []) → D.nx σ H1) : tIfS t (tDrop (tBM K "list" rAppend ta (tCons te tNil))) tNext D σ H := by
  refine s_if h (fun hb H1 e1 => ?_) (fun hb H1 e1 => ?_)
  · have m1 := m.mono e1
    refine s_app m1.at_ (ha H1 e1) (he hb H1 e1) hz fun H2 e2 => k _ ?_
    rw [hb]
    exact m1.app e2
  · refine k _ ?_
    rw [hb]
    have m1 := m.mono e1
    rw [← List.append_nil xs] at m1
    exact m1
theorem q_ifApp {b : Bool} (h : EvT t σ H b) (m : Mk H0 l H xs) (ha : ∀ H1, Ex H H1 → Ev ta σ H1 (.ref l)) (he : b = true → ∀ H1, Ex H H1 → Ev te σ H1 v) (hz : xs.length < 100000)
    (k : ∀ H1, Mk H0 l H1 (xs ++ if b then [v] else []) → tz D σ H1) : tSeq (tIfS t (tDrop (tBM K "list" rAppend ta (tCons te tNil))) tNext) tz D σ H := s_ifApp (D := { D with nx := tz D }) h m ha he hz k
def p__law_paper (K : PySem.W.Frag) : Sp := fun vs H Q _ => ∃ a r, ∃ c : Nat, vs = [.ref a, .int c] ∧ SqL K H a (iv r) ∧ OkR r ∧ c ≤ 900 ∧ RetM (r.length + 1) (rowsOf r c) H Q
theorem iv_if {b : Bool} {ns : List Int} {x : Int} : iv ns ++ (if b then [V.int x] else []) = iv (ns ++ if b then [x] else []) := by
  cases b
  · show iv ns ++ [] = iv (ns ++ [])
    rw [List.append_nil, List.append_nil]
  · exact iv_app
theorem r__law_paper (h : p__law_paper K vs H Q E) : t__law_paper P w K E1 (En Q) (start ["rule", "case", "rows", "length", "found", "place"] vs) H := by
  obtain ⟨a, r, c, rfl, hr, ok, hc, q⟩ := h
  have l1 := ok.l1
  have l2 := ok.l12
  have ec : (c : Int) + 1 = ((c + 1 : Nat) : Int) := by omega
  refine q_asgR (er_one (c := rowsOf r c) (by
    have h := el_lstRg (te := tOp rAddI (tVar 1) (tC (.int 1))) (σ := [some (.ref a), some (.int c), none, none, none, none]) (H := H) (n := c + 1) (ev_is (ev_op (ev_var (i := 1) rfl) ev_c rv_I0) (congrArg V.int ec)) (by omega)
    rw [← row0 r (c + 1)] at h
    exact h)) fun v H3 e3 h3 => ?_
  obtain ⟨D, as0, rfl, hl0, m0⟩ := h3
  refine q_forLn (xs := iv r) (ev_var rfl) (ex_l e3 hr) (fun i σ' H' => ∃ as kv fv pv, σ' = [some (.ref a), some (.int c), some (.ref D), kv, fv, pv] ∧ as.length = i + 1 ∧ Made H H' D as (rowsOf r c))
    (fun H4 e4 => ⟨as0, _, _, _, rfl, hl0, m0.mono e4⟩) (fun i σ' H' _ ⟨_, _, _, _, _, _, m⟩ => ex_l m.ex hr) ?_ ?_
  · rintro i v σ' H' hi ⟨as, kv, fv, pv, rfl, hl, m⟩
    obtain ⟨n, hn, rfl⟩ := iv_get hi
    have hir := (List.getElem?_eq_some_iff.mp hn).1
    have hn1 := ok.all n (List.mem_of_getElem? hn)
    have en : r.getD i 0 = n := by
      have := getD_of hir
      rw [hn] at this
      exact (Option.some.inj this).symm
    refine q_asgL (el_lst ea_nil (by decide)) fun p H1 hp e1 h1 => ?_
    obtain ⟨l, gl, hl1, hl2⟩ := m.get (i := i) (by omega)
    have m1 := m.mono e1
    have hl3 : ∀ H2, Ex H' H2 → SqL K H2 l (iv (rowOf r (c + 1) i)) := fun H2 e => sq_of (e _ _ hl1)
    refine q_forLn (xs := iv (rowOf r (c + 1) i)) (ev_op (ev_var rfl) (ev_un ev_c ru_neg) (rv_ixL (sq_of m1.at_) (at_back (by rw [List.length_map, hl]; exact gl)))) (hl3 _ e1)
      (fun j σ' H2 => ∃ pv, σ' = [some (.ref a), some (.int c), some (.ref D), some (.int n), some (.ref p), pv] ∧ Mk H' p H2 (iv (fnd n c ((rowOf r (c + 1) i).take j))))
      (fun H2 e2 => ⟨_, rfl, hp, e1.trans e2, e2 _ _ h1⟩) (fun j σ' H2 _ ⟨_, _, k⟩ => hl3 _ k.ex) ?_ ?_
    · rintro j v σ' H2 hj ⟨pv, rfl, k⟩
      obtain ⟨pl, hpl, rfl⟩ := iv_get hj
      have hlen : (fnd n c ((rowOf r (c + 1) i).take j)).length ≤ 1802 := by
        have h1 := fnd_len (l := n) (c := c) (xs := (rowOf r (c + 1) i).take j)
        have h2 := row_len r (c + 1) i
        rw [List.length_take] at h1
        omega
      refine q_ifApp (b := decide (n ≤ pl)) (v := .int (pl - n)) (et_test (ev_op (ev_var rfl) (ev_var rfl) rv_I0)) k (fun H3 e3 => ev_var rfl) (fun _ H3 e3 => ev_op (ev_var rfl) (ev_var rfl) rv_I0) (by rw [iv_len]; omega) fun H3 k3 => ?_
      rw [iv_if] at k3
      refine s_ifApp (b := decide (pl + n ≤ c)) (v := .int (pl + n)) (et_test (ev_op (ev_op (ev_var rfl) (ev_var rfl) rv_I0) (ev_var rfl) rv_I0)) k3 (fun H3 e3 => ev_var rfl) (fun _ H3 e3 => ev_op (ev_var rfl) (ev_var rfl) rv_I0) ?_ fun H4 k4 => ⟨_, rfl, ?_⟩
      · rw [iv_len, List.length_append]
        have : (if decide (n ≤ pl) = true then [pl - n] else []).length ≤ 1 := by split <;> simp
        omega
      · rw [iv_if] at k4
        rw [fnd_take hpl]
        simp only [decide_eq_true_eq] at k4
        exact k4
    · rintro σ' H2 ⟨pv, rfl, k⟩
      rw [iv_len, List.take_length] at k
      have m2 := m.mono k.ex
      have hlen : (fnd n c (rowOf r (c + 1) i)).length < 4000 := by
        have h1 := fnd_len (l := n) (c := c) (xs := rowOf r (c + 1) i)
        have h2 := row_len r (c + 1) i
        omega
      refine s_appL (ys := rowsOf r c (i + 1)) m2.at_ (ev_var rfl) (el_sortedSet (ev_var rfl) (sq_of k.at_) hlen (row_rise r (c + 1) (i + 1)) fun x => ?_) (by rw [List.length_map]; omega) fun p3 H3 hp3 e3 h3 => ⟨as ++ [p3], _, _, _, rfl, by simp [hl], m2.turn e3 hp3 (by rw [hl]; exact h3)⟩
      rw [row_fnd hir (fun x hx => (ok.all x hx).1), en]
  · rintro σ' H' ⟨as, kv, fv, pv, rfl, hl, m⟩
    rw [iv_len] at hl
    exact s_ret (ev_var rfl) fun H4 e4 => q D as H4 hl (m.mono e4)
theorem sr_paper {a : Addr} {r : List Int} {c : Nat} (hr : SqL K H a (iv r)) (ok : OkR r) (hc : c ≤ 900) : SpR (p__law_paper K) [.ref a, .int c] H (fun v H2 => ∃ D as, v = .ref D ∧ as.length = r.length + 1 ∧ Made H H2 D as (rowsOf r c)) := fun H1 e Q q E =>
  ⟨a, r, c, rfl, ex_l e hr, ok, hc, fun D as H2 hl m => q _ H2 m.ex ⟨D, as, rfl, hl, m.back e⟩⟩
theorem rows_of : ∀ (as : List Addr) (f : Nat → List Int), (∀ k l, as[k]? = some l → SqL K H l (iv (f k))) → RowsAt K H (as.map V.ref) ((List.range as.length).map f)
  | [], _, _ => .nil
  | a :: as, f, h => by
    rw [List.length_cons, List.range_succ_eq_map, List.map_cons, List.map_cons, List.map_map]
    exact .cons ⟨a, rfl, h 0 a rfl⟩ (rows_of as (f ∘ Nat.succ) fun k l hk => h (k + 1) l hk)
def rowsL (r : List Int) (c : Nat) : List (List Int) := (List.range (r.length + 1)).map fun k => rowOf r (c + 1) k
theorem Made.rows {r : List Int} {c : Nat} {D : Addr} {as : List Addr} (m : Made H0 H D as (rowsOf r c)) (hl : as.length = r.length + 1) : RowsAt K H (as.map V.ref) (rowsL r c) := by
  unfold rowsL
  rw [← hl]
  exact rows_of as _ fun k l hk => sq_of (m.el k l hk).2
/-! ### by half, told step by step -/
def p__law_by_half (K : PySem.W.Frag) : Sp := fun vs H Q _ => ∃ a r, vs = [.ref a] ∧ SqL K H a (iv r) ∧ OkR r ∧ RetL (iv (halfF r)) H Q
theorem r__law_by_half (h : p__law_by_half K vs H Q E) : t__law_by_half K E1 (En Q) (start ["rule", "place", "up", "folding", "length"] vs) H := by
  obtain ⟨a, r, rfl, hr, ok, q⟩ := h
  have l1 := ok.l1
  have l2 := ok.l12
  refine q_asg (v := .int (hpl r 1)) (ev_is (ev_op (ev_var rfl) ev_c (rv_ixL hr (atI_nat (j := 0) (iv_at (getD_of (by omega)))))) (congrArg V.int (show r.getD 0 0 = 0 + r.getD 0 0 by omega))) fun H2 e2 => ?_
  refine q_asg (v := .bl (hup r 0)) ev_c fun H3 e3 => ?_
  refine q_asgL (el_lst ea_nil (by decide)) fun p H4 hp e4 h4 => ?_
  have e03 := e2.trans e3
  have e04 := e03.trans e4
  refine q_forNLn (xs := iv (r.drop 1)) (by rw [← cut1 r l1]; exact el_sl (ev_var rfl) (eo_some ev_c) eo_none (ex_l e04 hr)) (fun L i σ' H' => ∃ kv, σ' = [some (.ref a), some (.int (hpl r (i + 1))), some (.bl (hup r i)), some (.ref p), kv] ∧ H' L = some (.lst (iv (r.drop 1))) ∧ L ≠ p ∧ Mk H p H' (iv ((halfF r).take i)))
    (fun L H5 hL e5 h5 => ⟨_, rfl, h5, (fun z => by rw [z, h4] at hL; cases hL), fresh_back e03 hp, e04.trans e5, e5 _ _ h4⟩) (fun L i σ' H' _ ⟨_, _, h, _, _⟩ => sq_of h) ?_ ?_
  · rintro L i v σ' H' hi ⟨kv, rfl, hL, hne, m⟩
    obtain ⟨n, hn, rfl⟩ := iv_get hi
    have hl := (List.getElem?_eq_some_iff.mp hn).1
    rw [List.length_drop] at hl
    have hir : i + 1 < r.length := by omega
    have en : n = r.getD (i + 1) 0 := by
      rw [List.getElem?_drop, Nat.add_comm 1 i, getD_of hir] at hn
      exact (Option.some.inj hn).symm
    have lk : ((halfF r).take i).length ≤ 12 := by
      rw [List.length_take]
      unfold halfF turnsOf
      rw [List.length_map, List.length_range]
      omega
    refine q_app m.at_ (v := .int (if hup r i = hup r (i + 1) then 0 else 1)) (ev_var rfl) (ev_is (ev_int1 (ev_is (ev_op (ev_var rfl) (ev_op (ev_var rfl) ev_c rv_I0) (rv_eq rfl)) rfl)) ?_) (by rw [iv_len]; omega) fun H7 e7 => ?_
    · rw [dec_bl, show decide (0 < hpl r (i + 1)) = !(hup r (i + 1)) from by unfold hup; rw [← decide_not]; exact decide_eq_decide.mpr (by omega)]
      cases hup r i <;> cases hup r (i + 1) <;> rfl
    have m7 := m.app (ys := iv ((halfF r).take i) ++ [.int (if hup r i = hup r (i + 1) then 0 else 1)]) e7
    rw [iv_app, ← halfF_take hir] at m7
    have hL7 : upd H7 p (.lst (iv ((halfF r).take i) ++ [.int (if hup r i = hup r (i + 1) then 0 else 1)])) L = some (.lst (iv (r.drop 1))) := by
      rw [upd_ne hne]
      exact e7 _ _ hL
    rw [iv_app, ← halfF_take hir] at hL7 ⊢
    refine q_asg (v := .bl (hup r (i + 1))) (ev_op (ev_var rfl) ev_c rv_I0) fun H8 e8 => ?_
    refine s_if (et_B (ev_var rfl)) (fun hb H9 e9 => ?_) (fun hb H9 e9 => ?_)
    · refine s_asg (v := .int (hpl r (i + 2))) (ev_is (ev_op (ev_var rfl) (ev_var rfl) rv_I0) (congrArg V.int ?_)) fun H10 e10 => ⟨_, rfl, e10 _ _ (e9 _ _ (e8 _ _ hL7)), hne, ((m7.mono e8).mono e9).mono e10⟩
      rw [en]
      show _ = if hpl r (i + 1) ≤ 0 then hpl r (i + 1) + r.getD (i + 1) 0 else hpl r (i + 1) - r.getD (i + 1) 0
      rw [if_pos (of_decide_eq_true hb)]
    · refine s_asg (v := .int (hpl r (i + 2))) (ev_is (ev_op (ev_var rfl) (ev_var rfl) rv_I0) (congrArg V.int ?_)) fun H10 e10 => ⟨_, rfl, e10 _ _ (e9 _ _ (e8 _ _ hL7)), hne, ((m7.mono e8).mono e9).mono e10⟩
      rw [en]
      show _ = if hpl r (i + 1) ≤ 0 then hpl r (i + 1) + r.getD (i + 1) 0 else hpl r (i + 1) - r.getD (i + 1) 0
      rw [if_neg (of_decide_eq_false hb)]
  · rintro L σ' H' ⟨kv, rfl, _, _, m⟩
    refine s_ret (ev_var rfl) fun H5 e5 => ?_
    rw [List.take_of_length_le (by rw [iv_len, List.length_drop]; unfold halfF turnsOf; rw [List.length_map, List.length_range]; omega)] at m
    exact (m.mono e5).ret q
theorem sl_lhalf {a : Addr} {r : List Int} (hr : SqL K H a (iv r)) (ok : OkR r) : SpL (p__law_by_half K) [.ref a] H (iv (halfF r)) := fun H1 e Q q E => ⟨a, r, rfl, ex_l e hr, ok, fun p H2 hp e2 h2 => q p H2 hp e2 h2⟩
end
end Fo

/-! Shortest cases of rules end to end, turned about, scaled: plain Lean. -/
namespace Fo
theorem walk_SC {r : List Int} (hr : OkR r) (c : Nat) : SC r ≤ c ↔ ∃ q, Walks r (c + 1) r.length q := by
  rw [← row_nonempty (fun x hx => (hr.all x hx).1) (Nat.le_refl _)]
  have h := row_SC hr c
  constructor
  · intro h1 e
    have := h.mp e
    omega
  · intro h1
    by_cases z : (c : Int) < SC r
    · exact absurd (h.mpr z) h1
    · omega
theorem SC_pos {r : List Int} (hr : OkR r) : 1 ≤ SC r := by
  have h := getD_mem (l := r) (i := 0) hr.l1
  have h1 := SC_piece hr h
  have h2 := hr.all _ h
  omega
theorem SC_walk {r : List Int} (hr : OkR r) : ∃ q, Walks r ((SC r).toNat + 1) r.length q := (walk_SC hr _).mp (by have := SC_pos hr; omega)
theorem SC_of_walk {r : List Int} (hr : OkR r) {c : Int} (hc : 0 ≤ c) (h : ∃ q : Nat → Int, (∀ i, i ≤ r.length → 0 ≤ q i ∧ q i ≤ c) ∧ ∀ i, i < r.length → q (i + 1) = q i + r.getD i 0 ∨ q (i + 1) = q i - r.getD i 0) : SC r ≤ c := by
  have h2 := (walk_SC hr c.toNat).mpr (by
    obtain ⟨q, h1, h2⟩ := h
    exact ⟨q, fun i hi => by have := h1 i hi; omega, h2⟩)
  omega
theorem SC_has {r : List Int} (hr : OkR r) : ∃ q : Nat → Int, (∀ i, i ≤ r.length → 0 ≤ q i ∧ q i ≤ SC r) ∧ ∀ i, i < r.length → q (i + 1) = q i + r.getD i 0 ∨ q (i + 1) = q i - r.getD i 0 := by
  obtain ⟨q, h1, h2⟩ := SC_walk hr
  have := SC_pos hr
  exact ⟨q, fun i hi => by have := h1 i hi; omega, h2⟩
theorem getD_app1 {a b : List Int} {i : Nat} (h : i < a.length) : (a ++ b).getD i 0 = a.getD i 0 := by
  rw [List.getD_eq_getElem?_getD, List.getD_eq_getElem?_getD, List.getElem?_append_left h]
theorem getD_app2 {a b : List Int} {i : Nat} : (a ++ b).getD (a.length + i) 0 = b.getD i 0 := by
  rw [List.getD_eq_getElem?_getD, List.getD_eq_getElem?_getD, List.getElem?_append_right (by omega), Nat.add_sub_cancel_left]
theorem SC_left {a b : List Int} (ha : OkR a) (h : OkR (a ++ b)) : SC a ≤ SC (a ++ b) := by
  obtain ⟨q, h1, h2⟩ := SC_has h
  rw [List.length_append] at h1 h2
  refine SC_of_walk ha (by have := SC_pos h; omega) ⟨q, fun i hi => h1 i (by omega), fun i hi => ?_⟩
  have := h2 i (by omega)
  rw [getD_app1 hi] at this
  exact this
theorem SC_right {a b : List Int} (hb : OkR b) (h : OkR (a ++ b)) : SC b ≤ SC (a ++ b) := by
  obtain ⟨q, h1, h2⟩ := SC_has h
  rw [List.length_append] at h1 h2
  refine SC_of_walk hb (by have := SC_pos h; omega) ⟨fun i => q (a.length + i), fun i hi => h1 _ (by omega), fun i hi => ?_⟩
  have := h2 (a.length + i) (by omega)
  rw [getD_app2] at this
  exact this
theorem SC_sum {a b : List Int} (ha : OkR a) (hb : OkR b) (h : OkR (a ++ b)) : SC (a ++ b) ≤ SC a + SC b := by
  obtain ⟨q1, h1, s1⟩ := SC_has ha
  obtain ⟨q2, h2, s2⟩ := SC_has hb
  have b1 := h1 a.length (Nat.le_refl _)
  have b2 := h2 0 (Nat.zero_le _)
  refine SC_of_walk h (by have := SC_pos ha; have := SC_pos hb; omega) ⟨fun i => (if i ≤ a.length then q1 i else q2 (i - a.length) + (q1 a.length - q2 0)) - min 0 (q1 a.length - q2 0), fun i hi => ?_, fun i hi => ?_⟩
  · rw [List.length_append] at hi
    show 0 ≤ (if i ≤ a.length then q1 i else q2 (i - a.length) + (q1 a.length - q2 0)) - min 0 (q1 a.length - q2 0) ∧ (if i ≤ a.length then q1 i else q2 (i - a.length) + (q1 a.length - q2 0)) - min 0 (q1 a.length - q2 0) ≤ _
    by_cases z : i ≤ a.length
    · rw [if_pos z]
      have := h1 i z
      omega
    · rw [if_neg z]
      have := h2 (i - a.length) (by omega)
      omega
  · rw [List.length_append] at hi
    show (if i + 1 ≤ a.length then q1 (i + 1) else q2 (i + 1 - a.length) + (q1 a.length - q2 0)) - min 0 (q1 a.length - q2 0) = (if i ≤ a.length then q1 i else q2 (i - a.length) + (q1 a.length - q2 0)) - min 0 (q1 a.length - q2 0) + _ ∨ (if i + 1 ≤ a.length then q1 (i + 1) else q2 (i + 1 - a.length) + (q1 a.length - q2 0)) - min 0 (q1 a.length - q2 0) = (if i ≤ a.length then q1 i else q2 (i - a.length) + (q1 a.length - q2 0)) - min 0 (q1 a.length - q2 0) - _
    by_cases z : i + 1 ≤ a.length
    · rw [if_pos z, if_pos (show i ≤ a.length by omega), getD_app1 (by omega)]
      have := s1 i (by omega)
      omega
    · obtain ⟨j, rfl⟩ : ∃ j, i = a.length + j := ⟨i - a.length, by omega⟩
      rw [if_neg z, getD_app2]
      have hs := s2 j (by omega)
      rw [show a.length + j + 1 - a.length = j + 1 by omega]
      by_cases z2 : j = 0
      · subst z2
        rw [if_pos (show a.length + 0 ≤ a.length by omega)]
        show _ = q1 a.length - _ + _ ∨ _ = q1 a.length - _ - _
        omega
      · rw [if_neg (show ¬ a.length + j ≤ a.length by omega), show a.length + j - a.length = j by omega]
        omega
theorem getD_rev {r : List Int} {i : Nat} (h : i < r.length) : r.reverse.getD i 0 = r.getD (r.length - 1 - i) 0 := by
  rw [List.getD_eq_getElem?_getD, List.getD_eq_getElem?_getD, List.getElem?_reverse h]
theorem ok_rev {r : List Int} (h : OkR r) : OkR r.reverse := ⟨by rw [List.length_reverse]; exact h.l1, by rw [List.length_reverse]; exact h.l12, fun x hx => h.all x (List.mem_reverse.mp hx)⟩
theorem SC_rev_le {r : List Int} (h : OkR r) : SC r.reverse ≤ SC r := by
  obtain ⟨q, h1, s1⟩ := SC_has h
  refine SC_of_walk (ok_rev h) (by have := SC_pos h; omega) ⟨fun i => q (r.length - i), fun i hi => h1 _ (by omega), fun i hi => ?_⟩
  rw [List.length_reverse] at hi
  have := s1 (r.length - 1 - i) (by omega)
  rw [getD_rev hi]
  show q (r.length - (i + 1)) = q (r.length - i) + _ ∨ q (r.length - (i + 1)) = q (r.length - i) - _
  rw [show r.length - (i + 1) = r.length - 1 - i by omega, show r.length - i = r.length - 1 - i + 1 by omega]
  omega
theorem SC_rev {r : List Int} (h : OkR r) : SC r.reverse = SC r := by
  have h1 := SC_rev_le h
  have h2 := SC_rev_le (ok_rev h)
  rw [List.reverse_reverse] at h2
  omega
theorem getD_scale {r : List Int} {t : Int} {i : Nat} : (r.map (t * ·)).getD i 0 = t * r.getD i 0 := by
  rw [List.getD_eq_getElem?_getD, List.getD_eq_getElem?_getD, List.getElem?_map]
  cases r[i]? with
  | none => show (0 : Int) = t * 0; rw [Int.mul_zero]
  | some x => rfl
theorem SC_scale {r : List Int} {t : Int} (ht : 1 ≤ t) (h : OkR r) (h2 : OkR (r.map (t * ·))) : SC (r.map (t * ·)) = t * SC r := by
  have p1 := SC_pos h
  have p2 := SC_pos h2
  have a : SC (r.map (t * ·)) ≤ t * SC r := by
    obtain ⟨q, q1, s1⟩ := SC_has h
    refine SC_of_walk h2 (Int.mul_nonneg (by omega) (by omega)) ⟨fun i => t * q i, fun i hi => ?_, fun i hi => ?_⟩
    · rw [List.length_map] at hi
      have := q1 i hi
      exact ⟨Int.mul_nonneg (by omega) this.1, Int.mul_le_mul_of_nonneg_left this.2 (by omega)⟩
    · rw [List.length_map] at hi
      rw [getD_scale]
      show t * q (i + 1) = t * q i + _ ∨ t * q (i + 1) = t * q i - _
      rcases s1 i hi with e | e
      · exact .inl (by rw [e, Int.mul_add])
      · exact .inr (by rw [e, Int.mul_sub])
  have b : SC r ≤ SC (r.map (t * ·)) / t := by
    obtain ⟨q, q1, s1⟩ := SC_has h2
    rw [List.length_map] at q1 s1
    refine SC_of_walk h (Int.ediv_nonneg (by omega) (by omega)) ⟨fun i => q i / t, fun i hi => ?_, fun i hi => ?_⟩
    · have := q1 i hi
      exact ⟨Int.ediv_nonneg this.1 (by omega), Int.ediv_le_ediv (by omega) this.2⟩
    · have := s1 i hi
      rw [getD_scale] at this
      show q (i + 1) / t = q i / t + _ ∨ q (i + 1) / t = q i / t - _
      rcases this with e | e
      · exact .inl (by rw [e, Int.add_mul_ediv_left _ _ (by omega)])
      · exact .inr (by rw [e, Int.sub_eq_add_neg, ← Int.mul_neg, Int.add_mul_ediv_left _ _ (by omega)]; omega)
  have c : t * SC r ≤ t * (SC (r.map (t * ·)) / t) := Int.mul_le_mul_of_nonneg_left b (by omega)
  have d := Int.mul_ediv_self_le (x := SC (r.map (t * ·))) (k := t) (by omega)
  omega
theorem ok_app {a b : List Int} (ha : OkR a) (hb : OkR b) (hl : a.length + b.length ≤ 12) : OkR (a ++ b) :=
  ⟨by rw [List.length_append]; have := ha.l1; omega, by rw [List.length_append]; exact hl, fun x hx => by
    rcases List.mem_append.mp hx with h | h
    · exact ha.all x h
    · exact hb.all x h⟩
theorem ok_scale {r : List Int} {t m : Int} (h : OkR r) (ht : 1 ≤ t) (hm : ∀ x ∈ r, x ≤ m) (h60 : m * t ≤ 60) : OkR (r.map (t * ·)) :=
  ⟨by rw [List.length_map]; exact h.l1, by rw [List.length_map]; exact h.l12, fun x hx => by
    obtain ⟨y, hy, rfl⟩ := List.mem_map.mp hx
    have h1 := h.all y hy
    have h2 := hm y hy
    have h3 : t * 1 ≤ t * y := Int.mul_le_mul_of_nonneg_left h1.1 (by omega)
    have h4 : t * y ≤ t * m := Int.mul_le_mul_of_nonneg_left h2 (by omega)
    rw [Int.mul_comm t m] at h4
    show 1 ≤ t * y ∧ t * y ≤ 60
    omega⟩
end Fo

set_option maxHeartbeats 8000000
namespace Fo
open PySem PySem.Spec PyProof.Rows L2 Evl
section
variable {P : Program} {w : World} {K : PySem.W.Frag} {σ : L2.St} {H H' : Hp} {Q : VK} {E E1 : XK} {vs : List V} {ta tb te tl : TE} {x y z : V}
theorem ev_constB : Ev (fun σ H Q => Q x H) σ H x := fun H1 e Q q => q H1 (Ex.refl _)
/-- a call whose first argument is a new list -/
theorem er_callN {sp : Sp} {xs ws : List V} {E : XK} {tr : TA} {R : V → Hp → Prop} (h : EvL te σ H xs) (h2 : ∀ H1, Ex H H1 → EvA tr σ H1 ws) (hs : ∀ p H1, H1 p = some (.lst xs) → Ex H H1 → SpR sp (.ref p :: ws) H1 R) : EvR (tCall sp [] E (tCons te tr)) σ H R := fun H1 e Q q =>
  h H1 e _ fun p H2 hp e2 h3 => h2 H2 (e.trans e2) H2 (Ex.refl _) _ fun H4 e4 => by
    have h5 := hs p H4 (e4 _ _ h3) ((e.trans e2).trans e4) H4 (Ex.refl _) Q (fun v H5 e5 hv => q v H5 ((e2.trans e4).trans e5) hv) E
    rw [← List.append_nil (V.ref p :: ws)] at h5
    exact h5
theorem rv_notB {a b : Bool} : RV rNotB (.bl a) (.bl b) H (.bl (!decide (a = b))) := fun H1 e Q q => ⟨a, b, rfl, rfl, q H1 (Ex.refl _)⟩
theorem at0_span {r : List Int} (hr : OkR r) : OkF r (atNum r (SC r) 0) ∧ spanOf r (atNum r (SC r) 0) = SC r := by
  have h := at_ok hr ((many_iff hr (SC r)).mpr (Int.le_refl _))
  have h2 := SC_le h.1
  exact ⟨h.1, by omega⟩
theorem rowsL_last (r : List Int) (c : Nat) : (rowsL r c)[r.length]? = some (rowOf r (c + 1) r.length) := by
  unfold rowsL
  rw [List.getElem?_map, List.getElem?_range (by omega)]
  rfl
theorem r_law_k06 (h : p_law K vs H Q E) : t_law_k06 K E1 (p__law_draw K) (p__law_rule K) (p__law_by_half K) (p_by_half0 K) (p__law_numbers K) (p_joints0 K) (p_fits0 K) (p_shortest_case0 P w K) (p_span0 K) (p__law_span K) (p_folding_at0 P w K) (p__law_paper K) (p_reachable0 K) (En Q)
    (start ["script", "rule", "due", "handed", "turn", "found", "longest", "places", "told", "case", "paper"] vs) H := by
  obtain ⟨a, ns, rfl, hS, q⟩ := h
  obtain ⟨p1, p2⟩ := pieces_ok ns 1 12 (by decide)
  have pe := pieces_eq ns 1 12 (by decide)
  generalize piecesOf ns 1 12 = np at p1 p2 pe
  refine q_asgL (el_call (vs := [.ref a, .int np]) (ea_cons (ev_var rfl) (ea_cons (ev_is (ev_op ev_c (ev_op (ev_call (vs := [.ref a, .int ((1 : Nat) : Int)]) (ea_cons (ev_var rfl) (ea_cons ev_c ea_nil)) (sp_draw hS (by decide))) ev_c (rv_I (by decide))) rv_I0) (congrArg V.int pe)) ea_nil)) (sl_rule hS p1 p2)) fun ra H1 hra e1 h1 => ?_
  have ok := rule_ok ns np p1 p2
  have rl := rule_len ns np
  generalize ruleOf ns np = r at ok h1 rl
  have l1 := ok.l1
  have l2 := ok.l12
  have okf := half_ok l1
  have lf : (halfF r).length + 1 = r.length := okf.len
  refine q_asgL (el_call (vs := [.ref ra]) (ea_cons (ev_var rfl) ea_nil) (sl_lhalf (sq_of h1) ok)) fun fa H2 hfa e2 h2 => ?_
  refine q_asgL (el_list (ev_var rfl) (sq_of (e2 _ _ h1))) fun da H3 hda e3 h3 => ?_
  have R3 := (e2.trans e3) _ _ h1
  have F3 := e3 _ _ h2
  -- twice
  refine q_forR1 (n := 2) (ea_cons ev_c ea_nil) ⟨by decide, by decide⟩ (fun i σ' H' => ∃ kv fv, σ' = [some (.ref a), some (.ref ra), some (.ref fa), some (.ref da), kv, fv, none, none, none, none, none] ∧ Ex H3 H')
    (fun H4 e4 => ⟨_, _, rfl, e4⟩) ?_ ?_
  · rintro i σ' H' hi ⟨kv, fv, rfl, e⟩
    refine q_asgL (el_call (vs := [.ref da]) (ea_cons (ev_var rfl) ea_nil) (sl_by_half0 (sq_of (e _ _ h3)) ok)) fun l H4 hl e4 h4 => ?_
    have e34 := e.trans e4
    refine q_when (b := (!true) || !true) (et_or (et_not (et_B ?_)) fun _ => et_test (ev_is (ev_op (ev_var rfl) (ev_var rfl) (rv_neI (sq_of (e34 _ _ h3)) (sq_of (e34 _ _ R3)))) (by rw [decide_eq_true rfl]))) (fun hc => by cases hc) (fun _ H5 e5 => ?_)
    · have h := ev_call (σ := [some (V.ref a), some (.ref ra), some (.ref fa), some (.ref da), some (.int (i : Int)), some (.ref l), none, none, none, none, none]) (E := E1) (ta := tCons (tVar 5) (tCons (tVar 2) tNil)) (vs := [.ref l, .ref fa]) (ea_cons (ev_var rfl) (ea_cons (ev_var rfl) ea_nil)) (sp_numbers (K := K) h4 (sq_of (e34 _ _ F3)) (by omega))
      rw [decide_eq_true rfl] at h
      exact h
    · exact s_app (e5 _ _ h4) (ev_var rfl) ev_c (by rw [iv_len]; omega) fun H6 e6 => ⟨_, _, rfl, Ex.mut (e.trans ((e4.trans e5).trans e6)) (fresh_back e hl)⟩
  · rintro σ' H4 ⟨kv, fv, rfl, e4⟩
    have R4 := e4 _ _ R3
    have F4 := e4 _ _ F3
    obtain ⟨m, hm, hmx⟩ := max_of l1
    have hm60 := ok.all m hm
    obtain ⟨jn, js⟩ := half_in (r := r) (m := m) (by omega) fun x hx => ⟨by have := ok.all x hx; omega, hmx x hx⟩
    refine q_asg (v := .int m) (ev_maxL (ev_var rfl) (sq_of R4) hm hmx) fun H5 e5 => ?_
    refine q_asgL (el_call (vs := [.ref ra, .ref fa]) (ea_cons (ev_var rfl) (ea_cons (ev_var rfl) ea_nil)) (sl_joints0 (sq_of (e5 _ _ R4)) (sq_of (e5 _ _ F4)) ok okf)) fun ja H6 hja e6 h6 => ?_
    have e46 := e5.trans e6
    have R6 := e46 _ _ R4
    have F6 := e46 _ _ F4
    have z := zero_joints r (halfF r)
    have jx := jn _ (mx_mem z)
    have jm := jn _ (mn_mem z)
    refine q_when (b := decide (m < mx (jointsOf r (halfF r))) || (decide (mn (jointsOf r (halfF r)) ≤ 0 - m) || !decide (decide (spanOf r (halfF r) ≤ 2 * m) = true)))
      (et_or (et_test (ev_op (ev_maxL (ev_var rfl) (sq_of h6) (mx_mem z) (mx_ge _).2) (ev_var rfl) rv_I0)) fun _ => et_or (et_test (ev_op (ev_minL (ev_var rfl) (sq_of h6) (mn_mem z) (mn_le _).2) (ev_op ev_c (ev_var rfl) rv_I0) rv_I0)) fun _ =>
        et_test (ev_op (ev_call (vs := [.ref ra, .ref fa, .int (2 * m)]) (ea_cons (ev_var rfl) (ea_cons (ev_var rfl) (ea_cons (ev_op ev_c (ev_var rfl) (rv_I (.inl ⟨by decide, by decide⟩))) ea_nil))) (sp_fits0 (sq_of R6) (sq_of F6) ok okf)) ev_c rv_notB)) (fun hc => ?_) (fun _ H7 e7 => ?_)
    · exfalso
      rw [Bool.or_eq_true, Bool.or_eq_true, decide_eq_true_eq, decide_eq_true_eq] at hc
      rcases hc with hc | hc | hc
      · omega
      · omega
      · rw [show decide (spanOf r (halfF r) ≤ 2 * m) = true from decide_eq_true (by omega)] at hc
        cases hc
    have e47 := e46.trans e7
    have R7 := e7 _ _ R6
    have F7 := e7 _ _ F6
    -- told
    refine q_asgR (P := fun v H2 => ∃ p l, v = .ref p ∧ H2 p = some (.tup [.int (SC r), .ref l]) ∧ H2 l = some (.lst (iv (atNum r (SC r) 0)))) (er_callN (R := fun v H2 => ∃ p l, v = .ref p ∧ H2 p = some (.tup [.int (SC r), .ref l]) ∧ H2 l = some (.lst (iv (atNum r (SC r) 0)))) (el_list (ev_var rfl) (sq_of R7)) (fun H1 e => ea_nil) fun p H8 hp e8 => fun H9 e9 Q' q' E' => sr_short0 (sq_of hp) ok H9 e9 Q' (fun v H10 e10 hv => q' v H10 e10 (hv.elim fun p hv => hv.elim fun l hv => ⟨p, l, hv.1, hv.2.1, hv.2.2.2⟩)) E') fun v H8 e8 hv => ?_
    obtain ⟨tp, tl, rfl, hT, hL⟩ := hv
    have R8 := e8 _ _ R7
    have F8 := e8 _ _ F7
    obtain ⟨okt, spt⟩ := at0_span ok
    have lt : (atNum r (SC r) 0).length + 1 = r.length := okt.len
    have sp1 := SC_pos ok
    have spm := SC_piece ok hm
    have sph := SC_le okf
    have t0 : ∀ (σ' : L2.St) (H' : Hp), Ex H8 H' → σ'[8]? = some (some (.ref tp)) → Ev (tOp (rIxT K) (tVar 8) (tC (.int 0))) σ' H' (.int (SC r)) := fun σ' H' e hv => ev_op (ev_var hv) ev_c (rv_ixT (st_of (e _ _ hT)) (atI_nat (j := 0) rfl))
    have t1 : ∀ (σ' : L2.St) (H' : Hp), Ex H8 H' → σ'[8]? = some (some (.ref tp)) → Ev (tOp (rIxT K) (tVar 8) (tC (.int 1))) σ' H' (.ref tl) := fun σ' H' e hv => ev_op (ev_var hv) ev_c (rv_ixT (st_of (e _ _ hT)) (atI_nat (j := 1) rfl))
    refine q_when (b := (!(true && true)) || false) (et_or (et_not (et_test (ev_chain (x := .int m) (y := .int (SC r)) (z := .int (spanOf r (halfF r))) (ev_var rfl) (t0 _ _ (Ex.refl _) rfl) ?_ (fun _ => ev_call (vs := [.ref ra, .ref fa]) (ea_cons (ev_var rfl) (ea_cons (ev_var rfl) ea_nil)) (sp_span0 (sq_of R8) (sq_of F8) ok okf)) fun _ => ?_))) fun _ => et_test (ev_is (ev_op (ev_len (t1 _ _ (Ex.refl _) rfl) (sq_of hL)) (ev_op (ev_len (ev_var rfl) (sq_of R8)) ev_c rv_I0) (rv_ne rfl)) ?_)) (fun hc => by cases hc) (fun _ H9 e9 => ?_)
    · have h := rv_I0 (H := H8) (g := fun i j => V.bl (decide (i ≤ j))) (i := m) (j := SC r)
      rw [show decide (m ≤ SC r) = true from decide_eq_true spm] at h
      exact h
    · have h := rv_I0 (H := H8) (g := fun i j => V.bl (decide (i ≤ j))) (i := SC r) (j := spanOf r (halfF r))
      rw [show decide (SC r ≤ spanOf r (halfF r)) = true from decide_eq_true sph] at h
      exact h
    · rw [dec_int, iv_len, iv_len]
      rw [show (((atNum r (SC r) 0).length : Int) == (r.length : Int) - 1) = true by rw [beq_iff_eq]; omega]
      rfl
    have R9 := e9 _ _ R8
    have L9 := e9 _ _ hL
    refine q_when (b := false || !true) (et_or (et_test (ev_is (ev_op (ev_call (vs := [.ref ra, .ref tl]) (ea_cons (ev_var rfl) (ea_cons (t1 _ _ e9 rfl) ea_nil)) (sp_lspan (sq_of R9) (sq_of L9) lt (by omega))) (t0 _ _ e9 rfl) (rv_ne rfl)) ?_)) fun _ => et_test (ev_is (ev_opL1 (el_call (vs := [.ref ra, .int (SC r), .int (0 : Nat)]) (ea_cons (ev_var rfl) (ea_cons (t0 _ _ e9 rfl) (ea_cons ev_c ea_nil))) (sl_folding0 (sq_of R9) ok ((many_iff ok _).mpr (Int.le_refl _)))) (fun H10 e10 => t1 _ _ (e9.trans e10) rfl) fun p H10 hp e10 => rv_neI (sq_of hp) (sq_of (e10 _ _ L9))) ?_)) (fun hc => by cases hc) (fun _ H10 e10 => ?_)
    · rw [spt, dec_int]
      simp
    · rw [decide_eq_true rfl]
    have e810 := e9.trans e10
    have R10 := e10 _ _ R9
    -- the cases
    obtain ⟨c0, hc0⟩ : ∃ c0 : Nat, SC r = (c0 : Int) + 1 := ⟨(SC r - 1).toNat, by omega⟩
    have sc120 := SC_half ok hmx
    refine q_forNLn (xs := iv [SC r - 1, SC r]) (el_lst (ea_cons (ev_op (t0 _ _ e810 rfl) ev_c rv_I0) (ea_cons (t0 _ _ e810 rfl) ea_nil)) (by show 2 ≤ 100000; decide))
      (fun L i σ' H' => ∃ cv pv, σ' = [some (.ref a), some (.ref ra), some (.ref fa), some (.ref da), kv, fv, some (.int m), some (.ref ja), some (.ref tp), cv, pv] ∧ Ex H10 H' ∧ H' L = some (.lst (iv [SC r - 1, SC r])))
      (fun L H11 hL e11 h11 => ⟨_, _, rfl, e11, h11⟩) (fun L i σ' H' _ ⟨_, _, _, _, h⟩ => sq_of h) ?_ ?_
    · rintro L i v σ' H' hi ⟨cv, pv, rfl, e, hLL⟩
      obtain ⟨n, hn, rfl⟩ := iv_get hi
      obtain ⟨c, hc, hc2⟩ : ∃ c : Nat, n = (c : Int) ∧ c ≤ 120 := by
        match i, hn with
        | 0, hn =>
          have e : SC r - 1 = n := by simpa using hn
          exact ⟨c0, by omega, by omega⟩
        | 1, hn =>
          have e : SC r = n := by simpa using hn
          exact ⟨c0 + 1, by omega, by omega⟩
      subst hc
      refine q_asgR (er_call (vs := [.ref ra, .int (c : Int)]) (ea_cons (ev_var rfl) (ea_cons (ev_var rfl) ea_nil)) (sr_paper (sq_of (e _ _ R10)) ok (by omega))) fun v H11 e11 hv => ?_
      obtain ⟨D, as, rfl, hl, md⟩ := hv
      have R11 := e11 _ _ (e _ _ R10)
      have T11 := (e810.trans e).trans e11
      obtain ⟨ll, g1, g2, g3⟩ := md.get (i := r.length) (by omega)
      refine s_when (b := !true || !decide ((decide (rowOf r (c + 1) r.length = [])) = decide ((c : Int) < SC r))) (et_or (et_test ?_) fun _ => et_test (ev_is (ev_op (x := .bl (decide (rowOf r (c + 1) r.length = []))) (y := .bl (decide ((c : Int) < SC r))) (ev_opL (x := .ref ll) (ev_op (ev_var rfl) (ev_un ev_c ru_neg) (rv_ixL (sq_of md.at_) (at_back (by rw [List.length_map, hl]; exact g1)))) (el_lst ea_nil (by decide)) fun p H12 hp e12 => rv_eqI (ns := rowOf r (c + 1) r.length) (ms := []) (sq_of (e12 _ _ g2)) (sq_of hp)) (ev_op (ev_var rfl) (t0 _ _ T11 rfl) rv_I0) (rv_ne rfl)) ?_)) (fun hc => ?_) (fun _ H12 e12 => ⟨_, _, rfl, (e.trans e11).trans e12, e12 _ _ (e11 _ _ hLL)⟩)
      · refine ev_opRV (P := fun v H2 => ∃ D as, v = .ref D ∧ as.length = r.length + 1 ∧ Made H11 H2 D as (rowsOf r c)) (y := .ref D) ?_ (by rintro v H1 H2 e ⟨D, as, h1, h2, m⟩; exact ⟨D, as, h1, h2, m.mono e⟩) (fun H12 e12 => ev_var rfl) (fun v H12 e12 h => ?_)
        · refine er_callN (xs := iv r) (ws := [.int (c : Int)]) (R := fun v H2 => ∃ D as, v = .ref D ∧ as.length = r.length + 1 ∧ Made H11 H2 D as (rowsOf r c)) ?_ ?_ ?_
          · exact el_list (ev_var rfl) (sq_of R11)
          · exact fun H1 e => ea_cons (ev_var rfl) ea_nil
          · exact fun p H12 hp e12 H13 e13 Q' q' E' => sr_reachable0 (sq_of hp) ok (by omega) H13 e13 Q' (fun v H14 e14 hv => q' v H14 e14 (by
              obtain ⟨D, as, h1, h2, m⟩ := hv
              exact ⟨D, as, h1, h2, m.back e12⟩)) E'
        · obtain ⟨D2, as2, rfl, hl2, md2⟩ := h
          have hh := rv_neLL (K := K) (sq_of md2.at_) (md2.rows hl2) (sq_of (e12 _ _ md.at_)) ((md.mono e12).rows hl)
          rw [decide_eq_true rfl] at hh
          exact hh
      · rw [dec_bl]
        cases decide (rowOf r (c + 1) r.length = []) <;> cases decide ((c : Int) < SC r) <;> rfl
      · exfalso
        rw [show decide (rowOf r (c + 1) r.length = []) = decide ((c : Int) < SC r) from decide_eq_decide.mpr (row_SC ok c), decide_eq_true rfl] at hc
        cases hc
    · rintro L σ' H' ⟨cv, pv, rfl, e, _⟩
      exact s_ret ev_c fun H12 e12 => q H12
end
end Fo

namespace Fo
open PySem PySem.Spec PyProof.Rows L2 Evl
/-! ### readings of the defs: printed by gen.py -/
def t__law_all (K : PySem.W.Frag) (E : XK) : TS := (tSeq (tAsg (tLst (tCons (tLst tNil) tNil)) (gName 1))
    (tSeq (tFor (iRng1 (tCons (tVar 0) tNil)) (gName 2) (tSeq (tAsg (tLst tNil) (gName 3))
    (tSeq (tFor (iList K (tVar 1)) (gName 4) (tSeq (tDrop (tBM K "list" rAppend (tVar 3) (tCons (tOp rCat (tVar 4) (tLst (tCons (tC (.int 0)) tNil))) tNil)))
    (tDrop (tBM K "list" rAppend (tVar 3) (tCons (tOp rCat (tVar 4) (tLst (tCons (tC (.int 1)) tNil))) tNil)))))
    (tAsg (tVar 3) (gName 1)))))
    (tRet (tVar 1))))
def t__law_rows_right (K : PySem.W.Frag) (E : XK) (p__law_numbers : Sp) : TS := (tSeq (tIfS (tOr (tNot (tB (tCB (rIsi K) (tCons (tVar 0) (tCons (tC (.ty "list")) tNil))))) (tTest (tOp rNe (tCB (rLenS K) (tCons (tVar 0) tNil)) (tCB (rLenS K) (tCons (tVar 1) tNil))))) (tRet (tC (.bl false))) tNext)
    (tRet (tOp (rIn K true) (tC (.bl false)) (tLc (iRng1 (tCons (tCB (rLenS K) (tCons (tVar 1) tNil)) tNil)) (gName 2) tYes (tCall p__law_numbers [] E (tCons (tOp (rIxL K) (tVar 0) (tVar 2)) (tCons (tOp (rIxL K) (tVar 1) (tVar 2)) tNil))) [2]))))
def t_law_k03 (K : PySem.W.Frag) (E : XK) (p__law_draw : Sp) (p__law_rule : Sp) (p__law_all : Sp) (p__law_span : Sp) (p_shortest_case : Sp) (p__law_whole : Sp) (p__law_numbers : Sp) (p_reachable : Sp) (p__law_paper : Sp) (p__law_rows_right : Sp) : TS := (tSeq (tAsg (tCall p__law_rule [] E (tCons (tVar 0) (tCons (tOp rAddI (tC (.int 1)) (tOp rModI (tCall p__law_draw [] E (tCons (tVar 0) (tCons (tC (.int 1)) tNil))) (tC (.int 9)))) tNil))) (gName 1))
    (tSeq (tAsg (tC .non) (gName 2))
    (tSeq (tAsg (tC .non) (gName 3))
    (tSeq (tFor (iList K (tCall p__law_all [] E (tCons (tOp rSubI (tCB (rLenS K) (tCons (tVar 1) tNil)) (tC (.int 1))) tNil))) (gName 4) (tSeq (tAsg (tCall p__law_span [] E (tCons (tVar 1) (tCons (tVar 4) tNil))) (gName 5))
    (tIfS (tOr (tTest (tOp rIsN (tVar 2) (tC .non))) (tTest (tOp rLtI (tVar 5) (tVar 2)))) (tSeq (tAsg (tVar 5) (gName 2))
    (tAsg (tVar 4) (gName 3))) tNext)))
    (tSeq (tAsg (tCB (rListS K) (tCons (tVar 1) tNil)) (gName 6))
    (tSeq (tFor (iRng1 (tCons (tC (.int 2)) tNil)) (gName 7) (tSeq (tAsg (tCall p_shortest_case [] E (tCons (tVar 6) tNil)) (gName 8))
    (tSeq (tIfS (tOr (tNot (tB (tCB (rIsi K) (tCons (tVar 8) (tCons (tC (.ty "tuple")) tNil))))) (tOr (tTest (tOp rNe (tCB (rLenS K) (tCons (tVar 8) tNil)) (tC (.int 2)))) (tOr (tNot (tB (tCall p__law_whole [] E (tCons (tOp (rIxT K) (tVar 8) (tC (.int 0))) tNil)))) (tTest (tOp rNe (tOp (rIxT K) (tVar 8) (tC (.int 0))) (tVar 2)))))) (tRet (tC (.bl false))) tNext)
    (tSeq (tIfS (tOr (tNot (tB (tCall p__law_numbers [] E (tCons (tOp (rIxT K) (tVar 8) (tC (.int 1))) (tCons (tVar 3) tNil))))) (tTest (tOp (rNeD K) (tVar 6) (tVar 1)))) (tRet (tC (.bl false))) tNext)
    (tSeq (tDrop (tBM K "list" rAppend (tOp (rIxT K) (tVar 8) (tC (.int 1))) (tCons (tC (.int 0)) tNil)))
    (tFor (iList K (tLst (tCons (tOp rSubI (tVar 2) (tC (.int 1))) (tCons (tVar 2) (tCons (tOp rModI (tCall p__law_draw [] E (tCons (tVar 0) (tCons (tC (.int 4)) tNil))) (tOp (rIxL K) (tLst (tCons (tC (.int 9)) (tCons (tC (.int 150)) (tCons (tC (.int 801)) tNil)))) (tOp rModI (tCall p__law_draw [] E (tCons (tVar 0) (tCons (tC (.int 5)) tNil))) (tC (.int 3))))) tNil))))) (gName 9) (tSeq (tAsg (tCall p_reachable [] E (tCons (tVar 6) (tCons (tVar 9) tNil))) (gName 10))
    (tSeq (tAsg (tCall p__law_paper [] E (tCons (tVar 1) (tCons (tVar 9) tNil))) (gName 11))
    (tSeq (tIfS (tOr (tNot (tB (tCall p__law_rows_right [] E (tCons (tVar 10) (tCons (tVar 11) tNil))))) (tTest (tOp rNe (tOp (rEqD K) (tOp (rIxL K) (tVar 11) (tUn rNegI (tC (.int 1)))) (tLst tNil)) (tOp rLtI (tVar 9) (tVar 2))))) (tRet (tC (.bl false))) tNext)
    (tSeq (tFor (iRng1 (tCons (tCB (rLenS K) (tCons (tVar 10) tNil)) tNil)) (gName 12) (tDrop (tBM K "list" rAppend (tOp (rIxL K) (tVar 10) (tVar 12)) (tCons (tOp rAddI (tC (.int 1000)) (tVar 12)) tNil))))
    (tIfS (tNot (tB (tCall p__law_rows_right [] E (tCons (tVar 10) (tCons (tLc (iRng1 (tCons (tCB (rLenS K) (tCons (tVar 11) tNil)) tNil)) (gName 12) tYes (tOp rCat (tOp (rIxL K) (tVar 11) (tVar 12)) (tLst (tCons (tOp rAddI (tC (.int 1000)) (tVar 12)) tNil))) [12]) tNil))))) (tRet (tC (.bl false))) tNext)))))))))))
    (tRet (tC (.bl true)))))))))
end Fo

namespace Fo
open PySem PySem.Spec PyProof.Rows L2 Evl
/-! ### all foldings -/
theorem allC_snoc : ∀ n, allC (n + 1) = (allC n).flatMap fun r => [r ++ [0], r ++ [1]]
  | 0 => rfl
  | n + 1 => by
    have ih := allC_snoc n
    have sw : ∀ (x : Int) (l : List (List Int)), (l.flatMap fun r => [r ++ [0], r ++ [1]]).map (x :: ·) = (l.map (x :: ·)).flatMap fun r => [r ++ [0], r ++ [1]] := by
      intro x l
      induction l with
      | nil => rfl
      | cons a l ih => rw [List.flatMap_cons, List.map_append, ih]; rfl
    show (allC (n + 1)).map (0 :: ·) ++ (allC (n + 1)).map (1 :: ·) = ((allC n).map (0 :: ·) ++ (allC n).map (1 :: ·)).flatMap fun r => [r ++ [0], r ++ [1]]
    rw [List.flatMap_append, ← sw 0, ← sw 1, ← ih]
theorem pair_at {α β : Type} (g h : α → β) : ∀ (xs : List α) (j : Nat) (x : α), xs[j]? = some x → (xs.flatMap fun r => [g r, h r])[2 * j]? = some (g x) ∧ (xs.flatMap fun r => [g r, h r])[2 * j + 1]? = some (h x)
  | [], _, _, e => by cases e
  | a :: xs, 0, x, e => by cases e; exact ⟨rfl, rfl⟩
  | a :: xs, j + 1, x, e => by
    have ih := pair_at g h xs j x e
    rw [List.flatMap_cons, show 2 * (j + 1) = 2 * j + 2 by omega]
    exact ih
theorem allC_pair {n j : Nat} (h : j < (allC n).length) : (allC (n + 1)).getD (2 * j) [] = (allC n).getD j [] ++ [0] ∧ (allC (n + 1)).getD (2 * j + 1) [] = (allC n).getD j [] ++ [1] := by
  have e : (allC n)[j]? = some ((allC n).getD j []) := by rw [List.getD_eq_getElem?_getD, List.getElem?_eq_getElem h]; rfl
  obtain ⟨h1, h2⟩ := pair_at (fun r : List Int => r ++ [0]) (fun r => r ++ [1]) (allC n) j _ e
  rw [← allC_snoc] at h1 h2
  exact ⟨by rw [List.getD_eq_getElem?_getD, h1]; rfl, by rw [List.getD_eq_getElem?_getD, h2]; rfl⟩
/-- lists that stand, and their list -/
structure Rw (H : Hp) (D : Addr) (as : List Addr) (c : Nat → List V) : Prop where
  at_ : H D = some (.lst (as.map V.ref))
  el : ∀ k l, as[k]? = some l → H l = some (.lst (c k))
section
variable {P : Program} {w : World} {K : PySem.W.Frag} {σ : L2.St} {H H' H0 H1 : Hp} {Q : VK} {E E1 : XK} {vs xs ys : List V} {a l D : Addr} {as : List Addr} {c : Nat → List V} {ta tb te tl : TE} {t : TT} {x y z v : V} {tz tu : TS} {DD : Ends}
theorem Made.rw (m : Made H0 H D as c) : Rw H D as c := ⟨m.at_, fun k l h => (m.el k l h).2⟩
theorem Rw.mono (m : Rw H D as c) (e : Ex H H1) : Rw H1 D as c := ⟨e _ _ m.at_, fun k l h => e _ _ (m.el k l h)⟩
theorem Rw.upd {o : HO} (m : Rw H D as c) (h1 : l ≠ D) (h2 : l ∉ as) : Rw (upd H l o) D as c := ⟨by rw [upd_ne h1.symm]; exact m.at_, fun k l' h => by
  have ne : l' ≠ l := fun z => by
    subst z
    exact h2 (List.mem_of_getElem? h)
  rw [upd_ne ne]
  exact m.el k l' h⟩
theorem Made.set {i : Nat} (m : Made H0 H D as c) (hi : as[i]? = some l) (e : Ex H H1) : Made H0 (L2.upd H1 l (.lst ys)) D as (fun k => if k = i then ys else c k) := by
  have hl := m.el i l hi
  have lD : l ≠ D := fun z => m.dm (z ▸ List.mem_of_getElem? hi)
  refine ⟨m.dn, Ex.mut (m.ex.trans e) hl.1, by rw [upd_ne lD.symm]; exact e _ _ m.at_, m.nd, m.dm, fun k l' hk => ?_⟩
  obtain ⟨h1, h2⟩ := m.el k l' hk
  refine ⟨h1, ?_⟩
  by_cases z : k = i
  · subst z
    rw [hi] at hk
    cases hk
    show _ = some (HO.lst (if k = k then ys else c k))
    rw [if_pos rfl, upd_same]
  · have hne : l' ≠ l := fun z2 => by
      subst z2
      obtain ⟨a1, a2⟩ := List.getElem?_eq_some_iff.mp hi
      obtain ⟨b1, b2⟩ := List.getElem?_eq_some_iff.mp hk
      exact z ((List.getElem_inj m.nd).mp (b2.trans a2.symm))
    show _ = some (HO.lst (if k = i then ys else c k))
    rw [if_neg z, upd_ne hne]
    exact e _ _ h2
theorem el_catN (h1 : Ev ta σ H (.ref a)) (ha : H a = some (.lst xs)) (h2 : ∀ H1, Ex H H1 → EvL tb σ H1 ys) (hz : xs.length + ys.length ≤ 100000) : EvL (tOp rCat ta tb) σ H (xs ++ ys) := fun H1 e Q q =>
  h1 H1 e _ fun H2 e2 => h2 H2 (e.trans e2) H2 (Ex.refl _) _ fun b H3 _ e3 hb => ⟨a, b, xs, ys, rfl, rfl, e3 _ _ (e2 _ _ (e _ _ ha)), hb, sz_of hz, fun p hp => q p _ (fresh_back (e2.trans e3) hp) ((e2.trans e3).trans (Ex.new hp)) upd_same⟩
/-- a loop over what a reading gives -/
theorem q_forC {j : Nat} {R : V → Hp → Prop} (h : EvR tl σ H R) (k : ∀ v H1, Ex H H1 → R v H1 → tSeq (tFor (iList K (fun σ H Q => Q v H)) (gName j) tu) tz DD σ H1) : tSeq (tFor (iList K tl) (gName j) tu) tz DD σ H :=
  h H (Ex.refl _) _ fun v H1 e p => k v H1 e p
def allRows (n : Nat) : Nat → List V := fun k => iv ((allC n).getD k [])
def p__law_all (K : PySem.W.Frag) : Sp := fun vs H Q _ => ∃ n : Nat, vs = [.int n] ∧ n ≤ 10 ∧ RetM (allC n).length (allRows n) H Q
theorem pow_le10 {n : Nat} (h : n ≤ 10) : (allC n).length ≤ 1024 := by
  rw [allC_count]
  exact Nat.le_trans (Nat.pow_le_pow_right (by decide) h) (by decide)
theorem r__law_all (h : p__law_all K vs H Q E) : t__law_all K E1 (En Q) (start ["hinges", "rows", "k", "longer", "row"] vs) H := by
  obtain ⟨n, rfl, hn, q⟩ := h
  refine q_asgR (er_one (c := allRows 0) (el_lst ea_nil (by decide))) fun v H1 e1 h1 => ?_
  obtain ⟨D, as0, rfl, hl0, m0⟩ := h1
  refine q_forR1 (n := (n : Int)) (ea_cons (ev_var rfl) ea_nil) ⟨by omega, by omega⟩ (fun i σ' H' => ∃ D as kv lv rv, σ' = [some (.int n), some (.ref D), kv, lv, rv] ∧ as.length = (allC i).length ∧ Made H H' D as (allRows i))
    (fun H2 e2 => ⟨D, as0, _, _, _, rfl, hl0, m0.mono e2⟩) ?_ ?_
  · rintro i σ' H' hi ⟨D, as, kv, lv, rv, rfl, hl, m⟩
    have lm : (allC i).length ≤ 1024 := pow_le10 (by omega)
    refine q_asgL (el_lst ea_nil (by decide)) fun L H2 hL e2 h2 => ?_
    have m2 := m.mono e2
    refine q_forLn (xs := as.map V.ref) (ev_var rfl) (sq_of m2.at_) (fun j σ' H3 => ∃ bs rv, σ' = [some (.int n), some (.ref D), some (.int i), some (.ref L), rv] ∧ bs.length = 2 * j ∧ Made H' H3 L bs (allRows (i + 1)))
      (fun H3 e3 => ⟨[], _, rfl, rfl, hL, e2.trans e3, e3 _ _ h2, List.nodup_nil, by simp, fun k l hk => by simp at hk⟩) (fun j σ' H3 _ ⟨_, _, _, _, k⟩ => sq_of (k.ex _ _ m.at_)) ?_ ?_
    · rintro j v σ' H3 hj ⟨bs, rv, rfl, hb, k⟩
      rw [List.getElem?_map] at hj
      obtain ⟨ra, hra, rfl⟩ : ∃ ra, as[j]? = some ra ∧ v = .ref ra := by
        cases z : as[j]? with
        | none => rw [z] at hj; cases hj
        | some ra => rw [z] at hj; exact ⟨ra, rfl, (Option.some.inj hj).symm⟩
      have hjl := (List.getElem?_eq_some_iff.mp hra).1
      obtain ⟨p0, p1⟩ := allC_pair (n := i) (j := j) (by omega)
      have cra := (m.el j ra hra).2
      have lrow : ((allC i).getD j []).length ≤ 100 := by
        have hm : (allC i).getD j [] ∈ allC i := by
          rw [List.getD_eq_getElem?_getD, List.getElem?_eq_getElem (by omega)]
          exact List.getElem_mem _
        have := allC_len _ _ hm
        omega
      have cat : ∀ (x : Int) (σ' : L2.St) (H4 : Hp), Ex H3 H4 → σ'[4]? = some (some (.ref ra)) → EvL (tOp rCat (tVar 4) (tLst (tCons (tC (.int x)) tNil))) σ' H4 (iv ((allC i).getD j [] ++ [x])) := fun x σ' H4 e4 hv => by
        have h := el_catN (σ := σ') (H := H4) (tb := tLst (tCons (tC (.int x)) tNil)) (ys := [V.int x]) (ev_var hv) (e4 _ _ (k.ex _ _ cra)) (fun H5 e5 => el_lst (ea_cons ev_c ea_nil) (by show 1 ≤ 100000; decide)) (by show (allRows i j).length + 1 ≤ 100000; unfold allRows; rw [iv_len]; omega)
        rw [show allRows i j ++ [V.int x] = iv ((allC i).getD j [] ++ [x]) from iv_app] at h
        exact h
      refine q_appL k.at_ (ev_var rfl) (cat 0 _ _ (Ex.refl _) rfl) (by rw [List.length_map]; omega) fun q1 H4 hq1 e4 h4 => ?_
      have k1 := k.turn (p := q1) e4 hq1 (by rw [hb, h4, ← p0]; rfl)
      have eH : ∀ {bs' : List Addr} {Hx : Hp}, Made H' Hx L bs' (allRows (i + 1)) → Hx ra = some (.lst (allRows i j)) := fun kk => kk.ex _ _ cra
      have cat1 : EvL (tOp rCat (tVar 4) (tLst (tCons (tC (.int 1)) tNil))) [some (.int n), some (.ref D), some (.int i), some (.ref L), some (.ref ra)] (L2.upd H4 L (.lst (bs.map V.ref ++ [.ref q1]))) (iv ((allC i).getD j [] ++ [1])) := by
        have h := el_catN (σ := [some (.int n), some (.ref D), some (.int i), some (.ref L), some (.ref ra)]) (ta := tVar 4) (tb := tLst (tCons (tC (.int 1)) tNil)) (ys := [V.int 1]) (ev_var rfl) (eH k1) (fun H5 e5 => el_lst (ea_cons ev_c ea_nil) (by show 1 ≤ 100000; decide)) (by show (allRows i j).length + 1 ≤ 100000; unfold allRows; rw [iv_len]; omega)
        rw [show allRows i j ++ [V.int 1] = iv ((allC i).getD j [] ++ [1]) from iv_app] at h
        exact h
      refine s_appL k1.at_ (ev_var rfl) cat1 (by rw [List.length_map, List.length_append, hb]; show 2 * j + 1 < 100000; omega) fun q2 H5 hq2 e5 h5 => ⟨(bs ++ [q1]) ++ [q2], _, rfl, by simp [hb]; omega, k1.turn e5 hq2 ?_⟩
      rw [List.length_append, hb, h5, ← p1]
      rfl
    · rintro σ' H3 ⟨bs, rv, rfl, hb, k⟩
      rw [List.length_map] at hb
      refine s_asg (ev_var rfl) fun H4 e4 => ⟨L, bs, _, _, _, rfl, ?_, (k.mono e4).back m.ex⟩
      rw [hb, hl, allC_count, allC_count, Nat.pow_succ]
      omega
  · rintro σ' H' ⟨D, as, kv, lv, rv, rfl, hl, m⟩
    rw [show (n : Int).toNat = n by omega] at hl m
    exact s_ret (ev_var rfl) fun H2 e2 => q D as H2 hl (m.mono e2)
theorem sr_all {n : Nat} (hn : n ≤ 10) : SpR (p__law_all K) [.int n] H (fun v H2 => ∃ D as, v = .ref D ∧ as.length = (allC n).length ∧ Made H H2 D as (allRows n)) := fun H1 e Q q E =>
  ⟨n, rfl, hn, fun D as H2 hl m => q _ H2 m.ex ⟨D, as, rfl, hl, m.back e⟩⟩
/-! ### are the rows right -/
def p__law_rows_right (K : PySem.W.Frag) : Sp := fun vs H Q _ => ∃ D1 as1 D2 as2 n, ∃ f : Nat → List Int, vs = [.ref D1, .ref D2] ∧ Rw H D1 as1 (fun k => iv (f k)) ∧ Rw H D2 as2 (fun k => iv (f k)) ∧ as1.length = n ∧ as2.length = n ∧ n ≤ 100 ∧ (∀ k, k < n → (f k).length ≤ 10000) ∧ RetV (.bl true) H Q
theorem r__law_rows_right (h : p__law_rows_right K vs H Q E) : t__law_rows_right K E1 (p__law_numbers K) (En Q) (start ["found", "due", "k"] vs) H := by
  obtain ⟨D1, as1, D2, as2, n, f, rfl, h1, h2, l1, l2, hn, hf, q⟩ := h
  refine q_when (b := (!true) || false) (et_or (et_not (et_B (ev_isi (ev_var rfl) ev_c (.ty _) (fun H1 e => .base (.lst (e _ _ h1.at_))) (kit_ty (by decide +kernel))))) fun _ => et_test (ev_is (ev_op (ev_len (ev_var rfl) (sq_of h1.at_)) (ev_len (ev_var rfl) (sq_of h2.at_)) (rv_ne rfl)) ?_)) (fun hc => by cases hc) (fun _ H1 e => ?_)
  · rw [dec_int, List.length_map, List.length_map, l1, l2]
    simp
  · have a1 := h1.mono e
    have a2 := h2.mono e
    refine s_ret (v := .bl true) ?_ fun H2 e2 => q.go (e.trans e2)
    refine ev_opL (xs := (List.range n).map fun _ => V.bl true) ev_c ?_ fun p H2 hp e2 => ?_
    · refine el_lcRy (n := n) (fun _ => V.bl true) (ea_cons (ev_is (ev_len (ev_var rfl) (sq_of a2.at_)) (by rw [List.length_map, l2])) ea_nil) (by omega) (fun x => rfl) fun i H3 e3 hi => ?_
      have g1 : as1[i]? = some as1[i] := List.getElem?_eq_getElem (by omega)
      have g2 : as2[i]? = some as2[i] := List.getElem?_eq_getElem (by omega)
      have h := sp_numbers (K := K) ((a1.mono e3).el i _ g1) (sq_of ((a2.mono e3).el i _ g2)) (hf i hi)
      rw [decide_eq_true rfl] at h
      exact ev_call (vs := [.ref as1[i], .ref as2[i]]) (ea_cons (ev_op (ev_var rfl) (ev_var rfl) (rv_ixL (sq_of (a1.mono e3).at_) (atI_nat (by rw [List.getElem?_map, g1]; rfl)))) (ea_cons (ev_op (ev_var rfl) (ev_var rfl) (rv_ixL (sq_of (a2.mono e3).at_) (atI_nat (by rw [List.getElem?_map, g2]; rfl)))) ea_nil)) h
    · have h := rv_niL (K := K) (x := .bl false) (sq_of hp) rfl (all_flat n)
      rw [no_false] at h
      exact h
theorem sp_rows {D1 D2 : Addr} {as1 as2 : List Addr} {n : Nat} {f : Nat → List Int} (h1 : Rw H D1 as1 (fun k => iv (f k))) (h2 : Rw H D2 as2 (fun k => iv (f k))) (l1 : as1.length = n) (l2 : as2.length = n) (hn : n ≤ 100) (hf : ∀ k, k < n → (f k).length ≤ 10000) : SpV (p__law_rows_right K) [.ref D1, .ref D2] H (.bl true) := fun H1 e Q q E =>
  ⟨D1, as1, D2, as2, n, f, rfl, h1.mono e, h2.mono e, l1, l2, hn, hf, fun H2 e2 => q H2 e2⟩
/-- a call whose second argument is told by a word -/
theorem ev_callR2 {sp : Sp} {E : XK} {R : V → Hp → Prop} (h1 : Ev ta σ H x) (h2 : EvR tb σ H R) (hs : ∀ v H1, Ex H H1 → R v H1 → SpV sp [x, v] H1 z) : Ev (tCall sp [] E (tCons ta (tCons tb tNil))) σ H z := fun H1 e Q q =>
  h1 H1 e _ fun H2 e2 => h2 H2 (e.trans e2) _ fun v H3 e3 p => hs v H3 ((e.trans e2).trans e3) p H3 (Ex.refl _) Q (fun H4 e4 => q H4 ((e2.trans e3).trans e4)) E
end
end Fo

namespace Fo
open PySem PySem.Spec PyProof.Rows L2
/-! ### a caught exception that is held behind the except suite; turned from the kit's proof for a suite -/
/-- an exception object of the class cls at a -/
def ExE (cls : Value) (d : Option Addr) (a : Addr) : HO := .ext fun h => ∃ (oe : Obj) (vs : Array Value), h.get? a = some oe ∧ Zc cls d oe ∧ oe.data = .fields vs
theorem exE_ok {P : Program} {w : World} {H : Hp} {h : Heap} {a : Addr} {cls : Value} {d : Option Addr} {oe : Obj} {vs : Array Value} (e : h.get? a = some oe) (z : Zc cls d oe) (dd : oe.data = .fields vs) : ObjOk P w H h a (ExE cls d a) :=
  ⟨⟨oe, vs, e, z, dd⟩, ⟨oe, e⟩, fun _ _ ⟨o, v, q, r⟩ k => ⟨o, v, k o q, r⟩⟩
section
variable {X : Cx} {pins : List (Addr × Obj)} {σ : L2.St} {H : Hp} {s : Shared}
theorem track {a : Addr} {cls : Value} {d : Option Addr} {oe : Obj} {vs : Array Value} (I : Inv X pins σ H s) (e : s.heap.get? a = some oe) (z : Zc cls d oe) (dd : oe.data = .fields vs) (na : H a = none) (n0 : X.s_0.heap.get? a = none) (nL : a ≠ X.env.locals)
    (nP : ∀ p ∈ X.pn ++ pins, p.1 ≠ a) : Inv X pins σ (upd H a (ExE cls d a)) s := by
  have ne0 : ∀ b o, X.s_0.heap.get? b = some o → b ≠ a := fun b o e z => by rw [z, n0] at e; cases e
  have neS : ∀ b o, H b = some o → b ≠ a := fun b o e z => by rw [z, na] at e; cases e
  refine ⟨I.ok, I.os, I.bare, ⟨I.base.keep, I.base.slot, fun b o q n hx => ?_, I.base.there, fun b xs q => ?_, fun b o u q => ?_, fun b ps q => ?_⟩, I.loc, I.cell, ?_, fun x c q => ?_, fun p hp => ?_, fun b u q => ?_, I.len⟩
  · rw [upd_ne (ne0 b o q)]; exact I.base.free b o q n hx
  · have h := I.base.tups b xs q
    rw [upd_ne (neS b _ h)]; exact h
  · have h := I.base.frzs b o u q
    rw [upd_ne (neS b _ h)]; exact h
  · obtain ⟨m, h⟩ := I.base.tbls b ps q
    exact ⟨m, by rw [upd_ne (neS b _ h)]; exact h⟩
  · rw [upd_ne nL.symm]; exact I.free
  · obtain ⟨v, o, ho, hd⟩ := I.cell x c q
    have hc : c ≠ a := fun z2 => by
      rw [z2, e] at ho
      cases ho
      rw [dd] at hd
      cases hd
    rw [upd_ne hc]; exact I.freeC x c q
  · obtain ⟨h1, h2, h3, h4, h5⟩ := I.pin p hp
    exact ⟨h1, by rw [upd_ne (nP p hp)]; exact h2, h3, h4, h5⟩
  · by_cases hb : b = a
    · subst hb
      rw [upd_same] at q
      cases q
      exact exE_ok e z dd
    · rw [upd_ne hb] at q
      exact (I.hok b u q).stay (fun c v hc h => h) (fun c h => by rw [upd_ne (neS c _ h)]; exact h) fun c xs h => by rw [upd_ne (neS c _ h)]; exact h
theorem unsuite2 {a : Addr} {q : Addr × Obj} (I : Inv (X.suite a (q :: (X.pn ++ pins))) [] σ H s) (ok : X.Ok) : Inv X (q :: pins) σ H s :=
  ⟨ok, I.os, I.bare, I.base, I.loc, I.cell, I.free, I.freeC, fun p hp => I.pin p (List.mem_append_left _ (by
    rcases List.mem_append.mp hp with h | h
    · exact List.mem_cons_of_mem _ (List.mem_append_left _ h)
    · rcases List.mem_cons.mp h with h | h
      · rw [h]; exact List.mem_cons_self
      · exact List.mem_cons_of_mem _ (List.mem_append_right _ h))), I.hok, I.len⟩
theorem dropPin {q : Addr × Obj} (I : Inv X (q :: pins) σ H s) : Inv X pins σ H s :=
  ⟨I.ok, I.os, I.bare, I.base, I.loc, I.cell, I.free, I.freeC, fun p hp => I.pin p (by
    rcases List.mem_append.mp hp with h | h
    · exact List.mem_append_left _ h
    · exact List.mem_append_right _ (List.mem_cons_of_mem _ h)), I.hok, I.len⟩
end
/-- what the clause wishes: the exception is one of the named class, its suite's reading; behind the suite it is told of -/
def wKeep (K : PySem.W.Frag) (c : Value) (i : Nat) (ts : Addr → Value → Option Addr → TS) (D : Ends) : WX := fun cls d σ H =>
  PySem.W.exmOne K cls c = some true ∧ ∀ a, H a = none → ts a cls d { nx := fun σ' H' => D.nx (σ'.set i none) (upd H' a (ExE cls d a)), rt := fun v H' => D.rt v (upd H' a (ExE cls d a)), bk := fun σ' H' => D.bk (σ'.set i none) (upd H' a (ExE cls d a)), ct := fun σ' H' => D.ct (σ'.set i none) (upd H' a (ExE cls d a)) } (σ.set i (some (.ref a))) H
section
variable {X : Cx} {x n : Str} {c : Value} {i : Nat} {body suite : List Stmt} {b₀ : Stmt} {np pos pos' : Pos} {tb : WX → TS} {ts : Addr → Value → Option Addr → TS}
theorem ps_try_keep (hs : X.stack = X.env :: X.outer) (hf : X.env.frame = some X.env.locals) (hex : X.ex = []) (hN : X.N.Nodup) (hi : X.N[i]? = some n) (hln : X.env.kindOf n = some .local) (hc : Names X x c)
    (hb : ∀ (W : WX) (pn : List (Addr × Obj)) (xe : Value → Shared → Prop), Takes (X.tr pn xe) W → PassesOwn (model X.prog X.w) X.A X.env xe → PSs (X.tr pn xe) body (tb W))
    (hsu : ∀ (a : Addr) (oe : Obj) (cls : Value) (d : Option Addr) (pn : List (Addr × Obj)), Zc cls d oe → (∃ vs, oe.data = .fields vs) → PSs (X.suite a ((a, oe) :: pn)) (b₀ :: suite) (ts a cls d)) :
    PS X (.Try body [.ExceptHandler (some (.Name x np)) (some n) (b₀ :: suite) pos'] [] [] pos) (fun D σ H => tb (wKeep X.K c i ts D) D σ H) := by
  refine ⟨fun pins s σ H D I h => ?_⟩
  have ok := I.ok
  have hfr : X.A.frames = some (X.env :: X.outer) := by rw [ok.frames, hs]
  have hloc : Loc X.env.scope n := .inl hln
  refine wpAny_Try_except ?_
  refine wpAny_mono ((hb (wKeep X.K c i ts D) (X.pn ++ pins) (fun e s₁ => wpAny (model X.prog X.w) X.A (noteFrame e X.env) (fun _ s₂ => wpAny (model X.prog X.w) X.A (setFlight e none) (fun _ s₃ =>
    wpAny (model X.prog X.w) X.A (handleBy e X.env [.ExceptHandler (some (.Name x np)) (some n) (b₀ :: suite) pos']) (SP X pins D) X.xe s₃) X.xe s₂) X.xe s₁) (fun u s' xx => ?_) PassesOwn.looking).run [] s σ H D (I.toTry _) h) (fun f s1 hsp => ?_) (fun e s1 he => he)
  · obtain ⟨a, B, sI, pins', σ', H', cls, d, rfl, J', nb, up, sky, na, os, ag, hb1, hyes⟩ := xx
    have J : Inv X pins σ' H' sI := J'.ofTry ok
    have sky' : Sky B (X.env :: X.outer) a (Zc cls d) X.env.locals s'.heap := by rw [← hs]; exact sky
    show wpAny (model X.prog X.w) X.A (noteFrame (.ref a) X.env) _ _ _
    refine Sky.land Zc.steady hfr hf sky' fun h3 fl3 up3 => ?_
    have J3 : Inv X pins σ' H' { s' with heap := h3 } := J.landed nb fl3.1 (up.trans up3) os ag
    obtain ⟨oe3, vs3, he3, hz3, hd3⟩ := fl3.there
    have notFr : ∀ {h : Heap} {o : Obj} {vs : Array Value}, h.FunFrames B (X.env :: X.outer) → h.get? a = some o → o.data = .fields vs → a ∉ frs (X.env :: X.outer) := fun {h o vs} ff e dd hm => by
      obtain ⟨_, o', e', hnf⟩ := ff.mem hm
      rw [e] at e'; cases e'
      exact hnf _ dd
    have nfr := notFr fl3.2.2.1 he3 hd3
    have nL : a ≠ X.env.locals := fun z => nfr (List.mem_filterMap.mpr ⟨X.env, List.mem_cons_self, by rw [hf, z]⟩)
    have nF : a ∉ X.fs := fun hm => by
      obtain ⟨e, he, q⟩ := List.mem_filterMap.mp hm
      exact nfr (List.mem_filterMap.mpr ⟨e, List.mem_cons_of_mem _ he, q⟩)
    have hB : B.get? a = none := fl3.2.1
    have n0 : X.s_0.heap.get? a = none := by
      cases q : X.s_0.heap.get? a with
      | none => rfl
      | some o =>
        obtain ⟨o', e'⟩ := J.base.there a o q (by rw [hex]; exact fun z => nomatch z)
        have z := nb a o' e' (by rw [show frs (X.tr (X.pn ++ pins) _).stack = frs (X.env :: X.outer) from congrArg frs hs]; exact nfr)
        rw [hB] at z
        cases z
    have nP : ∀ p ∈ X.pn ++ pins, p.1 ≠ a := fun p hp z => by
      obtain ⟨h1, h2, h3, h4, h5⟩ := J.pin p hp
      have q := nb p.1 p.2 h1 (by rw [show frs (X.tr (X.pn ++ pins) _).stack = frs (X.env :: X.outer) from congrArg frs hs, z]; exact nfr)
      rw [z, hB] at q
      cases q
    have S3 := J3.suite he3 hd3 na nL nF
    refine wpAny_handleBy_cons (codeAny_handlers_test ?_) (by intro q; cases q)
    have LT : PySem.W.Looks (model X.prog X.w) h3 (typeOf (.ref a)) cls := fun A Q E s k q => wpAny_typeOf_ref (k _ _ he3) (by rw [hz3.1]; exact q)
    have LM := PySem.W.exm_one (M := model X.prog X.w) (J3.kIn) LT hb1
    have test : ∀ {Q : Value → Shared → Prop} {E : Value → Shared → Prop}, Q c { s' with heap := h3 } → wpAny (model X.prog X.w) (X.A.mark (some (.ref a))) (eval (.Name x np) X.env) Q E { s' with heap := h3 } := fun {Q E} q => by
      obtain ⟨hg, hdbg, hm | ⟨hm, hv, hnn⟩⟩ := hc
      · exact ld_glob (X := X.suite a ((a, oe3) :: (X.pn ++ pins))) S3 hg hm q hdbg
      · exact ld_blt (X := X.suite a ((a, oe3) :: (X.pn ++ pins))) S3 hg hm hv q hnn hdbg
    refine test (LM.here ?_)
    refine codeAny_handlers_suite_as ?_
    refine HandSPX.lands_againZ fl3 fun h4 fl4 up4 => ?_
    have J4 : Inv X pins σ' H' { s' with heap := h4 } := J.landed nb fl4.1 ((up.trans up3).trans up4) os ag
    obtain ⟨oe4, vs4, he4, hz4, hd4⟩ := fl4.there
    have S4 := J4.suite he4 hd4 na nL nF
    refine store_ok (X := X.suite a ((a, oe4) :: (X.pn ++ pins))) (v := .ref a) S4 hN hi hloc rfl (fun s5 S5 => ?_) (.inr hln)
    refine wpAny_mono ((hsu a oe4 cls d (X.pn ++ pins) hz4 ⟨_, hd4⟩).run [] s5 _ H' _ S5 (hyes a na)) (fun f s6 hsp => ?_) (fun _ _ z => False.elim z)
    have end_ : ∀ {σ6 : L2.St} {H6 : Hp} {Q : Shared → Prop}, Inv (X.suite a ((a, oe4) :: (X.pn ++ pins))) [] σ6 H6 s6 → (∀ s7, Inv X pins (σ6.set i none) (upd H6 a (ExE cls d a)) s7 → Q s7) →
        wpAny (model X.prog X.w) X.A (do bindName X.env n .none; unbindBehindTheSuite X.env n pos') (fun _ s7 => Q s7) X.xe s6 := fun {σ6 H6 Q} S6 hq => gone_ok (unsuite2 S6 ok) hN hi hln fun s7 J7 => by
      obtain ⟨p1, p2, p3, p4, p5⟩ := J7.pin (a, oe4) (List.mem_append_right _ List.mem_cons_self)
      exact hq s7 (track (dropPin J7) p1 hz4 hd4 p2 n0 nL nP)
    cases f with
    | next =>
      obtain ⟨σ6, H6, S6, q6⟩ := hsp
      exact end_ S6 fun s7 J7 => ⟨_, _, J7, q6⟩
    | brk =>
      obtain ⟨σ6, H6, S6, q6⟩ := hsp
      exact end_ S6 fun s7 J7 => ⟨_, _, J7, q6⟩
    | cont =>
      obtain ⟨σ6, H6, S6, q6⟩ := hsp
      exact end_ S6 fun s7 J7 => ⟨_, _, J7, q6⟩
    | ret u =>
      obtain ⟨v6, σ6, H6, S6, r6, q6⟩ := hsp
      exact end_ S6 fun s7 J7 => ⟨_, _, _, J7, r6, q6⟩
  · cases f with
    | next =>
      obtain ⟨σ', H', J', q⟩ := hsp
      exact wpAny_execs_nil ⟨σ', H', J'.ofTry ok, q⟩
    | brk =>
      obtain ⟨σ', H', J', q⟩ := hsp
      exact ⟨σ', H', J'.ofTry ok, q⟩
    | cont =>
      obtain ⟨σ', H', J', q⟩ := hsp
      exact ⟨σ', H', J'.ofTry ok, q⟩
    | ret u =>
      obtain ⟨v, σ', H', J', r, q⟩ := hsp
      exact ⟨v, σ', H', J'.ofTry ok, r, q⟩
end
/-! ### isinstance of an exception that is held -/
def rIsX (K : PySem.W.Frag) : List V → Hp → VK → Prop := fun xs H Q => ∃ (a D : Addr) (c : V) (cv : Value) (b : Bool), xs = [.ref a, c] ∧ H a = some (ExE (.ref D) none a) ∧ ExcC K D ∧ (∀ u, RelV c u → u = cv) ∧ PySem.W.kitOne K (.ref D) cv = some b ∧ Q (.bl b) H
section
variable {X : Cx}
theorem call_isX : CallR X (.builtin "isinstance") (rIsX X.K) := by
  intro pins s σ H xs us Q I r h
  obtain ⟨a, D, c, cv, b, rfl, ha, C, hcv, e, q⟩ := h
  cases r with
  | cons rx rr =>
    cases rr with
    | cons rt rr =>
      cases rr
      cases rx
      have ec := hcv _ rt
      subst ec
      obtain ⟨⟨oe, vs, ho, hz, hv⟩, _, _⟩ := I.hok a _ ha
      have J : PySem.W.InstAt s.heap a oe D none := by
        obtain ⟨oc, od, oda, osl⟩ := oe
        obtain ⟨h1, h2⟩ := hz
        dsimp only at h1 h2 hv
        subst h1 h2 hv
        exact ⟨ho, rfl, rfl, trivial⟩
      exact PySem.W.kia_one (PySem.W.handS_kitx_exc C.hg C.hk C.hs C.hd C.ha C.hn C.ht C.hm) I.kIn J e (fun z => nomatch z) fun tk => ⟨.bl b, H, I.kept (t' := tk) fun _ _ z => z, rfl, q⟩
end
end Fo

namespace Fo
open PySem PySem.Spec PyProof.Rows L2
/-! ### list.count of flat items -/
def rLcountB (K : PySem.W.Frag) : V → List V → Hp → VK → Prop := fun x xs H Q => ∃ (a : Addr) (ys : List V) (y : V), x = V.ref a ∧ xs = [y] ∧ SqL K H a ys ∧ flatV y = true ∧ ys.all flatV = true ∧ Q (.int ((ys.countP fun z => eqV z y : Nat) : Int)) H
theorem count_vals {y : V} : ∀ {ys : List V} {us : List Value}, Vals ys us → ys.all flatV = true → us.countP (eqU y) = ys.countP fun z => eqV z y
  | _, _, .nil, _ => rfl
  | _, _, .cons r t, f => by
    rw [List.all_cons, Bool.and_eq_true] at f
    rw [List.countP_cons, List.countP_cons, count_vals t f.2, eqU_of r f.1]
section
variable {X : Cx}
theorem mt_lcountB : MtR X "list.count" (rLcountB X.K) := by
  intro pins s σ H x xs v us Q I rx rxs h
  obtain ⟨a, ys, y, rfl, rfl, hs, fy, fys, q⟩ := h
  cases rx
  cases rxs with
  | cons ry rt =>
    rename_i uy ut
    cases rt
    obtain ⟨its, rv, ⟨⟨cls, dd, data, sl⟩, n, ho, hc, hdn, hd⟩, hlen⟩ := I.list hs
    simp only at hc hd
    subst hc hd
    refine call_meets PySem.F.slot_list_count ⟨_, ho, rfl⟩ PySem.F.entry_list_count (PySem.F.args_list_count_2 _ _)
      (SeqAt.list_countAt a its.toArray n dd sl uy (eqU y)) ⟨ho, fun u' hu' => mem_eqAt ry fy rv fys u' (by simpa using hu'), ?_⟩
    have ec : its.toArray.toList.countP (eqU y) = ys.countP fun z => eqV z y := count_vals rv fys
    refine ⟨.int ((ys.countP fun z => eqV z y : Nat) : Int), H, I.tok _, ⟨s.toks, ?_⟩, q⟩
    show Value.int ((its.toArray.toList.countP (eqU y) : Nat) : Int) s.toks = _
    rw [ec]
theorem pe_gcls {x : Str} {pos : Pos} (hg : Gl X x) (hm : X.mg x = some (.ref (He.ga X.K x))) (hd : (x == ("__debug__" : Str)) = false := by decide) : PE X (.Name x pos) (tC (.ref (He.ga X.K x))) := pe_glob hg hm rfl hd
end
/-! ### a def that may raise -/
structure DfX (P : Program) (w : World) (K : PySem.W.Frag) (mg : Str → Option Value) (base : Heap) (k : Nat) (x : Str) (ps : List Str) (sp : Sp) : Prop where
  ex : ∃ f fd, FnOk P w K mg base (L2.CX P w) k f fd ps sp ∧ mg x = some (.ref f) ∧ PySem.W.keepIn K (.ref f) = true ∧ Binds K fd ps []
section
variable {P : Program} {w : World} {K : PySem.W.Frag} {mg : Str → Option Value} {base : Heap} {x : Str} {st : Stmt} {ps N : List Str} {k : Nat} {sp : Sp}
theorem Pd.dfX (F : Pd K mg x st ps) (S : FnScope N ps (defScope st)) (len : ∀ vs H Q E, sp vs H Q E → vs.length = ps.length)
    (hbody : ∀ (f : Addr) (cdv : Value) (A : Around) (outer : List Env) (s : Shared) (H : Hp) (vs : List V) (Q : VK) (E : XK), Room k (A.deeper (envOfC x (defScope st) s.heap.objs.size f cdv)) → sp vs H Q E →
      ∃ t, PSs (cxOf (L2.CX P w) P w K mg base N x (defScope st) f cdv A outer s H E) (defBody st) t ∧ t { nx := fun _ H' => Q .non H', rt := Q } (start N vs) H) : DfX P w K mg base (k + 1) x ps sp := by
  obtain ⟨f, fd, F1, hm, hb⟩ := F.ex
  exact ⟨f, fd, F1.ok S len fun cdv A outer s H vs Q E hr h => hbody f cdv A outer s H vs Q E hr h, hm, F1.kp, hb⟩
end
section
variable {X : Cx}
theorem pe_callXS {k : Nat} {x : Str} {ps : List Str} {sp : Sp} {E : L2.St → XK} {e : Expr} {es : List Expr} {t : TA} {p pos : Pos} (D : DfX X.prog X.w X.K X.mg X.base k x ps sp) (hr : Room k X.A) (hg : Gl X x) (hx : ∀ σ, PassesAt (L2.CX X.prog X.w) X σ (E σ)) (ha : PA X (e :: es) t) (hdb : (x == ("__debug__" : Str)) = false := by decide)
    (he : starEach (e :: es) X.env = (false, eval e X.env) :: starEach es X.env := by rfl) (hpl : (backTo pos (starEach es X.env)).any (·.1) = false := by rfl) :
    PE X (.Call (.Name x p) (e :: es) [] pos) (tCallS sp E t) := by
  obtain ⟨f, fd, F, hm, hk, hb⟩ := D.ex
  exact pe_callS F hr hg hm hk hb hx ha hdb he hpl
end
/-! ### the classes' facts -/
def exF (K : PySem.W.Frag) (x : Str) : Bool := decide (PySem.W.findIn K (.ref (He.ga K x)) "__getattribute__" = some (some (.builtin "BaseException.__getattribute__"))) && (decide (PySem.W.findIn K (.ref (He.ga K x)) "__getattr__" = some none) && (decide (PySem.W.subIn K (.ref (He.ga K x)) (.type "BaseException") = some true) && (PySem.W.hasDictIn K (He.ga K x) &&
  (decide (PySem.W.findIn K (.ref (He.ga K x)) "__class__" = some (some (.builtin "object.__class__"))) && (decide (PySem.W.specialIn K (.builtin "object.__class__") "__get__" = some (some (.builtin "getset_descriptor.__get__"))) && (decide (PySem.W.takesIn K (.builtin "object.__class__") = some true) && decide (PySem.W.mroIn K (He.ga K x) (.type "object") = some true)))))))
theorem exF_ok {K : PySem.W.Frag} {x : Str} (h : exF K x = true) : ExcC K (He.ga K x) := by
  unfold exF at h
  simp only [Bool.and_eq_true, decide_eq_true_eq] at h
  obtain ⟨h1, h2, h3, h4, h5, h6, h7, h8⟩ := h
  exact ⟨h1, h2, h3, h4, h5, h6, h7, h8⟩
def kiF (K : PySem.W.Frag) (x y : Str) (b : Bool) : Bool := decide (PySem.W.kitOne K (.ref (He.ga K x)) (.ref (He.ga K y)) = some b)
/-- what isinstance tells of an exception of the class x: which of the four, and beneath RuleError and ValueError -/
structure Xs (K : PySem.W.Frag) (x : Str) (i : Nat) : Prop where
  exc : ExcC K (He.ga K x)
  k0 : PySem.W.kitOne K (.ref (He.ga K x)) (.ref (He.ga K "BadRule")) = some (decide (i = 0))
  k1 : PySem.W.kitOne K (.ref (He.ga K x)) (.ref (He.ga K "BadFolding")) = some (decide (i = 1))
  k2 : PySem.W.kitOne K (.ref (He.ga K x)) (.ref (He.ga K "NoSuch")) = some (decide (i = 2))
  k3 : PySem.W.kitOne K (.ref (He.ga K x)) (.ref (He.ga K "NoText")) = some (decide (i = 3))
  kr : PySem.W.kitOne K (.ref (He.ga K x)) (.ref (He.ga K "RuleError")) = some true
  kv : PySem.W.kitOne K (.ref (He.ga K x)) (.type "ValueError") = some true
  em : PySem.W.exmOne K (.ref (He.ga K x)) (.ref (He.ga K "RuleError")) = some true
def xsF (K : PySem.W.Frag) (x : Str) (i : Nat) : Bool := exF K x && (kiF K x "BadRule" (decide (i = 0)) && (kiF K x "BadFolding" (decide (i = 1)) && (kiF K x "NoSuch" (decide (i = 2)) && (kiF K x "NoText" (decide (i = 3)) && (kiF K x "RuleError" true &&
  (decide (PySem.W.kitOne K (.ref (He.ga K x)) (.type "ValueError") = some true) && decide (PySem.W.exmOne K (.ref (He.ga K x)) (.ref (He.ga K "RuleError")) = some true)))))))
theorem xsF_ok {K : PySem.W.Frag} {x : Str} {i : Nat} (h : xsF K x i = true) : Xs K x i := by
  unfold xsF kiF at h
  simp only [Bool.and_eq_true] at h
  obtain ⟨h1, h2, h3, h4, h5, h6, h7, h8⟩ := h
  exact ⟨exF_ok h1, of_decide_eq_true h2, of_decide_eq_true h3, of_decide_eq_true h4, of_decide_eq_true h5, of_decide_eq_true h6, of_decide_eq_true h7, of_decide_eq_true h8⟩
/-- the Hook with a test more -/
def hookX (n : Nat) (fa : List He.Fa) (fn : List He.DefD) (ex : PySem.W.Frag → Bool) : PySem.W.Hook where
  α := He.AlD × Bool
  obs := fun s => (He.obsDG n fa fn s.heap.get?, ex (He.frG s.heap.get? (He.asD s.heap.get? n)))
  val := fun _ => (He.valD fn, true)
  says := fun _ h => ∃ K : PySem.W.Frag, K.In h ∧ He.SaysD fa fn K ∧ ex K = true
  of := fun _ _ e => ⟨_, He.frG_in, congrArg Prod.fst e, congrArg Prod.snd e⟩
  keeps := fun _ _ _ ⟨K, hK, c⟩ k => ⟨K, PySem.W.Frag.In.keeps hK k, c⟩
theorem obsX_eq {n : Nat} {fa : List He.Fa} {fn : List He.DefD} {ex : PySem.W.Frag → Bool} {g : Addr → Option Obj} {s : Shared} (h : ∀ a, g a = s.heap.get? a) : ((He.obsDG n fa fn g, ex (He.frG g (He.asD g n))) : He.AlD × Bool) = (hookX n fa fn ex).obs s := by
  have e : g = s.heap.get? := funext h
  rw [e] <;> rfl
end Fo

namespace Fo
open PySem PySem.Spec PyProof.Rows L2 Evl
/-! ### readings of the defs: printed by gen.py -/
def t__law_alone (K : PySem.W.Frag) (E : XK) : TS := (tSeq (tAsg (tLst (tCons (tCB (rIsX K) (tCons (tVar 0) (tCons (tC (.ref (He.ga K "BadRule"))) tNil))) (tCons (tCB (rIsX K) (tCons (tVar 0) (tCons (tC (.ref (He.ga K "BadFolding"))) tNil))) (tCons (tCB (rIsX K) (tCons (tVar 0) (tCons (tC (.ref (He.ga K "NoSuch"))) tNil))) (tCons (tCB (rIsX K) (tCons (tVar 0) (tCons (tC (.ref (He.ga K "NoText"))) tNil))) tNil))))) (gName 1))
    (tSeq (tIfS (tOr (tNot (tB (tCB (rIsX K) (tCons (tVar 0) (tCons (tC (.ref (He.ga K "RuleError"))) tNil))))) (tOr (tNot (tB (tCB (rIsX K) (tCons (tVar 0) (tCons (tC (.ty "ValueError")) tNil))))) (tTest (tOp rNe (tBM K "list" (rLcountB K) (tVar 1) (tCons (tC (.bl true)) tNil)) (tC (.int 1)))))) (tRet (tUn rNegI (tC (.int 1)))) tNext)
    (tRet (tBM K "list" (rIndex K) (tVar 1) (tCons (tC (.bl true)) tNil)))))
def t__law_refused_k04 (K : PySem.W.Frag) (E : XK) (p_folding_at : Sp) (p__law_alone : Sp) : TS := (tSeq (tAsg (tC .non) (gName 3))
    (tSeq (fun D σ H => tDrop (tCallS p_folding_at (WE (wKeep K (.ref (He.ga K "RuleError")) 4 (fun _ _ _ => (tAsg (tVar 4) (gName 3))) D)) (tCons (tVar 0) (tCons (tVar 1) (tCons (tVar 2) tNil)))) D σ H)
    (tRet (tOp rEq (tCall p__law_alone [] E (tCons (tVar 3) tNil)) (tC (.int 2))))))
def t_law_k04 (K : PySem.W.Frag) (E : XK) (p__law_draw : Sp) (p__law_rule : Sp) (p__law_all : Sp) (p__law_span : Sp) (p_many_fits : Sp) (p__law_whole : Sp) (p_folding_at : Sp) (p__law_numbers : Sp) (p_number_of : Sp) (p__law_refused : Sp) : TS := (tSeq (tAsg (tCall p__law_rule [] E (tCons (tVar 0) (tCons (tOp rAddI (tC (.int 1)) (tOp rModI (tCall p__law_draw [] E (tCons (tVar 0) (tCons (tC (.int 1)) tNil))) (tC (.int 7)))) tNil))) (gName 1))
    (tSeq (tAsg (tOp rModI (tCall p__law_draw [] E (tCons (tVar 0) (tCons (tC (.int 4)) tNil))) (tOp rAddI (tCB (rSum K) (tCons (tVar 1) tNil)) (tC (.int 2)))) (gName 2))
    (tSeq (tAsg (tLc (iList K (tCall p__law_all [] E (tCons (tOp rSubI (tCB (rLenS K) (tCons (tVar 1) tNil)) (tC (.int 1))) tNil))) (gName 4) (tTest (tOp rLeI (tCall p__law_span [] E (tCons (tVar 1) (tCons (tVar 4) tNil))) (tVar 2))) (tVar 4) [4]) (gName 3))
    (tSeq (tAsg (tCall p_many_fits [] E (tCons (tCB (rListS K) (tCons (tVar 1) tNil)) (tCons (tVar 2) tNil))) (gName 5))
    (tSeq (tIfS (tOr (tNot (tB (tCall p__law_whole [] E (tCons (tVar 5) tNil)))) (tTest (tOp rNe (tVar 5) (tCB (rLenS K) (tCons (tVar 3) tNil))))) (tRet (tC (.bl false))) tNext)
    (tSeq (tFor (iRng1 (tCons (tCB (rLenS K) (tCons (tVar 3) tNil)) tNil)) (gName 6) (tSeq (tAsg (tLst (tCons (tCB (rListS K) (tCons (tVar 1) tNil)) (tCons (tCB (rListS K) (tCons (tOp (rIxL K) (tVar 3) (tVar 6)) tNil)) tNil))) (gName 7))
    (tSeq (tIfS (tNot (tB (tCall p__law_numbers [] E (tCons (tCall p_folding_at [] E (tCons (tOp (rIxL K) (tVar 7) (tC (.int 0))) (tCons (tVar 2) (tCons (tVar 6) tNil)))) (tCons (tOp (rIxL K) (tVar 3) (tVar 6)) tNil))))) (tRet (tC (.bl false))) tNext)
    (tSeq (tAsg (tCall p_number_of [] E (tCons (tOp (rIxL K) (tVar 7) (tC (.int 0))) (tCons (tVar 2) (tCons (tOp (rIxL K) (tVar 7) (tC (.int 1))) tNil)))) (gName 8))
    (tIfS (tOr (tNot (tB (tCall p__law_whole [] E (tCons (tVar 8) tNil)))) (tOr (tTest (tOp rNe (tVar 8) (tVar 6))) (tTest (tOp (rNeD K) (tVar 7) (tLst (tCons (tVar 1) (tCons (tOp (rIxL K) (tVar 3) (tVar 6)) tNil))))))) (tRet (tC (.bl false))) tNext)))))
    (tSeq (tFor (iList K (tLst (tCons (tCB (rLenS K) (tCons (tVar 3) tNil)) (tCons (tOp rAddI (tOp rAddI (tCB (rLenS K) (tCons (tVar 3) tNil)) (tC (.int 1))) (tOp rModI (tCall p__law_draw [] E (tCons (tVar 0) (tCons (tC (.int 5)) tNil))) (tC (.int 999)))) (tCons (tOp rSubI (tUn rNegI (tC (.int 1))) (tCall p__law_draw [] E (tCons (tVar 0) (tCons (tC (.int 6)) tNil)))) tNil))))) (gName 6) (tIfS (tNot (tB (tCall p__law_refused [] E (tCons (tVar 1) (tCons (tVar 2) (tCons (tVar 6) tNil)))))) (tRet (tC (.bl false))) tNext))
    (tRet (tC (.bl true))))))))))
end Fo

set_option maxHeartbeats 8000000
namespace Fo
open PySem PySem.Spec PyProof.Rows L2 Evl
/-- those that fit, in their order: where they stand among all -/
def fitIx (r : List Int) (c : Int) : List Nat := (List.range (allC (r.length - 1)).length).filter fun i => decide (spanOf r ((allC (r.length - 1)).getD i []) ≤ c)
theorem ix_map {α : Type} (p : α → Bool) (d : α) : ∀ xs : List α, ((List.range xs.length).filter fun i => p (xs.getD i d)).map (fun i => xs.getD i d) = xs.filter p
  | [] => rfl
  | x :: xs => by
    have ih := ix_map p d xs
    rw [List.length_cons, List.range_succ_eq_map, List.filter_cons, List.filter_map, List.filter_cons]
    have e : ((List.range xs.length).filter ((fun i => p ((x :: xs).getD i d)) ∘ Nat.succ)) = (List.range xs.length).filter fun i => p (xs.getD i d) := rfl
    rw [e]
    show List.map _ (if p x = true then _ else _) = if p x = true then _ else _
    split
    · rw [List.map_cons, List.map_map]
      show x :: List.map (fun i => xs.getD i d) _ = _
      rw [ih]
    · rw [List.map_map]
      exact ih
theorem fit_map {r : List Int} (hr : OkR r) (c : Int) : (fitIx r c).map (fun i => (allC (r.length - 1)).getD i []) = (List.range (many r c)).map (atNum r c) := by
  rw [← all_fits hr c]
  exact ix_map (fun f => decide (spanOf r f ≤ c)) [] (allC (r.length - 1))
theorem fit_len {r : List Int} (hr : OkR r) (c : Int) : (fitIx r c).length = many r c := by
  have h := congrArg List.length (fit_map hr c)
  rw [List.length_map, List.length_map, List.length_range] at h
  exact h
theorem fit_at {r : List Int} (hr : OkR r) {c : Int} {k : Nat} (hk : k < many r c) : ∃ i, (fitIx r c)[k]? = some i ∧ i < (allC (r.length - 1)).length ∧ (allC (r.length - 1)).getD i [] = atNum r c k := by
  have hl := fit_len hr c
  have h1 : (fitIx r c)[k]? = some (fitIx r c)[k] := List.getElem?_eq_getElem (by omega)
  refine ⟨_, h1, ?_, ?_⟩
  · have hm : (fitIx r c)[k] ∈ fitIx r c := List.getElem_mem _
    exact List.mem_range.mp (List.mem_filter.mp hm).1
  · have h := congrArg (fun l => l[k]?) (fit_map hr c)
    simp only [List.getElem?_map, h1, List.getElem?_range hk] at h
    exact Option.some.inj h
section
variable {P : Program} {w : World} {K : PySem.W.Frag} {σ : L2.St} {H H' : Hp} {Q : VK} {E E1 : XK} {vs : List V} {ta tb te tl : TE} {x y z : V} {l : Addr}
theorem ev_bmL {r : V → List V → Hp → VK → Prop} {t : TA} {ys : List V} (ha : Ev ta σ H (.ref l)) (hl : SqL K H l ys) (he : EvA t σ H vs) (hr : ∀ H1, Ex H H1 → ∀ Q : VK, (∀ H2, Ex H1 H2 → Q z H2) → r (.ref l) vs H1 Q) : Ev (tBM K "list" r ta t) σ H z := fun H1 e Q q =>
  ha H1 e _ fun H2 e2 => ⟨Or.inl ⟨rfl, ys, ex_l (e.trans e2) hl⟩, he H2 (e.trans e2) _ fun H3 e3 => hr H3 ((e.trans e2).trans e3) Q fun H4 e4 => q H4 ((e2.trans e3).trans e4)⟩
theorem er_lcC {g : TG} {t : TT} {vs : List Nat} {R P : V → Hp → Prop} (h : EvR tl σ H R) (k : ∀ v H1, Ex H H1 → R v H1 → EvR (tLc (iList K (fun σ H Q => Q v H)) g t te vs) σ H1 P) : EvR (tLc (iList K tl) g t te vs) σ H P := fun H1 e Q q =>
  h H1 e _ fun v H2 e2 p => k v H2 (e.trans e2) p H2 (Ex.refl _) Q fun w H3 e3 pw => q w H3 (e2.trans e3) pw
/-- isinstance of an exception that is held -/
theorem ev_isx {a D : Addr} {c : V} {cv : Value} {b : Bool} (ha : Ev ta σ H (.ref a)) (h : H a = some (ExE (.ref D) none a)) (C : ExcC K D) (hc : Ev tb σ H c) (hcv : ∀ u, RelV c u → u = cv) (hk : PySem.W.kitOne K (.ref D) cv = some b) : Ev (tCB (rIsX K) (tCons ta (tCons tb tNil))) σ H (.bl b) := fun H1 e Q q =>
  ha H1 e _ fun H2 e2 => hc H2 (e.trans e2) _ fun H3 e3 => ⟨a, D, c, cv, b, rfl, e3 _ _ (e2 _ _ (e _ _ h)), C, hcv, hk, q H3 (e2.trans e3)⟩
/-! ### which exception -/
def p__law_alone (K : PySem.W.Frag) : Sp := fun vs H Q _ => ∃ a x, ∃ i : Nat, Xs K x i ∧ i ≤ 3 ∧ vs = [.ref a] ∧ H a = some (ExE (.ref (He.ga K x)) none a) ∧ RetV (.int (i : Int)) H Q
theorem rel_ref {a : Addr} : ∀ u, RelV (.ref a) u → u = .ref a := fun u h => h
theorem rel_ty {t : String} : ∀ u, RelV (.ty t) u → u = .type t := fun u h => h
theorem r__law_alone (h : p__law_alone K vs H Q E) : t__law_alone K E1 (En Q) (start ["e", "found"] vs) H := by
  obtain ⟨a, x, i, Y, hi, rfl, hx, q⟩ := h
  have is : ∀ (σ' : L2.St) (H1 : Hp) (y : Str) (b : Bool), Ex H H1 → σ'[0]? = some (some (.ref a)) → PySem.W.kitOne K (.ref (He.ga K x)) (.ref (He.ga K y)) = some b → Ev (tCB (rIsX K) (tCons (tVar 0) (tCons (tC (.ref (He.ga K y))) tNil))) σ' H1 (.bl b) := fun σ' H1 y b e hv hk => ev_isx (ev_var hv) (e _ _ hx) Y.exc ev_c rel_ref hk
  refine q_asgL (xs := [.bl (decide (i = 0)), .bl (decide (i = 1)), .bl (decide (i = 2)), .bl (decide (i = 3))]) (el_lst (ea_cons (is _ _ _ _ (Ex.refl _) rfl Y.k0) (ea_cons (is _ _ _ _ (Ex.refl _) rfl Y.k1) (ea_cons (is _ _ _ _ (Ex.refl _) rfl Y.k2) (ea_cons (is _ _ _ _ (Ex.refl _) rfl Y.k3) ea_nil)))) (by show 4 ≤ 100000; decide)) fun p H1 hp e1 h1 => ?_
  have cnt1 : ([.bl (decide (i = 0)), .bl (decide (i = 1)), .bl (decide (i = 2)), .bl (decide (i = 3))] : List V).countP (fun z => eqV z (.bl true)) = 1 := by
    match i, hi with
    | 0, _ => decide
    | 1, _ => decide
    | 2, _ => decide
    | 3, _ => decide
  refine q_when (b := (!true) || ((!true) || false)) (et_or (et_not (et_B (is _ _ _ _ e1 rfl Y.kr))) fun _ => et_or (et_not (et_B (ev_isx (ev_var rfl) (e1 _ _ hx) Y.exc ev_c rel_ty Y.kv))) fun _ => et_test (ev_is (ev_op (ev_bmL (z := .int ((1 : Nat) : Int)) (ev_var rfl) (sq_of h1) (ea_cons ev_c ea_nil) fun H2 e2 Q' q' => ⟨p, _, .bl true, rfl, rfl, sq_of (e2 _ _ h1), rfl, rfl, by rw [cnt1]; exact q' H2 (Ex.refl _)⟩) ev_c (rv_ne rfl)) (by decide))) (fun hc => by cases hc) (fun _ H2 e2 => ?_)
  refine s_ret (v := .int (i : Int)) (ev_bmL (ev_var rfl) (sq_of (e2 _ _ h1)) (ea_cons ev_c ea_nil) fun H3 e3 Q' q' => ⟨p, _, .bl true, i, .bl true, rfl, rfl, sq_of (e3 _ _ (e2 _ _ h1)), rfl, rfl, ?_, rfl, ?_, q' H3 (Ex.refl _)⟩) fun H3 e3 => q.go ((e1.trans e2).trans e3)
  · match i, hi with
    | 0, _ => rfl
    | 1, _ => rfl
    | 2, _ => rfl
    | 3, _ => rfl
  · intro m z hm hz
    match i, hi, m, hm with
    | 1, _, 0, _ => cases hz; rfl
    | 2, _, 0, _ => cases hz; rfl
    | 2, _, 1, _ => cases hz; rfl
    | 3, _, 0, _ => cases hz; rfl
    | 3, _, 1, _ => cases hz; rfl
    | 3, _, 2, _ => cases hz; rfl
theorem sp_alone {a : Addr} {x : Str} {i : Nat} (Y : Xs K x i) (hi : i ≤ 3) (h : H a = some (ExE (.ref (He.ga K x)) none a)) : SpV (p__law_alone K) [.ref a] H (.int (i : Int)) := fun H1 e Q q E => ⟨a, x, i, Y, hi, rfl, e _ _ h, fun H2 e2 => q H2 e2⟩
/-! ### the folding with a number, or none -/
def p_folding_atX (P : Program) (w : World) (K : PySem.W.Frag) : Sp := fun vs H Q E => ∃ a r c, ∃ n : Int, vs = [.ref a, .int c, .int n] ∧ SqL K H a (iv r) ∧ OkR r ∧ ¬ (0 ≤ n ∧ n < many r c) ∧ ∀ H', Ex H H' → E (.ref (He.ga K "NoSuch")) none H'
theorem r_folding_atX (h : p_folding_atX P w K vs H Q E) : t_folding_at P w K E1 (p_see_rule0 K) (p_many_fits0 P w K) (p_behind_turn K) (p_ways_from P w K 13) (fun _ _ H => E (.ref (He.ga K "NoSuch")) none H) (En Q) (start ["rule", "case", "number", "known", "state", "folding", "done", "turn", "ways"] vs) H := by
  obtain ⟨ra, r, c, n, rfl, hr, ok, hn, q⟩ := h
  refine q_drop (ev_call (vs := [.ref ra]) (ea_cons (ev_var rfl) ea_nil) (sp_see_rule0 hr ok)) fun H1 e1 => ?_
  have hr1 := ex_l e1 hr
  refine q_when (b := !(decide (0 ≤ n) && decide (n < many r c))) (et_not (et_test (ev_chain (x := .int 0) (y := .int n) (z := .int (many r c : Nat)) ev_c (ev_var rfl) rv_I0 (fun _ => ev_call (vs := [.ref ra, .int c]) (ea_cons (ev_var rfl) (ea_cons (ev_var rfl) ea_nil)) (sp_many0 hr1 ok)) fun _ => rv_I0))) (fun _ H2 e2 => q H2 (e1.trans e2)) (fun hc H2 e2 => ?_)
  exfalso
  rw [Bool.not_eq_false', Bool.and_eq_true, decide_eq_true_eq, decide_eq_true_eq] at hc
  exact hn hc
/-! ### is it refused -/
def p__law_refused_k04 (P : Program) (w : World) (K : PySem.W.Frag) : Sp := fun vs H Q _ => ∃ a r c, ∃ n : Int, Xs K "NoSuch" 2 ∧ vs = [.ref a, .int c, .int n] ∧ SqL K H a (iv r) ∧ OkR r ∧ ¬ (0 ≤ n ∧ n < many r c) ∧ RetV (.bl true) H Q
theorem r__law_refused_k04 (h : p__law_refused_k04 P w K vs H Q E) : t__law_refused_k04 K E1 (p_folding_atX P w K) (p__law_alone K) (En Q) (start ["rule", "case", "number", "found", "e"] vs) H := by
  obtain ⟨a, r, c, n, Y, rfl, hr, ok, hn, q⟩ := h
  refine q_asg ev_c fun H1 e1 => ?_
  have A : EvA (tCons (tVar 0) (tCons (tVar 1) (tCons (tVar 2) tNil))) [some (.ref a), some (.int c), some (.int n), some .non, none] H1 [.ref a, .int c, .int n] := ea_cons (ev_var rfl) (ea_cons (ev_var rfl) (ea_cons (ev_var rfl) ea_nil))
  show (tCons (tVar 0) (tCons (tVar 1) (tCons (tVar 2) tNil))) [some (.ref a), some (.int c), some (.int n), some .non, none] H1 (fun vs H2 => p_folding_atX P w K vs H2 (fun _ H3 => tRet (tOp rEq (tCall (p__law_alone K) [] E1 (tCons (tVar 3) tNil)) (tC (V.int 2))) (En Q) [some (.ref a), some (.int c), some (.int n), some .non, none] H3)
    (WE (wKeep K (Value.ref (He.ga K "RuleError")) 4 (fun _ _ _ => tAsg (tVar 4) (gName 3)) { En Q with nx := tRet (tOp rEq (tCall (p__law_alone K) [] E1 (tCons (tVar 3) tNil)) (tC (V.int 2))) (En Q) }) [some (.ref a), some (.int c), some (.int n), some .non, none]))
  refine A H1 (Ex.refl _) _ fun H2 e2 => ⟨a, r, c, n, rfl, ex_l (e1.trans e2) hr, ok, hn, fun H3 e3 => ⟨Y.em, fun b hb => ?_⟩⟩
  refine s_asg (ev_var (v := .ref b) rfl) fun H4 e4 => ?_
  have e04 := ((e1.trans e2).trans e3).trans e4
  have hb0 : H b = none := fresh_back ((e1.trans e2).trans e3) hb
  have eX : Ex H (upd H4 b (ExE (.ref (He.ga K "NoSuch")) none b)) := Ex.mut e04 hb0
  have hX : upd H4 b (ExE (.ref (He.ga K "NoSuch")) none b) b = some (ExE (.ref (He.ga K "NoSuch")) none b) := upd_same
  show tRet (tOp rEq (tCall (p__law_alone K) [] E1 (tCons (tVar 3) tNil)) (tC (V.int 2))) (En Q) [some (.ref a), some (.int c), some (.int n), some (.ref b), none] (upd H4 b (ExE (.ref (He.ga K "NoSuch")) none b))
  generalize upd H4 b (ExE (.ref (He.ga K "NoSuch")) none b) = H5 at eX hX
  refine s_ret (v := .bl true) (ev_is (ev_op (ev_call (vs := [.ref b]) (ea_cons (ev_var rfl) ea_nil) (sp_alone Y (by decide) hX)) ev_c (rv_eq rfl)) (by decide)) fun H6 e6 => q.go (eX.trans e6)
theorem sp_refused4 {a : Addr} {r : List Int} {c n : Int} (Y : Xs K "NoSuch" 2) (hr : SqL K H a (iv r)) (ok : OkR r) (hn : ¬ (0 ≤ n ∧ n < many r c)) : SpV (p__law_refused_k04 P w K) [.ref a, .int c, .int n] H (.bl true) := fun H1 e Q q E => ⟨a, r, c, n, Y, rfl, ex_l e hr, ok, hn, fun H2 e2 => q H2 e2⟩
/-! ### the law -/
theorem r_law_k04 (Y : Xs K "NoSuch" 2) (h : p_law K vs H Q E) : t_law_k04 K E1 (p__law_draw K) (p__law_rule K) (p__law_all K) (p__law_span K) (p_many_fits0 P w K) p__law_whole (p_folding_at0 P w K) (p__law_numbers K) (p_number_of0 P w K) (p__law_refused_k04 P w K) (En Q)
    (start ["script", "rule", "case", "due", "folding", "many", "number", "handed", "told"] vs) H := by
  obtain ⟨a, ns, rfl, hS, q⟩ := h
  obtain ⟨p1, p2⟩ := pieces_ok ns 1 7 (by decide)
  have pe := pieces_eq ns 1 7 (by decide)
  generalize piecesOf ns 1 7 = np at p1 p2 pe
  refine q_asgL (el_call (vs := [.ref a, .int np]) (ea_cons (ev_var rfl) (ea_cons (ev_is (ev_op ev_c (ev_op (ev_call (vs := [.ref a, .int ((1 : Nat) : Int)]) (ea_cons (ev_var rfl) (ea_cons ev_c ea_nil)) (sp_draw hS (by decide))) ev_c (rv_I (by decide))) rv_I0) (congrArg V.int pe)) ea_nil)) (sl_rule hS p1 (by omega))) fun ra H1 hra e1 h1 => ?_
  have ok := rule_ok ns np p1 (by omega)
  have rl := rule_len ns np
  generalize ruleOf ns np = r at ok h1 rl
  have l1 := ok.l1
  have l2 := ok.l12
  have sum0 : 0 ≤ r.sum := by
    have : ∀ l : List Int, (∀ x ∈ l, 1 ≤ x) → 0 ≤ l.sum := by
      intro l
      induction l with
      | nil => intro _; exact Int.le_refl 0
      | cons x l ih =>
        intro h
        have a1 := h x List.mem_cons_self
        have a2 := ih fun y hy => h y (List.mem_cons_of_mem _ hy)
        rw [List.sum_cons]
        omega
    exact this r fun x hx => (ok.all x hx).1
  refine q_asg (v := .int (draw ns 4 % (r.sum + 2))) (ev_op (ev_call (vs := [.ref a, .int ((4 : Nat) : Int)]) (ea_cons (ev_var rfl) (ea_cons ev_c ea_nil)) (sp_draw (ex_l e1 hS) (by decide))) (ev_op (ev_sumL (ev_var rfl) (sq_of h1)) ev_c rv_I0) (rv_I (by omega))) fun H2 e2 => ?_
  generalize draw ns 4 % (r.sum + 2) = c
  have R2 := e2 _ _ h1
  have S2 := ex_l (e1.trans e2) hS
  have pw : (allC (r.length - 1)).length ≤ 1024 := pow_le10 (by omega)
  -- due
  refine q_asgR (P := fun v H3 => ∃ D, v = .ref D ∧ ∃ as : List Addr, H3 D = some (.lst ((fitIx r c).map fun i => V.ref (as.getD i 0))) ∧ ∀ i, i < (allC (r.length - 1)).length → H3 (as.getD i 0) = some (.lst (iv ((allC (r.length - 1)).getD i []))))
    (er_lcC (er_call (vs := [.int ((r.length - 1 : Nat) : Int)]) (ea_cons (ev_is (ev_op (ev_len (ev_var rfl) (sq_of R2)) ev_c rv_I0) (congrArg V.int (by rw [iv_len]; omega))) ea_nil) (sr_all (by omega))) fun v H3 e3 hv => ?_) fun v H3 e3 hv => ?_
  · obtain ⟨D, as, rfl, hl, m⟩ := hv
    have R3 := e3 _ _ R2
    have at_ : ∀ i, i < as.length → as[i]? = some (as.getD i 0) := fun i hi => by rw [List.getD_eq_getElem?_getD, List.getElem?_eq_getElem hi]; rfl
    have elem : ∀ (i : Nat) (x : V), (as.map V.ref)[i]? = some x → i < as.length ∧ x = .ref (as.getD i 0) := fun i x hx => by
      have hi : i < as.length := by
        have := (List.getElem?_eq_some_iff.mp hx).1
        rwa [List.length_map] at this
      rw [List.getElem?_map, at_ i hi] at hx
      exact ⟨hi, (Option.some.inj hx).symm⟩
    have h := el_lcL (K := K) (σ := [some (.ref a), some (.ref ra), some (.int c), none, none, none, none, none, none]) (H := H3) (te := tVar 4) (t := tTest (tOp rLeI (tCall (p__law_span K) [] E1 (tCons (tVar 1) (tCons (tVar 4) tNil))) (tVar 2))) (tl := fun σ H Q => Q (.ref D) H) (a := D) (xs := as.map V.ref) (j := 4) (vs := [4])
      (fun i => decide (spanOf r ((allC (r.length - 1)).getD i []) ≤ c)) (fun i => .ref (as.getD i 0)) ev_constB (sq_of m.at_) (by rw [List.length_map]; omega) (fun x => rfl)
      (fun i x H4 e4 hi => by
        obtain ⟨hi2, rfl⟩ := elem i x hi
        have hm : (allC (r.length - 1)).getD i [] ∈ allC (r.length - 1) := by
          rw [List.getD_eq_getElem?_getD, List.getElem?_eq_getElem (by omega)]
          exact List.getElem_mem _
        have hlen := allC_len _ _ hm
        exact et_test (ev_op (ev_call (vs := [.ref ra, .ref (as.getD i 0)]) (ea_cons (ev_var rfl) (ea_cons (ev_var rfl) ea_nil)) (sp_lspan (sq_of (e4 _ _ R3)) (sq_of (e4 _ _ (m.el i _ (at_ i hi2)).2)) (by omega) (by omega))) (ev_var rfl) rv_I0))
      (fun i x H4 e4 hi _ => by
        obtain ⟨hi2, rfl⟩ := elem i x hi
        exact ev_var rfl)
    intro H4 e4 Q' q'
    refine h H4 e4 Q' fun p H5 hp e5 h5 => q' _ H5 e5 ⟨p, rfl, as, ?_, fun i hi => e5 _ _ (e4 _ _ (m.el i _ (at_ i (by omega))).2)⟩
    rw [h5]
    unfold given fitIx
    rw [List.length_map, hl]
  obtain ⟨D, rfl, as, hD, hel⟩ := hv
  have fl := fit_len ok c
  have R3 := e3 _ _ R2
  have S3 := ex_l e3 S2
  have dat : ∀ k, k < many r c → ∃ l, ((fitIx r c).map fun i => V.ref (as.getD i 0))[k]? = some (.ref l) ∧ H3 l = some (.lst (iv (atNum r c k))) := fun k hk => by
    obtain ⟨i, h1, h2, h3⟩ := fit_at ok hk
    refine ⟨as.getD i 0, by rw [List.getElem?_map, h1]; rfl, ?_⟩
    have h := hel i h2
    rw [h3] at h
    exact h
  have dlen : (((fitIx r c).map fun i => V.ref (as.getD i 0)).length : Int) = ((many r c : Nat) : Int) := by rw [List.length_map, fl]
  have many1 : many r c ≤ 1024 := by
    rw [← fl]
    unfold fitIx
    exact Nat.le_trans (List.length_filter_le _ _) (by rw [List.length_range]; exact pw)
  -- many
  refine q_asg (v := .int (many r c : Nat)) (ev_callL (y := .int c) (el_list (ev_var rfl) (sq_of R3)) (fun H1 e => ev_var rfl) fun p H4 hp e4 => sp_many0 (sq_of hp) ok) fun H4 e4 => ?_
  refine q_when (b := (!true) || false) (et_or (et_not (et_B (ev_call (vs := [.int (many r c : Nat)]) (ea_cons (ev_var rfl) ea_nil) sp_whole))) fun _ => et_test (ev_is (ev_op (ev_var rfl) (ev_is (ev_len (ev_var rfl) (sq_of (e4 _ _ hD))) (congrArg V.int dlen)) (rv_ne rfl)) (by rw [dec_int]; simp))) (fun hc => by cases hc) (fun _ H5 e5 => ?_)
  have e35 := e4.trans e5
  -- each number
  refine q_forR1 (n := ((many r c : Nat) : Int)) (ea_cons (ev_is (ev_len (ev_var rfl) (sq_of (e35 _ _ hD))) (congrArg V.int dlen)) ea_nil) ⟨by omega, by omega⟩
    (fun k σ' H' => ∃ kv hv tv fv, σ' = [some (.ref a), some (.ref ra), some (.int c), some (.ref D), fv, some (.int (many r c : Nat)), kv, hv, tv] ∧ Ex H3 H') (fun H6 e6 => ⟨_, _, _, _, rfl, e35.trans e6⟩) ?_ ?_
  · rintro k σ' H6 hk ⟨kv, hv, tv, fv, rfl, e6⟩
    have hk' : k < many r c := by omega
    obtain ⟨dl, d1, d2⟩ := dat k hk'
    obtain ⟨okf, spf⟩ := at_ok ok hk'
    have lf := okf.len
    have R6 := e6 _ _ R3
    have ixd : ∀ (σ' : L2.St) (Hx : Hp), Ex H3 Hx → σ'[3]? = some (some (.ref D)) → σ'[6]? = some (some (.int (k : Int))) → Ev (tOp (rIxL K) (tVar 3) (tVar 6)) σ' Hx (.ref dl) := fun σ' Hx ex v1 v2 => ev_op (ev_var v1) (ev_var v2) (rv_ixL (sq_of (ex _ _ hD)) (atI_nat d1))
    refine q_asgR (er_pair (el_list (ev_var rfl) (sq_of R6)) (el_list (ixd _ _ e6 rfl rfl) (sq_of (e6 _ _ d2)))) fun v H7 e7 hv => ?_
    obtain ⟨hp, ha, hb, rfl, hp0, hp1, ha0, hb0, ha1, hb1⟩ := hv
    have e37 := e6.trans e7
    have R7 := e7 _ _ R6
    have h0 : ∀ (σ' : L2.St) (Hx : Hp), Ex H7 Hx → σ'[7]? = some (some (.ref hp)) → Ev (tOp (rIxL K) (tVar 7) (tC (.int 0))) σ' Hx (.ref ha) := fun σ' Hx ex v1 => ev_op (ev_var v1) ev_c (rv_ixL (sq_of (ex _ _ hp1)) (atI_nat (j := 0) rfl))
    have h1' : ∀ (σ' : L2.St) (Hx : Hp), Ex H7 Hx → σ'[7]? = some (some (.ref hp)) → Ev (tOp (rIxL K) (tVar 7) (tC (.int 1))) σ' Hx (.ref hb) := fun σ' Hx ex v1 => ev_op (ev_var v1) ev_c (rv_ixL (sq_of (ex _ _ hp1)) (atI_nat (j := 1) rfl))
    refine q_when (b := !true) (et_not (et_B (ev_callL (y := .ref dl) (el_call (vs := [.ref ha, .int c, .int (k : Nat)]) (ea_cons (h0 _ _ (Ex.refl _) rfl) (ea_cons (ev_var rfl) (ea_cons (ev_var rfl) ea_nil))) (sl_folding0 (sq_of ha1) ok hk')) (fun H8 e8 => ixd _ _ (e37.trans e8) rfl rfl) fun l H8 hl e8 => ?_))) (fun hc => by cases hc) (fun _ H8 e8 => ?_)
    · have h := sp_numbers (K := K) hl (sq_of (e8 _ _ (e37 _ _ d2))) (by omega)
      rw [decide_eq_true rfl] at h
      exact h
    have e38 := e37.trans e8
    refine q_asg (v := .int (k : Int)) (ev_is (ev_call (vs := [.ref ha, .int c, .ref hb]) (ea_cons (h0 _ _ e8 rfl) (ea_cons (ev_var rfl) (ea_cons (h1' _ _ e8 rfl) ea_nil))) (sp_number0 (sq_of (e8 _ _ ha1)) (sq_of (e8 _ _ hb1)) ok okf spf)) (by rw [num_at hk'])) fun H9 e9 => ?_
    have e39 := e38.trans e9
    have e79 := e8.trans e9
    refine s_when (b := (!true) || (false || !true)) (et_or (et_not (et_B (ev_call (vs := [.int (k : Int)]) (ea_cons (ev_var rfl) ea_nil) sp_whole))) fun _ => et_or (et_test (ev_is (ev_op (ev_var rfl) (ev_var rfl) (rv_ne rfl)) (by rw [dec_int]; simp))) fun _ => et_test (ev_is (ev_ne2 (sq_of (e79 _ _ hp1)) (sq_of (e79 _ _ ha1)) (sq_of (e79 _ _ hb1)) (sq_of (e79 _ _ R7)) (sq_of (e39 _ _ d2)) (ev_var rfl) (ev_var rfl) (ixd _ _ e39 rfl rfl)) (by rw [decide_eq_true rfl]))) (fun hc => by cases hc) (fun _ H10 e10 => ⟨_, _, _, _, rfl, e39.trans e10⟩)
  · rintro σ' H6 ⟨kv, hv, tv, fv, rfl, e6⟩
    have R6 := e6 _ _ R3
    have S6 := ex_l e6 S3
    have hd5 : 0 ≤ draw ns 5 % 999 := Int.emod_nonneg _ (by decide)
    have hd6 := draw_nn ns 6
    have lenE : ∀ (σ' : L2.St) (Hx : Hp), Ex H3 Hx → σ'[3]? = some (some (.ref D)) → Ev (tCB (rLenS K) (tCons (tVar 3) tNil)) σ' Hx (.int (many r c : Nat)) := fun σ' Hx ex v1 => ev_is (ev_len (ev_var v1) (sq_of (ex _ _ hD))) (congrArg V.int dlen)
    refine q_forNLn (xs := iv [((many r c : Nat) : Int), (many r c : Nat) + 1 + draw ns 5 % 999, -1 - draw ns 6]) (el_lst (ea_cons (lenE _ _ e6 rfl) (ea_cons (ev_op (ev_op (lenE _ _ e6 rfl) ev_c rv_I0) (ev_op (ev_call (vs := [.ref a, .int ((5 : Nat) : Int)]) (ea_cons (ev_var rfl) (ea_cons ev_c ea_nil)) (sp_draw S6 (by decide))) ev_c (rv_I (by decide))) rv_I0)
        (ea_cons (ev_op (ev_un ev_c ru_neg) (ev_call (vs := [.ref a, .int ((6 : Nat) : Int)]) (ea_cons (ev_var rfl) (ea_cons ev_c ea_nil)) (sp_draw S6 (by decide))) rv_I0) ea_nil))) (by show 3 ≤ 100000; decide))
      (fun L j σ' H' => ∃ kv, σ' = [some (.ref a), some (.ref ra), some (.int c), some (.ref D), fv, some (.int (many r c : Nat)), kv, hv, tv] ∧ Ex H6 H' ∧ H' L = some (.lst (iv [((many r c : Nat) : Int), (many r c : Nat) + 1 + draw ns 5 % 999, -1 - draw ns 6])))
      (fun L H7 hL e7 h7 => ⟨_, rfl, e7, h7⟩) (fun L j σ' H' _ ⟨_, _, _, h⟩ => sq_of h) ?_ ?_
    · rintro L j v σ' H7 hj ⟨kv, rfl, e7, hLL⟩
      obtain ⟨n, hn, rfl⟩ := iv_get hj
      have bad : ¬ (0 ≤ n ∧ n < (many r c : Nat)) := by
        match j, hn with
        | 0, hn =>
          have e : ((many r c : Nat) : Int) = n := by simpa using hn
          omega
        | 1, hn =>
          have e : ((many r c : Nat) : Int) + 1 + draw ns 5 % 999 = n := by simpa using hn
          omega
        | 2, hn =>
          have e : -1 - draw ns 6 = n := by simpa using hn
          omega
      exact s_when (b := !true) (et_not (et_B (ev_call (vs := [.ref ra, .int c, .int n]) (ea_cons (ev_var rfl) (ea_cons (ev_var rfl) (ea_cons (ev_var rfl) ea_nil))) (sp_refused4 Y (sq_of (e7 _ _ R6)) ok bad)))) (fun hc => by cases hc) (fun _ H8 e8 => ⟨_, rfl, e7.trans e8, e8 _ _ hLL⟩)
    · rintro L σ' H7 ⟨kv, rfl, e7, _⟩
      exact s_ret ev_c fun H8 e8 => q H8
end
end Fo

namespace Fo
open PySem PySem.Spec PyProof.Rows L2 Evl
def rStrI : List V → Hp → VK → Prop := fun xs H Q => ∃ i : Int, xs = [.int i] ∧ i.natAbs.log2 < 1920 ∧ Q (.str (toString i)) H
/-! ### readings of the defs: printed by gen.py -/
def t_shown (K : PySem.W.Frag) (E : XK) (p_see_folding : Sp) : TS := (tSeq (tDrop (tCall p_see_folding [] E (tCons (tVar 0) (tCons (tVar 1) tNil))))
    (tSeq (tAsg (tCB rStrI (tCons (tOp (rIxL K) (tVar 0) (tC (.int 0))) tNil)) (gName 2))
    (tSeq (tFor (iRng1 (tCons (tCB (rLenS K) (tCons (tVar 1) tNil)) tNil)) (gName 3) (tAsg (tOp rAddS (tOp rAddS (tVar 2) (tOp rIxS (tC (.str "+-")) (tOp (rIxL K) (tVar 1) (tVar 3)))) (tCB rStrI (tCons (tOp (rIxL K) (tVar 0) (tOp rAddI (tVar 3) (tC (.int 1)))) tNil))) (gName 2)))
    (tRet (tVar 2)))))
def t__law_bad_rule (K : PySem.W.Frag) (E : XK) : TS := (tSeq (tIfS (tTest (tOp rEq (tVar 1) (tC (.int 0)))) (tRet (tLst tNil)) tNext)
    (tSeq (tIfS (tTest (tOp rEq (tVar 1) (tC (.int 1)))) (tRet (tOp rCat (tVar 0) (tLc (iRng1 (tCons (tOp rAddI (tOp rSubI (tC (.int 13)) (tCB (rLenS K) (tCons (tVar 0) tNil))) (tOp rModI (tVar 2) (tC (.int 3)))) tNil)) (gName 3) tYes (tC (.int 1)) [3]))) tNext)
    (tSeq (tAsg (tOp (rIxL K) (tLst (tCons (tC (.int 0)) (tCons (tOp rAddI (tC (.int 61)) (tOp rModI (tOp rDivI (tVar 2) (tC (.int 7))) (tC (.int 9)))) (tCons (tOp rSubI (tUn rNegI (tC (.int 1))) (tOp rModI (tOp rDivI (tVar 2) (tC (.int 7))) (tC (.int 9)))) tNil)))) (tOp rSubI (tVar 1) (tC (.int 2)))) (gName 4))
    (tSeq (tAsg (tOp rModI (tVar 2) (tCB (rLenS K) (tCons (tVar 0) tNil))) (gName 5))
    (tRet (tOp rCat (tOp rCat (tSl (rSlL K) (tVar 0) tNoPart (tPart (tVar 5))) (tLst (tCons (tVar 4) tNil))) (tSl (rSlL K) (tVar 0) (tPart (tOp rAddI (tVar 5) (tC (.int 1)))) tNoPart)))))))
def t__law_bad_folding (K : PySem.W.Frag) (E : XK) : TS := (tSeq (tIfS (tTest (tOp rEq (tVar 1) (tC (.int 0)))) (tRet (tOp rCat (tVar 0) (tLst (tCons (tOp rModI (tVar 2) (tC (.int 2))) tNil)))) tNext)
    (tSeq (tIfS (tAnd (tTest (tOp rEq (tVar 1) (tC (.int 1)))) (tTest (tOp (rNeD K) (tVar 0) (tLst tNil)))) (tRet (tSl (rSlL K) (tVar 0) (tPart (tC (.int 1))) tNoPart)) tNext)
    (tSeq (tIfS (tTest (tOp (rEqD K) (tVar 0) (tLst tNil))) (tRet (tLst (tCons (tOp rModI (tVar 2) (tC (.int 2))) tNil))) tNext)
    (tSeq (tAsg (tCB (rListS K) (tCons (tVar 0) tNil)) (gName 3))
    (tSeq (tAsg (tOp (rIxL K) (tLst (tCons (tOp rAddI (tC (.int 2)) (tOp rModI (tOp rDivI (tVar 2) (tC (.int 9))) (tC (.int 9)))) (tCons (tOp rSubI (tUn rNegI (tC (.int 1))) (tOp rModI (tOp rDivI (tVar 2) (tC (.int 9))) (tC (.int 9)))) tNil))) (tOp rModI (tOp rDivI (tVar 2) (tC (.int 99))) (tC (.int 2)))) (gSub (tVar 3) (tOp rModI (tVar 2) (tCB (rLenS K) (tCons (tVar 0) tNil))) rSetL))
    (tRet (tVar 3)))))))
def t__law_whole_call (K : PySem.W.Frag) (E : XK) (p_reachable : Sp) (p_shortest_case : Sp) (p_by_half : Sp) (p_many_fits : Sp) (p_folding_at : Sp) : TS := (tSeq (tIfS (tTest (tOp rEq (tVar 0) (tC (.int 0)))) (tDrop (tCall p_reachable [] E (tCons (tVar 1) (tCons (tC (.int 9)) tNil)))) tNext)
    (tSeq (tIfS (tTest (tOp rEq (tVar 0) (tC (.int 1)))) (tDrop (tCall p_shortest_case [] E (tCons (tVar 1) tNil))) tNext)
    (tSeq (tIfS (tTest (tOp rEq (tVar 0) (tC (.int 2)))) (tDrop (tCall p_by_half [] E (tCons (tVar 1) tNil))) tNext)
    (tSeq (tIfS (tTest (tOp rEq (tVar 0) (tC (.int 3)))) (tDrop (tCall p_many_fits [] E (tCons (tVar 1) (tCons (tC (.int 99)) tNil)))) tNext)
    (tIfS (tTest (tOp rEq (tVar 0) (tC (.int 4)))) (tDrop (tCall p_folding_at [] E (tCons (tVar 1) (tCons (tC (.int 800)) (tCons (tVar 2) tNil))))) tNext)))))
def t__law_folded_call (K : PySem.W.Frag) (E : XK) (p_joints : Sp) (p_span : Sp) (p_fits : Sp) (p_shown : Sp) (p_number_of : Sp) : TS := (tSeq (tIfS (tTest (tOp rEq (tVar 0) (tC (.int 5)))) (tDrop (tCall p_joints [] E (tCons (tVar 1) (tCons (tVar 2) tNil)))) tNext)
    (tSeq (tIfS (tTest (tOp rEq (tVar 0) (tC (.int 6)))) (tDrop (tCall p_span [] E (tCons (tVar 1) (tCons (tVar 2) tNil)))) tNext)
    (tSeq (tIfS (tTest (tOp rEq (tVar 0) (tC (.int 7)))) (tDrop (tCall p_fits [] E (tCons (tVar 1) (tCons (tVar 2) (tCons (tC (.int 9)) tNil))))) tNext)
    (tSeq (tIfS (tTest (tOp rEq (tVar 0) (tC (.int 8)))) (tDrop (tCall p_shown [] E (tCons (tVar 1) (tCons (tVar 2) tNil)))) tNext)
    (tIfS (tTest (tOp rEq (tVar 0) (tC (.int 9)))) (tDrop (tCall p_number_of [] E (tCons (tVar 1) (tCons (tVar 3) (tCons (tVar 2) tNil))))) tNext)))))
def t__law_refused_k02 (K : PySem.W.Frag) (E : XK) (p__law_whole_call : Sp) (p__law_folded_call : Sp) (p__law_alone : Sp) : TS := (tSeq (tAsg (tC .non) (gName 5))
    (tSeq (fun D σ H => (tSeq (tDrop (tCallS p__law_whole_call (WE (wKeep K (.ref (He.ga K "RuleError")) 6 (fun _ _ _ => (tAsg (tVar 6) (gName 5))) D)) (tCons (tVar 0) (tCons (tVar 1) (tCons (tVar 3) tNil))))) (tDrop (tCallS p__law_folded_call (WE (wKeep K (.ref (He.ga K "RuleError")) 6 (fun _ _ _ => (tAsg (tVar 6) (gName 5))) D)) (tCons (tVar 0) (tCons (tVar 1) (tCons (tVar 2) (tCons (tVar 4) tNil))))))) D σ H)
    (tSeq (tIfS (tTest (tOp rIsN (tVar 5) (tC .non))) (tRet (tC .non)) tNext)
    (tRet (tCall p__law_alone [] E (tCons (tVar 5) tNil))))))
def t_law_k02 (K : PySem.W.Frag) (E : XK) (p__law_draw : Sp) (p__law_rule : Sp) (p__law_folding : Sp) (p__law_span : Sp) (p__law_bad_rule : Sp) (p__law_bad_folding : Sp) (p__law_refused : Sp) : TS := (tSeq (tAsg (tOp rAddI (tC (.int 1)) (tOp rModI (tCall p__law_draw [] E (tCons (tVar 0) (tCons (tC (.int 1)) tNil))) (tC (.int 12)))) (gName 1))
    (tSeq (tAsg (tCall p__law_rule [] E (tCons (tVar 0) (tCons (tVar 1) tNil))) (gName 2))
    (tSeq (tAsg (tCall p__law_folding [] E (tCons (tVar 0) (tCons (tC (.int 30)) (tCons (tVar 1) tNil)))) (gName 3))
    (tSeq (tAsg (tC (.int 1)) (gName 4))
    (tSeq (tFor (iRng1 (tCons (tOp rSubI (tVar 1) (tC (.int 1))) tNil)) (gName 5) (tAsg (tOp rMulI (tC (.int 2)) (tVar 4)) (gName 4)))
    (tSeq (tAsg (tCall p__law_draw [] E (tCons (tVar 0) (tCons (tC (.int 91)) tNil))) (gName 6))
    (tSeq (tAsg (tOp (rIxL K) (tLst (tCons (tC (.int 0)) (tCons (tOp rSubI (tVar 4) (tC (.int 1))) (tCons (tOp rSubI (tUn rNegI (tC (.int 1))) (tOp rModI (tOp rDivI (tVar 6) (tC (.int 99))) (tC (.int 9)))) (tCons (tOp rAddI (tVar 4) (tOp rModI (tOp rDivI (tVar 6) (tC (.int 99))) (tC (.int 9)))) tNil))))) (tOp rModI (tVar 6) (tC (.int 4)))) (gName 7))
    (tSeq (tAsg (tOp rSubI (tCall p__law_span [] E (tCons (tVar 2) (tCons (tVar 3) tNil))) (tOp rModI (tOp rDivI (tVar 6) (tC (.int 4))) (tC (.int 2)))) (gName 8))
    (tSeq (tAsg (tOp rEq (tOp rModI (tOp rDivI (tVar 6) (tC (.int 8))) (tC (.int 3))) (tC (.int 1))) (gName 9))
    (tSeq (tAsg (tOp rEq (tOp rModI (tOp rDivI (tVar 6) (tC (.int 24))) (tC (.int 3))) (tC (.int 1))) (gName 10))
    (tSeq (tIfS (tB (tVar 9)) (tAsg (tCall p__law_bad_rule [] E (tCons (tVar 2) (tCons (tOp rModI (tOp rDivI (tVar 6) (tC (.int 72))) (tC (.int 5))) (tCons (tOp rDivI (tVar 6) (tC (.int 360))) tNil)))) (gName 2)) tNext)
    (tSeq (tIfS (tB (tVar 10)) (tAsg (tCall p__law_bad_folding [] E (tCons (tVar 3) (tCons (tOp rModI (tOp rDivI (tVar 6) (tC (.int 72))) (tC (.int 3))) (tCons (tOp rDivI (tVar 6) (tC (.int 360))) tNil)))) (gName 3)) tNext)
    (tSeq (tAsg (tLst (tCons (tCB (rListS K) (tCons (tVar 2) tNil)) (tCons (tCB (rListS K) (tCons (tVar 3) tNil)) tNil))) (gName 11))
    (tSeq (tFor (iRng1 (tCons (tC (.int 10)) tNil)) (gName 12) (tSeq (tAsg (tC .non) (gName 13))
    (tSeq (tIfS (tOr (tAnd (tTest (tOp rEq (tVar 12) (tC (.int 4)))) (tTest (tOp rGtI (tOp rModI (tVar 6) (tC (.int 4))) (tC (.int 1))))) (tAnd (tTest (tOp rEq (tVar 12) (tC (.int 9)))) (tTest (tOp rEq (tOp rModI (tOp rDivI (tVar 6) (tC (.int 4))) (tC (.int 2))) (tC (.int 1)))))) (tAsg (tC (.int 2)) (gName 13)) tNext)
    (tSeq (tIfS (tAnd (tTest (tOp rGtI (tVar 12) (tC (.int 4)))) (tB (tVar 10))) (tAsg (tC (.int 1)) (gName 13)) tNext)
    (tSeq (tIfS (tB (tVar 9)) (tAsg (tC (.int 0)) (gName 13)) tNext)
    (tIfS (tOr (tTest (tOp rNe (tCall p__law_refused [] E (tCons (tVar 12) (tCons (tOp (rIxL K) (tVar 11) (tC (.int 0))) (tCons (tOp (rIxL K) (tVar 11) (tC (.int 1))) (tCons (tVar 7) (tCons (tVar 8) tNil)))))) (tVar 13))) (tTest (tOp (rNeD K) (tVar 11) (tLst (tCons (tVar 2) (tCons (tVar 3) tNil)))))) (tRet (tC (.bl false))) tNext))))))
    (tRet (tC (.bl true)))))))))))))))))
end Fo

set_option maxHeartbeats 8000000
namespace Fo
open PySem PySem.Spec PyProof.Rows L2 Evl
/-- a promise whose way out by an exception is E -/
def clo (sp : Sp) (E : XK) : Sp := fun vs H Q _ => sp vs H Q E
section
variable {X : Cx}
theorem pe_callXD {k : Nat} {x : Str} {ps : List Str} {sp : Sp} {E : XK} {e : Expr} {es : List Expr} {t : TA} {p pos : Pos} (D : DfX X.prog X.w X.K X.mg X.base k x ps sp) (hr : Room k X.A) (hg : Gl X x) (tk : Takes X (fun cls d _ H => E cls d H)) (ha : PA X (e :: es) t) (hdb : (x == ("__debug__" : Str)) = false := by decide)
    (he : starEach (e :: es) X.env = (false, eval e X.env) :: starEach es X.env := by rfl) (hpl : (backTo pos (starEach es X.env)).any (·.1) = false := by rfl) :
    PE X (.Call (.Name x p) (e :: es) [] pos) (tCall (clo sp E) [] E0 t) := by
  have h := pe_callXS (E := fun _ => E) (p := p) (pos := pos) D hr hg (fun σ => passAt tk σ) ha hdb he hpl
  refine ⟨fun pins s σ H Q I hh => h.run pins s σ H Q I ?_⟩
  show t σ H fun vs H1 => sp vs H1 Q E
  have ee : (fun (vs : List V) (H1 : Hp) => clo sp E (vs ++ []) H1 Q E0) = fun vs H1 => sp vs H1 Q E := by
    funext vs H1
    rw [List.append_nil]
    rfl
  rw [← ee]
  exact hh
end
def BadR (r : List Int) : Prop := r.length = 0 ∨ 12 < r.length ∨ ∃ x ∈ r, ¬ (1 ≤ x ∧ x ≤ 60)
def BadF (r f : List Int) : Prop := f.length + 1 ≠ r.length ∨ ∃ t ∈ f, t ≠ 0 ∧ t ≠ 1
theorem filt_ne {p : Int → Bool} {xs : List Int} (h : ∃ x ∈ xs, p x = true) : ((List.range xs.length).filter fun i => p (xs.getD i 0)).map (fun i => xs.getD i 0) ≠ [] := by
  rw [ix_map p 0 xs]
  obtain ⟨x, hx, hp⟩ := h
  intro z
  have := List.mem_filter.mpr ⟨hx, hp⟩
  rw [z] at this
  cases this
def Bad1 (K : PySem.W.Frag) (a : Addr) (H : Hp) (E : XK) : Prop := ∃ r, SqL K H a (iv r) ∧ r.length ≤ 10000 ∧ BadR r ∧ ∀ H', Ex H H' → E (.ref (He.ga K "BadRule")) none H'
def Bad2 (K : PySem.W.Frag) (a b : Addr) (H : Hp) (E : XK) : Prop := Bad1 K a H E ∨ ∃ r f, SqL K H a (iv r) ∧ SqL K H b (iv f) ∧ OkR r ∧ f.length ≤ 10000 ∧ BadF r f ∧ ∀ H', Ex H H' → E (.ref (He.ga K "BadFolding")) none H'
section
variable {P : Program} {w : World} {K : PySem.W.Frag} {σ : L2.St} {H H' : Hp} {Q : VK} {E E1 : XK} {vs : List V} {D : Ends} {REST : TS} {i j : Nat} {a b : Addr} {ta tb te : TE} {s s' : Str}
theorem Bad1.mono (e : Ex H H') (h : Bad1 K a H E) : Bad1 K a H' E := by
  obtain ⟨r, h1, h2, h3, h4⟩ := h
  exact ⟨r, ex_l e h1, h2, h3, fun H'' e2 => h4 H'' (e.trans e2)⟩
/-! ### the refusal of a rule -/
def p_see_ruleC (P : Program) (w : World) (K : PySem.W.Frag) : Sp := fun vs H Q E => p_see_rule0 K vs H Q E ∨ ∃ a, vs = [.ref a] ∧ Bad1 K a H E
theorem n_see_rule (h : p_see_ruleC P w K vs H Q E) : vs.length = (["rule"] : List Str).length := by
  rcases h with ⟨_, _, rfl, _⟩ | ⟨_, rfl, _⟩ <;> rfl
theorem r_see_ruleC (h : p_see_ruleC P w K vs H Q E) : t_see_rule K E1 (fun _ _ H => E (.ref (He.ga K "BadRule")) none H) (fun _ _ H => E (.ref (He.ga K "BadRule")) none H) (En Q) (start ["rule", "length"] vs) H := by
  rcases h with h | ⟨a, rfl, r, hr, hz, hb, q⟩
  · exact r_see_rule0 h
  refine q_when (b := !(decide ((1 : Int) ≤ (r.length : Int)) && decide ((r.length : Int) ≤ 12))) (et_not (et_test (ev_chain (x := .int 1) (y := .int r.length) (z := .int 12) ev_c (ev_is (ev_len (ev_var rfl) hr) (by rw [iv_len])) rv_I0 (fun _ => ev_c) fun _ => rv_I0))) (fun _ H1 e1 => q H1 e1) (fun hc H1 e1 => ?_)
  rw [Bool.not_eq_false', Bool.and_eq_true, decide_eq_true_eq, decide_eq_true_eq] at hc
  have hr1 := ex_l e1 hr
  have hbad : ∃ x ∈ r, (!(decide ((1 : Int) ≤ x) && decide (x ≤ (60 : Int)))) = true := by
    rcases hb with h | h | ⟨x, hx, h⟩
    · omega
    · omega
    · refine ⟨x, hx, ?_⟩
      rw [Bool.not_eq_true', Bool.eq_false_iff]
      intro z
      rw [Bool.and_eq_true, decide_eq_true_eq, decide_eq_true_eq] at z
      exact h z
  refine s_when (b := !decide ((((List.range r.length).filter fun i => !(decide ((1 : Int) ≤ r.getD i 0) && decide (r.getD i 0 ≤ (60 : Int)))).map fun i => r.getD i 0) = [])) (et_test ?_) (fun _ H2 e2 => q H2 (e1.trans e2)) (fun hc2 H2 e2 => ?_)
  · refine ev_opLL (ys := iv []) ?_ (el_lst ea_nil (by decide)) fun p p' H2 hp hp' e2 => rv_neI (sq_of hp) (sq_of hp')
    have h := el_lcL (te := tVar 1) (t := tNot (tTest (tChain rLeI rLeI (tC (.int 1)) (tVar 1) (tC (.int 60))))) (tl := tVar 0) (j := 1) (vs := [1]) (σ := [some (.ref a), none]) (H := H1) (fun i => !(decide ((1 : Int) ≤ r.getD i 0) && decide (r.getD i 0 ≤ (60 : Int)))) (fun i => V.int (r.getD i 0)) (ev_var rfl) hr1 (by rw [iv_len]; omega) (fun x => rfl) (fun i x H2 e2 hi => by
      obtain ⟨n, hn, rfl⟩ := iv_get hi
      rw [show r.getD i 0 = n by rw [List.getD_eq_getElem?_getD, hn]; rfl]
      exact et_not (et_test (ev_chain (x := .int 1) (y := .int n) (z := .int 60) ev_c (ev_var rfl) rv_I0 (fun _ => ev_c) fun _ => rv_I0))) (fun i x H2 e2 hi hf => by
      obtain ⟨n, hn, rfl⟩ := iv_get hi
      rw [show r.getD i 0 = n by rw [List.getD_eq_getElem?_getD, hn]; rfl]
      exact ev_var rfl)
    rw [given_ints, iv_len] at h
    exact h
  · exfalso
    rw [Bool.not_eq_false', decide_eq_true_eq] at hc2
    exact filt_ne hbad hc2
theorem see_good1 (h : tSeq (tDrop (tCall (p_see_rule0 K) [] E1 (tCons (tVar i) tNil))) REST D σ H) : tSeq (tDrop (tCall (clo (p_see_ruleC P w K) E) [] E1 (tCons (tVar i) tNil))) REST D σ H := by
  obtain ⟨v, e, h⟩ := h
  exact ⟨v, e, Or.inl h⟩
theorem see_bad1 (e : σ[i]? = some (some (.ref a))) (h : Bad1 K a H E) : tSeq (tDrop (tCall (clo (p_see_ruleC P w K) E) [] E1 (tCons (tVar i) tNil))) REST D σ H := ⟨_, e, Or.inr ⟨a, rfl, h⟩⟩
/-! ### the refusal of a folding -/
def p_see_foldingC (P : Program) (w : World) (K : PySem.W.Frag) : Sp := fun vs H Q E => p_see_folding0 K vs H Q E ∨ ∃ a b, vs = [.ref a, .ref b] ∧ Bad2 K a b H E
theorem n_see_folding (h : p_see_foldingC P w K vs H Q E) : vs.length = (["rule", "folding"] : List Str).length := by
  rcases h with ⟨_, _, _, _, rfl, _⟩ | ⟨_, _, rfl, _⟩ <;> rfl
theorem r_see_foldingC (h : p_see_foldingC P w K vs H Q E) : t_see_folding K E1 (clo (p_see_ruleC P w K) E) (fun _ _ H => E (.ref (He.ga K "BadFolding")) none H) (En Q) (start ["rule", "folding", "turn"] vs) H := by
  rcases h with h | ⟨a, b, rfl, h | ⟨r, f, hr, hf, ok, hz, hb, q⟩⟩
  · exact see_good1 (r_see_folding0 h)
  · exact see_bad1 rfl h
  have l1 := ok.l1
  have l2 := ok.l12
  refine see_good1 (q_drop (ev_call (vs := [.ref a]) (ea_cons (ev_var rfl) ea_nil) (sp_see_rule0 hr ok)) fun H1 e1 => ?_)
  have hr1 := ex_l e1 hr
  have hf1 := ex_l e1 hf
  refine s_when (b := !decide ((f.length : Int) = (r.length : Int) - 1) || !decide ((((List.range f.length).filter fun i => !decide (f.getD i 0 = 0) && !decide (f.getD i 0 = 1)).map fun i => f.getD i 0) = [])) (et_or (et_test ?_) fun _ => et_test ?_) (fun _ H2 e2 => q H2 (e1.trans e2)) (fun hc H2 e2 => ?_)
  · refine ev_is (ev_op (ev_len (ev_var rfl) hf1) (ev_op (ev_len (ev_var rfl) hr1) ev_c rv_I0) (rv_ne rfl)) ?_
    rw [dec_int, iv_len, iv_len]
    rfl
  · refine ev_opLL (ys := iv []) ?_ (el_lst ea_nil (by decide)) fun p p' H2 hp hp' e2 => rv_neI (sq_of hp) (sq_of hp')
    have h := el_lcL (te := tVar 2) (t := tAnd (tTest (tOp rNe (tVar 2) (tC (.int 0)))) (tTest (tOp rNe (tVar 2) (tC (.int 1))))) (tl := tVar 1) (j := 2) (vs := [2]) (σ := [some (.ref a), some (.ref b), none]) (H := H1) (fun i => !decide (f.getD i 0 = 0) && !decide (f.getD i 0 = 1)) (fun i => V.int (f.getD i 0)) (ev_var rfl) hf1 (by rw [iv_len]; omega) (fun x => rfl) (fun i x H2 e2 hi => by
      obtain ⟨n, hn, rfl⟩ := iv_get hi
      rw [show f.getD i 0 = n by rw [List.getD_eq_getElem?_getD, hn]; rfl]
      exact et_and (et_test (ev_is (ev_op (ev_var rfl) ev_c (rv_ne rfl)) (by rw [dec_int]; rfl))) fun _ => et_test (ev_is (ev_op (ev_var rfl) ev_c (rv_ne rfl)) (by rw [dec_int]; rfl))) (fun i x H2 e2 hi hf => by
      obtain ⟨n, hn, rfl⟩ := iv_get hi
      rw [show f.getD i 0 = n by rw [List.getD_eq_getElem?_getD, hn]; rfl]
      exact ev_var rfl)
    rw [given_ints, iv_len] at h
    exact h
  · exfalso
    rw [Bool.or_eq_false_iff, Bool.not_eq_false', Bool.not_eq_false', decide_eq_true_eq, decide_eq_true_eq] at hc
    rcases hb with h | ⟨t, ht, h0, h1⟩
    · omega
    · refine filt_ne (p := fun t => !decide (t = 0) && !decide (t = 1)) ⟨t, ht, ?_⟩ hc.2
      simp [h0, h1]
theorem see_good2 (h : tSeq (tDrop (tCall (p_see_folding0 K) [] E1 (tCons (tVar i) (tCons (tVar j) tNil)))) REST D σ H) : tSeq (tDrop (tCall (clo (p_see_foldingC P w K) E) [] E1 (tCons (tVar i) (tCons (tVar j) tNil)))) REST D σ H := by
  obtain ⟨v, e, v2, e2, h⟩ := h
  exact ⟨v, e, v2, e2, Or.inl h⟩
theorem see_bad2 (e : σ[i]? = some (some (.ref a))) (e2 : σ[j]? = some (some (.ref b))) (h : Bad2 K a b H E) : tSeq (tDrop (tCall (clo (p_see_foldingC P w K) E) [] E1 (tCons (tVar i) (tCons (tVar j) tNil)))) REST D σ H := ⟨_, e, _, e2, Or.inr ⟨a, b, rfl, h⟩⟩
/-! ### the ten calls -/
def p_reachableC (P : Program) (w : World) (K : PySem.W.Frag) : Sp := fun vs H Q E => p_reachable0 K vs H Q E ∨ ∃ a y, vs = [.ref a, y] ∧ Bad1 K a H E
theorem n_reachable (h : p_reachableC P w K vs H Q E) : vs.length = (["rule", "case"] : List Str).length := by
  rcases h with ⟨_, _, _, rfl, _⟩ | ⟨_, _, rfl, _⟩ <;> rfl
theorem r_reachableC (h : p_reachableC P w K vs H Q E) : t_reachable K E1 (clo (p_see_ruleC P w K) E) (p_stepped K) (En Q) (start ["rule", "case", "marks", "rows", "length", "place"] vs) H := by
  rcases h with h | ⟨a, y, rfl, h⟩
  · exact see_good1 (r_reachable0 h)
  · exact see_bad1 rfl h
def p_shortest_caseC (P : Program) (w : World) (K : PySem.W.Frag) : Sp := fun vs H Q E => p_shortest_case0 P w K vs H Q E ∨ ∃ a, vs = [.ref a] ∧ Bad1 K a H E
theorem n_shortest_case (h : p_shortest_caseC P w K vs H Q E) : vs.length = (["rule"] : List Str).length := by
  rcases h with ⟨_, _, rfl, _⟩ | ⟨_, rfl, _⟩ <;> rfl
theorem r_shortest_caseC (h : p_shortest_caseC P w K vs H Q E) : t_shortest_case K E1 (clo (p_see_ruleC P w K) E) (p_reachable0 K) (p_folding_at0 P w K) (En Q) (start ["rule", "low", "high", "middle"] vs) H := by
  rcases h with h | ⟨a, rfl, h⟩
  · exact see_good1 (r_shortest_case0 h)
  · exact see_bad1 rfl h
def p_by_halfC (P : Program) (w : World) (K : PySem.W.Frag) : Sp := fun vs H Q E => p_by_half0 K vs H Q E ∨ ∃ a, vs = [.ref a] ∧ Bad1 K a H E
theorem n_by_half (h : p_by_halfC P w K vs H Q E) : vs.length = (["rule"] : List Str).length := by
  rcases h with ⟨_, _, rfl, _⟩ | ⟨_, rfl, _⟩ <;> rfl
theorem r_by_halfC (h : p_by_halfC P w K vs H Q E) : t_by_half K E1 (clo (p_see_ruleC P w K) E) (En Q) (start ["rule", "place", "way", "folding", "length", "next_way"] vs) H := by
  rcases h with h | ⟨a, rfl, h⟩
  · exact see_good1 (r_by_half0 h)
  · exact see_bad1 rfl h
def p_many_fitsC (P : Program) (w : World) (K : PySem.W.Frag) : Sp := fun vs H Q E => p_many_fits0 P w K vs H Q E ∨ ∃ a y, vs = [.ref a, y] ∧ Bad1 K a H E
theorem n_many_fits (h : p_many_fitsC P w K vs H Q E) : vs.length = (["rule", "case"] : List Str).length := by
  rcases h with ⟨_, _, _, rfl, _⟩ | ⟨_, _, rfl, _⟩ <;> rfl
theorem r_many_fitsC (h : p_many_fitsC P w K vs H Q E) : t_many_fits P w K E1 (clo (p_see_ruleC P w K) E) (p_ways_from P w K 13) (En Q) (start ["rule", "case"] vs) H := by
  rcases h with h | ⟨a, y, rfl, h⟩
  · exact see_good1 (r_many_fits0 h)
  · exact see_bad1 rfl h
def p_folding_atC (P : Program) (w : World) (K : PySem.W.Frag) : Sp := fun vs H Q E => p_folding_at0 P w K vs H Q E ∨ (∃ a y z, vs = [.ref a, y, z] ∧ Bad1 K a H E) ∨ p_folding_atX P w K vs H Q E
theorem n_folding_at (h : p_folding_atC P w K vs H Q E) : vs.length = (["rule", "case", "number"] : List Str).length := by
  rcases h with ⟨_, _, _, _, rfl, _⟩ | ⟨_, _, _, rfl, _⟩ | ⟨_, _, _, _, rfl, _⟩ <;> rfl
theorem r_folding_atC (h : p_folding_atC P w K vs H Q E) : t_folding_at P w K E1 (clo (p_see_ruleC P w K) E) (p_many_fits0 P w K) (p_behind_turn K) (p_ways_from P w K 13) (fun _ _ H => E (.ref (He.ga K "NoSuch")) none H) (En Q) (start ["rule", "case", "number", "known", "state", "folding", "done", "turn", "ways"] vs) H := by
  rcases h with h | ⟨a, y, z, rfl, h⟩ | h
  · exact see_good1 (r_folding_at0 h)
  · exact see_bad1 rfl h
  · exact see_good1 (r_folding_atX h)
def p_jointsC (P : Program) (w : World) (K : PySem.W.Frag) : Sp := fun vs H Q E => p_joints0 K vs H Q E ∨ ∃ a b, vs = [.ref a, .ref b] ∧ Bad2 K a b H E
theorem n_joints (h : p_jointsC P w K vs H Q E) : vs.length = (["rule", "folding"] : List Str).length := by
  rcases h with ⟨_, _, _, _, rfl, _⟩ | ⟨_, _, rfl, _⟩ <;> rfl
theorem r_jointsC (h : p_jointsC P w K vs H Q E) : t_joints K E1 (clo (p_see_foldingC P w K) E) (p_places_of K) (En Q) (start ["rule", "folding"] vs) H := by
  rcases h with h | ⟨a, b, rfl, h⟩
  · exact see_good2 (r_joints0 h)
  · exact see_bad2 rfl rfl h
def p_spanC (P : Program) (w : World) (K : PySem.W.Frag) : Sp := fun vs H Q E => p_span0 K vs H Q E ∨ ∃ a b, vs = [.ref a, .ref b] ∧ Bad2 K a b H E
theorem n_span (h : p_spanC P w K vs H Q E) : vs.length = (["rule", "folding"] : List Str).length := by
  rcases h with ⟨_, _, _, _, rfl, _⟩ | ⟨_, _, rfl, _⟩ <;> rfl
theorem r_spanC (h : p_spanC P w K vs H Q E) : t_span K E1 (clo (p_see_foldingC P w K) E) (p_places_of K) (En Q) (start ["rule", "folding", "places"] vs) H := by
  rcases h with h | ⟨a, b, rfl, h⟩
  · exact see_good2 (r_span0 h)
  · exact see_bad2 rfl rfl h
def p_fitsC (P : Program) (w : World) (K : PySem.W.Frag) : Sp := fun vs H Q E => p_fits0 K vs H Q E ∨ ∃ a b y, vs = [.ref a, .ref b, y] ∧ Bad2 K a b H E
theorem n_fits (h : p_fitsC P w K vs H Q E) : vs.length = (["rule", "folding", "case"] : List Str).length := by
  rcases h with ⟨_, _, _, _, _, rfl, _⟩ | ⟨_, _, _, rfl, _⟩ <;> rfl
theorem r_fitsC (h : p_fitsC P w K vs H Q E) : t_fits K E1 (clo (p_see_foldingC P w K) E) (p_span0 K) (En Q) (start ["rule", "folding", "case"] vs) H := by
  rcases h with h | ⟨a, b, y, rfl, h⟩
  · exact see_good2 (r_fits0 h)
  · exact see_bad2 rfl rfl h
def p_number_ofC (P : Program) (w : World) (K : PySem.W.Frag) : Sp := fun vs H Q E => p_number_of0 P w K vs H Q E ∨ (∃ a y b, vs = [.ref a, y, .ref b] ∧ Bad2 K a b H E) ∨
  ∃ a b r f c, vs = [.ref a, .int c, .ref b] ∧ SqL K H a (iv r) ∧ SqL K H b (iv f) ∧ OkR r ∧ OkF r f ∧ c < spanOf r f ∧ ∀ H', Ex H H' → E (.ref (He.ga K "NoSuch")) none H'
theorem n_number_of (h : p_number_ofC P w K vs H Q E) : vs.length = (["rule", "case", "folding"] : List Str).length := by
  rcases h with ⟨_, _, _, _, _, rfl, _⟩ | ⟨_, _, _, rfl, _⟩ | ⟨_, _, _, _, _, rfl, _⟩ <;> rfl
theorem r_number_ofC (h : p_number_ofC P w K vs H Q E) : t_number_of P w K E1 (clo (p_see_foldingC P w K) E) (p_span0 K) (p_behind_turn K) (p_ways_from P w K 13) (fun _ _ H => E (.ref (He.ga K "NoSuch")) none H) (En Q) (start ["rule", "case", "folding", "known", "state", "number", "done"] vs) H := by
  rcases h with h | ⟨a, y, b, rfl, h⟩ | ⟨a, b, r, f, c, rfl, hr, hf, ok, okf, hc, q⟩
  · exact see_good2 (r_number_of0 h)
  · exact see_bad2 rfl rfl h
  · refine see_good2 (q_drop (ev_call (vs := [.ref a, .ref b]) (ea_cons (ev_var rfl) (ea_cons (ev_var rfl) ea_nil)) (sp_see_folding0 hr hf ok okf)) fun H1 e1 => ?_)
    exact q_when (b := decide (c < spanOf r f)) (et_test (ev_op (ev_call (vs := [.ref a, .ref b]) (ea_cons (ev_var rfl) (ea_cons (ev_var rfl) ea_nil)) (sp_span0 (ex_l e1 hr) (ex_l e1 hf) ok okf)) (ev_var rfl) rv_I0)) (fun _ H2 e2 => q H2 (e1.trans e2)) (fun hc2 => absurd hc (of_decide_eq_false hc2))
/-! ### shown -/
theorem ev_addS (h1 : Ev ta σ H (.str s)) (h2 : Ev tb σ H (.str s')) (hz : s.length + s'.length ≤ 100000) : Ev (tOp rAddS ta tb) σ H (.str (s ++ s')) := ev_op h1 h2 fun H1 e Q q => ⟨s, s', rfl, rfl, sz_of hz, q H1 (Ex.refl _)⟩
theorem ev_strI {n : Int} (h : Ev te σ H (.int n)) (hn : n.natAbs.log2 < 1920) : Ev (tCB rStrI (tCons te tNil)) σ H (.str (toString n)) := fun H1 e Q q => h H1 e _ fun H2 e2 => ⟨n, rfl, hn, q H2 e2⟩
end
theorem str_len : ∀ n : Fin 61, (Str.ofString (toString ((n.val : Nat) : Int))).length ≤ 2 ∧ ((n.val : Nat) : Int).natAbs.log2 < 1920 := by decide +kernel
theorem str_len60 {x : Int} (h : 1 ≤ x ∧ x ≤ 60) : (Str.ofString (toString x)).length ≤ 2 ∧ x.natAbs.log2 < 1920 := by
  have e := str_len ⟨x.toNat, by omega⟩
  rw [show (((⟨x.toNat, by omega⟩ : Fin 61).val : Nat) : Int) = x by show ((x.toNat : Nat) : Int) = x; omega] at e
  exact e
section
variable {P : Program} {w : World} {K : PySem.W.Frag} {σ : L2.St} {H H' : Hp} {Q : VK} {E E1 : XK} {vs : List V}
def p_shown0 (K : PySem.W.Frag) : Sp := fun vs H Q _ => ∃ a b r f, vs = [.ref a, .ref b] ∧ SqL K H a (iv r) ∧ SqL K H b (iv f) ∧ OkR r ∧ OkF r f ∧ ∀ s H2, Ex H H2 → Q (.str s) H2
theorem r_shown0 (h : p_shown0 K vs H Q E) : t_shown K E1 (p_see_folding0 K) (En Q) (start ["rule", "folding", "text", "k"] vs) H := by
  obtain ⟨a, b, r, f, rfl, hr, hf, ok, okf, q⟩ := h
  have l1 := ok.l1
  have l2 := ok.l12
  have lf := okf.len
  refine q_drop (ev_call (vs := [.ref a, .ref b]) (ea_cons (ev_var rfl) (ea_cons (ev_var rfl) ea_nil)) (sp_see_folding0 hr hf ok okf)) fun H1 e1 => ?_
  have x0 := ok.all _ (getD_mem (i := 0) (by omega))
  refine q_asg (ev_strI (ev_op (ev_var rfl) ev_c (rv_ixL (ex_l e1 hr) (atI_nat (j := 0) (iv_at (getD_of (by omega)))))) (str_len60 x0).2) fun H2 e2 => ?_
  have e02 := e1.trans e2
  refine q_forR1 (n := (f.length : Int)) (ea_cons (ev_is (ev_len (ev_var rfl) (ex_l e02 hf)) (by rw [iv_len])) ea_nil) ⟨by omega, by omega⟩
    (fun i σ' H' => ∃ s kv, σ' = [some (.ref a), some (.ref b), some (.str s), kv] ∧ s.length ≤ 2 + 3 * i ∧ Ex H H') (fun H3 e3 => ⟨_, _, rfl, (str_len60 x0).1, e02.trans e3⟩) ?_ ?_
  · rintro i σ' H' hi ⟨s, kv, rfl, hs, e⟩
    have hi' : i < f.length := by omega
    have ht := okf.all _ (getD_mem hi')
    have x1 := ok.all _ (getD_mem (l := r) (i := i + 1) (by omega))
    obtain ⟨cc, hcc⟩ : ∃ cc : Nat, atI ("+-" : Str).cps.toList (f.getD i 0) = some cc := by
      rcases ht with h | h
      · rw [h]; exact ⟨43, by decide +kernel⟩
      · rw [h]; exact ⟨45, by decide +kernel⟩
    have len1 : (⟨#[cc]⟩ : Str).length = 1 := rfl
    have z1 : (s ++ (⟨#[cc]⟩ : Str)).length = s.length + 1 := by rw [Str.length_append]; rfl
    refine s_asg (ev_addS (ev_addS (ev_var rfl) (ev_op ev_c (ev_op (ev_var rfl) (ev_var rfl) (rv_ixL (ex_l e hf) (atI_nat (iv_at (getD_of hi'))))) (rv_ixS (by decide +kernel) hcc)) (by rw [len1]; omega)) (ev_strI (ev_op (ev_var rfl) (ev_is (ev_op (ev_var rfl) ev_c rv_I0) (congrArg V.int (show (i : Int) + 1 = ((i + 1 : Nat) : Int) by omega))) (rv_ixL (ex_l e hr) (atI_nat (iv_at (getD_of (by omega)))))) (str_len60 x1).2) (by rw [z1]; have := (str_len60 x1).1; omega)) fun H3 e3 => ⟨_, _, rfl, ?_, e.trans e3⟩
    rw [Str.length_append, z1]
    have := (str_len60 x1).1
    omega
  · rintro σ' H' ⟨s, kv, rfl, _, e⟩
    exact s_ret (ev_var rfl) fun H3 e3 => q s H3 (e.trans e3)
def p_shownC (P : Program) (w : World) (K : PySem.W.Frag) : Sp := fun vs H Q E => p_shown0 K vs H Q E ∨ ∃ a b, vs = [.ref a, .ref b] ∧ Bad2 K a b H E
theorem n_shown (h : p_shownC P w K vs H Q E) : vs.length = (["rule", "folding"] : List Str).length := by
  rcases h with ⟨_, _, _, _, rfl, _⟩ | ⟨_, _, rfl, _⟩ <;> rfl
theorem r_shownC (h : p_shownC P w K vs H Q E) : t_shown K E1 (clo (p_see_foldingC P w K) E) (En Q) (start ["rule", "folding", "text", "k"] vs) H := by
  rcases h with h | ⟨a, b, rfl, h⟩
  · exact see_good2 (r_shown0 h)
  · exact see_bad2 rfl rfl h
end
end Fo

set_option maxHeartbeats 8000000
namespace Fo
open PySem PySem.Spec PyProof.Rows L2 Evl
/-- the names of the exceptions, by their numbers -/
def nmX : Nat → Str
  | 0 => "BadRule"
  | 1 => "BadFolding"
  | _ => "NoSuch"
def Ys (K : PySem.W.Frag) : Prop := Xs K "BadRule" 0 ∧ Xs K "BadFolding" 1 ∧ Xs K "NoSuch" 2
theorem ysF_ok {K : PySem.W.Frag} (h : (xsF K "BadRule" 0 && (xsF K "BadFolding" 1 && xsF K "NoSuch" 2)) = true) : Ys K := by
  rw [Bool.and_eq_true, Bool.and_eq_true] at h
  exact ⟨xsF_ok h.1, xsF_ok h.2.1, xsF_ok h.2.2⟩
theorem Ys.at {K : PySem.W.Frag} (Y : Ys K) {i : Nat} (h : i ≤ 2) : Xs K (nmX i) i := by
  match i, h with
  | 0, _ => exact Y.1
  | 1, _ => exact Y.2.1
  | 2, _ => exact Y.2.2
/-- what is due of the k-th call -/
inductive Oc (r f : List Int) (k : Nat) (n c : Int) : Option Nat → Prop
  | bad : BadR r → Oc r f k n c (some 0)
  | ill : OkR r → 5 ≤ k → BadF r f → Oc r f k n c (some 1)
  | no4 : OkR r → k = 4 → ¬ (0 ≤ n ∧ n < (many r 800 : Nat)) → Oc r f k n c (some 2)
  | no9 : OkR r → k = 9 → OkF r f → c < spanOf r f → Oc r f k n c (some 2)
  | g3 : OkR r → k ≤ 3 → Oc r f k n c none
  | g4 : OkR r → k = 4 → (∃ m : Nat, n = m ∧ m < many r 800) → Oc r f k n c none
  | g8 : OkR r → 5 ≤ k → k ≤ 8 → OkF r f → Oc r f k n c none
  | g9 : OkR r → k = 9 → OkF r f → spanOf r f ≤ c → Oc r f k n c none
section
variable {r f : List Int} {k : Nat} {n c : Int} {o : Option Nat}
theorem Oc.low (h : Oc r f k n c o) (hk : k ≤ 3) : (BadR r ∧ o = some 0) ∨ (OkR r ∧ o = none) := by
  cases h with
  | bad h => exact .inl ⟨h, rfl⟩
  | g3 h _ => exact .inr ⟨h, rfl⟩
  | _ => omega
theorem Oc.four (h : Oc r f k n c o) (hk : k = 4) : (BadR r ∧ o = some 0) ∨ (OkR r ∧ ¬ (0 ≤ n ∧ n < (many r 800 : Nat)) ∧ o = some 2) ∨ (OkR r ∧ (∃ m : Nat, n = m ∧ m < many r 800) ∧ o = none) := by
  cases h with
  | bad h => exact .inl ⟨h, rfl⟩
  | no4 h _ h2 => exact .inr (.inl ⟨h, h2, rfl⟩)
  | g4 h _ h2 => exact .inr (.inr ⟨h, h2, rfl⟩)
  | _ => omega
theorem Oc.mid (h : Oc r f k n c o) (hk : 5 ≤ k) (hk2 : k ≤ 8) : (BadR r ∧ o = some 0) ∨ (OkR r ∧ BadF r f ∧ o = some 1) ∨ (OkR r ∧ OkF r f ∧ o = none) := by
  cases h with
  | bad h => exact .inl ⟨h, rfl⟩
  | ill h _ h2 => exact .inr (.inl ⟨h, h2, rfl⟩)
  | g8 h _ _ h2 => exact .inr (.inr ⟨h, h2, rfl⟩)
  | _ => omega
theorem Oc.nine (h : Oc r f k n c o) (hk : k = 9) : (BadR r ∧ o = some 0) ∨ (OkR r ∧ BadF r f ∧ o = some 1) ∨ (OkR r ∧ OkF r f ∧ c < spanOf r f ∧ o = some 2) ∨ (OkR r ∧ OkF r f ∧ spanOf r f ≤ c ∧ o = none) := by
  cases h with
  | bad h => exact .inl ⟨h, rfl⟩
  | ill h _ h2 => exact .inr (.inl ⟨h, h2, rfl⟩)
  | no9 h _ h2 h3 => exact .inr (.inr (.inl ⟨h, h2, h3, rfl⟩))
  | g9 h _ h2 h3 => exact .inr (.inr (.inr ⟨h, h2, h3, rfl⟩))
  | _ => omega
theorem Oc.le (h : Oc r f k n c o) {i : Nat} (e : o = some i) : i ≤ 2 := by
  cases h <;> cases e <;> decide
end
section
variable {P : Program} {w : World} {K : PySem.W.Frag} {σ : L2.St} {H H' : Hp} {Q : VK} {E E1 : XK} {vs xs ys : List V} {D : Ends} {tz body : TS} {ta tb te : TE} {i k : Nat}
theorem q_skip (h : σ[0]? = some (some (.int (k : Int)))) (hk : k ≠ i) (q : ∀ H1, Ex H H1 → tz D σ H1) : tSeq (tIfS (tTest (tOp rEq (tVar 0) (tC (.int (i : Int))))) body tNext) tz D σ H :=
  q_if (b := false) (et_test (ev_is (ev_op (ev_var h) ev_c (rv_eq rfl)) (by rw [dec_int, beq_eq_false_iff_ne.mpr (by omega)]))) (fun z => by cases z) (fun _ H1 e => q H1 e)
theorem s_skip (h : σ[0]? = some (some (.int (k : Int)))) (hk : k ≠ i) (q : ∀ H1, Ex H H1 → D.nx σ H1) : tIfS (tTest (tOp rEq (tVar 0) (tC (.int (i : Int))))) body tNext D σ H :=
  s_if (b := false) (et_test (ev_is (ev_op (ev_var h) ev_c (rv_eq rfl)) (by rw [dec_int, beq_eq_false_iff_ne.mpr (by omega)]))) (fun z => by cases z) (fun _ H1 e => q H1 e)
theorem q_take (h : σ[0]? = some (some (.int (i : Int)))) (q : ∀ H1, Ex H H1 → body { D with nx := tz D } σ H1) : tSeq (tIfS (tTest (tOp rEq (tVar 0) (tC (.int (i : Int))))) body tNext) tz D σ H :=
  q_if (b := true) (et_test (ev_is (ev_op (ev_var h) ev_c (rv_eq rfl)) (by rw [dec_int]; simp))) (fun _ H1 e => q H1 e) (fun z => by cases z)
theorem s_take (h : σ[0]? = some (some (.int (i : Int)))) (q : ∀ H1, Ex H H1 → body D σ H1) : tIfS (tTest (tOp rEq (tVar 0) (tC (.int (i : Int))))) body tNext D σ H :=
  s_if (b := true) (et_test (ev_is (ev_op (ev_var h) ev_c (rv_eq rfl)) (by rw [dec_int]; simp))) (fun _ H1 e => q H1 e) (fun z => by cases z)
def p__law_whole_callC (P : Program) (w : World) (K : PySem.W.Frag) : Sp := fun vs H Q E => ∃ (k : Nat) (a : Addr) (r f : List Int) (n c : Int) (o : Option Nat), vs = [.int (k : Int), .ref a, .int n] ∧ SqL K H a (iv r) ∧ r.length ≤ 10000 ∧ k ≤ 9 ∧ Oc r f k n c o ∧
  (k ≤ 4 → ∀ i, o = some i → ∀ H', Ex H H' → E (.ref (He.ga K (nmX i))) none H') ∧ ((5 ≤ k ∨ o = none) → RetV .non H Q)
theorem n__law_whole_call (h : p__law_whole_callC P w K vs H Q E) : vs.length = (["call", "rule", "number"] : List Str).length := by
  obtain ⟨_, _, _, _, _, _, _, rfl, _⟩ := h
  rfl
theorem r__law_whole_callC (h : p__law_whole_callC P w K vs H Q E) : t__law_whole_call K E1 (clo (p_reachableC P w K) E) (clo (p_shortest_caseC P w K) E) (clo (p_by_halfC P w K) E) (clo (p_many_fitsC P w K) E) (clo (p_folding_atC P w K) E) (En Q) (start ["call", "rule", "number"] vs) H := by
  obtain ⟨k, a, r, f, n, c, o, rfl, hr, hz, hk, oc, qE, qR⟩ := h
  have bad : ∀ H1, Ex H H1 → k ≤ 4 → BadR r → o = some 0 → Bad1 K a H1 E := fun H1 e1 hk4 hb ho => ⟨r, ex_l e1 hr, hz, hb, fun H2 e2 => qE hk4 0 ho H2 (e1.trans e2)⟩
  match k, hk with
  | 0, _ =>
    refine q_take (i := 0) rfl fun H1 e1 => ?_
    have eA := e1
    rcases oc.low (by decide) with ⟨hb, ho⟩ | ⟨ok, ho⟩
    · exact ⟨_, rfl, Or.inr ⟨a, _, rfl, bad H1 eA (by decide) hb ho⟩⟩
    · refine ⟨_, rfl, Or.inl ⟨a, r, 9, rfl, ex_l eA hr, ok, by decide, fun D2 as2 H2 hl m => ?_⟩⟩
      refine q_skip (k := 0) (i := 1) rfl (by decide) fun H21 e21 => ?_
      refine q_skip (k := 0) (i := 2) rfl (by decide) fun H22 e22 => ?_
      refine q_skip (k := 0) (i := 3) rfl (by decide) fun H23 e23 => ?_
      exact s_skip (k := 0) (i := 4) rfl (by decide) fun H30 e30 => (qR (.inr ho)).go (((((eA.trans m.ex).trans e21).trans e22).trans e23).trans e30)
  | 1, _ =>
    refine q_skip (k := 1) (i := 0) rfl (by decide) fun H10 e10 => ?_
    refine q_take (i := 1) rfl fun H1 e1 => ?_
    have eA := (e10.trans e1)
    rcases oc.low (by decide) with ⟨hb, ho⟩ | ⟨ok, ho⟩
    · exact ⟨_, rfl, Or.inr ⟨a, rfl, bad H1 eA (by decide) hb ho⟩⟩
    · refine ⟨_, rfl, Or.inl ⟨a, r, rfl, ex_l eA hr, ok, fun p l H2 e2 _ _ _ => ?_⟩⟩
      refine q_skip (k := 1) (i := 2) rfl (by decide) fun H22 e22 => ?_
      refine q_skip (k := 1) (i := 3) rfl (by decide) fun H23 e23 => ?_
      exact s_skip (k := 1) (i := 4) rfl (by decide) fun H30 e30 => (qR (.inr ho)).go ((((eA.trans e2).trans e22).trans e23).trans e30)
  | 2, _ =>
    refine q_skip (k := 2) (i := 0) rfl (by decide) fun H10 e10 => ?_
    refine q_skip (k := 2) (i := 1) rfl (by decide) fun H11 e11 => ?_
    refine q_take (i := 2) rfl fun H1 e1 => ?_
    have eA := ((e10.trans e11).trans e1)
    rcases oc.low (by decide) with ⟨hb, ho⟩ | ⟨ok, ho⟩
    · exact ⟨_, rfl, Or.inr ⟨a, rfl, bad H1 eA (by decide) hb ho⟩⟩
    · refine ⟨_, rfl, Or.inl ⟨a, r, rfl, ex_l eA hr, ok, fun p H2 hp e2 h2 => ?_⟩⟩
      refine q_skip (k := 2) (i := 3) rfl (by decide) fun H23 e23 => ?_
      exact s_skip (k := 2) (i := 4) rfl (by decide) fun H30 e30 => (qR (.inr ho)).go (((eA.trans e2).trans e23).trans e30)
  | 3, _ =>
    refine q_skip (k := 3) (i := 0) rfl (by decide) fun H10 e10 => ?_
    refine q_skip (k := 3) (i := 1) rfl (by decide) fun H11 e11 => ?_
    refine q_skip (k := 3) (i := 2) rfl (by decide) fun H12 e12 => ?_
    refine q_take (i := 3) rfl fun H1 e1 => ?_
    have eA := (((e10.trans e11).trans e12).trans e1)
    rcases oc.low (by decide) with ⟨hb, ho⟩ | ⟨ok, ho⟩
    · exact ⟨_, rfl, Or.inr ⟨a, _, rfl, bad H1 eA (by decide) hb ho⟩⟩
    · refine ⟨_, rfl, Or.inl ⟨a, r, 99, rfl, ex_l eA hr, ok, fun H2 e2 => ?_⟩⟩
      exact s_skip (k := 3) (i := 4) rfl (by decide) fun H30 e30 => (qR (.inr ho)).go ((eA.trans e2).trans e30)
  | 4, _ =>
    refine q_skip (k := 4) (i := 0) rfl (by decide) fun H10 e10 => ?_
    refine q_skip (k := 4) (i := 1) rfl (by decide) fun H11 e11 => ?_
    refine q_skip (k := 4) (i := 2) rfl (by decide) fun H12 e12 => ?_
    refine q_skip (k := 4) (i := 3) rfl (by decide) fun H13 e13 => ?_
    refine s_take (i := 4) rfl fun H1 e1 => ?_
    have eA := (((e10.trans e11).trans e12).trans e13).trans e1
    rcases oc.four rfl with ⟨hb, ho⟩ | ⟨ok, hn, ho⟩ | ⟨ok, ⟨m, rfl, hm⟩, ho⟩
    · exact ⟨_, rfl, _, rfl, Or.inr (Or.inl ⟨a, _, _, rfl, bad H1 eA (by decide) hb ho⟩)⟩
    · exact ⟨_, rfl, _, rfl, Or.inr (Or.inr ⟨a, r, 800, n, rfl, ex_l eA hr, ok, hn, fun H2 e2 => qE (by decide) 2 ho H2 (eA.trans e2)⟩)⟩
    · exact ⟨_, rfl, _, rfl, Or.inl ⟨a, r, 800, m, rfl, ex_l eA hr, ok, hm, fun p H2 hp e2 h2 => (qR (.inr ho)).go (eA.trans e2)⟩⟩
  | k + 5, _ =>
    refine q_skip (k := k + 5) (i := 0) rfl (by omega) fun H10 e10 => ?_
    refine q_skip (k := k + 5) (i := 1) rfl (by omega) fun H11 e11 => ?_
    refine q_skip (k := k + 5) (i := 2) rfl (by omega) fun H12 e12 => ?_
    refine q_skip (k := k + 5) (i := 3) rfl (by omega) fun H13 e13 => ?_
    exact s_skip (k := k + 5) (i := 4) rfl (by omega) fun H30 e30 => (qR (.inl (by omega))).go ((((e10.trans e11).trans e12).trans e13).trans e30)
def p__law_folded_callC (P : Program) (w : World) (K : PySem.W.Frag) : Sp := fun vs H Q E => ∃ (k : Nat) (a b : Addr) (r f : List Int) (n c : Int) (o : Option Nat), vs = [.int (k : Int), .ref a, .ref b, .int c] ∧ SqL K H a (iv r) ∧ SqL K H b (iv f) ∧ r.length ≤ 10000 ∧ f.length ≤ 10000 ∧ k ≤ 9 ∧ Oc r f k n c o ∧
  (5 ≤ k → ∀ i, o = some i → ∀ H', Ex H H' → E (.ref (He.ga K (nmX i))) none H') ∧ ((k ≤ 4 ∨ o = none) → RetV .non H Q)
theorem n__law_folded_call (h : p__law_folded_callC P w K vs H Q E) : vs.length = (["call", "rule", "folding", "case"] : List Str).length := by
  obtain ⟨_, _, _, _, _, _, _, _, rfl, _⟩ := h
  rfl
theorem r__law_folded_callC (h : p__law_folded_callC P w K vs H Q E) : t__law_folded_call K E1 (clo (p_jointsC P w K) E) (clo (p_spanC P w K) E) (clo (p_fitsC P w K) E) (clo (p_shownC P w K) E) (clo (p_number_ofC P w K) E) (En Q) (start ["call", "rule", "folding", "case"] vs) H := by
  obtain ⟨k, a, b, r, f, n, c, o, rfl, hr, hf, hz, hzf, hk, oc, qE, qR⟩ := h
  have bad : ∀ H1, Ex H H1 → 5 ≤ k → BadR r → o = some 0 → Bad2 K a b H1 E := fun H1 e1 hk4 hb ho => .inl ⟨r, ex_l e1 hr, hz, hb, fun H2 e2 => qE hk4 0 ho H2 (e1.trans e2)⟩
  have ill : ∀ H1, Ex H H1 → 5 ≤ k → OkR r → BadF r f → o = some 1 → Bad2 K a b H1 E := fun H1 e1 hk4 ok hb ho => .inr ⟨r, f, ex_l e1 hr, ex_l e1 hf, ok, hzf, hb, fun H2 e2 => qE hk4 1 ho H2 (e1.trans e2)⟩
  match k, hk with
  | 0, _ =>
    refine q_skip (k := 0) (i := 5) rfl (by decide) fun H15 e15 => ?_
    refine q_skip (k := 0) (i := 6) rfl (by decide) fun H16 e16 => ?_
    refine q_skip (k := 0) (i := 7) rfl (by decide) fun H17 e17 => ?_
    refine q_skip (k := 0) (i := 8) rfl (by decide) fun H18 e18 => ?_
    exact s_skip (k := 0) (i := 9) rfl (by decide) fun H30 e30 => (qR (.inl (by decide))).go ((((e15.trans e16).trans e17).trans e18).trans e30)
  | 1, _ =>
    refine q_skip (k := 1) (i := 5) rfl (by decide) fun H15 e15 => ?_
    refine q_skip (k := 1) (i := 6) rfl (by decide) fun H16 e16 => ?_
    refine q_skip (k := 1) (i := 7) rfl (by decide) fun H17 e17 => ?_
    refine q_skip (k := 1) (i := 8) rfl (by decide) fun H18 e18 => ?_
    exact s_skip (k := 1) (i := 9) rfl (by decide) fun H30 e30 => (qR (.inl (by decide))).go ((((e15.trans e16).trans e17).trans e18).trans e30)
  | 2, _ =>
    refine q_skip (k := 2) (i := 5) rfl (by decide) fun H15 e15 => ?_
    refine q_skip (k := 2) (i := 6) rfl (by decide) fun H16 e16 => ?_
    refine q_skip (k := 2) (i := 7) rfl (by decide) fun H17 e17 => ?_
    refine q_skip (k := 2) (i := 8) rfl (by decide) fun H18 e18 => ?_
    exact s_skip (k := 2) (i := 9) rfl (by decide) fun H30 e30 => (qR (.inl (by decide))).go ((((e15.trans e16).trans e17).trans e18).trans e30)
  | 3, _ =>
    refine q_skip (k := 3) (i := 5) rfl (by decide) fun H15 e15 => ?_
    refine q_skip (k := 3) (i := 6) rfl (by decide) fun H16 e16 => ?_
    refine q_skip (k := 3) (i := 7) rfl (by decide) fun H17 e17 => ?_
    refine q_skip (k := 3) (i := 8) rfl (by decide) fun H18 e18 => ?_
    exact s_skip (k := 3) (i := 9) rfl (by decide) fun H30 e30 => (qR (.inl (by decide))).go ((((e15.trans e16).trans e17).trans e18).trans e30)
  | 4, _ =>
    refine q_skip (k := 4) (i := 5) rfl (by decide) fun H15 e15 => ?_
    refine q_skip (k := 4) (i := 6) rfl (by decide) fun H16 e16 => ?_
    refine q_skip (k := 4) (i := 7) rfl (by decide) fun H17 e17 => ?_
    refine q_skip (k := 4) (i := 8) rfl (by decide) fun H18 e18 => ?_
    exact s_skip (k := 4) (i := 9) rfl (by decide) fun H30 e30 => (qR (.inl (by decide))).go ((((e15.trans e16).trans e17).trans e18).trans e30)
  | 5, _ =>
    refine q_take (i := 5) rfl fun H1 e1 => ?_
    have eA := e1
    rcases oc.mid (by decide) (by decide) with ⟨hb, ho⟩ | ⟨ok, hb, ho⟩ | ⟨ok, okf, ho⟩
    · exact ⟨_, rfl, _, rfl, Or.inr ⟨a, b, rfl, bad H1 eA (by decide) hb ho⟩⟩
    · exact ⟨_, rfl, _, rfl, Or.inr ⟨a, b, rfl, ill H1 eA (by decide) ok hb ho⟩⟩
    · refine ⟨_, rfl, _, rfl, Or.inl ⟨a, b, r, f, rfl, ex_l eA hr, ex_l eA hf, ok, okf, fun p H2 hp e2 h2 => ?_⟩⟩
      refine q_skip (k := 5) (i := 6) rfl (by decide) fun H26 e26 => ?_
      refine q_skip (k := 5) (i := 7) rfl (by decide) fun H27 e27 => ?_
      refine q_skip (k := 5) (i := 8) rfl (by decide) fun H28 e28 => ?_
      exact s_skip (k := 5) (i := 9) rfl (by decide) fun H30 e30 => (qR (.inr ho)).go (((((eA.trans e2).trans e26).trans e27).trans e28).trans e30)
  | 6, _ =>
    refine q_skip (k := 6) (i := 5) rfl (by decide) fun H15 e15 => ?_
    refine q_take (i := 6) rfl fun H1 e1 => ?_
    have eA := (e15.trans e1)
    rcases oc.mid (by decide) (by decide) with ⟨hb, ho⟩ | ⟨ok, hb, ho⟩ | ⟨ok, okf, ho⟩
    · exact ⟨_, rfl, _, rfl, Or.inr ⟨a, b, rfl, bad H1 eA (by decide) hb ho⟩⟩
    · exact ⟨_, rfl, _, rfl, Or.inr ⟨a, b, rfl, ill H1 eA (by decide) ok hb ho⟩⟩
    · refine ⟨_, rfl, _, rfl, Or.inl ⟨a, b, r, f, rfl, ex_l eA hr, ex_l eA hf, ok, okf, fun H2 e2 => ?_⟩⟩
      refine q_skip (k := 6) (i := 7) rfl (by decide) fun H27 e27 => ?_
      refine q_skip (k := 6) (i := 8) rfl (by decide) fun H28 e28 => ?_
      exact s_skip (k := 6) (i := 9) rfl (by decide) fun H30 e30 => (qR (.inr ho)).go ((((eA.trans e2).trans e27).trans e28).trans e30)
  | 7, _ =>
    refine q_skip (k := 7) (i := 5) rfl (by decide) fun H15 e15 => ?_
    refine q_skip (k := 7) (i := 6) rfl (by decide) fun H16 e16 => ?_
    refine q_take (i := 7) rfl fun H1 e1 => ?_
    have eA := ((e15.trans e16).trans e1)
    rcases oc.mid (by decide) (by decide) with ⟨hb, ho⟩ | ⟨ok, hb, ho⟩ | ⟨ok, okf, ho⟩
    · exact ⟨_, rfl, _, rfl, Or.inr ⟨a, b, _, rfl, bad H1 eA (by decide) hb ho⟩⟩
    · exact ⟨_, rfl, _, rfl, Or.inr ⟨a, b, _, rfl, ill H1 eA (by decide) ok hb ho⟩⟩
    · refine ⟨_, rfl, _, rfl, Or.inl ⟨a, b, r, f, 9, rfl, ex_l eA hr, ex_l eA hf, ok, okf, fun H2 e2 => ?_⟩⟩
      refine q_skip (k := 7) (i := 8) rfl (by decide) fun H28 e28 => ?_
      exact s_skip (k := 7) (i := 9) rfl (by decide) fun H30 e30 => (qR (.inr ho)).go (((eA.trans e2).trans e28).trans e30)
  | 8, _ =>
    refine q_skip (k := 8) (i := 5) rfl (by decide) fun H15 e15 => ?_
    refine q_skip (k := 8) (i := 6) rfl (by decide) fun H16 e16 => ?_
    refine q_skip (k := 8) (i := 7) rfl (by decide) fun H17 e17 => ?_
    refine q_take (i := 8) rfl fun H1 e1 => ?_
    have eA := (((e15.trans e16).trans e17).trans e1)
    rcases oc.mid (by decide) (by decide) with ⟨hb, ho⟩ | ⟨ok, hb, ho⟩ | ⟨ok, okf, ho⟩
    · exact ⟨_, rfl, _, rfl, Or.inr ⟨a, b, rfl, bad H1 eA (by decide) hb ho⟩⟩
    · exact ⟨_, rfl, _, rfl, Or.inr ⟨a, b, rfl, ill H1 eA (by decide) ok hb ho⟩⟩
    · refine ⟨_, rfl, _, rfl, Or.inl ⟨a, b, r, f, rfl, ex_l eA hr, ex_l eA hf, ok, okf, fun s H2 e2 => ?_⟩⟩
      exact s_skip (k := 8) (i := 9) rfl (by decide) fun H30 e30 => (qR (.inr ho)).go ((eA.trans e2).trans e30)
  | 9, _ =>
    refine q_skip (k := 9) (i := 5) rfl (by decide) fun H15 e15 => ?_
    refine q_skip (k := 9) (i := 6) rfl (by decide) fun H16 e16 => ?_
    refine q_skip (k := 9) (i := 7) rfl (by decide) fun H17 e17 => ?_
    refine q_skip (k := 9) (i := 8) rfl (by decide) fun H18 e18 => ?_
    refine s_take (i := 9) rfl fun H1 e1 => ?_
    have eA := (((e15.trans e16).trans e17).trans e18).trans e1
    rcases oc.nine rfl with ⟨hb, ho⟩ | ⟨ok, hb, ho⟩ | ⟨ok, okf, hc, ho⟩ | ⟨ok, okf, hc, ho⟩
    · exact ⟨_, rfl, _, rfl, _, rfl, Or.inr (Or.inl ⟨a, _, b, rfl, bad H1 eA (by decide) hb ho⟩)⟩
    · exact ⟨_, rfl, _, rfl, _, rfl, Or.inr (Or.inl ⟨a, _, b, rfl, ill H1 eA (by decide) ok hb ho⟩)⟩
    · exact ⟨_, rfl, _, rfl, _, rfl, Or.inr (Or.inr ⟨a, b, r, f, c, rfl, ex_l eA hr, ex_l eA hf, ok, okf, hc, fun H2 e2 => qE (by decide) 2 ho H2 (eA.trans e2)⟩)⟩
    · exact ⟨_, rfl, _, rfl, _, rfl, Or.inl ⟨a, b, r, f, c, rfl, ex_l eA hr, ex_l eA hf, ok, okf, hc, fun H2 e2 => (qR (.inr ho)).go (eA.trans e2)⟩⟩
end
end Fo

set_option maxHeartbeats 8000000
namespace Fo
open PySem PySem.Spec PyProof.Rows L2 Evl
def oV : Option Nat → V
  | none => .non
  | some i => .int (i : Int)
theorem cutT (r : List Int) {k : Nat} (h : k ≤ r.length) : cutV (iv r) none (some (k : Int)) = iv (r.take k) := by
  have e1 : HT.sIx (iv r).length 0 none = 0 := rfl
  have e2 : HT.sIx (iv r).length (iv r).length (some (k : Int)) = k := by
    rw [iv_len]
    unfold HT.sIx
    simp
    split <;> omega
  unfold cutV
  rw [e1, e2, List.drop_zero, Nat.sub_zero]
  exact List.map_take.symm
theorem cutD (r : List Int) {k : Nat} (h : k ≤ r.length) : cutV (iv r) (some (k : Int)) none = iv (r.drop k) := by
  have e1 : HT.sIx (iv r).length 0 (some (k : Int)) = k := by
    rw [iv_len]
    unfold HT.sIx
    simp
    split <;> omega
  have e2 : HT.sIx (iv r).length (iv r).length none = r.length := by
    rw [iv_len]
    rfl
  unfold cutV
  rw [e1, e2, ← List.map_drop, List.take_of_length_le]
  rw [iv_len, List.length_drop]
  omega
section
variable {P : Program} {w : World} {K : PySem.W.Frag} {σ : L2.St} {H H' : Hp} {Q : VK} {E E1 : XK} {vs xs ys : List V} {ta tb te : TE} {x y z : V} {r f : List Int} {a : Addr}
theorem el_catNN (h1 : EvL ta σ H xs) (h2 : ∀ H1, Ex H H1 → EvL tb σ H1 ys) (hz : xs.length + ys.length ≤ 100000) : EvL (tOp rCat ta tb) σ H (xs ++ ys) := fun H1 e Q q =>
  h1 H1 e _ fun p H2 _ e2 hp => h2 H2 (e.trans e2) H2 (Ex.refl _) _ fun b H3 _ e3 hb => ⟨p, b, xs, ys, rfl, rfl, e3 _ _ hp, hb, sz_of hz, fun l hl => q l _ (fresh_back (e2.trans e3) hl) ((e2.trans e3).trans (Ex.new hl)) upd_same⟩
theorem rv_isNB : RV rIsN x .non H (.bl (decide (x = .non))) := fun H1 e Q q => ⟨rfl, q H1 (Ex.refl _)⟩
theorem dec_nat {m i : Nat} : V.bl (decide (V.int (m : Int) = V.int (i : Int))) = V.bl (decide (m = i)) := by
  rw [dec_int]
  congr 1
  rw [Bool.eq_iff_iff, beq_iff_eq, decide_eq_true_eq]
  omega
/-! ### is it refused, and how -/
def p__law_refused_k02 (P : Program) (w : World) (K : PySem.W.Frag) : Sp := fun vs H Q _ => ∃ (k : Nat) (a b : Addr) (r f : List Int) (n c : Int) (o : Option Nat), Ys K ∧ vs = [.int (k : Int), .ref a, .ref b, .int n, .int c] ∧ SqL K H a (iv r) ∧ SqL K H b (iv f) ∧ r.length ≤ 10000 ∧ f.length ≤ 10000 ∧ k ≤ 9 ∧ Oc r f k n c o ∧ RetV (oV o) H Q
theorem r__law_refused_k02 (h : p__law_refused_k02 P w K vs H Q E) : t__law_refused_k02 K E1 (p__law_whole_callC P w K) (p__law_folded_callC P w K) (p__law_alone K) (En Q) (start ["call", "rule", "folding", "number", "case", "found", "e"] vs) H := by
  obtain ⟨k, a, b, r, f, n, c, o, Y, rfl, hr, hf, hz, hzf, hk, oc, q⟩ := h
  refine q_asg ev_c fun H1 e1 => ?_
  let REST : TS := tSeq (tIfS (tTest (tOp rIsN (tVar 5) (tC .non))) (tRet (tC .non)) tNext) (tRet (tCall (p__law_alone K) [] E1 (tCons (tVar 5) tNil)))
  let DD : Ends := { En Q with nx := REST (En Q) }
  let W : WX := wKeep K (Value.ref (He.ga K "RuleError")) 6 (fun _ _ _ => tAsg (tVar 6) (gName 5)) DD
  have caught : ∀ i, o = some i → ∀ H3, Ex H H3 → W (.ref (He.ga K (nmX i))) none [some (.int (k : Int)), some (.ref a), some (.ref b), some (.int n), some (.int c), some .non, none] H3 := fun i ho H3 e3 => by
    have hi := oc.le ho
    have Yi := Y.at hi
    refine ⟨Yi.em, fun p hp => ?_⟩
    refine s_asg (ev_var (v := .ref p) rfl) fun H4 e4 => ?_
    have eX : Ex H (upd H4 p (ExE (.ref (He.ga K (nmX i))) none p)) := Ex.mut (e3.trans e4) (fresh_back e3 hp)
    have hX : upd H4 p (ExE (.ref (He.ga K (nmX i))) none p) p = some (ExE (.ref (He.ga K (nmX i))) none p) := upd_same
    show REST (En Q) [some (.int (k : Int)), some (.ref a), some (.ref b), some (.int n), some (.int c), some (.ref p), none] (upd H4 p (ExE (.ref (He.ga K (nmX i))) none p))
    generalize upd H4 p (ExE (.ref (He.ga K (nmX i))) none p) = H5 at eX hX
    refine q_when (b := false) (et_test (ev_is (ev_op (ev_var rfl) ev_c rv_isNB) rfl)) (fun z => by cases z) (fun _ H6 e6 => ?_)
    refine s_ret (ev_call (vs := [.ref p]) (ea_cons (ev_var rfl) ea_nil) (sp_alone Yi (by omega) (e6 _ _ hX))) fun H7 e7 => ?_
    have h := q.go ((eX.trans e6).trans e7)
    rw [ho] at h
    exact h
  have done : o = none → ∀ H3, Ex H H3 → REST (En Q) [some (.int (k : Int)), some (.ref a), some (.ref b), some (.int n), some (.int c), some .non, none] H3 := fun ho H3 e3 => by
    refine q_when (b := true) (et_test (ev_is (ev_op (ev_var rfl) ev_c rv_isNB) rfl)) (fun _ H6 e6 => s_ret ev_c fun H7 e7 => ?_) (fun z => by cases z)
    have h := q.go ((e3.trans e6).trans e7)
    rw [ho] at h
    exact h
  show (tCons (tVar 0) (tCons (tVar 1) (tCons (tVar 3) tNil))) [some (.int (k : Int)), some (.ref a), some (.ref b), some (.int n), some (.int c), some .non, none] H1 (fun vs H2 => p__law_whole_callC P w K vs H2 (fun _ H3 => tDrop (tCallS (p__law_folded_callC P w K) (WE W) (tCons (tVar 0) (tCons (tVar 1) (tCons (tVar 2) (tCons (tVar 4) tNil))))) DD [some (.int (k : Int)), some (.ref a), some (.ref b), some (.int n), some (.int c), some .non, none] H3) (WE W [some (.int (k : Int)), some (.ref a), some (.ref b), some (.int n), some (.int c), some .non, none]))
  have A : EvA (tCons (tVar 0) (tCons (tVar 1) (tCons (tVar 3) tNil))) [some (.int (k : Int)), some (.ref a), some (.ref b), some (.int n), some (.int c), some .non, none] H1 [.int (k : Int), .ref a, .int n] := ea_cons (ev_var rfl) (ea_cons (ev_var rfl) (ea_cons (ev_var rfl) ea_nil))
  refine A H1 (Ex.refl _) _ fun H2 e2 => ⟨k, a, r, f, n, c, o, rfl, ex_l (e1.trans e2) hr, hz, hk, oc, fun hk4 i ho H3 e3 => caught i ho H3 ((e1.trans e2).trans e3), fun hk5 H3 e3 => ?_⟩
  have e03 := (e1.trans e2).trans e3
  have A2 : EvA (tCons (tVar 0) (tCons (tVar 1) (tCons (tVar 2) (tCons (tVar 4) tNil)))) [some (.int (k : Int)), some (.ref a), some (.ref b), some (.int n), some (.int c), some .non, none] H3 [.int (k : Int), .ref a, .ref b, .int c] := ea_cons (ev_var rfl) (ea_cons (ev_var rfl) (ea_cons (ev_var rfl) (ea_cons (ev_var rfl) ea_nil)))
  show (tCons (tVar 0) (tCons (tVar 1) (tCons (tVar 2) (tCons (tVar 4) tNil)))) [some (.int (k : Int)), some (.ref a), some (.ref b), some (.int n), some (.int c), some .non, none] H3 (fun vs H4 => p__law_folded_callC P w K vs H4 (fun _ H5 => REST (En Q) [some (.int (k : Int)), some (.ref a), some (.ref b), some (.int n), some (.int c), some .non, none] H5) (WE W [some (.int (k : Int)), some (.ref a), some (.ref b), some (.int n), some (.int c), some .non, none]))
  refine A2 H3 (Ex.refl _) _ fun H4 e4 => ⟨k, a, b, r, f, n, c, o, rfl, ex_l (e03.trans e4) hr, ex_l (e03.trans e4) hf, hz, hzf, hk, oc, fun hk4 i ho H5 e5 => caught i ho H5 ((e03.trans e4).trans e5), fun hk6 H5 e5 => done ?_ H5 ((e03.trans e4).trans e5)⟩
  rcases hk5 with h | h
  · rcases hk6 with h2 | h2
    · omega
    · exact h2
  · exact h
theorem sp_refused2 {k : Nat} {a b : Addr} {r f : List Int} {n c : Int} {o : Option Nat} (Y : Ys K) (hr : SqL K H a (iv r)) (hf : SqL K H b (iv f)) (hz : r.length ≤ 10000) (hzf : f.length ≤ 10000) (hk : k ≤ 9) (oc : Oc r f k n c o) : SpV (p__law_refused_k02 P w K) [.int (k : Int), .ref a, .ref b, .int n, .int c] H (oV o) := fun H1 e Q q E =>
  ⟨k, a, b, r, f, n, c, o, Y, rfl, ex_l e hr, ex_l e hf, hz, hzf, hk, oc, fun H2 e2 => q H2 e2⟩
/-! ### a rule with a fault -/
def p__law_bad_rule (K : PySem.W.Frag) : Sp := fun vs H Q _ => ∃ a r, ∃ m c : Nat, vs = [.ref a, .int (m : Int), .int (c : Int)] ∧ H a = some (.lst (iv r)) ∧ OkR r ∧ m ≤ 4 ∧ ∀ p r' H2, H p = none → Ex H H2 → H2 p = some (.lst (iv r')) → BadR r' → r'.length ≤ 100 → Q (.ref p) H2
theorem iv_cat {xs ys : List Int} : iv xs ++ iv ys = iv (xs ++ ys) := (List.map_append).symm
theorem r__law_bad_rule (h : p__law_bad_rule K vs H Q E) : t__law_bad_rule K E1 (En Q) (start ["rule", "fault", "cell", "k", "bad", "at"] vs) H := by
  obtain ⟨a, r, m, c, rfl, ha, ok, hm, q⟩ := h
  have l1 := ok.l1
  have l2 := ok.l12
  refine q_when (b := decide (m = 0)) (et_test (ev_is (ev_op (ev_var rfl) ev_c (rv_eq rfl)) (dec_nat (i := 0)))) (fun _ H1 e1 => s_retL (el_lst ea_nil (by decide)) fun p H2 hp e2 h2 => q p [] H2 (fresh_back e1 hp) (e1.trans e2) h2 (.inl rfl) (by decide)) (fun hc1 H1 e1 => ?_)
  have hm0 := of_decide_eq_false hc1
  have a1 := e1 _ _ ha
  refine q_when (b := decide (m = 1)) (et_test (ev_is (ev_op (ev_var rfl) ev_c (rv_eq rfl)) (dec_nat (i := 1)))) (fun _ H2 e2 => ?_) (fun hc2 H2 e2 => ?_)
  · have a2 := e2 _ _ a1
    have h3 : c % 3 < 3 := Nat.mod_lt _ (by decide)
    refine s_retL (xs := iv (r ++ List.replicate (13 - r.length + c % 3) 1)) ?_ fun p H3 hp e3 h3' => q p _ H3 (fresh_back (e1.trans e2) hp) ((e1.trans e2).trans e3) h3' (.inr (.inl ?_)) ?_
    · have h := el_catN (σ := [some (.ref a), some (.int (m : Int)), some (.int (c : Int)), none, none, none]) (H := H2) (ta := tVar 0) (tb := tLc (iRng1 (tCons (tOp rAddI (tOp rSubI (tC (.int 13)) (tCB (rLenS K) (tCons (tVar 0) tNil))) (tOp rModI (tVar 2) (tC (.int 3)))) tNil)) (gName 3) tYes (tC (.int 1)) [3]) (ys := (List.range (13 - r.length + c % 3)).map fun _ => V.int 1) (ev_var rfl) a2
        (fun H3 e3 => el_lcRy (n := 13 - r.length + c % 3) (fun _ => V.int 1) (ea_cons (ev_is (ev_op (ev_op ev_c (ev_len (ev_var (v := .ref a) rfl) (sq_of (e3 _ _ a2))) rv_I0) (ev_op (ev_var (v := .int (c : Int)) rfl) ev_c (rv_I (by decide))) rv_I0) (congrArg V.int (by rw [iv_len]; omega))) ea_nil) (by omega) (fun x => rfl) fun i H4 e4 hi => ev_c) (by rw [iv_len, List.length_map, List.length_range]; omega)
      have e : ((List.range (13 - r.length + c % 3)).map fun _ => V.int 1) = iv (List.replicate (13 - r.length + c % 3) 1) := by
        show _ = List.map V.int (List.replicate _ 1)
        rw [List.map_replicate]
        apply List.ext_getElem?
        intro i
        rw [List.getElem?_map, List.getElem?_replicate]
        by_cases hi : i < 13 - r.length + c % 3
        · rw [List.getElem?_range hi, if_pos hi]; rfl
        · rw [List.getElem?_eq_none (by simp; omega), if_neg hi]; rfl
      rw [e, iv_cat] at h
      exact h
    · rw [List.length_append, List.length_replicate]; omega
    · rw [List.length_append, List.length_replicate]; omega
  · have hm1 := of_decide_eq_false hc2
    have a2 := e2 _ _ a1
    obtain ⟨bd, hbd, hbad⟩ : ∃ bd : Int, ([(0 : Int), 61 + (c : Int) / 7 % 9, -1 - (c : Int) / 7 % 9])[m - 2]? = some bd ∧ ¬ (1 ≤ bd ∧ bd ≤ 60) := by
      have : m = 2 ∨ m = 3 ∨ m = 4 := by omega
      rcases this with rfl | rfl | rfl
      · exact ⟨_, rfl, by omega⟩
      · exact ⟨_, rfl, by omega⟩
      · exact ⟨_, rfl, by omega⟩
    refine q_asg (v := .int bd) (ev_opL1 (xs := iv [0, 61 + (c : Int) / 7 % 9, -1 - (c : Int) / 7 % 9]) (y := .int ((m - 2 : Nat) : Int)) (el_lst (ea_cons ev_c (ea_cons (ev_op ev_c (ev_op (ev_op (ev_var rfl) ev_c (rv_I ⟨by decide, by decide⟩)) ev_c (rv_I (by decide))) rv_I0) (ea_cons (ev_op (ev_un ev_c ru_neg) (ev_op (ev_op (ev_var rfl) ev_c (rv_I ⟨by decide, by decide⟩)) ev_c (rv_I (by decide))) rv_I0) ea_nil))) (by show 3 ≤ 100000; decide))
      (fun H3 e3 => ev_is (ev_op (ev_var rfl) ev_c rv_I0) (congrArg V.int (by omega))) fun p H3 hp e3 => rv_ixL (sq_of hp) (atI_nat (iv_at hbd))) fun H3 e3 => ?_
    have a3 := e3 _ _ a2
    have hat : c % r.length < r.length := Nat.mod_lt _ (by omega)
    refine q_asg (v := .int ((c % r.length : Nat) : Int)) (ev_is (ev_op (ev_var rfl) (ev_len (ev_var rfl) (sq_of a3)) (rv_I (by rw [iv_len]; omega))) (congrArg V.int (by rw [iv_len]; omega))) fun H4 e4 => ?_
    have a4 := e4 _ _ a3
    have e04 := ((e1.trans e2).trans e3).trans e4
    generalize c % r.length = t at hat
    refine s_retL (xs := iv ((r.take t ++ [bd]) ++ r.drop (t + 1))) ?_ fun p H5 hp e5 h5 => q p _ H5 (fresh_back e04 hp) (e04.trans e5) h5 (.inr (.inr ⟨bd, by simp, hbad⟩)) ?_
    · rw [← iv_cat, ← iv_cat]
      refine el_catNN (el_catNN ?_ (fun H5 e5 => el_lst (ea_cons (ev_var rfl) ea_nil) (by show 1 ≤ 100000; decide)) (by rw [iv_len, iv_len, List.length_take]; show _ + 1 ≤ _; omega)) (fun H5 e5 => ?_) (by rw [List.length_append, iv_len, iv_len, iv_len, List.length_take, List.length_drop]; show _ + 1 + _ ≤ _; omega)
      · rw [← cutT r (show t ≤ r.length by omega)]
        exact el_sl (ev_var rfl) eo_none (eo_some (ev_var rfl)) (sq_of a4)
      · rw [← cutD r (show t + 1 ≤ r.length by omega)]
        exact el_sl (ev_var rfl) (eo_some (ev_is (ev_op (ev_var rfl) ev_c rv_I0) (congrArg V.int (by omega)))) eo_none (sq_of (e5 _ _ a4))
    · rw [List.length_append, List.length_append, List.length_take, List.length_drop]; show _ + 1 + _ ≤ _; omega
/-! ### a folding with a fault -/
def p__law_bad_folding (K : PySem.W.Frag) : Sp := fun vs H Q _ => ∃ a f, ∃ m c n : Nat, vs = [.ref a, .int (m : Int), .int (c : Int)] ∧ H a = some (.lst (iv f)) ∧ f.length + 1 = n ∧ n ≤ 12 ∧ m ≤ 2 ∧ ∀ p f' H2, H p = none → Ex H H2 → H2 p = some (.lst (iv f')) → (∀ r : List Int, r.length = n → BadF r f') → f'.length ≤ 100 → Q (.ref p) H2
theorem r__law_bad_folding (h : p__law_bad_folding K vs H Q E) : t__law_bad_folding K E1 (En Q) (start ["folding", "fault", "cell", "spoiled"] vs) H := by
  obtain ⟨a, f, m, c, n, rfl, ha, hn, hn12, hm, q⟩ := h
  have ev2 : ∀ (σ' : L2.St) (Hx : Hp), σ'[2]? = some (some (.int (c : Int))) → Ev (tOp rModI (tVar 2) (tC (.int 2))) σ' Hx (.int ((c : Int) % 2)) := fun σ' Hx hv => ev_op (ev_var hv) ev_c (rv_I (by decide))
  refine q_when (b := decide (m = 0)) (et_test (ev_is (ev_op (ev_var rfl) ev_c (rv_eq rfl)) (dec_nat (i := 0)))) (fun _ H1 e1 => ?_) (fun hc1 H1 e1 => ?_)
  · refine s_retL (xs := iv (f ++ [(c : Int) % 2])) ?_ fun p H2 hp e2 h2 => q p _ H2 (fresh_back e1 hp) (e1.trans e2) h2 (fun r hr => .inl ?_) ?_
    · rw [← iv_cat]
      exact el_catN (ev_var rfl) (e1 _ _ ha) (fun H2 e2 => el_lst (ea_cons (ev2 _ _ rfl) ea_nil) (by show 1 ≤ 100000; decide)) (by rw [iv_len]; show _ + 1 ≤ _; omega)
    · rw [List.length_append, List.length_singleton]; omega
    · rw [List.length_append, List.length_singleton]; omega
  have a1 := e1 _ _ ha
  have hm0 := of_decide_eq_false hc1
  refine q_when (b := decide (m = 1) && !decide (f = [])) (et_and (et_test (ev_is (ev_op (ev_var rfl) ev_c (rv_eq rfl)) (dec_nat (i := 1)))) fun _ => et_test (ev_opL (ev_var rfl) (el_lst ea_nil (by decide)) fun p H2 hp e2 => rv_neI (ms := []) (sq_of (e2 _ _ a1)) (sq_of hp))) (fun hc2 H2 e2 => ?_) (fun hc2 H2 e2 => ?_)
  · have hf0 : f ≠ [] := by
      intro z
      rw [z] at hc2
      simp at hc2
    have hfl : 1 ≤ f.length := Nat.pos_of_ne_zero fun z => hf0 (List.length_eq_zero_iff.mp z)
    have e02 := e1.trans e2
    refine s_retL (xs := iv (f.drop 1)) (by rw [← cut1 f hfl]; exact el_sl (ev_var rfl) (eo_some ev_c) eo_none (sq_of (e2 _ _ a1))) fun p H3 hp e3 h3 => q p _ H3 (fresh_back e02 hp) (e02.trans e3) h3 (fun r hr => .inl ?_) ?_
    · rw [List.length_drop]; omega
    · rw [List.length_drop]; omega
  have a2 := e2 _ _ a1
  have e02 := e1.trans e2
  refine q_when (b := decide (f = [])) (et_test (ev_opL (ev_var rfl) (el_lst ea_nil (by decide)) fun p H3 hp e3 => rv_eqI (ms := []) (sq_of (e3 _ _ a2)) (sq_of hp))) (fun hc3 H3 e3 => ?_) (fun hc3 H3 e3 => ?_)
  · have hf0 := of_decide_eq_true hc3
    have e03 := e02.trans e3
    refine s_retL (xs := iv [(c : Int) % 2]) (el_lst (ea_cons (ev2 _ _ rfl) ea_nil) (by show 1 ≤ 100000; decide)) fun p H4 hp e4 h4 => q p _ H4 (fresh_back e03 hp) (e03.trans e4) h4 (fun r hr => .inl ?_) (by show 1 ≤ 100; decide)
    rw [hf0] at hn
    show 1 + 1 ≠ r.length
    have : ([] : List Int).length = 0 := rfl
    omega
  have hf0 := of_decide_eq_false hc3
  have hfl : 1 ≤ f.length := Nat.pos_of_ne_zero fun z => hf0 (List.length_eq_zero_iff.mp z)
  have a3 := e3 _ _ a2
  have e03 := e02.trans e3
  refine q_asgL (el_list (ev_var rfl) (sq_of a3)) fun l H4 hl e4 h4 => ?_
  obtain ⟨bd, hbd, b0, b1⟩ : ∃ bd : Int, ([2 + (c : Int) / 9 % 9, -1 - (c : Int) / 9 % 9])[((c : Int) / 99 % 2).toNat]? = some bd ∧ bd ≠ 0 ∧ bd ≠ 1 := by
    have h : ((c : Int) / 99 % 2).toNat < 2 := by omega
    generalize ((c : Int) / 99 % 2).toNat = t at h
    match t, h with
    | 0, _ => exact ⟨_, rfl, by omega, by omega⟩
    | 1, _ => exact ⟨_, rfl, by omega, by omega⟩
  have hat : c % f.length < f.length := Nat.mod_lt _ (by omega)
  refine q_setL (xs := iv f) (j := c % f.length) (v := .int bd) h4 (ev_opL1 (xs := iv [2 + (c : Int) / 9 % 9, -1 - (c : Int) / 9 % 9]) (y := .int ((((c : Int) / 99 % 2).toNat : Nat) : Int)) (el_lst (ea_cons (ev_op ev_c (ev_op (ev_op (ev_var rfl) ev_c (rv_I ⟨by decide, by decide⟩)) ev_c (rv_I (by decide))) rv_I0) (ea_cons (ev_op (ev_un ev_c ru_neg) (ev_op (ev_op (ev_var rfl) ev_c (rv_I ⟨by decide, by decide⟩)) ev_c (rv_I (by decide))) rv_I0) ea_nil)) (by show 2 ≤ 100000; decide))
      (fun H5 e5 => ev_is (ev_op (ev_op (ev_var rfl) ev_c (rv_I ⟨by decide, by decide⟩)) ev_c (rv_I (by decide))) (congrArg V.int (by omega))) fun p H5 hp e5 => rv_ixL (sq_of hp) (atI_nat (iv_at hbd))) (ev_var rfl)
    (ev_is (ev_op (ev_var rfl) (ev_len (ev_var rfl) (sq_of (e4 _ _ a3))) (rv_I (by rw [iv_len]; omega))) (congrArg V.int (by rw [iv_len]; omega))) (by rw [iv_len]; exact hat) fun H5 e5 => ?_
  refine s_ret (ev_var rfl) fun H6 e6 => ?_
  have e : (iv f).set (c % f.length) (.int bd) = iv (f.set (c % f.length) bd) := (List.map_set).symm
  have hH : H6 l = some (.lst (iv (f.set (c % f.length) bd))) := e6 _ _ (by rw [upd_same, e])
  refine q l _ H6 (fresh_back e03 hl) ((Ex.mut ((e03.trans e4).trans e5) (fresh_back e03 hl)).trans e6) hH (fun r hr => .inr ⟨bd, List.mem_of_getElem? (i := c % f.length) (by rw [List.getElem?_set_self hat]), b0, b1⟩) (by rw [List.length_set]; omega)
end
end Fo

set_option maxHeartbeats 8000000
namespace Fo
open PySem PySem.Spec PyProof.Rows L2 Evl
theorem many800 {r : List Int} (hr : OkR r) : many r 800 = 2 ^ (r.length - 1) := by
  have h1 := hr.l1
  have h12 := hr.l12
  have h0 := hr.all _ (getD_mem (i := 0) (by omega))
  have hs := sum_split h1
  have hsum := sum_le (r := r) fun x hx => (hr.all x hx).2
  have h := cnt_full (r.drop 1) (r.getD 0 0) 0 800 (drop_nn hr) (by omega) (by omega) (by omega)
  rw [List.length_drop] at h
  exact h
section
variable {P : Program} {w : World} {K : PySem.W.Frag} {σ : L2.St} {H H' : Hp} {Q : VK} {E E1 : XK} {vs : List V} {D : Ends} {tz : TS} {t : TT} {te : TE}
theorem q_ifAsgR {b : Bool} {i : Nat} {R : V → Hp → Prop} (M : L2.St → Hp → Prop) (h : EvT t σ H b) (h1 : b = true → EvR te σ H R) (k1 : b = true → ∀ v H1, Ex H H1 → R v H1 → M (σ.set i (some v)) H1) (k2 : b = false → ∀ H1, Ex H H1 → M σ H1) (k : ∀ σ' H', M σ' H' → tz D σ' H') : tSeq (tIfS t (tAsg te (gName i)) tNext) tz D σ H :=
  q_if h (fun hb H1 e1 => (h1 hb) H1 e1 _ fun v H2 e2 p => k _ _ (k1 hb v H2 (e1.trans e2) p)) (fun hb H1 e1 => k _ _ (k2 hb H1 e1))
theorem sr_bad_rule {a : Addr} {r : List Int} {m c : Nat} (ha : H a = some (.lst (iv r))) (ok : OkR r) (hm : m ≤ 4) : SpR (p__law_bad_rule K) [.ref a, .int (m : Int), .int (c : Int)] H (fun v H2 => ∃ p r', v = .ref p ∧ H2 p = some (.lst (iv r')) ∧ BadR r' ∧ r'.length ≤ 100) := fun H1 e Q q E =>
  ⟨a, r, m, c, rfl, e _ _ ha, ok, hm, fun p r' H2 hp e2 h2 hb hz => q _ H2 e2 ⟨p, r', rfl, h2, hb, hz⟩⟩
theorem sr_bad_folding {a : Addr} {f : List Int} {m c n : Nat} (ha : H a = some (.lst (iv f))) (hn : f.length + 1 = n) (hn12 : n ≤ 12) (hm : m ≤ 2) : SpR (p__law_bad_folding K) [.ref a, .int (m : Int), .int (c : Int)] H (fun v H2 => ∃ p f', v = .ref p ∧ H2 p = some (.lst (iv f')) ∧ (∀ r : List Int, r.length = n → BadF r f') ∧ f'.length ≤ 100) := fun H1 e Q q E =>
  ⟨a, f, m, c, n, rfl, e _ _ ha, hn, hn12, hm, fun p f' H2 hp e2 h2 hb hz => q _ H2 e2 ⟨p, f', rfl, h2, hb, hz⟩⟩
theorem scal_oV (d : Option Nat) : scal (oV d) (oV d) = true := by cases d <;> rfl
/-- what is due, as the law says it -/
def dueOf (k : Nat) (g4 g9 bad ill : Bool) : Option Nat := if bad then some 0 else if decide (4 < (k : Int)) && ill then some 1 else if (decide (k = 4) && g4) || (decide (k = 9) && g9) then some 2 else none
theorem oc_due {r r' f f' : List Int} {k : Nat} {n c : Int} {g4 g9 bad ill : Bool} (ok : OkR r) (okf : OkF r f) (hk : k ≤ 9) (b1 : bad = true → BadR r') (b0 : bad = false → r' = r) (i1 : ill = true → BadF r f') (i0 : ill = false → f' = f)
    (n1 : g4 = true → ¬ (0 ≤ n ∧ n < (many r 800 : Nat))) (n0 : g4 = false → ∃ m : Nat, n = m ∧ m < many r 800) (c1 : g9 = true → c < spanOf r f) (c0 : g9 = false → spanOf r f ≤ c) : Oc r' f' k n c (dueOf k g4 g9 bad ill) := by
  unfold dueOf
  cases bad with
  | true => exact .bad (b1 rfl)
  | false =>
    rw [b0 rfl]
    rw [if_neg Bool.false_ne_true]
    by_cases h5 : 4 < (k : Int)
    · rw [decide_eq_true h5, Bool.true_and]
      cases ill with
      | true => exact .ill ok (by omega) (i1 rfl)
      | false =>
        rw [i0 rfl, if_neg Bool.false_ne_true, decide_eq_false (show ¬ k = 4 by omega), Bool.false_and, Bool.false_or]
        by_cases h9 : k = 9
        · rw [decide_eq_true h9, Bool.true_and]
          cases g9 with
          | true => exact .no9 ok h9 okf (c1 rfl)
          | false => exact .g9 ok h9 okf (c0 rfl)
        · rw [decide_eq_false h9, Bool.false_and]
          exact .g8 ok (by omega) (by omega) okf
    · rw [decide_eq_false h5, Bool.false_and, if_neg Bool.false_ne_true, decide_eq_false (show ¬ k = 9 by omega), Bool.false_and, Bool.or_false]
      by_cases h4 : k = 4
      · rw [decide_eq_true h4, Bool.true_and]
        cases g4 with
        | true => exact .no4 ok h4 (n1 rfl)
        | false => exact .g4 ok h4 (n0 rfl)
      · rw [decide_eq_false h4, Bool.false_and]
        exact .g3 ok (by omega)
theorem r_law_k02 (Y : Ys K) (h : p_law K vs H Q E) : t_law_k02 K E1 (p__law_draw K) (p__law_rule K) (p__law_folding K) (p__law_span K) (p__law_bad_rule K) (p__law_bad_folding K) (p__law_refused_k02 P w K) (En Q)
    (start ["script", "pieces", "rule", "folding", "most", "k", "cell", "number", "case", "bad", "ill", "handed", "call", "due"] vs) H := by
  obtain ⟨a, ns, rfl, hS, q⟩ := h
  obtain ⟨p1, p2⟩ := pieces_ok ns 1 12 (by decide)
  have pe := pieces_eq ns 1 12 (by decide)
  generalize piecesOf ns 1 12 = np at p1 p2 pe
  refine q_asg (v := .int np) (ev_is (ev_op ev_c (ev_op (ev_call (vs := [.ref a, .int ((1 : Nat) : Int)]) (ea_cons (ev_var rfl) (ea_cons ev_c ea_nil)) (sp_draw hS (by decide))) ev_c (rv_I (by decide))) rv_I0) (congrArg V.int pe)) fun H1 e1 => ?_
  have S1 := ex_l e1 hS
  refine q_asgL (el_call (vs := [.ref a, .int np]) (ea_cons (ev_var rfl) (ea_cons (ev_var rfl) ea_nil)) (sl_rule S1 p1 p2)) fun ra H2 hra e2 h2 => ?_
  have ok := rule_ok ns np p1 p2
  have okf := fold_ok ns 30 np (ruleOf ns np) (rule_len ns np) p1
  have rl := rule_len ns np
  refine q_asgL (el_call (vs := [.ref a, .int ((30 : Nat) : Int), .int np]) (ea_cons (ev_var rfl) (ea_cons ev_c (ea_cons (ev_var rfl) ea_nil))) (sl_folding (ex_l e2 S1) p1 p2 (by decide))) fun fa H3 hfa e3 h3 => ?_
  generalize ruleOf ns np = r at ok okf h2 rl
  generalize foldOf ns 30 np = f at okf h3
  have l1 := ok.l1
  have l2 := ok.l12
  have l3 := okf.len
  have R3 := e3 _ _ h2
  have S3 := ex_l (e2.trans e3) S1
  have m800 := many800 ok
  refine q_asg ev_c fun H4 e4 => ?_
  -- most
  have pw : ∀ i : Nat, i ≤ 12 → (2 : Int) ^ i ≤ 4096 := fun i hi => by
    have h := Nat.pow_le_pow_right (n := 2) (by decide) hi
    have h2 : ((2 ^ i : Nat) : Int) = (2 : Int) ^ i := by rw [Int.natCast_pow]; rfl
    have h3 : (2 : Nat) ^ 12 = 4096 := by decide
    omega
  refine q_forR1 (n := ((np - 1 : Nat) : Int)) (ea_cons (ev_is (ev_op (ev_var rfl) ev_c rv_I0) (congrArg V.int (by omega))) ea_nil) ⟨by omega, by omega⟩
    (fun i σ' H' => ∃ kv, σ' = [some (.ref a), some (.int np), some (.ref ra), some (.ref fa), some (.int ((2 ^ i : Nat) : Int)), kv, none, none, none, none, none, none, none, none] ∧ Ex H3 H')
    (fun H5 e5 => ⟨_, rfl, e4.trans e5⟩) ?_ ?_
  · rintro i σ' H5 hi ⟨kv, rfl, e5⟩
    refine s_asg (v := .int ((2 ^ (i + 1) : Nat) : Int)) (ev_is (ev_op ev_c (ev_var rfl) (rv_I (.inl ⟨by decide, by decide⟩))) (congrArg V.int ?_)) fun H6 e6 => ⟨_, rfl, e5.trans e6⟩
    rw [Nat.pow_succ]
    omega
  rintro σ' H5 ⟨kv, rfl, e5⟩
  have emost : (((np - 1 : Nat) : Int).toNat) = np - 1 := by omega
  rw [emost]
  have hmost : (2 ^ (np - 1) : Nat) = many r 800 := by rw [m800, rl]
  rw [hmost]
  have many1 : 1 ≤ many r 800 := by rw [m800]; exact Nat.pow_pos (by decide)
  clear hmost
  generalize hM : many r 800 = M at many1
  have S5 := ex_l e5 S3
  have R5 := e5 _ _ R3
  have F5 := e5 _ _ h3
  -- cell
  obtain ⟨cl, hcl⟩ : ∃ cl : Nat, draw ns 91 = (cl : Int) := ⟨(draw ns 91).toNat, by have := draw_nn ns 91; omega⟩
  refine q_asg (v := .int (cl : Int)) (ev_is (ev_call (vs := [.ref a, .int ((91 : Nat) : Int)]) (ea_cons (ev_var rfl) (ea_cons ev_c ea_nil)) (sp_draw S5 (by decide))) (congrArg V.int hcl)) fun H6 e6 => ?_
  have e56 := e6
  -- number
  obtain ⟨n, hn, n1, n0⟩ : ∃ n : Int, ([(0 : Int), (M : Int) - 1, -1 - (cl : Int) / 99 % 9, (M : Int) + (cl : Int) / 99 % 9])[cl % 4]? = some n ∧ (decide (1 < (cl : Int) % 4) = true → ¬ (0 ≤ n ∧ n < (M : Nat))) ∧ (decide (1 < (cl : Int) % 4) = false → ∃ m : Nat, n = m ∧ m < M) := by
    have h : cl % 4 = 0 ∨ cl % 4 = 1 ∨ cl % 4 = 2 ∨ cl % 4 = 3 := by omega
    rcases h with h | h | h | h
    · rw [h]; exact ⟨_, rfl, fun z => by rw [decide_eq_true_eq] at z; omega, fun _ => ⟨0, rfl, by omega⟩⟩
    · rw [h]; exact ⟨_, rfl, fun z => by rw [decide_eq_true_eq] at z; omega, fun _ => ⟨M - 1, by omega, by omega⟩⟩
    · rw [h]; exact ⟨_, rfl, fun _ => by omega, fun z => by rw [decide_eq_false_iff_not] at z; omega⟩
    · rw [h]; exact ⟨_, rfl, fun _ => by omega, fun z => by rw [decide_eq_false_iff_not] at z; omega⟩
  have div : ∀ (c m : Int) (σ' : L2.St) (Hx : Hp), 0 < c ∧ c ≤ 1000 → 0 < m → σ'[6]? = some (some (.int (cl : Int))) → Ev (tOp rModI (tOp rDivI (tVar 6) (tC (.int c))) (tC (.int m))) σ' Hx (.int ((cl : Int) / c % m)) := fun c m σ' Hx hc hm hv => ev_op (ev_op (ev_var hv) ev_c (rv_I ⟨by omega, by omega⟩)) ev_c (rv_I hm)
  refine q_asg (v := .int n) (ev_opL1 (xs := iv [(0 : Int), (M : Int) - 1, -1 - (cl : Int) / 99 % 9, (M : Int) + (cl : Int) / 99 % 9]) (y := .int ((cl % 4 : Nat) : Int)) (el_lst (ea_cons ev_c (ea_cons (ev_op (ev_var rfl) ev_c rv_I0) (ea_cons (ev_op (ev_un ev_c ru_neg) (div 99 9 _ _ (by decide) (by decide) rfl) rv_I0) (ea_cons (ev_op (ev_var rfl) (div 99 9 _ _ (by decide) (by decide) rfl) rv_I0) ea_nil)))) (by show 4 ≤ 100000; decide))
    (fun H7 e7 => ev_is (ev_op (ev_var rfl) ev_c (rv_I (by decide))) (congrArg V.int (by omega))) fun p H7 hp e7 => rv_ixL (sq_of hp) (atI_nat (iv_at hn))) fun H7 e7 => ?_
  have e57 := e6.trans e7
  -- case
  refine q_asg (v := .int (spanOf r f - (cl : Int) / 4 % 2)) (ev_op (ev_call (vs := [.ref ra, .ref fa]) (ea_cons (ev_var rfl) (ea_cons (ev_var rfl) ea_nil)) (sp_lspan (sq_of (e57 _ _ R5)) (sq_of (e57 _ _ F5)) l3 (by omega))) (div 4 2 _ _ (by decide) (by decide) rfl) rv_I0) fun H8 e8 => ?_
  refine q_asg (v := .bl (decide ((cl : Int) / 8 % 3 = 1))) (ev_is (ev_op (div 8 3 _ _ (by decide) (by decide) rfl) ev_c (rv_eq rfl)) (by rw [dec_int]; rfl)) fun H9 e9 => ?_
  refine q_asg (v := .bl (decide ((cl : Int) / 24 % 3 = 1))) (ev_is (ev_op (div 24 3 _ _ (by decide) (by decide) rfl) ev_c (rv_eq rfl)) (by rw [dec_int]; rfl)) fun H10 e10 => ?_
  have e510 := ((e57.trans e8).trans e9).trans e10
  have R10 := e510 _ _ R5
  have F10 := e510 _ _ F5
  have c1 : decide ((cl : Int) / 4 % 2 = 1) = true → spanOf r f - (cl : Int) / 4 % 2 < spanOf r f := fun z => by rw [decide_eq_true_eq] at z; omega
  have c0 : decide ((cl : Int) / 4 % 2 = 1) = false → spanOf r f ≤ spanOf r f - (cl : Int) / 4 % 2 := fun z => by rw [decide_eq_false_iff_not] at z; omega
  generalize spanOf r f - (cl : Int) / 4 % 2 = c at c1 c0
  generalize decide ((cl : Int) / 8 % 3 = 1) = bad
  generalize decide ((cl : Int) / 24 % 3 = 1) = ill
  rw [← hM] at n1 n0
  -- the rule, perhaps with a fault
  refine q_ifAsgR (b := bad) (fun σ' H' => ∃ ra' r', σ' = [some (.ref a), some (.int np), some (.ref ra'), some (.ref fa), some (.int (M : Int)), kv, some (.int (cl : Int)), some (.int n), some (.int c), some (.bl bad), some (.bl ill), none, none, none] ∧ Ex H10 H' ∧ H' ra' = some (.lst (iv r')) ∧ r'.length ≤ 100 ∧ (bad = true → BadR r') ∧ (bad = false → r' = r)) (et_B (ev_var rfl))
    (fun _ => er_call (vs := [.ref ra, .int ((cl / 72 % 5 : Nat) : Int), .int ((cl / 360 : Nat) : Int)]) (ea_cons (ev_var rfl) (ea_cons (ev_is (div 72 5 _ _ (by decide) (by decide) rfl) (congrArg V.int (by omega))) (ea_cons (ev_is (ev_op (ev_var rfl) ev_c (rv_I ⟨by decide, by decide⟩)) (congrArg V.int (by omega))) ea_nil))) (sr_bad_rule R10 ok (by omega)))
    (fun hb v H11 e11 hv => by
      obtain ⟨p, r', rfl, g1, g2, g3⟩ := hv
      exact ⟨p, r', rfl, e11, g1, g3, fun _ => g2, (fun z => by rw [z] at hb; cases hb)⟩)
    (fun hb H11 e11 => ⟨ra, r, rfl, e11, e11 _ _ R10, (by omega), (fun z => by rw [z] at hb; cases hb), fun _ => rfl⟩) ?_
  rintro σ' H11 ⟨ra', r', rfl, e11, R11, rz, b1, b0⟩
  -- the folding, perhaps with a fault
  refine q_ifAsgR (b := ill) (fun σ' H' => ∃ fa' f', σ' = [some (.ref a), some (.int np), some (.ref ra'), some (.ref fa'), some (.int (M : Int)), kv, some (.int (cl : Int)), some (.int n), some (.int c), some (.bl bad), some (.bl ill), none, none, none] ∧ Ex H11 H' ∧ H' fa' = some (.lst (iv f')) ∧ f'.length ≤ 100 ∧ (ill = true → BadF r f') ∧ (ill = false → f' = f)) (et_B (ev_var rfl))
    (fun _ => er_call (vs := [.ref fa, .int ((cl / 72 % 3 : Nat) : Int), .int ((cl / 360 : Nat) : Int)]) (ea_cons (ev_var rfl) (ea_cons (ev_is (div 72 3 _ _ (by decide) (by decide) rfl) (congrArg V.int (by omega))) (ea_cons (ev_is (ev_op (ev_var rfl) ev_c (rv_I ⟨by decide, by decide⟩)) (congrArg V.int (by omega))) ea_nil))) (sr_bad_folding (n := np) (e11 _ _ F10) (by omega) (by omega) (by omega)))
    (fun hb v H12 e12 hv => by
      obtain ⟨p, f', rfl, g1, g2, g3⟩ := hv
      exact ⟨p, f', rfl, e12, g1, g3, fun _ => g2 r rl, (fun z => by rw [z] at hb; cases hb)⟩)
    (fun hb H12 e12 => ⟨fa, f, rfl, e12, e12 _ _ (e11 _ _ F10), (by omega), (fun z => by rw [z] at hb; cases hb), fun _ => rfl⟩) ?_
  rintro σ' H12 ⟨fa', f', rfl, e12, F12, fz, i1, i0⟩
  have R12 := e12 _ _ R11
  refine q_asgR (er_pair (el_list (ev_var rfl) (sq_of R12)) (el_list (ev_var rfl) (sq_of F12))) fun v H13 e13 hv => ?_
  obtain ⟨hp, ha, hb, rfl, hp0, hp1, ha0, hb0, ha1, hb1⟩ := hv
  have R13 := e13 _ _ R12
  have F13 := e13 _ _ F12
  refine q_forR1 (n := 10) (ea_cons ev_c ea_nil) ⟨by decide, by decide⟩
    (fun i σ' H' => ∃ cv dv, σ' = [some (.ref a), some (.int np), some (.ref ra'), some (.ref fa'), some (.int (M : Int)), kv, some (.int (cl : Int)), some (.int n), some (.int c), some (.bl bad), some (.bl ill), some (.ref hp), cv, dv] ∧ Ex H13 H')
    (fun H14 e14 => ⟨_, _, rfl, e14⟩) ?_ ?_
  · rintro k σ' H14 hk ⟨cv, dv, rfl, e14⟩
    have hk9 : k ≤ 9 := by omega
    refine q_asg (v := oV none) ev_c fun H15 e15 => ?_
    let g4 := decide (1 < (cl : Int) % 4)
    let g9 := decide ((cl : Int) / 4 % 2 = 1)
    refine q_ifAsg (v := oV (if (decide (k = 4) && g4) || (decide (k = 9) && g9) then some 2 else none)) (b := (decide (k = 4) && g4) || (decide (k = 9) && g9))
      (et_or (et_and (et_test (ev_is (ev_op (ev_var rfl) ev_c (rv_eq rfl)) (dec_nat (i := 4)))) fun _ => et_test (ev_op (ev_op (ev_var rfl) ev_c (rv_I (by decide))) ev_c rv_I0)) fun _ => et_and (et_test (ev_is (ev_op (ev_var rfl) ev_c (rv_eq rfl)) (dec_nat (i := 9)))) fun _ => et_test (ev_is (ev_op (div 4 2 _ _ (by decide) (by decide) rfl) ev_c (rv_eq rfl)) (by rw [dec_int]; rfl)))
      (fun hb => ev_is ev_c (by rw [hb]; rfl)) (fun hb => by rw [hb]; rfl) fun H16 e16 => ?_
    refine q_ifAsg (v := oV (if decide (4 < (k : Int)) && ill then some 1 else if (decide (k = 4) && g4) || (decide (k = 9) && g9) then some 2 else none)) (b := decide (4 < (k : Int)) && ill)
      (et_and (et_test (ev_op (ev_var rfl) ev_c rv_I0)) fun _ => et_B (ev_var rfl)) (fun hb => ev_is ev_c (by rw [hb]; rfl)) (fun hb => by rw [hb]; rfl) fun H17 e17 => ?_
    refine q_ifAsg (v := oV (dueOf k g4 g9 bad ill)) (b := bad) (et_B (ev_var rfl)) (fun hb => ev_is ev_c (by rw [hb]; rfl)) (fun hb => by rw [hb]; rfl) fun H18 e18 => ?_
    have e1318 := (((e14.trans e15).trans e16).trans e17).trans e18
    have oc := oc_due (k := k) (n := n) (c := c) (g4 := g4) (g9 := g9) ok okf hk9 b1 b0 i1 i0 n1 n0 c1 c0
    generalize dueOf k g4 g9 bad ill = d at oc
    have h0 : ∀ (σ' : L2.St) (Hx : Hp), Ex H13 Hx → σ'[11]? = some (some (.ref hp)) → Ev (tOp (rIxL K) (tVar 11) (tC (.int 0))) σ' Hx (.ref ha) := fun σ' Hx ex v1 => ev_op (ev_var v1) ev_c (rv_ixL (sq_of (ex _ _ hp1)) (atI_nat (j := 0) rfl))
    have h1' : ∀ (σ' : L2.St) (Hx : Hp), Ex H13 Hx → σ'[11]? = some (some (.ref hp)) → Ev (tOp (rIxL K) (tVar 11) (tC (.int 1))) σ' Hx (.ref hb) := fun σ' Hx ex v1 => ev_op (ev_var v1) ev_c (rv_ixL (sq_of (ex _ _ hp1)) (atI_nat (j := 1) rfl))
    exact s_when (b := false || !true) (et_or (et_test (ev_is (ev_op (ev_call (vs := [.int (k : Int), .ref ha, .ref hb, .int n, .int c]) (ea_cons (ev_var rfl) (ea_cons (h0 _ _ e1318 rfl) (ea_cons (h1' _ _ e1318 rfl) (ea_cons (ev_var rfl) (ea_cons (ev_var rfl) ea_nil))))) (sp_refused2 Y (sq_of (e1318 _ _ ha1)) (sq_of (e1318 _ _ hb1)) (by omega) (by omega) hk9 oc)) (ev_var rfl) (rv_ne (scal_oV d))) (by rw [decide_eq_true rfl]; rfl))) fun _ =>
      et_test (ev_is (ev_ne2 (sq_of (e1318 _ _ hp1)) (sq_of (e1318 _ _ ha1)) (sq_of (e1318 _ _ hb1)) (sq_of (e1318 _ _ R13)) (sq_of (e1318 _ _ F13)) (ev_var rfl) (ev_var rfl) (ev_var rfl)) (by rw [decide_eq_true rfl]))) (fun hc => by cases hc) (fun _ H19 e19 => ⟨_, _, rfl, e1318.trans e19⟩)
  · rintro σ' H14 ⟨cv, dv, rfl, e14⟩
    exact s_ret ev_c fun H15 e15 => q H15
end
end Fo

namespace Fo
open PySem PySem.Spec PyProof.Rows L2
/-! ### an exception out of a call in a list comprehension; turned from the kit's proof for one that raises nothing -/
section
variable {X : Cx} {pins : List (Addr × Obj)} {σ : L2.St} {H : Hp} {s : Shared}
/-- an object that isn't tracked may be left out of the heap -/
theorem forget {a : Addr} (I : Inv X pins σ H s) (na : H a = none) (n0 : X.s_0.heap.get? a = none) (nL : a ≠ X.env.locals) (nC : ∀ x c, X.env.cells.lookup x = some c → c ≠ a) (nP : ∀ p ∈ X.pn ++ pins, p.1 ≠ a) :
    ∃ G : Heap, (∀ b o, G.get? b = some o → s.heap.get? b = some o) ∧ G.get? a = none ∧ (∀ b o, b ≠ a → s.heap.get? b = some o → G.get? b = some o) ∧ Inv X pins σ H { s with heap := G } := by
  obtain ⟨G, g1, g2⟩ := restrict s.heap fun b => decide (b ≠ a)
  have gk : ∀ b o, b ≠ a → s.heap.get? b = some o → G.get? b = some o := fun b o hb e => by
    rw [g1 b (decide_eq_true hb)]
    exact e
  have ga : G.get? a = none := g2 a (decide_eq_false fun z => z rfl)
  have gs : ∀ b o, G.get? b = some o → s.heap.get? b = some o := fun b o e => by
    by_cases hb : b = a
    · rw [hb, ga] at e
      cases e
    · rw [← g1 b (decide_eq_true hb)]
      exact e
  have ne0 : ∀ b o, X.s_0.heap.get? b = some o → b ≠ a := fun b o e z => by
    rw [z, n0] at e
    cases e
  have neS : ∀ b o, H b = some o → b ≠ a := fun b o e z => by
    rw [z, na] at e
    cases e
  have cellK : ∀ x c, X.env.cells.lookup x = some c → ∀ v, s.heap.IsCell c v → G.IsCell c v := fun x c e v ⟨o, ho, hd⟩ => ⟨o, gk c o (nC x c e) ho, hd⟩
  refine ⟨G, gs, ga, gk, ⟨I.ok, I.os, I.bare, ⟨fun b o e n hb hq => ?_, fun b o e n hb hq => ?_, I.base.free, fun b o e hq => ?_, I.base.tups, I.base.frzs, I.base.tbls⟩, ?_, fun x c e => ?_, I.free, I.freeC, fun p hp => ?_, fun b u e => ?_, I.len⟩⟩
  · exact gk b o (ne0 b o e) (I.base.keep b o e n hb hq)
  · obtain ⟨sl, q⟩ := I.base.slot b o e n hb hq
    exact ⟨sl, gk b _ (ne0 b o e) q⟩
  · obtain ⟨o', q⟩ := I.base.there b o e hq
    exact ⟨o', gk b o' (ne0 b o e) q⟩
  · obtain ⟨m, ⟨o, es, ep, ho, r⟩, hl⟩ := I.loc
    refine ⟨m, ⟨o, es, ep, gk _ _ nL.symm ho, r⟩, fun i x v e1 e2 e3 => ?_⟩
    obtain ⟨u, r', l⟩ := hl i x v e1 e2 e3
    refine ⟨u, r', ?_⟩
    rcases l with l | ⟨k, c, ec, z⟩
    · exact .inl l
    · exact .inr ⟨k, c, ec, cellK x c ec _ z⟩
  · obtain ⟨v, z⟩ := I.cell x c e
    exact ⟨v, cellK x c e v z⟩
  · obtain ⟨e, n, ne, nf, d⟩ := I.pin p hp
    exact ⟨gk _ _ (nP p hp) e, n, ne, nf, d⟩
  · refine (I.hok b u e).stay (fun c v hc q => gk c v ?_ q) (fun c q => q) fun c xs q => q
    rcases hc with z | z
    · rw [z]
      exact neS b u e
    · exact neS c _ z
theorem comp_leaves {E : XK} {scope : Scope} {fp : List Addr} {ce : Env} {pins' : List (Addr × Obj)} {σ' : L2.St} {H' : Hp} {s5 s' : Shared} {u : Value} (tk : L2.Takes X (fun cls d _ H => E cls d H)) (hst : X.stack = X.env :: X.outer) (hfX : X.env.frame = some X.env.locals) (I3 : Inv X pins σ H s)
    (hch : ∀ b ∈ fp, (b ∈ X.ex ∨ X.s_0.heap.objs.size ≤ b) ∧ b ≠ X.env.locals ∧ (∀ x c, X.env.cells.lookup x = some c → c ≠ b) ∧ ∀ p ∈ X.pn ++ pins, p.1 ≠ b) (cL : ce.locals = s.heap.objs.size) (cF : ce.frame = X.env.frame)
    (I5 : Inv (X.blk s H scope ce fp) pins' σ' H' s5) (c : L2.CX X.prog X.w X.stack H' s5 E u s') : notedBy (model X.prog X.w) X.A ce (CompFails (model X.prog X.w) X.A X.xe ce) u s' := by
  obtain ⟨a, B, H2, cls, d, rfl, fl, hok, ub, na, os, ag, hE⟩ := c
  have hfr : X.A.frames = some (X.env :: X.outer) := by rw [I3.ok.frames, hst]
  -- the block's names
  obtain ⟨m, hNs, _⟩ := I5.loc
  obtain ⟨oC, es, ep, hoC, rC⟩ := id hNs
  have hoC : s5.heap.get? ce.locals = some oC := hoC
  have freeC : H' ce.locals = none := I5.free
  have Cnf : ce.locals ∉ frs X.stack := fun hm => by
    obtain ⟨_, o, e, _⟩ := I3.stack.mem hm
    have := Heap.lt_size e
    rw [cL] at this
    exact absurd this (Nat.lt_irrefl _)
  have BC : B.get? ce.locals = some oC := ub.keep _ _ hoC freeC Cnf
  have sC : s'.heap.get? ce.locals = some oC := fl.1 _ _ BC
  have H2C : H2 ce.locals = none := ub.free _ _ hoC freeC
  -- the ground without them
  obtain ⟨B', b1, b2⟩ := restrict B fun b => decide (b ≠ ce.locals)
  have B'C : B'.get? ce.locals = none := b2 _ (decide_eq_false fun z => z rfl)
  have B's : ∀ b o, B'.get? b = some o → B.get? b = some o ∧ b ≠ ce.locals := fun b o e => by
    by_cases hb : b = ce.locals
    · rw [hb, B'C] at e; cases e
    · rw [b1 b (decide_eq_true hb)] at e; exact ⟨e, hb⟩
  have B'k : ∀ b o, b ≠ ce.locals → B.get? b = some o → B'.get? b = some o := fun b o hb e => by rw [b1 b (decide_eq_true hb)]; exact e
  have B'n : ∀ b, B.get? b = none → B'.get? b = none := fun b e => by
    cases q : B'.get? b with
    | none => rfl
    | some o => rw [(B's b o q).1] at e; cases e
  obtain ⟨f1, f2, f3, oe, vs, T, oT, ts, he, hz, hd, h1, hnT, hTe, hT, hdT, h3⟩ := fl
  have fl' : HandSPX.FlyingZ B' (X.env :: X.outer) a (Zc cls d) s'.heap := by
    rw [← hst]
    refine ⟨fun b o e => f1 b o (B's b o e).1, B'n _ f2, funFrames_none f3 fun L hL => ?_, oe, vs, T, oT, ts, he, hz, hd, h1, B'n _ hnT, hTe, hT, hdT, h3⟩
    exact B'n _ (f3.mem hL).1
  show wpAny (model X.prog X.w) X.A (noteFrame (.ref a) ce) _ _ s'
  rw [noteFrame_env _ cF]
  refine HandSPX.looks_onZ Zc.steady hfr hfX fl' fun h6 hH6 up6 => ?_
  have hn' : s'.heap.Ns ce.locals m := ⟨oC, es, ep, sC, rC⟩
  refine ⟨m, hn'.upToSlots up6, fun h7 m7 hn7 hs7 => ?_⟩
  have hn6 : h6.Ns ce.locals m := hn'.upToSlots up6
  have notC : ∀ {b : Addr} {o : Obj} {vs : Array Value}, h6.get? b = some o → o.data = .fields vs → b ≠ ce.locals := fun {b o vs} e dd z => by
    obtain ⟨o', es', ep', e', dd', _⟩ := hn6
    rw [z] at e
    rw [e] at e'
    cases e'
    rw [dd] at dd'
    cases dd'
  have hH7 : HandSPX.HeldZ B' (X.env :: X.outer) a (Zc cls d) X.env.locals h7 := by
    obtain ⟨k1, k2, k3, oe6, vs6, T6, oT6, ts6, k4, k5, k6, k7, k8, k9, k10, k11, k12⟩ := hH6
    exact ⟨fun b o e => (hs7.2 b (B's b o e).2).trans (k1 b o e), k2, Heap.FunFrames.sameBut hs7 hn7 k3, oe6, vs6, T6, oT6, ts6, (hs7.2 a (notC k4 k6)).trans k4, k5, k6, k7, k8, k9, (hs7.2 T6 (notC k10 k11)).trans k10, k11, k12⟩
  obtain ⟨_, _, _, oe7, vs7, T7, _, _, he7, _, hd7, h17, _⟩ := id hH7
  unfold PySem.passOn
  refine wpAny_bind (wpAny_field he7 hd7 h17 ?_)
  rw [if_neg (show ¬ ((Value.ref T7 == Value.none) = true) from by simp), cF, hfX]
  refine wpAny_bind (HandSPX.setFlight_onZ hH7 fun h8 hH8 up8 => wpAny_throw (tk _ _ ?_))
  -- the state without the exception, as the block has it
  obtain ⟨G, g1, g2⟩ := restrict s'.heap fun b => (B.get? b).isSome || decide (b ∈ frs X.stack)
  have gB : ∀ b o, B.get? b = some o → G.get? b = some o := fun b o e => by
    rw [g1 b (by simp [e])]
    exact f1 b o e
  have gF : ∀ b, b ∈ frs X.stack → G.get? b = s'.heap.get? b := fun b hb => g1 b (by simp [hb])
  have og : ∀ b o, G.get? b = some o → s'.heap.get? b = some o ∧ ((B.get? b).isSome = true ∨ b ∈ frs X.stack) := fun b o e => by
    cases q : ((B.get? b).isSome || decide (b ∈ frs X.stack)) with
    | false => rw [g2 b q] at e; cases e
    | true =>
      rw [g1 b q] at e
      exact ⟨e, by simpa [Bool.or_eq_true] using q⟩
  have J : Inv (X.blk s H scope ce fp) pins' σ' H2 { s5 with heap := G, gens := s'.gens, drawn := s'.drawn, toks := s'.toks } := by
    refine I5.call (ch := []) ⟨fun b o e n hb _ => gB b o (ub.keep b o e n hb), fun b o e n hb _ => ?_, fun b o e n _ => ub.free b o e n, fun b o e _ => ?_, ub.tups, ub.frzs, ub.tbls⟩ (hok.kept gB) ag (fun _ z => nomatch z)
    · obtain ⟨sl, q⟩ := ub.slot b o e hb
      exact ⟨sl, by rw [gF b hb]; exact q⟩
    · by_cases hb : b ∈ frs X.stack
      · obtain ⟨sl, q⟩ := ub.slot b o e hb
        exact ⟨_, by rw [gF b hb]; exact q⟩
      · obtain ⟨o', q⟩ := ub.there b o e hb
        exact ⟨o', gB b o' q⟩
  have J2 : Inv X pins σ H2 { s5 with heap := G, gens := s'.gens, drawn := s'.drawn, toks := s'.toks } := I3.call' (ch := fp) J.os J.base J.hok J.bare hch
  have Cge : s.heap.objs.size ≤ ce.locals := Nat.le_of_eq cL.symm
  have n0 : X.s_0.heap.get? ce.locals = none := by
    cases q : X.s_0.heap.get? ce.locals with
    | none => rfl
    | some o => exact absurd (Nat.lt_of_lt_of_le (Heap.lt_size q) (Nat.le_trans I3.sz Cge)) (Nat.lt_irrefl _)
  obtain ⟨p0, p1, p2, p3, p4, p5⟩ := I3.fpOk (H' := H2) (b := ce.locals) Cge H2C
  obtain ⟨G2, k1, k2, k3, J3⟩ := forget J2 H2C n0 p1 p4 p5
  refine ⟨a, B', _, pins, σ, H2, cls, d, rfl, J3, fun b o e hb => ?_, fun b o e hnf => ?_, .inr (.inr (by rw [hst]; exact hH8)), na, os, ag, hE⟩
  · have hbC : b ≠ ce.locals := fun z => by rw [z] at e; rw [k2] at e; cases e
    obtain ⟨e', h⟩ := og b o (k1 b o e)
    rcases h with h | h
    · obtain ⟨o', q⟩ := Option.isSome_iff_exists.mp h
      have z := f1 b o' q
      rw [e'] at z
      cases z
      exact B'k b _ hbC q
    · exact absurd h hb
  · have hbC : b ≠ ce.locals := fun z => by rw [z] at e; rw [k2] at e; cases e
    obtain ⟨e', _⟩ := og b o (k1 b o e)
    obtain ⟨sl6, q6⟩ := up6 b o e' hnf
    have q7 := (hs7.2 b hbC).trans q6
    obtain ⟨sl8, q8⟩ := up8 b _ q7 hnf
    exact ⟨sl8, q8⟩
end
section
variable {X : Cx}
theorem lc_coreX {E : XK} {pins : List (Addr × Obj)} {s : Shared} {σ : L2.St} {H : Hp} {Q : VK} {elt tg iter : Expr} {ifs : List Expr} {scope : Scope} {own : List (Str × Nat)} {pos pos' : Pos} {wi : TI} {g : TG} {tt : TT} {te : TE} {use : Option (Value → Sem Unit)} {Qf : Value → Shared → Prop}
    (tkE : L2.Takes X (fun cls d _ H => E cls d H)) (hst : X.stack = X.env :: X.outer) (hfX : X.env.frame = some X.env.locals) (hc : X.calm = true) (hN : X.N.Nodup) (I : Inv X pins σ H s) (hi : PI X tg iter wi) (ok : BlkOk X.N X.env.scope scope own)
    (hg : ∀ (s : Shared) (H : Hp) (C : Addr) (cl : List (Str × Addr)) (fp : List Addr), PG (X.blk s H scope (compEnvC scope cl C X.env) fp) tg g) (ht : ∀ (s : Shared) (H : Hp) (C : Addr) (cl : List (Str × Addr)) (fp : List Addr), PTs (X.blk s H scope (compEnvC scope cl C X.env) fp) ifs tt)
    (he : ∀ (s : Shared) (H : Hp) (C : Addr) (cl : List (Str × Addr)) (fp : List Addr) (xe : Value → Shared → Prop), (∀ σ, PassesAt (L2.CX X.prog X.w) ((X.blk s H scope (compEnvC scope cl C X.env) fp).wish xe) σ E) → PE ((X.blk s H scope (compEnvC scope cl C X.env) fp).wish xe) elt te) (hs : ∀ x, foldedSetIterable iter X.env x = pure x)
    (h : tLc wi g tt te (own.map (·.2)) σ H Q)
    (hRR : ∀ D C s' m H', Inv X pins σ H' s' → Q (.ref D) H' → s'.heap.Ns C m → FpOk X pins H' C → ∀ cenv : Env, cenv.locals = C → compEnds (model X.prog X.w) X.A X.xe use Qf (.ref D) cenv (.ok .next) s') :
    wpAny (model X.prog X.w) X.A (comprehension (.ListComp elt [⟨tg, iter, ifs, 0⟩] scope pos) scope X.env pos' (newList []) false (eval iter X.env) use) Qf X.xe s := by
  have hfree : ∀ y ∈ scope.names, y.2 = .free → ∃ c, X.env.cells.lookup y.1 = some c := fun y hy e => by
    rcases ok.free y hy e with k | k
    · exact I.ok.has _ (.inl k)
    · exact I.ok.has _ (.inr k)
  refine PySem.comprehension_at (use := use) rfl hs (closure_ok hfree) ok.kind (fun y hy e => by rw [ok.uniq y hy, e])
    (thn (hi.run pins s σ H _ I h) fun xv s1 hx => thn hx fun itv s2 h2 => ?_)
  obtain ⟨it, fp, tn, J, H2, e, I2, T, st2, f2, q⟩ := h2
  subst e
  refine wpAny_newObj_type (newEnv_comp ?_) (by show 0 ≤ sizeLine; decide)
  generalize hD : s2.heap.objs.size = D
  have hDn : H2 D = none := I2.hok.fresh (Nat.le_of_eq hD)
  obtain ⟨W, ⟨m0, w0⟩, turn⟩ := q D hDn
  -- the new list
  generalize hs3 : ({ s2 with heap := s2.heap.push { cls := .type "list", data := .seq ([] : List Value).toArray } } : Shared) = s3
  have I3 : Inv X pins σ (upd H2 D (.lst [])) s3 := by
    rw [← hs3]
    refine I2.laid (t' := s2.toks) (fun b o e => Heap.get?_push_of_some _ e) (Nat.le_of_eq hD) ⟨Nat.zero_le _, [], 0, .nil, ?_⟩
    rw [← hD]
    exact Heap.get?_push_size _ rfl
  have h3 : s3.heap = s2.heap.push { cls := .type "list", data := .seq ([] : List Value).toArray } := by rw [← hs3]
  have sz : ∀ b ∈ fp, b < s2.heap.objs.size := fun b hb => by
    obtain ⟨o, e, _⟩ := T.obj _ _ st2 b hb
    exact Heap.lt_size e
  have f3 : ∀ b ∈ fp, FpOk X pins (upd H2 D (.lst [])) b ∧ b < s3.heap.objs.size := fun b hb => by
    have hlt := sz b hb
    refine ⟨⟨?_, (f2 b hb).2⟩, by rw [h3, Heap.size_push]; exact Nat.lt_succ_of_lt hlt⟩
    rw [upd_ne (by rw [← hD]; exact Nat.ne_of_lt hlt)]
    exact (f2 b hb).1
  have st3 : tn 0 s3.heap := T.keep _ _ _ st2 fun b _ o e => by rw [h3]; exact Heap.get?_push_of_some _ e
  have I4 := block_start I3 ok hN f3
  have pg := hg s3 (upd H2 D (.lst [])) s3.heap.objs.size (cellsFrom (s3.heap.objs.size + 1) scope.names (cloFrom X.env.cells scope.names [])) fp
  have pt := ht s3 (upd H2 D (.lst [])) s3.heap.objs.size (cellsFrom (s3.heap.objs.size + 1) scope.names (cloFrom X.env.cells scope.names [])) fp
  have pe := he s3 (upd H2 D (.lst [])) s3.heap.objs.size (cellsFrom (s3.heap.objs.size + 1) scope.names (cloFrom X.env.cells scope.names [])) fp (notedBy (model X.prog X.w) X.A (compEnvC scope (cellsFrom (s3.heap.objs.size + 1) scope.names (cloFrom X.env.cells scope.names [])) s3.heap.objs.size X.env) (CompFails (model X.prog X.w) X.A X.xe (compEnvC scope (cellsFrom (s3.heap.objs.size + 1) scope.names (cloFrom X.env.cells scope.names [])) s3.heap.objs.size X.env)))
  show codeAny _ _ (.compStart (.ListComp elt [⟨tg, iter, ifs, 0⟩] scope pos) 0 (.ref it) (.ref D) (compEnvC scope (cellsFrom (s3.heap.objs.size + 1) scope.names (cloFrom X.env.cells scope.names [])) s3.heap.objs.size X.env)) (compEnds (model X.prog X.w) X.A X.xe use Qf (.ref D) (compEnvC scope (cellsFrom (s3.heap.objs.size + 1) scope.names (cloFrom X.env.cells scope.names [])) s3.heap.objs.size X.env)) { s3 with heap := pushCells (s3.heap.push { cls := .type "dict", data := .dict #[] }) scope.names }
  have nfp : ∀ b ∈ fp, (upd H2 D (.lst [])) b = none := fun b hb => (f3 b hb).1.1
  generalize hce : compEnvC scope (cellsFrom (s3.heap.objs.size + 1) scope.names (cloFrom X.env.cells scope.names [])) s3.heap.objs.size X.env = ce at I4 pg pt pe ⊢
  have cL : ce.locals = s3.heap.objs.size := by subst hce; rfl
  generalize hH3 : upd H2 D (.lst []) = H3 at I3 I4 pg pt pe w0 nfp f3
  generalize hs4 : ({ s3 with heap := pushCells (s3.heap.push { cls := .type "dict", data := .dict #[] }) scope.names } : Shared) = s4 at I4 ⊢
  have st4 : tn 0 s4.heap := T.keep _ _ _ st3 fun b _ o e => by rw [← hs4]; exact pushCells_keeps _ _ _ _ (Heap.get?_push_of_some _ e)
  have stat : ∀ {σ' : L2.St} {H' : Hp} {s' : Shared}, Inv (X.blk s3 H3 scope ce fp) [] σ' H' s' → (∀ b ∈ fp, H' b = none) → ∀ b ∈ fp, FpOk (X.blk s3 H3 scope ce fp) [] H' b := fun {σ' H' s'} I' hn b hb =>
    ⟨hn b hb, (I'.ok.exf b hb).1, I'.ok.exfs b hb, .inl hb, fun x c e => (I'.ok.exf b hb).2 x c e, fun p hp => absurd (show p ∈ ([] : List (Addr × Obj)) ++ [] from hp) (by simp)⟩
  have cF : ce.frame = X.env.frame := by subst hce; rfl
  have passes : ∀ σ, PassesAt (L2.CX X.prog X.w) ((X.blk s3 H3 scope ce fp).wish (notedBy (model X.prog X.w) X.A ce (CompFails (model X.prog X.w) X.A X.xe ce))) σ E := fun _ pins' H' s5 u s' I5 c =>
    comp_leaves (scope := scope) (fp := fp) tkE hst hfX I3 (fun b hb => ⟨(f3 b hb).1.2.2.2.1, (f3 b hb).1.2.1, (f3 b hb).1.2.2.2.2.1, (f3 b hb).1.2.2.2.2.2⟩) cL cF I5.unwish c
  have loop : codeAny (model X.prog X.w) X.A (.compLoop (.ListComp elt [⟨tg, iter, ifs, 0⟩] scope pos) 0 (.ref it) (.ref D) ce) (compEnds (model X.prog X.w) X.A X.xe use Qf (.ref D) ce) s4 := by
    refine compLoop_any (fun n s' => ∃ i H', Inv (X.blk s3 H3 scope ce fp) [] (wipe σ (own.map (·.2))) H' s' ∧ tn i s'.heap ∧ (∀ b ∈ fp, H' b = none) ∧ W i n H') ?_ m0 ⟨0, H3, I4, st4, nfp, w0⟩
    rintro n s5 ⟨i, H5, I5, st5, n5, w5⟩
    rcases turn i n H5 w5 with ⟨stop, qq⟩ | ⟨go, Nx, hNx, step⟩
    · have td := T.done (X.blk s3 H3 scope ce fp) rfl rfl rfl hc i [] s5 _ H5 (fun _ _ => False) I5 (stat I5 n5) st5 stop
      refine thnF td fun r s6 ⟨hr, I6⟩ => ?_
      subst hr
      -- back in the def's context
      have I7 : Inv X pins σ H5 s6 := I3.call' (ch := fp) I6.os I6.base I6.hok I6.bare fun b hb => ⟨(f3 b hb).1.2.2.2.1, (f3 b hb).1.2.1, (f3 b hb).1.2.2.2.2.1, (f3 b hb).1.2.2.2.2.2⟩
      have nC : H5 s3.heap.objs.size = none := by
        have z : H5 ce.locals = none := I6.free
        rw [cL] at z
        exact z
      obtain ⟨m, hn, _⟩ := I6.loc
      have hn : s6.heap.Ns ce.locals m := hn
      rw [cL] at hn
      exact hRR D s3.heap.objs.size s6 m H5 I7 qq hn (I3.fpOk (Nat.le_refl _) nC) ce cL
    · have ti := T.item (X.blk s3 H3 scope ce fp) rfl rfl rfl hc i [] s5 _ H5 (fun _ _ => False) I5 (stat I5 n5) st5 go
      refine thnF ti fun r s6 ⟨u, hr, h6⟩ => ?_
      subst hr
      refine thnF h6 fun _ s7 ⟨x, H7, I7, r7, y7, st7, n7⟩ => ?_
      have I7' := I7.pinned (stat I7 n7) (T.obj _ _ st7)
      refine thnF (pg.run _ s7 _ H7 x u _ I7' r7 (step x H7 y7)) fun _ s8 ⟨σ8, H8, I8, hw8, q8⟩ => ?_
      refine thnF (pt.run _ s8 σ8 H8 _ I8 q8) fun b s9 ⟨H9, I9, q9⟩ => ?_
      -- the turn's end
      have fin : ∀ {s' : Shared} {H' : Hp}, Inv (X.blk s3 H3 scope ce fp) ([] ++ pinsAt fp s7.heap) σ8 H' s' → Nx H' → ∃ m, m < n ∧ ∃ i H', Inv (X.blk s3 H3 scope ce fp) [] (wipe σ (own.map (·.2))) H' s' ∧ tn i s'.heap ∧ (∀ b ∈ fp, H' b = none) ∧ W i m H' := fun {s' H'} I' nx => by
        obtain ⟨m', hm, w'⟩ := hNx H' nx
        have pin' : ∀ b ∈ fp, ∀ o, s7.heap.get? b = some o → s'.heap.get? b = some o ∧ H' b = none := fun b hb o e =>
          let z := I'.pin (b, o) (List.mem_append_right _ (List.mem_append_right _ (mem_pinsAt hb e)))
          ⟨z.1, z.2.1⟩
        have hl : (wipe σ (own.map (·.2))).length = σ8.length := by rw [← hw8, wipe_length]
        refine ⟨m', hm, i + 1, H', (I'.unpinned (pins := [])).weak hl (fun j v e => ?_), T.keep _ _ _ st7 fun b hb o e => (pin' b hb o e).1, fun b hb => ?_, w'⟩
        · rw [← hw8] at e
          exact (wipe_some e).1
        · obtain ⟨o, e, _⟩ := T.obj _ _ st7 b hb
          exact (pin' b hb o e).2
      cases b with
      | false =>
        simp only [Bool.false_eq_true, if_false] at q9 ⊢
        exact fin I9 q9
      | true =>
        simp only [if_true] at q9 ⊢
        refine thn ((pe passes).run _ s9 σ8 H9 _ (I9.wish _) q9) fun z s10 ⟨yv, H10, I10, r10, acc, hD10, hz10, nx⟩ => ?_
        exact app_ok (X := X.blk s3 H3 scope ce fp) I10.unwish hD10 hz10 r10 fun s11 I11 => fin I11 nx
  exact codeAny_compStart_list loop (T.self X.A 0 _ _ _ st4 loop)

/-- as a value, an element that may raise -/
theorem pe_lcX {E : XK} {elt tg iter : Expr} {ifs : List Expr} {scope : Scope} {own : List (Str × Nat)} {pos : Pos} {wi : TI} {g : TG} {tt : TT} {te : TE} (tkE : L2.Takes X (fun cls d _ H => E cls d H)) (hst : X.stack = X.env :: X.outer) (hfX : X.env.frame = some X.env.locals) (hc : X.calm = true) (hN : X.N.Nodup) (hi : PI X tg iter wi) (ok : BlkOk X.N X.env.scope scope own)
    (hg : ∀ (s : Shared) (H : Hp) (C : Addr) (cl : List (Str × Addr)) (fp : List Addr), PG (X.blk s H scope (compEnvC scope cl C X.env) fp) tg g) (ht : ∀ (s : Shared) (H : Hp) (C : Addr) (cl : List (Str × Addr)) (fp : List Addr), PTs (X.blk s H scope (compEnvC scope cl C X.env) fp) ifs tt)
    (he : ∀ (s : Shared) (H : Hp) (C : Addr) (cl : List (Str × Addr)) (fp : List Addr) (xe : Value → Shared → Prop), (∀ σ, PassesAt (L2.CX X.prog X.w) ((X.blk s H scope (compEnvC scope cl C X.env) fp).wish xe) σ E) → PE ((X.blk s H scope (compEnvC scope cl C X.env) fp).wish xe) elt te) (hs : ∀ x, foldedSetIterable iter X.env x = pure x := by intro _; rfl) :
    PE X (.ListComp elt [⟨tg, iter, ifs, 0⟩] scope pos) (tLc wi g tt te (own.map (·.2))) := by
  refine ⟨fun pins s σ H Q I h => ?_⟩
  rw [eval_ListComp]
  refine lc_coreX tkE hst hfX hc hN I hi ok hg ht he hs h fun D C s' m H' I' q hn f cenv hcv => ⟨m, hcv ▸ hn, fun h'' sb => ?_⟩
  obtain ⟨f0, f1, f2, f3, f4, f5⟩ := f
  exact ⟨.ref D, H', I'.turned (t' := s'.toks) (fun b o hb e => (sb.2 b (hcv ▸ hb)).trans e) f0 f1 f3 f4 f5, rfl, q⟩
end
end Fo

namespace Fo
open PySem PySem.Spec PyProof.Rows L2 HotX
/-! ### try .. except (C1, C2): a suite that raises; turned from the kit's proof for one name -/
theorem flying_push {B h : Heap} {l : List Env} {a : Addr} {Z : Obj → Prop} {o : Obj} (x : HandSPX.FlyingZ B l a Z h) : HandSPX.FlyingZ B l a Z (h.push o) := by
  obtain ⟨k1, k2, k3, oe, vs, T, oT, ts, he, hz, hd, h1, hnT, hTe, hT, hdT, h3⟩ := x
  exact ⟨fun b u e => Heap.get?_push_of_some _ (k1 b u e), k2, Heap.FunFrames.of_keeps (fun b u e _ => ⟨u, Heap.get?_push_of_some _ e, rfl⟩) k3, oe, vs, T, oT, ts, Heap.get?_push_of_some _ he, hz, hd, h1, hnT, hTe, Heap.get?_push_of_some _ hT, hdT, h3⟩
def wTup (K : PySem.W.Frag) (c1 c2 : Value) (ts : Addr → Value → Option Addr → TS) (D : Ends) : WX := fun cls d σ H => PySem.W.exmAny K cls [c1, c2] = some true ∧ ∀ a, H a = none → ts a cls d D σ H
section
variable {X : Cx} {x1 x2 : Str} {c1 c2 : Value} {body suite : List Stmt} {b₀ : Stmt} {np1 np2 tpos pos pos' : Pos} {kk : Nat} {tb : WX → TS} {ts : Addr → Value → Option Addr → TS} {Wout : WX}
theorem ps_try_tupX (hs : X.stack = X.env :: X.outer) (hf : X.env.frame = some X.env.locals) (g1 : Gl X x1) (m1 : X.mg x1 = some c1) (g2 : Gl X x2) (m2 : X.mg x2 = some c2) (hpa : ∀ hd : Option Value, PassesOwnAt (model X.prog X.w) (X.A.mark hd) X.A X.env X.xe) (tk : L2.Takes X Wout)
    (hb : ∀ (W : WX) (pn : List (Addr × Obj)) (xe : Value → Shared → Prop), L2N.Takes (X.tr pn xe) W → PassesOwn (model X.prog X.w) X.A X.env xe → PSs (X.tr pn xe) body (tb W))
    (hsu : ∀ (a : Addr) (oe : Obj) (cls : Value) (d : Option Addr) (pn : List (Addr × Obj)), L2N.Zn cls d oe → (∃ vs, oe.data = .fields vs) → L2.Takes (L2H.suiteX X a ((a, oe) :: pn)) Wout → L2H.HotC (L2H.suiteX X a ((a, oe) :: pn)) →
      PSs (L2H.suiteX X a ((a, oe) :: pn)) (b₀ :: suite) (ts a cls d))
    (d1 : (x1 == ("__debug__" : Str)) = false := by decide) (d2 : (x2 == ("__debug__" : Str)) = false := by decide) :
    PS X (.Try body [.ExceptHandler (some (.Tuple [.Name x1 np1, .Name x2 np2] kk tpos)) none (b₀ :: suite) pos'] [] [] pos) (fun D σ H => tb (wTup X.K c1 c2 ts D) D σ H) := by
  refine ⟨fun pins s σ H D I h => ?_⟩
  have ok := I.ok
  have hfr : X.A.frames = some (X.env :: X.outer) := by rw [ok.frames, hs]
  have notFr : ∀ {B h : Heap} {a : Addr} {o : Obj} {vs : Array Value}, h.FunFrames B (X.env :: X.outer) → h.get? a = some o → o.data = .fields vs → a ∉ frs (X.env :: X.outer) := fun {B h a o vs} ff e dd hm => by
    obtain ⟨_, o', e', hnf⟩ := ff.mem hm
    rw [e] at e'; cases e'
    exact hnf _ dd
  refine wpAny_Try_except ?_
  refine wpAny_mono ((hb (wTup X.K c1 c2 ts D) (X.pn ++ pins) (fun e s₁ => wpAny (model X.prog X.w) X.A (noteFrame e X.env) (fun _ s₂ => wpAny (model X.prog X.w) X.A (setFlight e none) (fun _ s₃ =>
    wpAny (model X.prog X.w) X.A (handleBy e X.env [.ExceptHandler (some (.Tuple [.Name x1 np1, .Name x2 np2] kk tpos)) none (b₀ :: suite) pos']) (SP X pins D) X.xe s₃) X.xe s₂) X.xe s₁) (fun u s' xx => ?_) PassesOwn.looking).run [] s σ H D (I.toTry _) h) (fun f s1 hsp => ?_) (fun e s1 he => he)
  · obtain ⟨a, B, sI, pins', σ', H', cls, d, rfl, J', nb, up, sky, na, os, ag, hb1, hyes⟩ := xx
    have J : Inv X pins σ' H' sI := J'.ofTry ok
    have sky' : Sky B (X.env :: X.outer) a (L2N.Zn cls d) X.env.locals s'.heap := by rw [← hs]; exact sky
    show wpAny (model X.prog X.w) X.A (noteFrame (.ref a) X.env) _ _ _
    refine L2N.Sky.land L2N.Zn.steady hfr hf sky' fun h3 fl3 up3 => ?_
    have J3 : Inv X pins σ' H' { s' with heap := h3 } := J.landed nb fl3.1 (up.trans up3) os ag
    obtain ⟨oe3, vs3, he3, hz3, hd3⟩ := fl3.there
    have nfr : a ∉ frs (X.env :: X.outer) := notFr fl3.2.2.1 he3 hd3
    have nL : a ≠ X.env.locals := fun z => nfr (List.mem_filterMap.mpr ⟨X.env, List.mem_cons_self, by rw [hf, z]⟩)
    have nF : a ∉ X.fs := fun hm => by
      obtain ⟨e, he, q⟩ := List.mem_filterMap.mp hm
      exact nfr (List.mem_filterMap.mpr ⟨e, List.mem_cons_of_mem _ he, q⟩)
    have S3 := J3.suite he3 hd3 na nL nF
    refine wpAny_handleBy_cons (codeAny_handlers_test ?_) (by intro q; cases q)
    have kp : ∀ q o, h3.get? q = some o → (h3.push { cls := .type "tuple", data := .seq [c1, c2].toArray }).get? q = some o := fun _ _ z => Heap.get?_push_of_some _ z
    have LT : PySem.W.Looks (model X.prog X.w) (h3.push { cls := .type "tuple", data := .seq [c1, c2].toArray }) (typeOf (.ref a)) cls := fun A Q E s k q => wpAny_typeOf_ref (k _ _ (kp _ _ he3)) (by rw [hz3.1]; exact q)
    have LM := PySem.W.exm_tup2 (M := model X.prog X.w) (J3.kIn.keeps kp) LT (Heap.get?_push_size h3 rfl) hb1
    refine wpAny_Tuple ?_
    refine wpAny_items_cons (ld_glob (X := X.suite a ((a, oe3) :: (X.pn ++ pins))) S3 g1 m1 ?_ d1)
    refine wpAny_items_cons (ld_glob (X := X.suite a ((a, oe3) :: (X.pn ++ pins))) S3 g2 m2 ?_ d2)
    refine wpAny_items_nil ⟨by size_fits, ?_⟩
    refine LM.here ?_
    have fl5 := flying_push (o := { cls := .type "tuple", data := .seq [c1, c2].toArray }) fl3
    have up5 : s'.heap.UpToSlots (h3.push { cls := .type "tuple", data := .seq [c1, c2].toArray }) := up3.trans (Heap.UpToSlots.of_keeps kp)
    generalize h3.push { cls := .type "tuple", data := .seq [c1, c2].toArray } = h5 at fl5 up5
    refine codeAny_handlers_suite ?_
    refine HandSPX.lands_againZ fl5 fun h4 fl4 up4 => ?_
    have J4 : Inv X pins σ' H' { s' with heap := h4 } := J.landed nb fl4.1 ((up.trans up5).trans up4) os ag
    obtain ⟨oe4, vs4, he4, hz4, hd4⟩ := fl4.there
    have S4 := J4.suite he4 hd4 na nL nF
    have tkS : L2.Takes (L2H.suiteX X a ((a, oe4) :: (X.pn ++ pins))) Wout := fun u2 s2 x2 => by
      obtain ⟨a2, B2, sI2, pn2, σ2, H2, cls2, d2, e2, I2, nb2, up2, sky2, na2, os2, ag2, w2⟩ := x2
      exact tk u2 s2 ⟨a2, B2, sI2, pins, σ2, H2, cls2, d2, e2, L2H.unsuiteX I2 ok, nb2, up2, sky2, na2, os2, ag2, w2⟩
    have hot : L2H.HotC (L2H.suiteX X a ((a, oe4) :: (X.pn ++ pins))) := ⟨(a, oe4), ⟨rfl, vs4, hd4, hz4.2.2 vs4 hd4⟩, List.mem_cons_self⟩
    refine wpAny_mono ((hsu a oe4 cls d (X.pn ++ pins) hz4 ⟨_, hd4⟩ tkS hot).run [] _ _ H' _ (L2H.suiteX_of S4) (hyes a na)) (fun f s6 hsp => ?_) (fun e6 s6 z => hpa (some (.ref a)) e6 s6 z)
    cases f with
    | next =>
      obtain ⟨σ6, H6, S6, q6⟩ := hsp
      exact ⟨_, _, L2H.unsuiteX S6 ok, q6⟩
    | brk =>
      obtain ⟨σ6, H6, S6, q6⟩ := hsp
      exact ⟨_, _, L2H.unsuiteX S6 ok, q6⟩
    | cont =>
      obtain ⟨σ6, H6, S6, q6⟩ := hsp
      exact ⟨_, _, L2H.unsuiteX S6 ok, q6⟩
    | ret u =>
      obtain ⟨v6, σ6, H6, S6, r6, q6⟩ := hsp
      exact ⟨_, _, _, L2H.unsuiteX S6 ok, r6, q6⟩
  · cases f with
    | next =>
      obtain ⟨σ', H', J', q⟩ := hsp
      exact wpAny_execs_nil ⟨σ', H', J'.ofTry ok, q⟩
    | brk =>
      obtain ⟨σ', H', J', q⟩ := hsp
      exact ⟨σ', H', J'.ofTry ok, q⟩
    | cont =>
      obtain ⟨σ', H', J', q⟩ := hsp
      exact ⟨σ', H', J'.ofTry ok, q⟩
    | ret u =>
      obtain ⟨v, σ', H', J', r, q⟩ := hsp
      exact ⟨v, σ', H', J'.ofTry ok, r, q⟩
end
/-! ### a def that may raise where nothing is handled -/
structure DfN (P : Program) (w : World) (K : PySem.W.Frag) (mg : Str → Option Value) (base : Heap) (k : Nat) (x : Str) (ps : List Str) (sp : Sp) : Prop where
  ex : ∃ f fd, FnOk P w K mg base (L2N.CX P w) k f fd ps sp ∧ mg x = some (.ref f) ∧ PySem.W.keepIn K (.ref f) = true ∧ Binds K fd ps []
section
variable {P : Program} {w : World} {K : PySem.W.Frag} {mg : Str → Option Value} {base : Heap} {x : Str} {st : Stmt} {ps N : List Str} {k : Nat} {sp : Sp}
theorem Pd.dfN (F : Pd K mg x st ps) (S : FnScope N ps (defScope st)) (len : ∀ vs H Q E, sp vs H Q E → vs.length = ps.length)
    (hbody : ∀ (f : Addr) (cdv : Value) (A : Around) (outer : List Env) (s : Shared) (H : Hp) (vs : List V) (Q : VK) (E : XK), Room k (A.deeper (envOfC x (defScope st) s.heap.objs.size f cdv)) → sp vs H Q E →
      ∃ t, PSs (cxOf (L2N.CX P w) P w K mg base N x (defScope st) f cdv A outer s H E) (defBody st) t ∧ t { nx := fun _ H' => Q .non H', rt := Q } (L2.start N vs) H) : DfN P w K mg base (k + 1) x ps sp := by
  obtain ⟨f, fd, F1, hm, hb⟩ := F.ex
  exact ⟨f, fd, F1.ok S len fun cdv A outer s H vs Q E hr h => hbody f cdv A outer s H vs Q E hr h, hm, F1.kp, hb⟩
end
section
variable {X : Cx}
theorem pe_callNS {k : Nat} {x : Str} {ps : List Str} {sp : Sp} {E : L2.St → XK} {e : Expr} {es : List Expr} {t : TA} {p pos : Pos} (D : DfN X.prog X.w X.K X.mg X.base k x ps sp) (hr : Room k X.A) (hg : Gl X x) (hx : ∀ σ, PassesAt (L2N.CX X.prog X.w) X σ (E σ)) (ha : PA X (e :: es) t) (hdb : (x == ("__debug__" : Str)) = false := by decide)
    (he : starEach (e :: es) X.env = (false, eval e X.env) :: starEach es X.env := by rfl) (hpl : (backTo pos (starEach es X.env)).any (·.1) = false := by rfl) :
    PE X (.Call (.Name x p) (e :: es) [] pos) (tCallS sp E t) := by
  obtain ⟨f, fd, F, hm, hk, hb⟩ := D.ex
  exact pe_callS F hr hg hm hk hb hx ha hdb he hpl
end
end Fo

namespace Fo
open PySem PySem.Spec PyProof.Rows L2
section
variable {X : Cx}
theorem ps_setLcX {E : XK} {i : Nat} {y : Str} {py : Pos} {elt tg iter : Expr} {ifs : List Expr} {scope : Scope} {own : List (Str × Nat)} {pos spos : Pos} {wi : TI} {g : TG} {tt : TT} {te : TE} (tkE : L2.Takes X (fun cls d _ H => E cls d H)) (hst : X.stack = X.env :: X.outer) (hfX : X.env.frame = some X.env.locals) (hc : X.calm = true) (hN : X.N.Nodup) (hy : X.N[i]? = some y) (hyl : X.env.scope.names.lookup y = some .local)
    (hsw : swapsWith (.ListComp elt [⟨tg, iter, ifs, 0⟩] scope pos) (some (.Name y py)) spos.line X.env = pure true) (hi : PI X tg iter wi) (ok : BlkOk X.N X.env.scope scope own)
    (hg : ∀ (s : Shared) (H : Hp) (C : Addr) (cl : List (Str × Addr)) (fp : List Addr), PG (X.blk s H scope (compEnvC scope cl C X.env) fp) tg g) (ht : ∀ (s : Shared) (H : Hp) (C : Addr) (cl : List (Str × Addr)) (fp : List Addr), PTs (X.blk s H scope (compEnvC scope cl C X.env) fp) ifs tt)
    (he : ∀ (s : Shared) (H : Hp) (C : Addr) (cl : List (Str × Addr)) (fp : List Addr) (xe : Value → Shared → Prop), (∀ σ, PassesAt (L2.CX X.prog X.w) ((X.blk s H scope (compEnvC scope cl C X.env) fp).wish xe) σ E) → PE ((X.blk s H scope (compEnvC scope cl C X.env) fp).wish xe) elt te) (hs : ∀ x, foldedSetIterable iter X.env x = pure x := by intro _; rfl) :
    PS X (.Assign [.Name y py] (.ListComp elt [⟨tg, iter, ifs, 0⟩] scope pos) spos) (tAsg (tLc wi g tt te (own.map (·.2))) (gName i)) := by
  refine ⟨fun pins s σ H D I h => ?_⟩
  rw [exec_Assign_Name_used _ _ _ _ hsw]
  refine wpAny_bind (wpAny_standAt (wpAny_bind ?_))
  show wpAny _ X.A (do let _ ← comprehension (.ListComp elt [⟨tg, iter, ifs, 0⟩] scope pos) scope X.env (firstIterPos [⟨tg, iter, ifs, 0⟩] pos) (newList []) false (eval iter X.env) (some (assign (.Name y py) X.env))) _ _ s
  have h : tLc wi g tt te (own.map (·.2)) σ H (fun x H1 => gName i x σ H1 D.nx) := h
  refine wpAny_bind (thn (lc_coreX (Qf := fun _ s' => SP X pins D .next s') tkE hst hfX hc hN I hi ok hg ht he hs h fun L C s' m H' I' q hn f cenv hcv => ?_) fun _ s' hq => wpAny_pure (wpAny_pure hq))
  show wpAny _ _ (assign (.Name y py) X.env (.ref L)) _ _ _
  refine wpAny_assign_Name (store_ok2 (v := V.ref L) I' hN hy (.inl hyl) rfl (fun s2 I2 ⟨a, sb, ha⟩ => ?_) (.inr hyl))
  obtain ⟨f0, f1, f2, f3, f4, f5⟩ := f
  have haC : C ≠ a := by
    rcases ha with z | z
    · rw [z]; exact f1
    · exact fun e => f4 y a z e.symm
  refine ⟨m, hcv ▸ (hn.sameBut sb haC), fun h3 sb3 => ?_⟩
  exact ⟨_, H', I2.turned (t' := s2.toks) (fun b o hb e => (sb3.2 b (hcv ▸ hb)).trans e) f0 f1 f3 f4 f5, q⟩
/-- a call that may raise, as the element of a comprehension -/
theorem pe_callXP {k : Nat} {x : Str} {ps : List Str} {sp : Sp} {E : XK} {e : Expr} {es : List Expr} {t : TA} {p pos : Pos} (D : DfX X.prog X.w X.K X.mg X.base k x ps sp) (hr : Room k X.A) (hg : Gl X x) (hx : ∀ σ, PassesAt (L2.CX X.prog X.w) X σ E) (ha : PA X (e :: es) t) (hdb : (x == ("__debug__" : Str)) = false := by decide)
    (he : starEach (e :: es) X.env = (false, eval e X.env) :: starEach es X.env := by rfl) (hpl : (backTo pos (starEach es X.env)).any (·.1) = false := by rfl) :
    PE X (.Call (.Name x p) (e :: es) [] pos) (tCall (clo sp E) [] E0 t) := by
  have h := pe_callXS (E := fun _ => E) (p := p) (pos := pos) D hr hg hx ha hdb he hpl
  refine ⟨fun pins s σ H Q I hh => h.run pins s σ H Q I ?_⟩
  show t σ H fun vs H1 => sp vs H1 Q E
  have ee : (fun (vs : List V) (H1 : Hp) => clo sp E (vs ++ []) H1 Q E0) = fun vs H1 => sp vs H1 Q E := by
    funext vs H1
    rw [List.append_nil]
    rfl
  rw [← ee]
  exact hh
/-- the same where nothing is handled -/
theorem pe_callND {k : Nat} {x : Str} {ps : List Str} {sp : Sp} {E : XK} {e : Expr} {es : List Expr} {t : TA} {p pos : Pos} (D : DfN X.prog X.w X.K X.mg X.base k x ps sp) (hr : Room k X.A) (hg : Gl X x) (tk : L2N.Takes X (fun cls d _ H => E cls d H)) (ha : PA X (e :: es) t) (hdb : (x == ("__debug__" : Str)) = false := by decide)
    (he : starEach (e :: es) X.env = (false, eval e X.env) :: starEach es X.env := by rfl) (hpl : (backTo pos (starEach es X.env)).any (·.1) = false := by rfl) :
    PE X (.Call (.Name x p) (e :: es) [] pos) (tCall (clo sp E) [] E0 t) := by
  have h := pe_callNS (E := fun _ => E) (p := p) (pos := pos) D hr hg (fun σ => L2N.passAt tk σ) ha hdb he hpl
  refine ⟨fun pins s σ H Q I hh => h.run pins s σ H Q I ?_⟩
  show t σ H fun vs H1 => sp vs H1 Q E
  have ee : (fun (vs : List V) (H1 : Hp) => clo sp E (vs ++ []) H1 Q E0) = fun vs H1 => sp vs H1 Q E := by
    funext vs H1
    rw [List.append_nil]
    rfl
  rw [← ee]
  exact hh
end
end Fo

/-! Rules written as texts: words and signs of a list of code points; plain Lean. -/
namespace Fo
def sepB (c : Nat) : Bool := decide (c = 43) || decide (c = 45)
/-- a word ahead of the first of some words -/
def preW (w : List Nat) : List (List Nat) → List (List Nat)
  | [] => [w]
  | x :: xs => (w ++ x) :: xs
def wordsOf : List Nat → List (List Nat)
  | [] => [[]]
  | c :: t => if sepB c then [] :: wordsOf t else preW [c] (wordsOf t)
def signsOf (t : List Nat) : List Int := (t.filter sepB).map fun c => if c = 45 then 1 else 0
theorem preW_ne (w : List Nat) (l : List (List Nat)) : preW w l ≠ [] := by cases l <;> simp [preW]
theorem words_ne : ∀ t, wordsOf t ≠ []
  | [] => by simp [wordsOf]
  | c :: t => by
    unfold wordsOf
    split
    · simp
    · exact preW_ne _ _
theorem preW_app (a b : List Nat) {l : List (List Nat)} (h : l ≠ []) : preW a (preW b l) = preW (a ++ b) l := by
  cases l with
  | nil => exact absurd rfl h
  | cons x xs => simp [preW]
theorem preW_nil {l : List (List Nat)} (h : l ≠ []) : preW [] l = l := by
  cases l with
  | nil => exact absurd rfl h
  | cons x xs => rfl
theorem preW_len (w : List Nat) {l : List (List Nat)} (h : l ≠ []) : (preW w l).length = l.length := by
  cases l with
  | nil => exact absurd rfl h
  | cons x xs => rfl
theorem words_sep {c : Nat} {t : List Nat} (h : sepB c = true) : wordsOf (c :: t) = [] :: wordsOf t := if_pos h
theorem words_no {c : Nat} {t : List Nat} (h : sepB c = false) : wordsOf (c :: t) = preW [c] (wordsOf t) := if_neg (by rw [h]; exact Bool.false_ne_true)
/-- one sign more: behind done words and a begun one -/
theorem step_sep {c : Nat} {word rest : List Nat} (h : sepB c = true) : preW word (wordsOf (c :: rest)) = word :: preW [] (wordsOf rest) := by
  rw [words_sep h, preW_nil (words_ne rest)]
  show (word ++ []) :: wordsOf rest = _
  rw [List.append_nil]
theorem step_no {c : Nat} {word rest : List Nat} (h : sepB c = false) : preW word (wordsOf (c :: rest)) = preW (word ++ [c]) (wordsOf rest) := by
  rw [words_no h, preW_app _ _ (words_ne rest)]
theorem signs_sep {c : Nat} {pre : List Nat} (h : sepB c = true) : signsOf (pre ++ [c]) = signsOf pre ++ [if c = 45 then 1 else 0] := by
  unfold signsOf
  rw [List.filter_append, List.map_append, List.filter_cons, if_pos h]
  rfl
theorem signs_no {c : Nat} {pre : List Nat} (h : sepB c = false) : signsOf (pre ++ [c]) = signsOf pre := by
  unfold signsOf
  rw [List.filter_append, List.filter_cons, if_neg (by rw [h]; exact Bool.false_ne_true), List.filter_nil, List.append_nil]
theorem words_len (t : List Nat) : (wordsOf t).length = (signsOf t).length + 1 := by
  induction t with
  | nil => rfl
  | cons c t ih =>
    by_cases h : sepB c = true
    · rw [words_sep h]
      unfold signsOf at ih ⊢
      rw [List.filter_cons, if_pos h, List.map_cons, List.length_cons, List.length_cons, ih]
    · have h : sepB c = false := by simpa using h
      rw [words_no h, preW_len _ (words_ne t), ih]
      unfold signsOf
      rw [List.filter_cons, if_neg (by rw [h]; exact Bool.false_ne_true)]
theorem signs_bits (t : List Nat) : ∀ x ∈ signsOf t, x = 0 ∨ x = 1 := by
  intro x hx
  obtain ⟨c, _, rfl⟩ := List.mem_map.mp hx
  show (if c = 45 then (1 : Int) else 0) = 0 ∨ _
  split
  · exact .inr rfl
  · exact .inl rfl
theorem words_snoc : ∀ t, wordsOf (t ++ [43]) = wordsOf t ++ [[]]
  | [] => rfl
  | c :: t => by
    have ih := words_snoc t
    show wordsOf (c :: (t ++ [43])) = _
    by_cases h : sepB c = true
    · rw [words_sep h, words_sep h, ih]; rfl
    · have h : sepB c = false := by simpa using h
      rw [words_no h, words_no h, ih]
      have hne := words_ne t
      cases hw : wordsOf t with
      | nil => exact absurd hw hne
      | cons x xs => rfl
/-- a word that writes a number -/
def digB (c : Nat) : Bool := decide (48 ≤ c) && decide (c ≤ 57)
def goodW (w : List Nat) : Bool := decide (1 ≤ w.length) && (decide (w.length ≤ 2) && (!decide (w.head? = some 48) && w.all digB))
def numW (w : List Nat) : Int := w.foldl (fun (n : Int) (c : Nat) => 10 * n + ((c : Int) - 48)) 0
theorem goodW_num {w : List Nat} (h : goodW w = true) : 1 ≤ numW w ∧ numW w ≤ 99 := by
  unfold goodW at h
  simp only [Bool.and_eq_true, decide_eq_true_eq, Bool.not_eq_true', decide_eq_false_iff_not] at h
  obtain ⟨h1, h2, h3, h4⟩ := h
  match w, h1, h2, h3, h4 with
  | [a], _, _, h3, h4 =>
    simp only [List.all_cons, List.all_nil, Bool.and_true, digB, Bool.and_eq_true, decide_eq_true_eq] at h4
    have h5 : a ≠ 48 := fun z => h3 (by rw [z]; rfl)
    show 1 ≤ 10 * 0 + ((a : Int) - 48) ∧ 10 * 0 + ((a : Int) - 48) ≤ 99
    omega
  | [a, b], _, _, h3, h4 =>
    simp only [List.all_cons, List.all_nil, Bool.and_true, digB, Bool.and_eq_true, decide_eq_true_eq] at h4
    have h5 : a ≠ 48 := fun z => h3 (by rw [z]; rfl)
    show 1 ≤ 10 * (10 * 0 + ((a : Int) - 48)) + ((b : Int) - 48) ∧ 10 * (10 * 0 + ((a : Int) - 48)) + ((b : Int) - 48) ≤ 99
    omega
/-- a text that writes a rule and a folding of it -/
structure GoodT (t : List Nat) : Prop where
  words : ∀ w ∈ wordsOf t, goodW w = true
  few : (wordsOf t).length ≤ 12
  small : ∀ w ∈ wordsOf t, numW w ≤ 60
def ruleT (t : List Nat) : List Int := (wordsOf t).map numW
theorem GoodT.ok {t : List Nat} (h : GoodT t) : OkR (ruleT t) := by
  refine ⟨?_, by unfold ruleT; rw [List.length_map]; exact h.few, fun x hx => ?_⟩
  · unfold ruleT
    rw [List.length_map, words_len]
    omega
  · obtain ⟨w, hw, rfl⟩ := List.mem_map.mp hx
    exact ⟨(goodW_num (h.words w hw)).1, h.small w hw⟩
theorem ruleT_okF {t : List Nat} : OkF (ruleT t) (signsOf t) := ⟨by unfold ruleT; rw [List.length_map, words_len], signs_bits t⟩
theorem GoodT.of {t : List Nat} (h : ∀ w ∈ wordsOf t, goodW w = true) (ok : OkR (ruleT t)) : GoodT t :=
  ⟨h, by have := ok.l12; unfold ruleT at this; rwa [List.length_map] at this, fun w hw => (ok.all _ (List.mem_map.mpr ⟨w, hw, rfl⟩)).2⟩
/-- where the words are good, it is a rule or has a fault -/
theorem bad_rule {t : List Nat} (h : ∀ w ∈ wordsOf t, goodW w = true) (n : ¬ GoodT t) : (ruleT t).length = 0 ∨ 12 < (ruleT t).length ∨ ∃ x ∈ ruleT t, ¬ (1 ≤ x ∧ x ≤ 60) := by
  by_cases h12 : 12 < (ruleT t).length
  · exact .inr (.inl h12)
  · refine .inr (.inr ?_)
    refine Classical.byContradiction fun z => n ⟨h, by unfold ruleT at h12; rw [List.length_map] at h12; omega, fun w hw => ?_⟩
    refine Classical.byContradiction fun z2 => z ⟨numW w, List.mem_map.mpr ⟨w, hw, rfl⟩, fun z3 => z2 z3.2⟩
/-- of a text with a sign at its end: a done word, a begun word -/
theorem done_mem {t done rest : List Nat} {ds : List (List Nat)} {word : List Nat} (h : wordsOf (t ++ [43]) = ds ++ word :: wordsOf rest) : word ∈ wordsOf t := by
  rw [words_snoc] at h
  have e := congrArg List.dropLast h
  rw [List.dropLast_concat, List.dropLast_append_of_ne_nil (by simp), List.dropLast_cons_of_ne_nil (words_ne rest)] at e
  rw [e]
  simp
theorem begun_mem {t : List Nat} {ds ws : List (List Nat)} {word : List Nat} (hne : word ≠ []) (h : wordsOf (t ++ [43]) = ds ++ word :: ws) : word ∈ wordsOf t := by
  rw [words_snoc] at h
  have hm : word ∈ wordsOf t ++ [[]] := by rw [h]; simp
  rcases List.mem_append.mp hm with hm | hm
  · exact hm
  · exact absurd (List.mem_singleton.mp hm) hne
end Fo

namespace Fo
open PySem PySem.Spec PyProof.Rows L2 Evl
def rLenZ : List V → Hp → VK → Prop := fun xs H Q => ∃ z : Str, xs = [.str z] ∧ z.length ≤ sizeLine ∧ Q (.int z.length) H
def rIntS : List V → Hp → VK → Prop := fun xs H Q => ∃ a n, xs = [.str a] ∧ PySem.intText? a = some n ∧ a.length ≤ 640 ∧ Q (.int n) H
/-- the text times a number, for one text and one number -/
def rMulS : V → V → Hp → VK → Prop := fun x y H Q => x = .str "1+" ∧ y = .int 12 ∧ Q (.str "1+1+1+1+1+1+1+1+1+1+1+1+") H
theorem op_mulS {X : Cx} : OpR X (binaryOp .Mult) rMulS := by
  intro pins s σ H x y u v Q I rx ry h
  obtain ⟨rfl, rfl, q⟩ := h
  obtain ⟨t, rfl⟩ := rx
  obtain ⟨t2, rfl⟩ := ry
  refine PySem.P.mul_str (by decide) (fun _ _ => by decide +kernel) (fun _ _ => by decide +kernel) ?_
  have e : (⟨(List.replicate (12 : Int).toNat ("1+" : Str).cps).foldl (· ++ ·) #[]⟩ : Str) = "1+1+1+1+1+1+1+1+1+1+1+1+" := by decide +kernel
  rw [if_neg (by decide), if_neg (by decide +kernel), e]
  exact ⟨by decide +kernel, .str "1+1+1+1+1+1+1+1+1+1+1+1+", H, I.tok _, ⟨_, rfl⟩, q⟩
/-! ### readings of the defs: printed by gen.py -/
def t_number_of_word (K : PySem.W.Frag) (E : XK) (x_0 : TS) (x_1 : TS) : TS := (tSeq (tIfS (tOr (tNot (tTest (tChain rLeI rLeI (tC (.int 1)) (tCB rLenZ (tCons (tVar 0) tNil)) (tC (.int 2))))) (tTest (tOp rEq (tOp rIxS (tVar 0) (tC (.int 0))) (tC (.str "0"))))) x_0 tNext)
    (tSeq (tFor (iStr (tVar 0)) (gName 1) (tIfS (tTest (tOp rNotInS (tVar 1) (tC (.str "0123456789")))) x_1 tNext))
    (tRet (tCB rIntS (tCons (tVar 0) tNil)))))
def t_read (K : PySem.W.Frag) (E : XK) (p_see_folding : Sp) (p_number_of_word : Sp) (x_0 : TS) : TS := (tSeq (tAsg (tLst (tCons (tC (.str "")) tNil)) (gName 1))
    (tSeq (tAsg (tLst tNil) (gName 2))
    (tSeq (tFor (iStr (tVar 0)) (gName 3) (tIfS (tOr (tTest (tOp rEq (tVar 3) (tC (.str "+")))) (tTest (tOp rEq (tVar 3) (tC (.str "-"))))) (tSeq (tDrop (tBM K "list" rAppend (tVar 2) (tCons (tCB rInt1 (tCons (tOp rEq (tVar 3) (tC (.str "-"))) tNil)) tNil)))
    (tDrop (tBM K "list" rAppend (tVar 1) (tCons (tC (.str "")) tNil)))) (tAsg (tOp rAddS (tOp (rIxL K) (tVar 1) (tUn rNegI (tC (.int 1)))) (tVar 3)) (gSub (tVar 1) (tUn rNegI (tC (.int 1))) rSetL))))
    (tSeq (tAsg (tLc (iList K (tVar 1)) (gName 5) tYes (tCall p_number_of_word [] E (tCons (tVar 5) tNil)) [5]) (gName 4))
    (tSeq (fun D σ H => tDrop (tCallS p_see_folding (WE (wTup K (.ref (He.ga K "BadRule")) (.ref (He.ga K "BadFolding")) (fun _ _ _ => x_0) D)) (tCons (tVar 4) (tCons (tVar 2) tNil))) D σ H)
    (tRet (tTup (tCons (tVar 4) (tCons (tVar 2) tNil)))))))))
def t__law_shown (K : PySem.W.Frag) (E : XK) : TS := (tSeq (tAsg (tCB rStrI (tCons (tOp (rIxL K) (tVar 0) (tC (.int 0))) tNil)) (gName 2))
    (tSeq (tFor (iRng1 (tCons (tCB (rLenS K) (tCons (tVar 1) tNil)) tNil)) (gName 3) (tAsg (tOp rAddS (tOp rAddS (tVar 2) (tOp (rIxL K) (tLst (tCons (tC (.str "+")) (tCons (tC (.str "-")) tNil))) (tOp (rIxL K) (tVar 1) (tVar 3)))) (tCB rStrI (tCons (tOp (rIxL K) (tVar 0) (tOp rAddI (tVar 3) (tC (.int 1)))) tNil))) (gName 2)))
    (tRet (tVar 2))))
def t__law_turned (K : PySem.W.Frag) (E : XK) : TS := (tSeq (tAsg (tOp rModI (tVar 2) (tOp rAddI (tCB rLenZ (tCons (tVar 0) tNil)) (tC (.int 1)))) (gName 3))
    (tSeq (tAsg (tOp rIxS (tC (.str "0123456789+- _\n\t")) (tOp rModI (tOp rDivI (tVar 2) (tC (.int 1009))) (tC (.int 16)))) (gName 4))
    (tSeq (tIfS (tTest (tOp rEq (tVar 1) (tC (.int 1)))) (tRet (tOp rAddS (tOp rAddS (tSl rSlS (tVar 0) tNoPart (tPart (tVar 3))) (tVar 4)) (tSl rSlS (tVar 0) (tPart (tVar 3)) tNoPart))) tNext)
    (tSeq (tIfS (tTest (tOp rEq (tVar 1) (tC (.int 2)))) (tRet (tOp rAddS (tOp rAddS (tSl rSlS (tVar 0) tNoPart (tPart (tVar 3))) (tVar 4)) (tSl rSlS (tVar 0) (tPart (tOp rAddI (tVar 3) (tC (.int 1)))) tNoPart))) tNext)
    (tSeq (tIfS (tTest (tOp rEq (tVar 1) (tC (.int 3)))) (tRet (tOp rAddS (tSl rSlS (tVar 0) tNoPart (tPart (tVar 3))) (tSl rSlS (tVar 0) (tPart (tOp rAddI (tVar 3) (tC (.int 1)))) tNoPart))) tNext)
    (tRet (tVar 0)))))))
def t__law_due (K : PySem.W.Frag) (E : XK) : TS := (tSeq (tAsg (tLst tNil) (gName 1))
    (tSeq (tAsg (tLst tNil) (gName 2))
    (tSeq (tAsg (tC (.str "")) (gName 3))
    (tSeq (tFor (iStr (tOp rAddS (tVar 0) (tC (.str "+")))) (gName 4) (tIfS (tOr (tTest (tOp rEq (tVar 4) (tC (.str "+")))) (tTest (tOp rEq (tVar 4) (tC (.str "-"))))) (tSeq (tIfS (tOr (tTest (tOp rEq (tVar 3) (tC (.str "")))) (tOr (tTest (tOp rGtI (tCB rLenZ (tCons (tVar 3) tNil)) (tC (.int 2)))) (tTest (tOp rEq (tOp rIxS (tVar 3) (tC (.int 0))) (tC (.str "0")))))) (tRet (tC .non)) tNext)
    (tSeq (tDrop (tBM K "list" rAppend (tVar 1) (tCons (tCB rIntS (tCons (tVar 3) tNil)) tNil)))
    (tSeq (tDrop (tBM K "list" rAppend (tVar 2) (tCons (tCB rInt1 (tCons (tOp rEq (tVar 4) (tC (.str "-"))) tNil)) tNil)))
    (tAsg (tC (.str "")) (gName 3))))) (tIfS (tTest (tOp rNotInS (tVar 4) (tC (.str "0123456789")))) (tRet (tC .non)) (tAsg (tOp rAddS (tVar 3) (tVar 4)) (gName 3)))))
    (tSeq (tIfS (tOr (tTest (tOp rGtI (tCB (rLenS K) (tCons (tVar 1) tNil)) (tC (.int 12)))) (tTest (tOp rGtI (tCB (rMax K) (tCons (tVar 1) tNil)) (tC (.int 60))))) (tRet (tC .non)) tNext)
    (tRet (tTup (tCons (tVar 1) (tCons (tSl (rSlL K) (tVar 2) tNoPart (tPart (tUn rNegI (tC (.int 1))))) tNil)))))))))
def t__law_told (K : PySem.W.Frag) (E : XK) (p_read : Sp) : TS := (tSeq (tAsg (tC .non) (gName 1))
    (tSeq (fun D σ H => (tAsg (tCallS p_read (WE (wKeep K (.ref (He.ga K "RuleError")) 2 (fun _ _ _ => (tAsg (tVar 2) (gName 1))) D)) (tCons (tVar 0) tNil)) (gName 1)) D σ H)
    (tRet (tVar 1))))
def t_law_k08 (K : PySem.W.Frag) (E : XK) (p__law_draw : Sp) (p__law_rule : Sp) (p__law_folding : Sp) (p__law_shown : Sp) (p_shown : Sp) (p__law_turned : Sp) (p__law_due : Sp) (p__law_told : Sp) (p__law_alone : Sp) (p__law_numbers : Sp) : TS := (tSeq (tAsg (tOp rAddI (tC (.int 1)) (tOp rModI (tCall p__law_draw [] E (tCons (tVar 0) (tCons (tC (.int 1)) tNil))) (tC (.int 12)))) (gName 1))
    (tSeq (tAsg (tCall p__law_rule [] E (tCons (tVar 0) (tCons (tVar 1) tNil))) (gName 2))
    (tSeq (tAsg (tCall p__law_folding [] E (tCons (tVar 0) (tCons (tC (.int 30)) (tCons (tVar 1) tNil)))) (gName 3))
    (tSeq (tAsg (tCall p__law_shown [] E (tCons (tVar 2) (tCons (tVar 3) tNil))) (gName 4))
    (tSeq (tAsg (tLst (tCons (tCB (rListS K) (tCons (tVar 2) tNil)) (tCons (tCB (rListS K) (tCons (tVar 3) tNil)) tNil))) (gName 5))
    (tSeq (tAsg (tCall p_shown [] E (tCons (tOp (rIxL K) (tVar 5) (tC (.int 0))) (tCons (tOp (rIxL K) (tVar 5) (tC (.int 1))) tNil))) (gName 6))
    (tSeq (tIfS (tOr (tNot (tB (tCB (rIsi K) (tCons (tVar 6) (tCons (tC (.ty "str")) tNil))))) (tOr (tTest (tOp rNe (tVar 6) (tVar 4))) (tTest (tOp (rNeD K) (tVar 5) (tLst (tCons (tVar 2) (tCons (tVar 3) tNil))))))) (tRet (tC (.bl false))) tNext)
    (tSeq (tAsg (tCall p__law_turned [] E (tCons (tVar 4) (tCons (tOp rModI (tCall p__law_draw [] E (tCons (tVar 0) (tCons (tC (.int 91)) tNil))) (tC (.int 4))) (tCons (tCall p__law_draw [] E (tCons (tVar 0) (tCons (tC (.int 92)) tNil))) tNil)))) (gName 6))
    (tSeq (tIfS (tTest (tOp rEq (tOp rModI (tCall p__law_draw [] E (tCons (tVar 0) (tCons (tC (.int 93)) tNil))) (tC (.int 16))) (tC (.int 1)))) (tAsg (tOp (rIxL K) (tLst (tCons (tC (.str "")) (tCons (tC (.str "+")) (tCons (tC (.str "1+")) (tCons (tC (.str "-1")) (tCons (tC (.str "61")) (tCons (tOp rAddS (tOp rMulS (tC (.str "1+")) (tC (.int 12))) (tC (.str "1"))) (tCons (tC (.str "00")) tNil)))))))) (tOp rModI (tCall p__law_draw [] E (tCons (tVar 0) (tCons (tC (.int 92)) tNil))) (tC (.int 7)))) (gName 6)) tNext)
    (tSeq (tAsg (tCall p__law_due [] E (tCons (tVar 6) tNil)) (gName 4))
    (tSeq (tFor (iRng1 (tCons (tC (.int 2)) tNil)) (gName 7) (tSeq (tAsg (tCall p__law_told [] E (tCons (tVar 6) tNil)) (gName 8))
    (tSeq (tIfS (tAnd (tTest (tOp rIsN (tVar 4) (tC .non))) (tTest (tOp rNe (tCall p__law_alone [] E (tCons (tVar 8) tNil)) (tC (.int 3))))) (tRet (tC (.bl false))) tNext)
    (tIfS (tTest (tOp rNotN (tVar 4) (tC .non))) (tSeq (tIfS (tOr (tNot (tB (tCB (rIsi K) (tCons (tVar 8) (tCons (tC (.ty "tuple")) tNil))))) (tOr (tTest (tOp rNe (tCB (rLenS K) (tCons (tVar 8) tNil)) (tC (.int 2)))) (tNot (tB (tCall p__law_numbers [] E (tCons (tOp (rIxT K) (tVar 8) (tC (.int 0))) (tCons (tOp (rIxT K) (tVar 4) (tC (.int 0))) tNil))))))) (tRet (tC (.bl false))) tNext)
    (tSeq (tIfS (tNot (tB (tCall p__law_numbers [] E (tCons (tOp (rIxT K) (tVar 8) (tC (.int 1))) (tCons (tOp (rIxT K) (tVar 4) (tC (.int 1))) tNil))))) (tRet (tC (.bl false))) tNext)
    (tDrop (tBM0 K "list" rClear (tOp (rIxT K) (tVar 8) (tC (.int 0))))))) tNext))))
    (tRet (tC (.bl true))))))))))))))
end Fo

set_option maxHeartbeats 8000000
namespace Fo
open PySem PySem.Spec PyProof.Rows L2 Evl SX
/-! ### texts: tools of the hand layer -/
theorem dec_S {a b : List Nat} : V.bl (decide (V.str (S a) = V.str (S b))) = V.bl (decide (a = b)) := by
  congr 1
  rw [Bool.eq_iff_iff, decide_eq_true_eq, decide_eq_true_eq]
  exact ⟨fun h => S_inj (V.str.inj h), fun h => by rw [h]⟩
theorem fig_dec (c : Nat) : decide (c ∈ ("0123456789" : Str).cps.toList) = digB c := by
  have e : ("0123456789" : Str).cps.toList = [48, 49, 50, 51, 52, 53, 54, 55, 56, 57] := by decide +kernel
  rw [e, Bool.eq_iff_iff]
  unfold digB
  simp only [decide_eq_true_eq, Bool.and_eq_true, List.mem_cons, List.not_mem_nil, or_false]
  omega
section
variable {K : PySem.W.Frag} {σ : L2.St} {H H' : Hp} {ta tb te tx : TE} {t u : TT} {x y z v : V} {D : Ends} {tu tw tz : TS} {g : TG} {l m : List Nat}
theorem s_forS {j : Nat} (h : Ev te σ H (.str (S l))) (Pv : Nat → L2.St → Hp → Prop) (h0 : ∀ H1, Ex H H1 → Pv 0 σ H1)
    (hs : ∀ i c σ' H', l[i]? = some c → Pv i σ' H' → tu { D with nx := Pv (i + 1), ct := Pv (i + 1), bk := D.nx } (σ'.set j (some (.str (S [c])))) H') (hd : ∀ σ' H', Pv l.length σ' H' → D.nx σ' H') : tFor (iStr te) (gName j) tu D σ H :=
  h H (Ex.refl H) _ fun H1 e => ⟨S l, rfl, fun i m σ H => m = l.length - i ∧ i ≤ l.length ∧ Pv i σ H, ⟨l.length, by simp, Nat.zero_le _, h0 H1 e⟩, by
    have hz : (S l).cps.size = l.length := by simp
    rintro i m σ H ⟨rfl, hi, p⟩
    by_cases hlt : i < l.length
    · refine .inr ⟨by show i < (S l).cps.size; omega, Pv (i + 1), fun σ' H' p' => ⟨l.length - (i + 1), by omega, rfl, hlt, p'⟩, fun v H' y => ?_⟩
      obtain ⟨e, c, hc, rfl⟩ := y
      subst e
      exact hs i c σ _ (by simpa using hc) p
    · have e : i = l.length := by omega
      subst e
      exact .inl ⟨by show (S l).cps.size ≤ l.length; omega, hd σ H p⟩⟩
theorem q_forS {j : Nat} (h : Ev te σ H (.str (S l))) (Pv : Nat → L2.St → Hp → Prop) (h0 : ∀ H1, Ex H H1 → Pv 0 σ H1)
    (hs : ∀ i c σ' H', l[i]? = some c → Pv i σ' H' → tu { D with nx := Pv (i + 1), ct := Pv (i + 1), bk := tz D } (σ'.set j (some (.str (S [c])))) H') (hd : ∀ σ' H', Pv l.length σ' H' → tz D σ' H') : tSeq (tFor (iStr te) (gName j) tu) tz D σ H :=
  s_forS (D := { D with nx := tz D }) h Pv h0 hs hd
theorem ev_lenZ (h : Ev te σ H (.str (S l))) (hz : l.length ≤ 100000) : Ev (tCB rLenZ (tCons te tNil)) σ H (.int (l.length : Int)) := fun H1 e Q q => h H1 e _ fun H2 e2 =>
  ⟨S l, rfl, by rw [S_len]; exact sz_of hz, by rw [S_len]; exact q H2 e2⟩
theorem ev_intS {n : Int} (h : Ev te σ H (.str (S l))) (hn : PySem.intText? (S l) = some n) (hz : l.length ≤ 640) : Ev (tCB rIntS (tCons te tNil)) σ H (.int n) := fun H1 e Q q => h H1 e _ fun H2 e2 =>
  ⟨S l, n, rfl, hn, by rw [S_len]; exact hz, q H2 e2⟩
theorem rv_ixZ {i : Int} {c : Nat} (h : l.length ≤ 100000) (ha : atI l i = some c) : RV rIxS (.str (S l)) (.int i) H (.str (S [c])) := rv_ixS (by rw [S_len]; exact h) (by show atI (S l).cps.toList i = _; exact ha)
theorem rv_fig {c : Nat} : RV rNotInS (.str (S [c])) (.str "0123456789") H (.bl (!digB c)) := fun H1 e Q q => ⟨c, _, rfl, rfl, by rw [fig_dec]; exact q H1 (Ex.refl _)⟩
theorem ev_addZ (h1 : Ev ta σ H (.str (S l))) (h2 : Ev tb σ H (.str (S m))) (hz : l.length + m.length ≤ 100000) : Ev (tOp rAddS ta tb) σ H (.str (S (l ++ m))) := by
  rw [← S_cat]
  exact ev_addS h1 h2 (by rw [S_len, S_len]; exact hz)
theorem ixN_last {n : Nat} : ixN (n + 1) (-1) = some n := by
  unfold ixN
  rw [if_neg (by omega), if_pos (by omega)]
  congr 1
  omega
/-- xs[-1] = e -/
theorem s_setLast {a : Addr} {xs : List V} {w : V} (hl : H a = some (.lst (xs ++ [w]))) (h : Ev te σ H v) (ho : Ev ta σ H (.ref a)) (hi : Ev tb σ H (.int (-1))) (k : ∀ H1, Ex H H1 → D.nx σ (upd H1 a (.lst (xs ++ [v])))) :
    tAsg te (gSub ta tb rSetL) D σ H := h H (Ex.refl H) _ fun H1 e1 => ho H1 e1 _ fun H2 e2 => hi H2 (e1.trans e2) _ fun H3 e3 =>
  ⟨a, xs ++ [w], -1, xs.length, rfl, rfl, ((e1.trans e2).trans e3) a _ hl, by rw [List.length_append]; exact ixN_last, by
    have e : (xs ++ [w]).set xs.length v = xs ++ [v] := by
      rw [List.set_append_right _ _ (Nat.le_refl _), Nat.sub_self]
      rfl
    rw [e]
    exact k H3 ((e1.trans e2).trans e3)⟩
end
/-! ### a word -/
theorem int_word {l : List Nat} (h : goodW l = true) : PySem.intText? (S l) = some (numW l) := by
  have h0 := h
  unfold goodW at h
  simp only [Bool.and_eq_true, decide_eq_true_eq, Bool.not_eq_true', decide_eq_false_iff_not] at h
  obtain ⟨h1, h2, h3, h4⟩ := h
  have e := int_S (a := l) h4 (fun z => by rw [z] at h1; cases h1) (by omega)
  rw [e]
  congr 1
  match l, h1, h2, h4 with
  | [a], _, _, h4 =>
    simp only [List.all_cons, List.all_nil, Bool.and_true, digB, Bool.and_eq_true, decide_eq_true_eq] at h4
    show (((0 * 10 + (a - 48) : Nat)) : Int) = 10 * 0 + ((a : Int) - 48)
    omega
  | [a, b], _, _, h4 =>
    simp only [List.all_cons, List.all_nil, Bool.and_true, digB, Bool.and_eq_true, decide_eq_true_eq] at h4
    show (((0 * 10 + (a - 48)) * 10 + (b - 48) : Nat) : Int) = 10 * (10 * 0 + ((a : Int) - 48)) + ((b : Int) - 48)
    omega
section
variable {P : Program} {w : World} {K : PySem.W.Frag} {σ : L2.St} {H H' : Hp} {Q : VK} {E E1 : XK} {vs : List V}
def p_number_of_wordC (K : PySem.W.Frag) : Sp := fun vs H Q E => ∃ l, vs = [.str (S l)] ∧ l.length ≤ 1000 ∧ (goodW l = true → ∀ H', Ex H H' → Q (.int (numW l)) H') ∧ (goodW l = false → ∀ H', Ex H H' → E (.ref (He.ga K "NoText")) none H')
theorem n_number_of_word (h : p_number_of_wordC K vs H Q E) : vs.length = (["word"] : List Str).length := by
  obtain ⟨_, rfl, _⟩ := h
  rfl
theorem r_number_of_wordC (h : p_number_of_wordC K vs H Q E) : t_number_of_word K E1 (fun _ _ H => E (.ref (He.ga K "NoText")) none H) (fun _ _ H => E (.ref (He.ga K "NoText")) none H) (En Q) (start ["word", "sign"] vs) H := by
  obtain ⟨l, rfl, hz, qg, qb⟩ := h
  refine q_when (b := !(decide ((1 : Int) ≤ (l.length : Int)) && decide ((l.length : Int) ≤ 2)) || decide (l.head? = some 48)) (et_or (et_not (et_test (ev_chain (x := .int 1) (y := .int l.length) (z := .int 2) ev_c (ev_lenZ (ev_var rfl) (by omega)) rv_I0 (fun _ => ev_c) fun _ => rv_I0))) fun hc => ?_) (fun hc H1 e1 => qb ?_ H1 e1) (fun hc H1 e1 => ?_)
  · rw [Bool.not_eq_false', Bool.and_eq_true, decide_eq_true_eq, decide_eq_true_eq] at hc
    cases l with
    | nil => exact absurd hc.1 (by decide)
    | cons c r =>
      refine et_test (ev_is (ev_op (ev_op (ev_var rfl) ev_c (rv_ixZ (c := c) (by omega) (atI_nat (j := 0) rfl))) (ev_c (v := .str (S [48]))) (rv_eq rfl)) ?_)
      rw [dec_S]
      congr 1
      rw [Bool.eq_iff_iff, decide_eq_true_eq, decide_eq_true_eq]
      simp
  · rw [Bool.eq_false_iff]
    intro hg
    unfold goodW at hg
    simp only [Bool.and_eq_true, decide_eq_true_eq, Bool.not_eq_true', decide_eq_false_iff_not] at hg
    simp only [Bool.or_eq_true, Bool.not_eq_true', Bool.and_eq_false_iff, decide_eq_false_iff_not, decide_eq_true_eq] at hc
    rcases hc with (hc | hc) | hc
    · omega
    · omega
    · exact hg.2.2.1 hc
  · simp only [Bool.or_eq_false_iff, Bool.not_eq_false', Bool.and_eq_true, decide_eq_true_eq, decide_eq_false_iff_not] at hc
    refine q_forS (l := l) (ev_var rfl) (fun i σ' H' => ∃ kv, σ' = [some (.str (S l)), kv] ∧ Ex H H' ∧ (l.take i).all digB = true) (fun H2 e2 => ⟨_, rfl, e1.trans e2, rfl⟩) ?_ ?_
    · rintro i c σ' H' hi ⟨kv, rfl, e, ha⟩
      refine s_when (b := !digB c) (et_test (ev_op (ev_var rfl) ev_c rv_fig)) (fun hb H2 e2 => qb ?_ H2 (e.trans e2)) (fun hb H2 e2 => ⟨_, rfl, e.trans e2, ?_⟩)
      · rw [Bool.eq_false_iff]
        intro hg
        unfold goodW at hg
        simp only [Bool.and_eq_true] at hg
        have := List.all_eq_true.mp hg.2.2.2 c (List.mem_of_getElem? hi)
        rw [this] at hb
        cases hb
      · rw [List.take_add_one, hi, List.all_append, ha]
        show (true && (digB c && true)) = true
        rw [Bool.not_eq_false'] at hb
        rw [hb]
        rfl
    · rintro σ' H' ⟨kv, rfl, e, ha⟩
      rw [List.take_length] at ha
      have hg : goodW l = true := by
        unfold goodW
        simp only [Bool.and_eq_true, decide_eq_true_eq, Bool.not_eq_true', decide_eq_false_iff_not]
        exact ⟨by omega, by omega, hc.2, ha⟩
      exact s_ret (ev_intS (ev_var rfl) (int_word hg) (by omega)) fun H2 e2 => qg hg H2 (e.trans e2)
end
end Fo

set_option maxHeartbeats 8000000
namespace Fo
open PySem PySem.Spec PyProof.Rows L2 Evl SX
/-- the words as values -/
def wv (ws : List (List Nat)) : List V := ws.map fun w => V.str (S w)
theorem wv_len (ws : List (List Nat)) : (wv ws).length = ws.length := List.length_map _
theorem dec_1 {c d : Nat} : V.bl (decide (V.str (S [c]) = V.str (S [d]))) = V.bl (decide (c = d)) := by
  rw [dec_S]
  congr 1
  rw [Bool.eq_iff_iff, decide_eq_true_eq, decide_eq_true_eq]
  simp
theorem preW_sum (t : List Nat) : ∀ {ds : List (List Nat)} {w : List Nat} {r : List Nat}, wordsOf t = ds ++ preW w (wordsOf r) → ds.length + 1 ≤ (wordsOf t).length := fun {ds w r} h => by
  rw [h, List.length_append, preW_len _ (words_ne r)]
  have := List.length_pos_iff.mpr (words_ne r)
  omega
theorem signs_le (l : List Nat) : (signsOf l).length ≤ l.length := by
  unfold signsOf
  rw [List.length_map]
  exact List.length_filter_le _ _
section
variable {P : Program} {w : World} {K : PySem.W.Frag} {σ : L2.St} {H H' : Hp} {Q : VK} {E E1 : XK} {vs : List V} {D : Ends} {tz : TS}
theorem et_sep {i c : Nat} (h : σ[i]? = some (some (.str (S [c])))) : EvT (tOr (tTest (tOp rEq (tVar i) (tC (.str "+")))) (tTest (tOp rEq (tVar i) (tC (.str "-"))))) σ H (sepB c) :=
  et_or (et_test (ev_is (ev_op (ev_var h) (ev_c (v := .str (S [43]))) (rv_eq rfl)) dec_1)) fun _ => et_test (ev_is (ev_op (ev_var h) (ev_c (v := .str (S [45]))) (rv_eq rfl)) dec_1)
theorem ev_dash {i c : Nat} (h : σ[i]? = some (some (.str (S [c])))) : Ev (tCB rInt1 (tCons (tOp rEq (tVar i) (tC (.str "-"))) tNil)) σ H (.int (if c = 45 then 1 else 0)) :=
  ev_is (ev_int1 (k := decide (c = 45)) (ev_is (ev_op (ev_var h) (ev_c (v := .str (S [45]))) (rv_eq rfl)) dec_1)) (by by_cases z : c = 45 <;> simp [z])
theorem q_lcWords {l : List Nat} {p f : Addr} {kv : Option V} {ws : List (List Nat)} (hx : SqL K H p (wv ws)) (hz : ws.length ≤ 2000) (hl : ∀ w ∈ ws, w.length ≤ 1000)
    (bad : (∃ w ∈ ws, goodW w = false) → ∀ H1, Ex H H1 → E (.ref (He.ga K "NoText")) none H1)
    (k : (∀ w ∈ ws, goodW w = true) → ∀ a H1, H a = none → Ex H H1 → H1 a = some (.lst (iv (ws.map numW))) → tz D [some (.str (S l)), some (.ref p), some (.ref f), kv, some (.ref a), none] H1) :
    tSeq (tAsg (tLc (iList K (tVar 1)) (gName 5) tYes (tCall (clo (p_number_of_wordC K) E) [] E1 (tCons (tVar 5) tNil)) [5]) (gName 4)) tz D [some (.str (S l)), some (.ref p), some (.ref f), kv, none, none] H := by
  refine ⟨_, rfl, p, rfl, ⟨_, hx⟩, fun a ha => lc_list (xs := wv ws) (fun i H' => Ex H H' ∧ H' a = some (.lst (iv ((ws.take i).map numW))) ∧ ∀ w ∈ ws.take i, goodW w = true) ⟨Ex.new ha, upd_same, fun w hw => (by cases hw)⟩ (fun i H' _ q => ex_l q.1 hx) (fun i x H' hi ⟨e, h1, hg⟩ => ?_) (fun H' ⟨e, h1, hg⟩ => ?_)⟩
  · unfold wv at hi
    rw [List.getElem?_map] at hi
    cases hw : ws[i]? with
    | none => rw [hw] at hi; cases hi
    | some word =>
      rw [hw] at hi
      cases hi
      have hm : word ∈ ws := List.mem_of_getElem? hw
      refine ⟨rfl, _, rfl, ?_⟩
      refine ⟨word, rfl, hl _ hm, fun hgw H2 e2 => ?_, fun hgw H2 e2 => bad ⟨word, hm, hgw⟩ H2 (e.trans e2)⟩
      refine ⟨_, e2 _ _ h1, ?_, Ex.mut (e.trans e2) ha, ?_, ?_⟩
      · rw [iv_len, List.length_map, List.length_take]
        exact sz_lt (by omega)
      · rw [upd_same, List.take_add_one, hw]
        simp [iv]
      · intro w' hw'
        rw [List.take_add_one, hw] at hw'
        rcases List.mem_append.mp hw' with z | z
        · exact hg _ z
        · rw [show w' = word by simpa using z]
          exact hgw
  · rw [wv_len, List.take_length] at h1 hg
    exact k hg a H' ha e h1
/-! ### read -/
def Sees (K : PySem.W.Frag) : Prop := PySem.W.exmAny K (.ref (He.ga K "BadRule")) [.ref (He.ga K "BadRule"), .ref (He.ga K "BadFolding")] = some true
def p_readC (P : Program) (w : World) (K : PySem.W.Frag) : Sp := fun vs H Q E => ∃ l, Sees K ∧ vs = [.str (S l)] ∧ l.length ≤ 900 ∧
  (GoodT l → ∀ a p q H', H a = none → H p = none → H q = none → p ≠ q → Ex H H' → H' a = some (.tup [.ref p, .ref q]) → H' p = some (.lst (iv (ruleT l))) → H' q = some (.lst (iv (signsOf l))) → Q (.ref a) H') ∧
  (¬ GoodT l → ∀ H', Ex H H' → E (.ref (He.ga K "NoText")) none H')
theorem n_read (h : p_readC P w K vs H Q E) : vs.length = (["text"] : List Str).length := by
  obtain ⟨_, _, rfl, _⟩ := h
  rfl
theorem r_readC (h : p_readC P w K vs H Q E) : t_read K E1 (p_see_foldingC P w K) (clo (p_number_of_wordC K) E) (fun _ _ H => E (.ref (He.ga K "NoText")) none H) (En Q) (start ["text", "words", "folding", "sign", "rule", "word"] vs) H := by
  obtain ⟨l, Y, rfl, hz, qg, qb⟩ := h
  refine q_asgL (xs := wv [[]]) (el_lst (ea_cons (ev_c (v := .str (S []))) ea_nil) (by decide)) fun p H1 hp e1 h1 => ?_
  refine q_asgL (xs := iv []) (el_lst ea_nil (by decide)) fun f H2 hf e2 h2 => ?_
  have e02 := e1.trans e2
  have hf0 := fresh_back e1 hf
  have pf : p ≠ f := fun z => by rw [z, hf] at h1; cases h1
  refine q_forS (l := l) (ev_var rfl) (fun i σ' H' => ∃ ds wd kv, σ' = [some (.str (S l)), some (.ref p), some (.ref f), kv, none, none] ∧ Ex H H' ∧ H' p = some (.lst (wv ds ++ [V.str (S wd)])) ∧ H' f = some (.lst (iv (signsOf (l.take i)))) ∧
    wordsOf l = ds ++ preW wd (wordsOf (l.drop i)) ∧ wd.length ≤ i ∧ ∀ x ∈ ds, x.length ≤ i) (fun H3 e3 => ⟨[], [], _, rfl, e02.trans e3, e3 _ _ (e2 _ _ h1), e3 _ _ h2, (preW_nil (words_ne _)).symm, Nat.le_refl _, fun x hx => (by cases hx)⟩) ?_ ?_
  · rintro i c σ' H' hi ⟨ds, wd, kv, rfl, e, hp', hf', hw, hwl, hds⟩
    have hil := (List.getElem?_eq_some_iff.mp hi).1
    have hdl : ds.length + 1 ≤ l.length + 1 := by
      have h1 := preW_sum l hw
      rw [words_len] at h1
      have := signs_le l
      omega
    have hdrop : l.drop i = c :: l.drop (i + 1) := by
      rw [List.drop_eq_getElem_cons hil]
      congr 1
      exact (List.getElem?_eq_some_iff.mp hi).2
    have htake : l.take (i + 1) = l.take i ++ [c] := by rw [List.take_add_one, hi]; rfl
    refine s_if (b := sepB c) (et_sep rfl) (fun hs H3 e3 => ?_) (fun hs H3 e3 => ?_)
    · refine q_app (xs := iv (signsOf (l.take i))) (e3 _ _ hf') (fun H4 e4 => ev_var rfl _ (Ex.refl _)) (fun H4 e4 => ev_dash rfl H4 e4) (by rw [iv_len]; have := signs_le (l.take i); rw [List.length_take] at this; omega) fun H4 e4 => ?_
      have hp4 : upd H4 f (.lst (iv (signsOf (l.take i)) ++ [V.int (if c = 45 then 1 else 0)])) p = some (.lst (wv ds ++ [V.str (S wd)])) := by
        rw [upd_ne pf]
        exact e4 _ _ (e3 _ _ hp')
      have eX : Ex H (upd H4 f (.lst (iv (signsOf (l.take i)) ++ [V.int (if c = 45 then 1 else 0)]))) := Ex.mut ((e.trans e3).trans e4) hf0
      have hf4 : upd H4 f (.lst (iv (signsOf (l.take i)) ++ [V.int (if c = 45 then 1 else 0)])) f = some (.lst (iv (signsOf (l.take (i + 1))))) := by
        rw [upd_same, htake, signs_sep hs]
        simp [iv]
      generalize upd H4 f (.lst (iv (signsOf (l.take i)) ++ [V.int (if c = 45 then 1 else 0)])) = H5 at hp4 eX hf4
      refine s_app (xs := wv ds ++ [V.str (S wd)]) hp4 (ev_var rfl) (ev_c (v := .str (S []))) (by rw [List.length_append, wv_len]; show ds.length + 1 < 100000; omega) fun H6 e6 => ⟨ds ++ [wd], [], _, rfl, Ex.mut (eX.trans e6) hp, ?_, ?_, ?_, Nat.zero_le _, ?_⟩
      · rw [upd_same]
        simp [wv]
      · rw [upd_ne pf.symm]
        exact e6 _ _ hf4
      · rw [hw, hdrop, step_sep hs]
        simp
      · intro x hx
        rcases List.mem_append.mp hx with z | z
        · have := hds x z; omega
        · rw [show x = wd by simpa using z]; omega
    · refine s_setLast (xs := wv ds) (w := V.str (S wd)) (e3 _ _ hp') (ev_addZ (l := wd) (m := [c]) (ev_op (ev_var rfl) (ev_un ev_c ru_neg) (rv_ixL (sq_of (e3 _ _ hp')) (atI_last _ _))) (ev_var rfl) (by show wd.length + 1 ≤ 100000; omega)) (ev_var rfl) (ev_un ev_c ru_neg) fun H4 e4 => ⟨ds, wd ++ [c], _, rfl, Ex.mut ((e.trans e3).trans e4) hp, upd_same, ?_, ?_, ?_, fun x hx => Nat.le_succ_of_le (hds x hx)⟩
      · rw [upd_ne pf.symm, htake, signs_no hs]
        exact e4 _ _ (e3 _ _ hf')
      · rw [hw, hdrop, step_no hs]
      · rw [List.length_append]
        show wd.length + 1 ≤ i + 1
        omega
  · rintro σ' H' ⟨ds, wd, kv, rfl, e, hp', hf', hw, hwl, hds⟩
    rw [List.take_length] at hf'
    rw [List.drop_length] at hw
    have hw2 : wordsOf l = ds ++ [wd] := by rw [hw]; show ds ++ [wd ++ []] = _; rw [List.append_nil]
    have hp2 : H' p = some (.lst (wv (wordsOf l))) := by rw [hp', hw2]; simp [wv]
    have hn : (wordsOf l).length ≤ l.length + 1 := by
      rw [words_len]
      have := signs_le l
      omega
    refine q_lcWords (sq_of hp2) (by omega) (fun x hx => ?_) (fun hb H1 e1 => qb (fun hg => ?_) H1 (e.trans e1)) (fun hg a H3 ha e3 h3 => ?_)
    · rw [hw2] at hx
      rcases List.mem_append.mp hx with z | z
      · have := hds x z; omega
      · rw [show x = wd by simpa using z]; omega
    · obtain ⟨x, hx, hb⟩ := hb
      rw [hg.words x hx] at hb
      cases hb
    · have hrl : (ruleT l).length ≤ 10000 := by unfold ruleT; rw [List.length_map]; omega
      have hf3 := e3 _ _ hf'
      have ha0 := fresh_back e ha
      have af : a ≠ f := fun z => by rw [z, hf'] at ha; cases ha
      by_cases G : GoodT l
      · refine ⟨_, rfl, _, rfl, Or.inl (sp_see_folding0 (sq_of h3) (sq_of hf3) G.ok ruleT_okF H3 (Ex.refl _) _ (fun H4 e4 => ?_) _)⟩
        exact s_retU (eu_tup (ea_cons (ev_var rfl) (ea_cons (ev_var rfl) ea_nil)) (by show 2 ≤ 100000; decide)) fun t H5 ht e5 h5 => qg G t a f H5 (fresh_back ((e.trans e3).trans e4) ht) ha0 hf0 af (((e.trans e3).trans e4).trans e5) h5 (e5 _ _ (e4 _ _ h3)) (e5 _ _ (e4 _ _ hf3))
      · refine ⟨_, rfl, _, rfl, Or.inr ⟨a, f, rfl, Or.inl ⟨ruleT l, sq_of h3, hrl, bad_rule hg G, fun H4 e4 => ⟨Y, fun q hq => qb G H4 ((e.trans e3).trans e4)⟩⟩⟩⟩
end
end Fo

set_option maxHeartbeats 8000000
namespace Fo
open PySem PySem.Spec PyProof.Rows L2 Evl SX
/-- a rule and a folding as a text, the first i hinges -/
def shS (r f : List Int) : Nat → Str
  | 0 => Str.ofString (toString (r.getD 0 0))
  | i + 1 => shS r f i ++ S [if f.getD i 0 = 0 then 43 else 45] ++ Str.ofString (toString (r.getD (i + 1) 0))
theorem shS_len {r : List Int} (f : List Int) (ok : OkR r) : ∀ i, i < r.length → (shS r f i).length ≤ 2 + 3 * i
  | 0, h => (str_len60 (ok.all _ (getD_mem h))).1
  | i + 1, h => by
    have ih := shS_len f ok i (by omega)
    have x := (str_len60 (ok.all _ (getD_mem h))).1
    unfold shS
    rw [Str.length_append, Str.length_append, S_len]
    show (shS r f i).length + 1 + _ ≤ _
    omega
theorem cutS_len (l : List Nat) (lo hi : Option Int) : ∃ m, cutS (S l) lo hi = S m ∧ m.length ≤ l.length := by
  refine ⟨(cutS (S l) lo hi).cps.toList, (S_tl _).symm, ?_⟩
  have h := cutS_length (S l) lo hi
  rw [S_len] at h
  rw [Array.length_toList]
  exact h
section
variable {P : Program} {w : World} {K : PySem.W.Frag} {σ : L2.St} {H H' : Hp} {Q : VK} {E E1 : XK} {vs : List V} {ta : TE} {to tu : TO} {lo hi : Option Int}
def p_shown8 (K : PySem.W.Frag) : Sp := fun vs H Q _ => ∃ a b r f, vs = [.ref a, .ref b] ∧ SqL K H a (iv r) ∧ SqL K H b (iv f) ∧ OkR r ∧ OkF r f ∧ RetV (.str (shS r f f.length)) H Q
theorem n_shown8 (h : p_shown8 K vs H Q E) : vs.length = (["rule", "folding"] : List Str).length := by
  obtain ⟨_, _, _, _, rfl, _⟩ := h
  rfl
theorem r_shown8 (h : p_shown8 K vs H Q E) : t_shown K E1 (p_see_folding0 K) (En Q) (start ["rule", "folding", "text", "k"] vs) H := by
  obtain ⟨a, b, r, f, rfl, hr, hf, ok, okf, q⟩ := h
  have l1 := ok.l1
  have l2 := ok.l12
  have lf := okf.len
  refine q_drop (ev_call (vs := [.ref a, .ref b]) (ea_cons (ev_var rfl) (ea_cons (ev_var rfl) ea_nil)) (sp_see_folding0 hr hf ok okf)) fun H1 e1 => ?_
  have x0 := ok.all _ (getD_mem (i := 0) (by omega))
  refine q_asg (ev_strI (ev_op (ev_var rfl) ev_c (rv_ixL (ex_l e1 hr) (atI_nat (j := 0) (iv_at (getD_of (by omega)))))) (str_len60 x0).2) fun H2 e2 => ?_
  have e02 := e1.trans e2
  refine q_forR1 (n := (f.length : Int)) (ea_cons (ev_is (ev_len (ev_var rfl) (ex_l e02 hf)) (by rw [iv_len])) ea_nil) ⟨by omega, by omega⟩
    (fun i σ' H' => ∃ kv, σ' = [some (.ref a), some (.ref b), some (.str (shS r f i)), kv] ∧ Ex H H') (fun H3 e3 => ⟨_, rfl, e02.trans e3⟩) ?_ ?_
  · rintro i σ' H' hi ⟨kv, rfl, e⟩
    have hi' : i < f.length := by omega
    have hs := shS_len f ok i (by omega)
    have ht := okf.all _ (getD_mem hi')
    have x1 := ok.all _ (getD_mem (l := r) (i := i + 1) (by omega))
    have hcc : atI ("+-" : Str).cps.toList (f.getD i 0) = some (if f.getD i 0 = 0 then 43 else 45) := by
      rcases ht with h | h
      · rw [h]; decide +kernel
      · rw [h]; decide +kernel
    have z1 : (shS r f i ++ (S [if f.getD i 0 = 0 then 43 else 45])).length = (shS r f i).length + 1 := by rw [Str.length_append]; rfl
    exact s_asg (ev_addS (ev_addS (ev_var rfl) (ev_op ev_c (ev_op (ev_var rfl) (ev_var rfl) (rv_ixL (ex_l e hf) (atI_nat (iv_at (getD_of hi'))))) (rv_ixS (by decide +kernel) hcc)) (by show (shS r f i).length + 1 ≤ 100000; omega)) (ev_strI (ev_op (ev_var rfl) (ev_is (ev_op (ev_var rfl) ev_c rv_I0) (congrArg V.int (show (i : Int) + 1 = ((i + 1 : Nat) : Int) by omega))) (rv_ixL (ex_l e hr) (atI_nat (iv_at (getD_of (by omega)))))) (str_len60 x1).2) (by rw [z1]; have := (str_len60 x1).1; omega)) fun H3 e3 => ⟨_, rfl, e.trans e3⟩
  · rintro σ' H' ⟨kv, rfl, e⟩
    exact s_ret (ev_var rfl) fun H3 e3 => q.go (e.trans e3)
theorem sp_shown8 {a b : Addr} {r f : List Int} (hr : SqL K H a (iv r)) (hf : SqL K H b (iv f)) (ok : OkR r) (okf : OkF r f) : SpV (p_shown8 K) [.ref a, .ref b] H (.str (shS r f f.length)) := fun H1 e Q q E => ⟨a, b, r, f, rfl, ex_l e hr, ex_l e hf, ok, okf, fun H2 e2 => q H2 e2⟩
/-! ### the same by the law -/
def p__law_shown (K : PySem.W.Frag) : Sp := p_shown8 K
theorem r__law_shown (h : p__law_shown K vs H Q E) : t__law_shown K E1 (En Q) (start ["rule", "folding", "text", "k"] vs) H := by
  obtain ⟨a, b, r, f, rfl, hr, hf, ok, okf, q⟩ := h
  have l1 := ok.l1
  have l2 := ok.l12
  have lf := okf.len
  have x0 := ok.all _ (getD_mem (i := 0) (by omega))
  refine q_asg (ev_strI (ev_op (ev_var rfl) ev_c (rv_ixL hr (atI_nat (j := 0) (iv_at (getD_of (by omega)))))) (str_len60 x0).2) fun H2 e02 => ?_
  refine q_forR1 (n := (f.length : Int)) (ea_cons (ev_is (ev_len (ev_var rfl) (ex_l e02 hf)) (by rw [iv_len])) ea_nil) ⟨by omega, by omega⟩
    (fun i σ' H' => ∃ kv, σ' = [some (.ref a), some (.ref b), some (.str (shS r f i)), kv] ∧ Ex H H') (fun H3 e3 => ⟨_, rfl, e02.trans e3⟩) ?_ ?_
  · rintro i σ' H' hi ⟨kv, rfl, e⟩
    have hi' : i < f.length := by omega
    have hs := shS_len f ok i (by omega)
    have ht := okf.all _ (getD_mem hi')
    have x1 := ok.all _ (getD_mem (l := r) (i := i + 1) (by omega))
    have hcc : atI ([.str (S [43]), .str (S [45])] : List V) (f.getD i 0) = some (.str (S [if f.getD i 0 = 0 then 43 else 45])) := by
      rcases ht with h | h
      · rw [h]; rfl
      · rw [h]; rfl
    have z1 : (shS r f i ++ (S [if f.getD i 0 = 0 then 43 else 45])).length = (shS r f i).length + 1 := by rw [Str.length_append]; rfl
    refine s_asg (ev_addS (ev_addS (ev_var rfl) (ev_opL1 (xs := [.str (S [43]), .str (S [45])]) (y := .int (f.getD i 0)) (el_lst (ea_cons (ev_c (v := .str (S [43]))) (ea_cons (ev_c (v := .str (S [45]))) ea_nil)) (by show 2 ≤ 100000; decide)) (fun H3 e3 => ev_op (ev_var rfl) (ev_var rfl) (rv_ixL (ex_l (e.trans e3) hf) (atI_nat (iv_at (getD_of hi'))))) fun p H3 hp e3 => rv_ixL (sq_of hp) hcc) (by show (shS r f i).length + 1 ≤ 100000; omega)) (ev_strI (ev_op (ev_var rfl) (ev_is (ev_op (ev_var rfl) ev_c rv_I0) (congrArg V.int (show (i : Int) + 1 = ((i + 1 : Nat) : Int) by omega))) (rv_ixL (ex_l e hr) (atI_nat (iv_at (getD_of (by omega)))))) (str_len60 x1).2) (by rw [z1]; have := (str_len60 x1).1; omega)) fun H3 e3 => ⟨_, rfl, e.trans e3⟩
  · rintro σ' H' ⟨kv, rfl, e⟩
    exact s_ret (ev_var rfl) fun H3 e3 => q.go (e.trans e3)
theorem sp_lshown {a b : Addr} {r f : List Int} (hr : SqL K H a (iv r)) (hf : SqL K H b (iv f)) (ok : OkR r) (okf : OkF r f) : SpV (p__law_shown K) [.ref a, .ref b] H (.str (shS r f f.length)) := sp_shown8 hr hf ok okf
/-! ### a text turned in some way -/
theorem ev_slS {l : List Nat} (h : Ev ta σ H (.str (S l))) (h1 : EvO to σ H lo) (h2 : EvO tu σ H hi) (hz : l.length ≤ 100000) : Ev (tSl rSlS ta to tu) σ H (.str (cutS (S l) lo hi)) := fun H1 e Q q =>
  h H1 e _ fun H2 e2 => h1 H2 (e.trans e2) _ fun H3 e3 => h2 H3 ((e.trans e2).trans e3) _ fun H4 e4 => ⟨S l, rfl, by rw [S_len]; exact sz_of hz, q H4 ((e2.trans e3).trans e4)⟩
def p__law_turned (K : PySem.W.Frag) : Sp := fun vs H Q _ => ∃ l, ∃ way cell : Int, vs = [.str (S l), .int way, .int cell] ∧ l.length ≤ 100 ∧ 0 ≤ cell ∧ ∀ m H', m.length ≤ 300 → Ex H H' → Q (.str (S m)) H'
theorem n__law_turned (h : p__law_turned K vs H Q E) : vs.length = (["text", "way", "cell"] : List Str).length := by
  obtain ⟨_, _, _, rfl, _⟩ := h
  rfl
theorem r__law_turned (h : p__law_turned K vs H Q E) : t__law_turned K E1 (En Q) (start ["text", "way", "cell", "at", "sign"] vs) H := by
  obtain ⟨l, way, cell, rfl, hl, hc, q⟩ := h
  refine q_asg (v := .int (cell % ((l.length : Int) + 1))) (ev_op (ev_var rfl) (ev_op (ev_lenZ (ev_var rfl) (by omega)) ev_c rv_I0) (rv_I (by omega))) fun H1 e1 => ?_
  generalize cell % ((l.length : Int) + 1) = at_
  obtain ⟨c, hcc⟩ : ∃ c : Nat, atI ("0123456789+- _\n\t" : Str).cps.toList (cell / 1009 % 16) = some c := by
    have h16 : ∀ k : Fin 16, ∃ c : Nat, atI ("0123456789+- _\n\t" : Str).cps.toList ((k.val : Nat) : Int) = some c := by
      intro k
      have hh : (atI ("0123456789+- _\n\t" : Str).cps.toList ((k.val : Nat) : Int)).isSome = true := by
        revert k
        decide +kernel
      exact Option.isSome_iff_exists.mp hh
    obtain ⟨c, h⟩ := h16 ⟨(cell / 1009 % 16).toNat, by omega⟩
    rw [show (((⟨(cell / 1009 % 16).toNat, by omega⟩ : Fin 16).val : Nat) : Int) = cell / 1009 % 16 by show (((cell / 1009 % 16).toNat : Nat) : Int) = _; omega] at h
    exact ⟨c, h⟩
  refine q_asg (v := .str (S [c])) (ev_op ev_c (ev_op (ev_op (ev_var rfl) ev_c (rv_I ⟨by decide, by decide⟩)) ev_c (rv_I (by decide))) (rv_ixS (by decide +kernel) hcc)) fun H2 e2 => ?_
  have e02 := e1.trans e2
  obtain ⟨m1, c1, z1⟩ := cutS_len l none (some at_)
  obtain ⟨m2, c2, z2⟩ := cutS_len l (some at_) none
  obtain ⟨m3, c3, z3⟩ := cutS_len l (some (at_ + 1)) none
  have s1 : ∀ Hx, Ev (tSl rSlS (tVar 0) tNoPart (tPart (tVar 3))) [some (.str (S l)), some (.int way), some (.int cell), some (.int at_), some (.str (S [c]))] Hx (.str (S m1)) := fun Hx => ev_is (ev_slS (ev_var rfl) eo_none (eo_some (ev_var rfl)) (by omega)) (by rw [c1])
  have s2 : ∀ Hx, Ev (tSl rSlS (tVar 0) (tPart (tVar 3)) tNoPart) [some (.str (S l)), some (.int way), some (.int cell), some (.int at_), some (.str (S [c]))] Hx (.str (S m2)) := fun Hx => ev_is (ev_slS (ev_var rfl) (eo_some (ev_var rfl)) eo_none (by omega)) (by rw [c2])
  have s3 : ∀ Hx, Ev (tSl rSlS (tVar 0) (tPart (tOp rAddI (tVar 3) (tC (.int 1)))) tNoPart) [some (.str (S l)), some (.int way), some (.int cell), some (.int at_), some (.str (S [c]))] Hx (.str (S m3)) := fun Hx => ev_is (ev_slS (ev_var rfl) (eo_some (ev_op (ev_var rfl) ev_c rv_I0)) eo_none (by omega)) (by rw [c3])
  have l1 : (m1 ++ [c]).length = m1.length + 1 := by simp
  refine q_when (b := decide (V.int way = V.int 1)) (et_test (ev_op (ev_var rfl) ev_c (rv_eq rfl))) (fun _ H3 e3 => s_ret (ev_addZ (ev_addZ (s1 _) (ev_var rfl) (by show m1.length + 1 ≤ 100000; omega)) (s2 _) (by omega)) fun H4 e4 => q _ H4 (by rw [List.length_append]; omega) ((e02.trans e3).trans e4)) (fun _ H3 e3 => ?_)
  refine q_when (b := decide (V.int way = V.int 2)) (et_test (ev_op (ev_var rfl) ev_c (rv_eq rfl))) (fun _ H4 e4 => s_ret (ev_addZ (ev_addZ (s1 _) (ev_var rfl) (by show m1.length + 1 ≤ 100000; omega)) (s3 _) (by omega)) fun H5 e5 => q _ H5 (by rw [List.length_append]; omega) (((e02.trans e3).trans e4).trans e5)) (fun _ H4 e4 => ?_)
  refine q_when (b := decide (V.int way = V.int 3)) (et_test (ev_op (ev_var rfl) ev_c (rv_eq rfl))) (fun _ H5 e5 => s_ret (ev_addZ (s1 _) (s3 _) (by omega)) fun H6 e6 => q _ H6 (by rw [List.length_append]; omega) ((((e02.trans e3).trans e4).trans e5).trans e6)) (fun _ H5 e5 => ?_)
  exact s_ret (ev_var rfl) fun H6 e6 => q _ H6 (by omega) ((((e02.trans e3).trans e4).trans e5).trans e6)
theorem sr_turned {l : List Nat} {way cell : Int} (hl : l.length ≤ 100) (hc : 0 ≤ cell) : SpR (p__law_turned K) [.str (S l), .int way, .int cell] H (fun v _ => ∃ m, v = .str (S m) ∧ m.length ≤ 300) := fun H1 e Q q E => ⟨l, way, cell, rfl, hl, hc, fun m H2 hm e2 => q _ H2 e2 ⟨m, rfl, hm⟩⟩
end
end Fo

set_option maxHeartbeats 8000000
namespace Fo
open PySem PySem.Spec PyProof.Rows L2 Evl SX
theorem max_ex : ∀ l : List Int, l ≠ [] → ∃ m ∈ l, ∀ y ∈ l, y ≤ m
  | [], h => absurd rfl h
  | [x], _ => ⟨x, List.mem_cons_self, fun y hy => by rw [List.mem_singleton.mp hy]; exact Int.le_refl _⟩
  | x :: z :: l, _ => by
    obtain ⟨m, hm, hle⟩ := max_ex (z :: l) (by simp)
    by_cases h : x ≤ m
    · refine ⟨m, List.mem_cons_of_mem _ hm, fun y hy => ?_⟩
      rcases List.mem_cons.mp hy with rfl | hy
      · exact h
      · exact hle y hy
    · refine ⟨x, List.mem_cons_self, fun y hy => ?_⟩
      rcases List.mem_cons.mp hy with rfl | hy
      · exact Int.le_refl _
      · have := hle y hy; omega
theorem cutLast (r : List Int) (x : Int) : cutV (iv (r ++ [x])) none (some (-1)) = iv r := by
  have e2 : HT.sIx (iv (r ++ [x])).length (iv (r ++ [x])).length (some (-1)) = r.length := by
    rw [iv_len, List.length_append]
    unfold HT.sIx
    simp
    omega
  have e1 : HT.sIx (iv (r ++ [x])).length 0 none = 0 := rfl
  unfold cutV
  rw [e1, e2, List.drop_zero, Nat.sub_zero]
  simp [iv]
section
variable {P : Program} {w : World} {K : PySem.W.Frag} {σ : L2.St} {H H' : Hp} {Q : VK} {E E1 : XK} {vs : List V}
def p__law_due (K : PySem.W.Frag) : Sp := fun vs H Q _ => ∃ l, vs = [.str (S l)] ∧ l.length ≤ 900 ∧
  (GoodT l → ∀ a p q H', Ex H H' → H' a = some (.tup [.ref p, .ref q]) → H' p = some (.lst (iv (ruleT l))) → H' q = some (.lst (iv (signsOf l))) → Q (.ref a) H') ∧
  (¬ GoodT l → ∀ H', Ex H H' → Q .non H')
theorem n__law_due (h : p__law_due K vs H Q E) : vs.length = (["text"] : List Str).length := by
  obtain ⟨_, rfl, _⟩ := h
  rfl
theorem r__law_due (h : p__law_due K vs H Q E) : t__law_due K E1 (En Q) (start ["text", "rule", "folding", "word", "sign"] vs) H := by
  obtain ⟨l, rfl, hz, qg, qb⟩ := h
  refine q_asgL (xs := iv []) (el_lst ea_nil (by decide)) fun p H1 hp e1 h1 => ?_
  refine q_asgL (xs := iv []) (el_lst ea_nil (by decide)) fun f H2 hf e2 h2 => ?_
  have e02 := e1.trans e2
  have hf0 := fresh_back e1 hf
  have pf : p ≠ f := fun z => by rw [z, hf] at h1; cases h1
  refine q_asg (v := .str (S [])) ev_c fun H3 e3 => ?_
  have hsep43 : sepB 43 = true := rfl
  refine q_forS (l := l ++ [43]) (ev_addZ (m := [43]) (ev_var rfl) (ev_c (v := .str (S [43]))) (by show l.length + 1 ≤ 100000; omega)) (fun i σ' H' => ∃ ds wd kv, σ' = [some (.str (S l)), some (.ref p), some (.ref f), some (.str (S wd)), kv] ∧ Ex H H' ∧ H' p = some (.lst (iv (ds.map numW))) ∧ H' f = some (.lst (iv (signsOf ((l ++ [43]).take i)))) ∧
    wordsOf (l ++ [43]) = ds ++ preW wd (wordsOf ((l ++ [43]).drop i)) ∧ wd.length ≤ i ∧ wd.all digB = true ∧ ∀ x ∈ ds, goodW x = true) ?_ ?_ ?_
  · exact fun H4 e4 => ⟨[], [], _, rfl, (e02.trans e3).trans e4, e4 _ _ (e3 _ _ (e2 _ _ h1)), e4 _ _ (e3 _ _ h2), (preW_nil (words_ne _)).symm, Nat.le_refl _, rfl, fun x hx => (by cases hx)⟩
  · rintro i c σ' H' hi ⟨ds, wd, kv, rfl, e, hp', hf', hw, hwl, hdig, hds⟩
    have hil := (List.getElem?_eq_some_iff.mp hi).1
    have hil2 : i < l.length + 1 := by rw [List.length_append] at hil; exact hil
    have hdl : ds.length + 1 ≤ l.length + 2 := by
      have h1 := preW_sum (l ++ [43]) hw
      rw [words_len] at h1
      have := signs_le (l ++ [43])
      rw [List.length_append] at this
      have h3 : [43].length = 1 := rfl
      omega
    have hdrop : (l ++ [43]).drop i = c :: (l ++ [43]).drop (i + 1) := by
      rw [List.drop_eq_getElem_cons hil]
      congr 1
      exact (List.getElem?_eq_some_iff.mp hi).2
    have htake : (l ++ [43]).take (i + 1) = (l ++ [43]).take i ++ [c] := by rw [List.take_add_one, hi]; rfl
    have hsl := signs_le ((l ++ [43]).take i)
    rw [List.length_take] at hsl
    refine s_if (b := sepB c) (et_sep rfl) (fun hs H4 e4 => ?_) (fun hs H4 e4 => ?_)
    · have hw2 : wordsOf (l ++ [43]) = ds ++ wd :: wordsOf ((l ++ [43]).drop (i + 1)) := by
        rw [hw, hdrop, step_sep hs, preW_nil (words_ne _)]
      have hmem := done_mem (done := []) hw2
      refine q_when (b := decide (wd = []) || (decide ((2 : Int) < (wd.length : Int)) || decide (wd.head? = some 48))) (et_or (et_test (ev_is (ev_op (ev_var rfl) (ev_c (v := .str (S []))) (rv_eq rfl)) dec_S)) fun hne => et_or (et_test (ev_op (ev_lenZ (ev_var rfl) (by omega)) ev_c rv_I0)) fun _ => ?_) (fun hc H5 e5 => ?_) (fun hc H5 e5 => ?_)
      · cases wd with
        | nil => cases hne
        | cons d r =>
          refine et_test (ev_is (ev_op (ev_op (ev_var rfl) ev_c (rv_ixZ (c := d) (by omega) (atI_nat (j := 0) rfl))) (ev_c (v := .str (S [48]))) (rv_eq rfl)) ?_)
          rw [dec_1]
          congr 1
          rw [Bool.eq_iff_iff, decide_eq_true_eq, decide_eq_true_eq]
          simp
      · refine s_ret ev_c fun H6 e6 => qb (fun hg => ?_) H6 (((e.trans e4).trans e5).trans e6)
        have hgw := hg.words _ hmem
        unfold goodW at hgw
        simp only [Bool.and_eq_true, decide_eq_true_eq, Bool.not_eq_true', decide_eq_false_iff_not] at hgw
        simp only [Bool.or_eq_true, decide_eq_true_eq] at hc
        rcases hc with hc | hc | hc
        · rw [hc] at hgw; exact absurd hgw.1 (by decide)
        · omega
        · exact hgw.2.2.1 hc
      · simp only [Bool.or_eq_false_iff, decide_eq_false_iff_not] at hc
        have hgw : goodW wd = true := by
          unfold goodW
          simp only [Bool.and_eq_true, decide_eq_true_eq, Bool.not_eq_true', decide_eq_false_iff_not]
          have : wd.length ≠ 0 := fun z => hc.1 (List.length_eq_zero_iff.mp z)
          exact ⟨by omega, by omega, hc.2.2, hdig⟩
        have hp5 := e5 _ _ (e4 _ _ hp')
        refine q_app (xs := iv (ds.map numW)) hp5 (ev_var rfl) (ev_intS (ev_var rfl) (int_word hgw) (by omega)) (by rw [iv_len, List.length_map]; omega) fun H6 e6 => ?_
        have hf6 : upd H6 p (.lst (iv (ds.map numW) ++ [V.int (numW wd)])) f = some (.lst (iv (signsOf ((l ++ [43]).take i)))) := by
          rw [upd_ne pf.symm]
          exact e6 _ _ (e5 _ _ (e4 _ _ hf'))
        have hp6 : upd H6 p (.lst (iv (ds.map numW) ++ [V.int (numW wd)])) p = some (.lst (iv ((ds ++ [wd]).map numW))) := by
          rw [upd_same]
          simp [iv]
        have eX : Ex H (upd H6 p (.lst (iv (ds.map numW) ++ [V.int (numW wd)]))) := Ex.mut (((e.trans e4).trans e5).trans e6) hp
        generalize upd H6 p (.lst (iv (ds.map numW) ++ [V.int (numW wd)])) = H7 at hf6 hp6 eX
        refine q_app (xs := iv (signsOf ((l ++ [43]).take i))) hf6 (ev_var rfl) (ev_dash rfl) (by rw [iv_len]; omega) fun H8 e8 => ?_
        refine s_asg (v := .str (S [])) ev_c fun H9 e9 => ⟨ds ++ [wd], [], _, rfl, (Ex.mut (eX.trans e8) hf0).trans e9, e9 _ _ (by rw [upd_ne pf]; exact e8 _ _ hp6), e9 _ _ ?_, ?_, Nat.zero_le _, rfl, ?_⟩
        · rw [upd_same, htake, signs_sep hs]
          simp [iv]
        · rw [hw2, preW_nil (words_ne _)]
          simp
        · intro x hx
          rcases List.mem_append.mp hx with z | z
          · exact hds x z
          · rw [show x = wd by simpa using z]; exact hgw
    · have hstep : wordsOf (l ++ [43]) = ds ++ preW (wd ++ [c]) (wordsOf ((l ++ [43]).drop (i + 1))) := by rw [hw, hdrop, step_no hs]
      refine s_if (b := !digB c) (et_test (ev_op (ev_var rfl) ev_c rv_fig)) (fun hb H5 e5 => ?_) (fun hb H5 e5 => ?_)
      · refine s_ret ev_c fun H6 e6 => qb (fun hg => ?_) H6 (((e.trans e4).trans e5).trans e6)
        have hne := words_ne ((l ++ [43]).drop (i + 1))
        cases hrest : wordsOf ((l ++ [43]).drop (i + 1)) with
        | nil => exact hne hrest
        | cons x xs =>
          rw [hrest] at hstep
          have hm := begun_mem (word := wd ++ [c] ++ x) (by simp) hstep
          have hgw := hg.words _ hm
          unfold goodW at hgw
          simp only [Bool.and_eq_true] at hgw
          have := List.all_eq_true.mp hgw.2.2.2 c (by simp)
          rw [this] at hb
          cases hb
      · rw [Bool.not_eq_false'] at hb
        refine s_asg (ev_addZ (l := wd) (m := [c]) (ev_var rfl) (ev_var rfl) (by show wd.length + 1 ≤ 100000; omega)) fun H6 e6 => ⟨ds, wd ++ [c], _, rfl, ((e.trans e4).trans e5).trans e6, e6 _ _ (e5 _ _ (e4 _ _ hp')), e6 _ _ (e5 _ _ (e4 _ _ (by rw [htake, signs_no hs]; exact hf'))), hstep, by rw [List.length_append]; exact Nat.succ_le_succ hwl, by rw [List.all_append, hdig]; show (true && (digB c && true)) = true; rw [hb]; rfl, hds⟩
  · rintro σ' H' ⟨ds, wd, kv, rfl, e, hp', hf', hw, hwl, hdig, hds⟩
    rw [List.take_length, signs_sep hsep43] at hf'
    rw [List.drop_length, words_snoc] at hw
    have hw2 : wordsOf l ++ [[]] = ds ++ [wd] := by rw [hw]; show ds ++ [wd ++ []] = _; rw [List.append_nil]
    have hds2 : ds = wordsOf l := (List.append_inj' hw2 rfl).1.symm
    rw [hds2] at hp' hds
    have hrl : (ruleT l).length = (wordsOf l).length := by unfold ruleT; rw [List.length_map]
    have hwn : (wordsOf l).length ≠ 0 := fun z => words_ne l (List.length_eq_zero_iff.mp z)
    obtain ⟨m, hm, hle⟩ := max_ex (ruleT l) (fun z => by rw [z] at hrl; exact hwn hrl.symm)
    refine q_when (b := decide ((12 : Int) < ((ruleT l).length : Int)) || decide ((60 : Int) < m)) (et_or (et_test (ev_op (ev_is (ev_len (ev_var rfl) (sq_of hp')) (by rw [iv_len]; rfl)) ev_c rv_I0)) fun _ => et_test (ev_op (ev_maxL (ns := ruleT l) (ev_var rfl) (sq_of hp') hm hle) ev_c rv_I0)) (fun hc H3 e3 => ?_) (fun hc H3 e3 => ?_)
    · refine s_ret ev_c fun H4 e4 => qb (fun hg => ?_) H4 ((e.trans e3).trans e4)
      simp only [Bool.or_eq_true, decide_eq_true_eq] at hc
      rcases hc with hc | hc
      · have := hg.few; omega
      · have := (hg.ok.all m hm).2; omega
    · simp only [Bool.or_eq_false_iff, decide_eq_false_iff_not] at hc
      have G : GoodT l := ⟨hds, by omega, fun x hx => by
        have := hle _ (List.mem_map.mpr ⟨x, hx, rfl⟩)
        omega⟩
      have hf3 := e3 _ _ hf'
      have hsl := el_sl (K := K) (te := tVar 2) (tl := tNoPart) (th := tPart (tUn rNegI (tC (.int 1)))) (σ := [some (.str (S l)), some (.ref p), some (.ref f), some (.str (S wd)), kv]) (lo := none) (hi := some (-1)) (ev_var rfl) eo_none (eo_some (ev_un ev_c ru_neg)) (sq_of hf3)
      rw [cutLast] at hsl
      refine s_retR (er_tup2 (x := .ref p) (ys := iv (signsOf l)) (ev_var rfl) hsl) fun v H4 e4 hv => ?_
      obtain ⟨a, b, rfl, ha, _, hb⟩ := hv
      exact qg G a p b H4 ((e.trans e3).trans e4) ha (e4 _ _ (e3 _ _ hp')) hb
def DueAt (H : Hp) (l : List Nat) (v : V) : Prop := (GoodT l ∧ ∃ a p q, v = .ref a ∧ H a = some (.tup [.ref p, .ref q]) ∧ H p = some (.lst (iv (ruleT l))) ∧ H q = some (.lst (iv (signsOf l)))) ∨ (¬ GoodT l ∧ v = .non)
theorem sr_due {l : List Nat} (hl : l.length ≤ 900) : SpR (p__law_due K) [.str (S l)] H (fun v H2 => DueAt H2 l v) := fun H1 e Q q E => ⟨l, rfl, hl, fun G a p f H2 e2 h1 h2 h3 => q _ H2 e2 (.inl ⟨G, a, p, f, rfl, h1, h2, h3⟩), fun G H2 e2 => q _ H2 e2 (.inr ⟨G, rfl⟩)⟩
/-! ### what read tells -/
def ToldAt (K : PySem.W.Frag) (H H' : Hp) (l : List Nat) (v : V) : Prop := (GoodT l ∧ ∃ a p q, v = .ref a ∧ H p = none ∧ p ≠ q ∧ H' a = some (.tup [.ref p, .ref q]) ∧ H' p = some (.lst (iv (ruleT l))) ∧ H' q = some (.lst (iv (signsOf l)))) ∨
  (¬ GoodT l ∧ ∃ a, v = .ref a ∧ H' a = some (ExE (.ref (He.ga K "NoText")) none a))
def p__law_told (P : Program) (w : World) (K : PySem.W.Frag) : Sp := fun vs H Q _ => ∃ l, Sees K ∧ Xs K "NoText" 3 ∧ vs = [.str (S l)] ∧ l.length ≤ 900 ∧ ∀ v H', Ex H H' → ToldAt K H H' l v → Q v H'
theorem n__law_told (h : p__law_told P w K vs H Q E) : vs.length = (["text"] : List Str).length := by
  obtain ⟨_, _, _, rfl, _⟩ := h
  rfl
theorem r__law_told (h : p__law_told P w K vs H Q E) : t__law_told K E1 (p_readC P w K) (En Q) (start ["text", "found", "e"] vs) H := by
  obtain ⟨l, Z, Y, rfl, hz, q⟩ := h
  refine q_asg ev_c fun H1 e1 => ?_
  let REST : TS := tRet (tVar 1)
  let DD : Ends := { En Q with nx := REST (En Q) }
  have A : EvA (tCons (tVar 0) tNil) [some (.str (S l)), some .non, none] H1 [.str (S l)] := ea_cons (ev_var rfl) ea_nil
  show (tCons (tVar 0) tNil) [some (.str (S l)), some .non, none] H1 (fun vs H2 => p_readC P w K vs H2 (fun v H3 => gName 1 v [some (.str (S l)), some .non, none] H3 (REST (En Q)))
    (WE (wKeep K (Value.ref (He.ga K "RuleError")) 2 (fun _ _ _ => tAsg (tVar 2) (gName 1)) DD) [some (.str (S l)), some .non, none]))
  refine A H1 (Ex.refl _) _ fun H2 e2 => ⟨l, Z, rfl, hz, fun G a p f H3 na np nf pf e3 h1 h2 h3 => ?_, fun G H3 e3 => ⟨Y.em, fun b hb => ?_⟩⟩
  · exact s_ret (σ := [some (.str (S l)), some (.ref a), none]) (te := tVar 1) (ev_var rfl) fun H4 e4 => q _ H4 (((e1.trans e2).trans e3).trans e4) (.inl ⟨G, a, p, f, rfl, fresh_back (e1.trans e2) np, pf, e4 _ _ h1, e4 _ _ h2, e4 _ _ h3⟩)
  · refine s_asg (ev_var (v := .ref b) rfl) fun H4 e4 => ?_
    have e04 := ((e1.trans e2).trans e3).trans e4
    have hb0 : H b = none := fresh_back ((e1.trans e2).trans e3) hb
    have eX : Ex H (upd H4 b (ExE (.ref (He.ga K "NoText")) none b)) := Ex.mut e04 hb0
    have hX : upd H4 b (ExE (.ref (He.ga K "NoText")) none b) b = some (ExE (.ref (He.ga K "NoText")) none b) := upd_same
    show REST (En Q) [some (.str (S l)), some (.ref b), none] (upd H4 b (ExE (.ref (He.ga K "NoText")) none b))
    generalize upd H4 b (ExE (.ref (He.ga K "NoText")) none b) = H5 at eX hX
    exact s_ret (te := tVar 1) (ev_var rfl) fun H6 e6 => q _ H6 (eX.trans e6) (.inr ⟨G, b, rfl, e6 _ _ hX⟩)
theorem sr_told {l : List Nat} (Z : Sees K) (Y : Xs K "NoText" 3) (hl : l.length ≤ 900) : SpR (p__law_told P w K) [.str (S l)] H (fun v H2 => ToldAt K H H2 l v) := fun H1 e Q q E => ⟨l, Z, Y, rfl, hl, fun v H2 e2 t => q v H2 e2 (by
  rcases t with ⟨G, a, p, f, h1, h2, h3⟩ | t
  · exact .inl ⟨G, a, p, f, h1, fresh_back e h2, h3⟩
  · exact .inr t)⟩
end
end Fo

set_option maxHeartbeats 8000000
namespace Fo
open PySem PySem.Spec PyProof.Rows L2 Evl SX
def Zs (K : PySem.W.Frag) : Prop := Sees K ∧ Xs K "NoText" 3
def zsF (K : PySem.W.Frag) : Bool := xsF K "NoText" 3 && decide (PySem.W.exmAny K (.ref (He.ga K "BadRule")) [.ref (He.ga K "BadRule"), .ref (He.ga K "BadFolding")] = some true)
theorem zsF_ok {K : PySem.W.Frag} (h : zsF K = true) : Zs K := by
  unfold zsF at h
  rw [Bool.and_eq_true, decide_eq_true_eq] at h
  exact ⟨h.2, xsF_ok h.1⟩
/-- 1+ twelve times -/
def ones : List Nat := [49, 43, 49, 43, 49, 43, 49, 43, 49, 43, 49, 43, 49, 43, 49, 43, 49, 43, 49, 43, 49, 43, 49, 43]
theorem ones_eq : S ones = ("1+1+1+1+1+1+1+1+1+1+1+1+" : Str) := by decide +kernel
def odd7 : List (List Nat) := [[], [43], [49, 43], [45, 49], [54, 49], ones ++ [49], [48, 48]]
theorem sh_list (r f : List Int) (ok : OkR r) (okf : OkF r f) : ∃ l, shS r f f.length = S l ∧ l.length ≤ 100 := by
  refine ⟨(shS r f f.length).cps.toList, (S_tl _).symm, ?_⟩
  have h1 := okf.len
  have h2 := ok.l12
  have h3 := ok.l1
  have h := shS_len f ok f.length (by omega)
  rw [Array.length_toList]
  show (shS r f f.length).length ≤ 100
  omega
section
variable {P : Program} {w : World} {K : PySem.W.Frag} {σ : L2.St} {H H' : Hp} {Q : VK} {E E1 : XK} {vs : List V} {ta : TE} {x : V}
theorem rv_mul : RV rMulS (.str "1+") (.int 12) H (.str (S ones)) := fun H1 e Q q => ⟨rfl, rfl, by rw [← ones_eq]; exact q H1 (Ex.refl _)⟩
theorem ev_lenT8 {p : Addr} {xs : List V} (ha : Ev ta σ H (.ref p)) (h : H p = some (.tup xs)) : Ev (tCB (rLenS K) (tCons ta tNil)) σ H (.int (xs.length : Int)) := fun H1 e Q q =>
  ha H1 e _ fun H2 e2 => ⟨p, xs, rfl, Or.inr (st_of (e2 _ _ (e _ _ h))), q H2 e2⟩
theorem rv_notN : RV rNotN x .non H (.bl (!decide (x = .non))) := fun H1 e Q q => ⟨rfl, q H1 (Ex.refl _)⟩
theorem r_law_k08 (Y : Zs K) (h : p_law K vs H Q E) : t_law_k08 K E1 (p__law_draw K) (p__law_rule K) (p__law_folding K) (p__law_shown K) (p_shown8 K) (p__law_turned K) (p__law_due K) (p__law_told P w K) (p__law_alone K) (p__law_numbers K) (En Q)
    (start ["script", "pieces", "rule", "folding", "due", "handed", "text", "turn", "found"] vs) H := by
  obtain ⟨a, ns, rfl, hS, q⟩ := h
  obtain ⟨p1, p2⟩ := pieces_ok ns 1 12 (by decide)
  have pe := pieces_eq ns 1 12 (by decide)
  generalize piecesOf ns 1 12 = np at p1 p2 pe
  refine q_asg (v := .int np) (ev_is (ev_op ev_c (ev_op (ev_call (vs := [.ref a, .int ((1 : Nat) : Int)]) (ea_cons (ev_var rfl) (ea_cons ev_c ea_nil)) (sp_draw hS (by decide))) ev_c (rv_I (by decide))) rv_I0) (congrArg V.int pe)) fun H1 e1 => ?_
  have S1 := ex_l e1 hS
  refine q_asgL (el_call (vs := [.ref a, .int np]) (ea_cons (ev_var rfl) (ea_cons (ev_var rfl) ea_nil)) (sl_rule S1 p1 p2)) fun ra H2 hra e2 h2 => ?_
  have ok := rule_ok ns np p1 p2
  have okf := fold_ok ns 30 np (ruleOf ns np) (rule_len ns np) p1
  refine q_asgL (el_call (vs := [.ref a, .int ((30 : Nat) : Int), .int np]) (ea_cons (ev_var rfl) (ea_cons ev_c (ea_cons (ev_var rfl) ea_nil))) (sl_folding (ex_l e2 S1) p1 p2 (by decide))) fun fa H3 hfa e3 h3 => ?_
  generalize ruleOf ns np = r at ok okf h2
  generalize foldOf ns 30 np = f at okf h3
  have R3 := e3 _ _ h2
  have S3 := ex_l (e2.trans e3) S1
  obtain ⟨l, hl, hlz⟩ := sh_list r f ok okf
  -- due
  refine q_asg (v := .str (shS r f f.length)) (ev_call (vs := [.ref ra, .ref fa]) (ea_cons (ev_var rfl) (ea_cons (ev_var rfl) ea_nil)) (sp_lshown (sq_of R3) (sq_of h3) ok okf)) fun H4 e4 => ?_
  refine q_asgR (er_pair (el_list (ev_var rfl) (sq_of (e4 _ _ R3))) (el_list (ev_var rfl) (sq_of (e4 _ _ h3)))) fun v H5 e5 hv => ?_
  obtain ⟨hp, ha, hb, rfl, hp0, hp1, ha0, hb0, ha1, hb1⟩ := hv
  refine q_asg (v := .str (shS r f f.length)) (ev_call (vs := [.ref ha, .ref hb]) (ea_cons (ev_op (ev_var rfl) ev_c (rv_ixL (sq_of hp1) (atI_nat (j := 0) rfl))) (ea_cons (ev_op (ev_var rfl) ev_c (rv_ixL (sq_of hp1) (atI_nat (j := 1) rfl))) ea_nil)) (sp_shown8 (sq_of ha1) (sq_of hb1) ok okf)) fun H6 e6 => ?_
  rw [hl]
  have e36 := (e4.trans e5).trans e6
  refine q_when (b := (!true) || ((!true) || !true)) (et_or (et_not (et_B (ev_isi (ev_var rfl) ev_c (.ty _) (fun H1 e => .base (.str _)) (kit_ty (by decide +kernel))))) fun _ => et_or (et_test (ev_is (ev_op (ev_var rfl) (ev_var rfl) (rv_ne rfl)) (by rw [decide_eq_true rfl]))) fun _ =>
    et_test (ev_is (ev_ne2 (sq_of (e6 _ _ hp1)) (sq_of (e6 _ _ ha1)) (sq_of (e6 _ _ hb1)) (sq_of (e36 _ _ R3)) (sq_of (e36 _ _ h3)) (ev_var rfl) (ev_var rfl) (ev_var rfl)) (by rw [decide_eq_true rfl]))) (fun hc => by cases hc) (fun _ H7 e7 => ?_)
  have S7 := ex_l (e36.trans e7) S3
  -- text
  refine q_asgR (er_call (vs := [.str (S l), .int (draw ns 91 % 4), .int (draw ns 92)]) (ea_cons (ev_var rfl) (ea_cons (ev_op (ev_call (vs := [.ref a, .int ((91 : Nat) : Int)]) (ea_cons (ev_var rfl) (ea_cons ev_c ea_nil)) (sp_draw S7 (by decide))) ev_c (rv_I (by decide))) (ea_cons (ev_call (vs := [.ref a, .int ((92 : Nat) : Int)]) (ea_cons (ev_var rfl) (ea_cons ev_c ea_nil)) (sp_draw S7 (by decide))) ea_nil))) (sr_turned hlz (draw_nn ns 92))) fun v H8 e8 hv => ?_
  obtain ⟨m, rfl, hm⟩ := hv
  have S8 := ex_l e8 S7
  obtain ⟨j, hj, ej⟩ : ∃ j : Nat, j < 7 ∧ draw ns 92 % 7 = (j : Int) := ⟨(draw ns 92 % 7).toNat, by have := draw_nn ns 92; omega, by have := draw_nn ns 92; omega⟩
  obtain ⟨od, hod, hodz⟩ : ∃ od, (odd7.map fun w => V.str (S w))[j]? = some (.str (S od)) ∧ od.length ≤ 300 := by
    match j, hj with
    | 0, _ => exact ⟨_, rfl, by decide⟩
    | 1, _ => exact ⟨_, rfl, by decide⟩
    | 2, _ => exact ⟨_, rfl, by decide⟩
    | 3, _ => exact ⟨_, rfl, by decide⟩
    | 4, _ => exact ⟨_, rfl, by decide⟩
    | 5, _ => exact ⟨_, rfl, by decide⟩
    | 6, _ => exact ⟨_, rfl, by decide⟩
  refine q_ifAsgR (b := decide (V.int (draw ns 93 % 16) = V.int 1)) (R := fun v _ => v = .str (S od)) (fun σ' H' => ∃ m : List Nat, σ' = [some (.ref a), some (.int np), some (.ref ra), some (.ref fa), some (.str (S l)), some (.ref hp), some (.str (S m)), none, none] ∧ m.length ≤ 300 ∧ Ex H8 H')
    (et_test (ev_op (ev_op (ev_call (vs := [.ref a, .int ((93 : Nat) : Int)]) (ea_cons (ev_var rfl) (ea_cons ev_c ea_nil)) (sp_draw S8 (by decide))) ev_c (rv_I (by decide))) ev_c (rv_eq rfl)))
    (fun _ H1 e1 Q1 q1 => ev_opL1 (z := .str (S od)) (xs := odd7.map fun w => V.str (S w)) (y := .int (j : Int)) (el_lst (ea_cons (ev_c (v := .str (S []))) (ea_cons (ev_c (v := .str (S [43]))) (ea_cons (ev_c (v := .str (S [49, 43]))) (ea_cons (ev_c (v := .str (S [45, 49]))) (ea_cons (ev_c (v := .str (S [54, 49]))) (ea_cons (ev_addZ (l := ones) (m := [49]) (ev_op ev_c ev_c rv_mul) (ev_c (v := .str (S [49]))) (by decide)) (ea_cons (ev_c (v := .str (S [48, 48]))) ea_nil))))))) (by show 7 ≤ 100000; decide))
      (fun H9 e9 => ev_is (ev_op (ev_call (vs := [.ref a, .int ((92 : Nat) : Int)]) (ea_cons (ev_var rfl) (ea_cons ev_c ea_nil)) (sp_draw (ex_l e9 S8) (by decide))) ev_c (rv_I (by decide))) (congrArg V.int ej)) (fun p H9 hp e9 => rv_ixL (sq_of hp) (atI_nat hod)) H1 e1 Q1 fun H2 e2 => q1 _ H2 e2 rfl)
    (fun _ v H1 e1 hv => ⟨od, by rw [hv]; rfl, hodz, e1⟩) (fun _ H1 e1 => ⟨m, rfl, hm, e1⟩) ?_
  rintro σ' H9 ⟨tx, rfl, htx, e9⟩
  have S9 := ex_l e9 S8
  refine q_asgR (er_call (vs := [.str (S tx)]) (ea_cons (ev_var rfl) ea_nil) (sr_due (by omega))) fun du H10 e10 hd => ?_
  refine q_forR1 (n := 2) (ea_cons ev_c ea_nil) ⟨by decide, by decide⟩
    (fun i σ' H' => ∃ cv dv, σ' = [some (.ref a), some (.int np), some (.ref ra), some (.ref fa), some du, some (.ref hp), some (.str (S tx)), cv, dv] ∧ Ex H10 H')
    (fun H11 e11 => ⟨_, _, rfl, e11⟩) ?_ ?_
  · rintro k σ' H11 hk ⟨cv, dv, rfl, e11⟩
    refine q_asgR (er_call (vs := [.str (S tx)]) (ea_cons (ev_var rfl) ea_nil) (sr_told Y.1 Y.2 (by omega))) fun fo H12 e12 ht => ?_
    rcases hd with ⟨G, d, dp, dq, rfl, hd1, hd2, hd3⟩ | ⟨G, rfl⟩
    · rcases ht with ⟨_, t, tp, tq, rfl, ntp, pq, ht1, ht2, ht3⟩ | ⟨G2, _⟩
      · have eD := e11.trans e12
        have D1 := eD _ _ hd1
        have D2 := eD _ _ hd2
        have D3 := eD _ _ hd3
        have ok2 := G.ok
        have okf2 := ruleT_okF (t := tx)
        have l12 := ok2.l12
        have lf := okf2.len
        refine q_when (b := false && false) (et_and (et_test (ev_is (ev_op (ev_var rfl) ev_c rv_isNB) rfl)) fun hh => by cases hh) (fun hc => by cases hc) (fun _ H13 e13 => ?_)
        refine s_when (b := !false) (et_test (ev_is (ev_op (ev_var rfl) ev_c rv_notN) rfl)) (fun _ H14 e14 => ?_) (fun hc => by cases hc)
        have e1214 := e13.trans e14
        have i0 : ∀ (Hx : Hp), Ex H12 Hx → Ev (tOp (rIxT K) (tVar 8) (tC (.int 0))) [some (.ref a), some (.int np), some (.ref ra), some (.ref fa), some (.ref d), some (.ref hp), some (.str (S tx)), some (.int (k : Int)), some (.ref t)] Hx (.ref tp) := fun Hx ex => ev_op (ev_var rfl) ev_c (rv_ixT (st_of (ex _ _ ht1)) (atI_nat (j := 0) rfl))
        have i1 : ∀ (Hx : Hp), Ex H12 Hx → Ev (tOp (rIxT K) (tVar 8) (tC (.int 1))) [some (.ref a), some (.int np), some (.ref ra), some (.ref fa), some (.ref d), some (.ref hp), some (.str (S tx)), some (.int (k : Int)), some (.ref t)] Hx (.ref tq) := fun Hx ex => ev_op (ev_var rfl) ev_c (rv_ixT (st_of (ex _ _ ht1)) (atI_nat (j := 1) rfl))
        have j0 : ∀ (Hx : Hp), Ex H12 Hx → Ev (tOp (rIxT K) (tVar 4) (tC (.int 0))) [some (.ref a), some (.int np), some (.ref ra), some (.ref fa), some (.ref d), some (.ref hp), some (.str (S tx)), some (.int (k : Int)), some (.ref t)] Hx (.ref dp) := fun Hx ex => ev_op (ev_var rfl) ev_c (rv_ixT (st_of (ex _ _ D1)) (atI_nat (j := 0) rfl))
        have j1 : ∀ (Hx : Hp), Ex H12 Hx → Ev (tOp (rIxT K) (tVar 4) (tC (.int 1))) [some (.ref a), some (.int np), some (.ref ra), some (.ref fa), some (.ref d), some (.ref hp), some (.str (S tx)), some (.int (k : Int)), some (.ref t)] Hx (.ref dq) := fun Hx ex => ev_op (ev_var rfl) ev_c (rv_ixT (st_of (ex _ _ D1)) (atI_nat (j := 1) rfl))
        refine q_when (b := (!true) || ((!true) || !true)) (et_or (et_not (et_B (ev_isi (ev_var rfl) ev_c (.ty _) (fun H1 e => .base (.tup (e _ _ (e1214 _ _ ht1)))) (kit_ty (by decide +kernel))))) fun _ => et_or (et_test (ev_is (ev_op (ev_lenT8 (ev_var rfl) (e1214 _ _ ht1)) ev_c (rv_ne rfl)) rfl)) fun _ =>
          et_not (et_B (ev_is (ev_call (vs := [.ref tp, .ref dp]) (ea_cons (i0 _ e1214) (ea_cons (j0 _ e1214) ea_nil)) (sp_numbers (e1214 _ _ ht2) (sq_of (e1214 _ _ D2)) (by omega))) (by rw [decide_eq_true rfl])))) (fun hc => by cases hc) (fun _ H15 e15 => ?_)
        have e1215 := e1214.trans e15
        refine q_when (b := !true) (et_not (et_B (ev_is (ev_call (vs := [.ref tq, .ref dq]) (ea_cons (i1 _ e1215) (ea_cons (j1 _ e1215) ea_nil)) (sp_numbers (e1215 _ _ ht3) (sq_of (e1215 _ _ D3)) (by omega))) (by rw [decide_eq_true rfl])))) (fun hc => by cases hc) (fun _ H16 e16 => ?_)
        have e1216 := e1215.trans e16
        exact s_clear (e1216 _ _ ht2) (i0 _ e1216) fun H17 e17 => ⟨_, _, rfl, e11.trans (Ex.mut ((e12.trans e1216).trans e17) ntp)⟩
      · exact absurd G G2
    · rcases ht with ⟨G2, _⟩ | ⟨_, t, rfl, ht1⟩
      · exact absurd G2 G
      · refine q_when (b := true && !true) (et_and (et_test (ev_is (ev_op (ev_var rfl) ev_c rv_isNB) rfl)) fun _ => et_test (ev_is (ev_op (ev_call (vs := [.ref t]) (ea_cons (ev_var rfl) ea_nil) (sp_alone Y.2 (by decide) ht1)) ev_c (rv_ne rfl)) (by decide))) (fun hc => by cases hc) (fun _ H13 e13 => ?_)
        exact s_when (b := !true) (et_test (ev_is (ev_op (ev_var rfl) ev_c rv_notN) rfl)) (fun hc => by cases hc) (fun _ H14 e14 => ⟨_, _, rfl, ((e11.trans e12).trans e13).trans e14⟩)
  · rintro σ' H11 ⟨cv, dv, rfl, e11⟩
    exact s_ret ev_c fun H12 e12 => q H12
end
end Fo

/-! The law over the program's own text: printed by gen.py out of T.py. -/
namespace Lw
open PySem PySem.Spec PyProof.Rows L2 Evl Fo
def top (i : Nat) : Stmt := PySem.Challenge.pw_foldrule_k08_written_and_read.main.body.getD i (.Pass ⟨0, 0, 0, 0⟩)
abbrev s_see_rule : Stmt := top 9
abbrev s_see_folding : Stmt := top 10
abbrev s_shown : Stmt := top 13
abbrev s_number_of_word : Stmt := top 14
abbrev s_read : Stmt := top 15
abbrev s__law_cell_at : Stmt := top 17
abbrev s__law_draw : Stmt := top 18
abbrev s__law_whole : Stmt := top 19
abbrev s__law_rule : Stmt := top 20
abbrev s__law_folding : Stmt := top 21
abbrev s__law_numbers : Stmt := top 22
abbrev s__law_alone : Stmt := top 23
abbrev s__law_shown : Stmt := top 24
abbrev s__law_turned : Stmt := top 25
abbrev s__law_due : Stmt := top 26
abbrev s__law_told : Stmt := top 27
abbrev s_law : Stmt := top 28
theorem sc_see_rule : FnScope ["rule", "length"] ["rule"] (defScope s_see_rule) := ⟨rfl, rfl, rfl, by decide +kernel, rfl, by decide +kernel, by decide +kernel⟩
theorem sc_see_folding : FnScope ["rule", "folding", "turn"] ["rule", "folding"] (defScope s_see_folding) := ⟨rfl, rfl, rfl, by decide +kernel, rfl, by decide +kernel, by decide +kernel⟩
theorem sc_shown : FnScope ["rule", "folding", "text", "k"] ["rule", "folding"] (defScope s_shown) := ⟨rfl, rfl, rfl, by decide +kernel, rfl, by decide +kernel, by decide +kernel⟩
theorem sc_number_of_word : FnScope ["word", "sign"] ["word"] (defScope s_number_of_word) := ⟨rfl, rfl, rfl, by decide +kernel, rfl, by decide +kernel, by decide +kernel⟩
theorem sc_read : FnScope ["text", "words", "folding", "sign", "rule", "word"] ["text"] (defScope s_read) := ⟨rfl, rfl, rfl, by decide +kernel, rfl, by decide +kernel, by decide +kernel⟩
theorem sc__law_cell_at : FnScope ["script", "k"] ["script", "k"] (defScope s__law_cell_at) := ⟨rfl, rfl, rfl, by decide +kernel, rfl, by decide +kernel, by decide +kernel⟩
theorem sc__law_draw : FnScope ["script", "k", "stir"] ["script", "k"] (defScope s__law_draw) := ⟨rfl, rfl, rfl, by decide +kernel, rfl, by decide +kernel, by decide +kernel⟩
theorem sc__law_whole : FnScope ["found"] ["found"] (defScope s__law_whole) := ⟨rfl, rfl, rfl, by decide +kernel, rfl, by decide +kernel, by decide +kernel⟩
theorem sc__law_rule : FnScope ["script", "pieces", "most", "rule", "k"] ["script", "pieces"] (defScope s__law_rule) := ⟨rfl, rfl, rfl, by decide +kernel, rfl, by decide +kernel, by decide +kernel⟩
theorem sc__law_folding : FnScope ["script", "start", "pieces", "k"] ["script", "start", "pieces"] (defScope s__law_folding) := ⟨rfl, rfl, rfl, by decide +kernel, rfl, by decide +kernel, by decide +kernel⟩
theorem sc__law_numbers : FnScope ["found", "due", "number"] ["found", "due"] (defScope s__law_numbers) := ⟨rfl, rfl, rfl, by decide +kernel, rfl, by decide +kernel, by decide +kernel⟩
theorem sc__law_alone : FnScope ["e", "found"] ["e"] (defScope s__law_alone) := ⟨rfl, rfl, rfl, by decide +kernel, rfl, by decide +kernel, by decide +kernel⟩
theorem sc__law_shown : FnScope ["rule", "folding", "text", "k"] ["rule", "folding"] (defScope s__law_shown) := ⟨rfl, rfl, rfl, by decide +kernel, rfl, by decide +kernel, by decide +kernel⟩
theorem sc__law_turned : FnScope ["text", "way", "cell", "at", "sign"] ["text", "way", "cell"] (defScope s__law_turned) := ⟨rfl, rfl, rfl, by decide +kernel, rfl, by decide +kernel, by decide +kernel⟩
theorem sc__law_due : FnScope ["text", "rule", "folding", "word", "sign"] ["text"] (defScope s__law_due) := ⟨rfl, rfl, rfl, by decide +kernel, rfl, by decide +kernel, by decide +kernel⟩
theorem sc__law_told : FnScope ["text", "found", "e"] ["text"] (defScope s__law_told) := ⟨rfl, rfl, rfl, by decide +kernel, rfl, by decide +kernel, by decide +kernel⟩
theorem sc_law : FnScope ["script", "pieces", "rule", "folding", "due", "handed", "text", "turn", "found"] ["script"] (defScope s_law) := ⟨rfl, rfl, rfl, by decide +kernel, rfl, by decide +kernel, by decide +kernel⟩
structure Txt (K : PySem.W.Frag) (mg : Str → Option Value) : Prop where
  z_ValueError : mg "ValueError" = none
  z_bool : mg "bool" = none
  z_int : mg "int" = none
  z_isinstance : mg "isinstance" = none
  z_len : mg "len" = none
  z_list : mg "list" = none
  z_max : mg "max" = none
  z_range : mg "range" = none
  z_str : mg "str" = none
  z_tuple : mg "tuple" = none
  k_BadFolding : mg "BadFolding" = some (.ref (He.ga K "BadFolding"))
  k_BadRule : mg "BadRule" = some (.ref (He.ga K "BadRule"))
  k_NoSuch : mg "NoSuch" = some (.ref (He.ga K "NoSuch"))
  k_NoText : mg "NoText" = some (.ref (He.ga K "NoText"))
  k_RuleError : mg "RuleError" = some (.ref (He.ga K "RuleError"))
  e_BadFolding : PySem.W.excIn K (He.ga K "BadFolding") He.veBase "ValueError.__new__" = true ∧ PySem.W.keepIn K (.ref (He.ga K "BadFolding")) = true ∧ PySem.W.subIn K (.ref (He.ga K "BadFolding")) (.type "BaseException") = some true ∧ PySem.W.typeIn K (.ref (He.ga K "BadFolding")) = some (.type "type")
  e_BadRule : PySem.W.excIn K (He.ga K "BadRule") He.veBase "ValueError.__new__" = true ∧ PySem.W.keepIn K (.ref (He.ga K "BadRule")) = true ∧ PySem.W.subIn K (.ref (He.ga K "BadRule")) (.type "BaseException") = some true ∧ PySem.W.typeIn K (.ref (He.ga K "BadRule")) = some (.type "type")
  e_NoText : PySem.W.excIn K (He.ga K "NoText") He.veBase "ValueError.__new__" = true ∧ PySem.W.keepIn K (.ref (He.ga K "NoText")) = true ∧ PySem.W.subIn K (.ref (He.ga K "NoText")) (.type "BaseException") = some true ∧ PySem.W.typeIn K (.ref (He.ga K "NoText")) = some (.type "type")
  c_PIECES : ∃ t, mg "PIECES" = some (.int 12 t)
  c_LONGEST : ∃ t, mg "LONGEST" = some (.int 60 t)
  c_FIGURES : ∃ t, mg "FIGURES" = some (.str "0123456789" t)
section
variable {P : Program} {w : World} {K : PySem.W.Frag} {mg : Str → Option Value} {base : Heap}
theorem ok_see_rule (T : Txt K mg) (F : Pd K mg "see_rule" s_see_rule ["rule"]) : Df P w K mg base 1 "see_rule" ["rule"] (p_see_rule0 K) := by
  refine F.df sc_see_rule (fun vs H Q E h => ?_) (fun f cdv A outer s H vs Q E hr h => ⟨(t_see_rule K E0 tNever tNever), ?_, r_see_rule0 h⟩)
  · repeat (first | (obtain ⟨rfl, _⟩ := h; rfl) | (obtain ⟨_, h⟩ := h))
  · exact (pss_cons (ps_if (pt_not (pt_chain op_le op_le pe_int (pe_callB call_len_seq (by rfl) T.z_len (by decide +kernel) (pa_cons (pv 0) pa_nil)) (pe_gint rfl T.c_PIECES))) (pss_one ps_never) pss_nil)
      (pss_one (ps_if (pt_cmpR (op_neD hr.units) (pe_lc (own := [("length", 1)]) (g := gName 1) rfl sc_see_rule.nd (pi_list (pv 0)) (blkOk_by (own := [("length", 1)]) (N := ["rule", "length"]) (sc := defScope s_see_rule) (by decide +kernel)) (fun _ _ _ _ _ => pg_name (i := 1) sc_see_rule.nd rfl (Or.inl rfl)) (fun _ _ _ _ _ => (pts_one (pt_not (pt_chain op_le op_le pe_int (pv 1) (pe_gint rfl T.c_LONGEST))))) (fun _ _ _ _ _ => (pv 1))) (pe_lst pa_nil) (nomark _)) (pss_one ps_never) pss_nil)))
theorem okN_see_rule (T : Txt K mg) (F : Pd K mg "see_rule" s_see_rule ["rule"]) : DfN P w K mg base 1 "see_rule" ["rule"] (p_see_ruleC P w K) := by
  refine F.dfN sc_see_rule (fun vs H Q E h => ?_) (fun f cdv A outer s H vs Q E hr h => ⟨(t_see_rule K E0 (fun _ _ H => E (.ref (He.ga K "BadRule")) none H) (fun _ _ H => E (.ref (He.ga K "BadRule")) none H)), ?_, r_see_ruleC h⟩)
  · exact n_see_rule h
  · exact (pss_cons (ps_if (pt_not (pt_chain op_le op_le pe_int (pe_callB call_len_seq (by rfl) T.z_len (by decide +kernel) (pa_cons (pv 0) pa_nil)) (pe_gint rfl T.c_PIECES))) (pss_one (L2N.ps_raise rfl (L2N.takes_of rfl rfl rfl rfl) (L2N.pmk_own PySem.F.excBase_ValueError T.e_BadRule.1 T.k_BadRule T.e_BadRule.2.1 (raises_own T.e_BadRule.2.2.1 T.e_BadRule.2.2.2) (by exact rfl)))) pss_nil)
      (pss_one (ps_if (pt_cmpR (op_neD hr.units) (pe_lc (own := [("length", 1)]) (g := gName 1) rfl sc_see_rule.nd (pi_list (pv 0)) (blkOk_by (own := [("length", 1)]) (N := ["rule", "length"]) (sc := defScope s_see_rule) (by decide +kernel)) (fun _ _ _ _ _ => pg_name (i := 1) sc_see_rule.nd rfl (Or.inl rfl)) (fun _ _ _ _ _ => (pts_one (pt_not (pt_chain op_le op_le pe_int (pv 1) (pe_gint rfl T.c_LONGEST))))) (fun _ _ _ _ _ => (pv 1))) (pe_lst pa_nil) (nomark _)) (pss_one (L2N.ps_raise rfl (L2N.takes_of rfl rfl rfl rfl) (L2N.pmk_own PySem.F.excBase_ValueError T.e_BadRule.1 T.k_BadRule T.e_BadRule.2.1 (raises_own T.e_BadRule.2.2.1 T.e_BadRule.2.2.2) (by exact rfl)))) pss_nil)))
theorem ok_see_folding (T : Txt K mg) (F : Pd K mg "see_folding" s_see_folding ["rule", "folding"]) (D_see_rule : Df P w K mg base 1 "see_rule" ["rule"] (p_see_rule0 K)) : Df P w K mg base 2 "see_folding" ["rule", "folding"] (p_see_folding0 K) := by
  refine F.df sc_see_folding (fun vs H Q E h => ?_) (fun f cdv A outer s H vs Q E hr h => ⟨(t_see_folding K E0 (p_see_rule0 K) tNever), ?_, r_see_folding0 h⟩)
  · repeat (first | (obtain ⟨rfl, _⟩ := h; rfl) | (obtain ⟨_, h⟩ := h))
  · exact (pss_cons (ps_expr (pe_callD D_see_rule (hr.mono (by first | decide | omega)) rfl (pa_cons (pv 0) pa_nil)))
      (pss_one (ps_if (PW.pt (pw_or (pt_cmpR op_ne (pe_callB call_len_seq (by rfl) T.z_len (by decide +kernel) (pa_cons (pv 1) pa_nil)) (pe_op op_sub (pe_callB call_len_seq (by rfl) T.z_len (by decide +kernel) (pa_cons (pv 0) pa_nil)) pe_int) (nomark _)) (pw_or1 (pt_cmpR (op_neD hr.units) (pe_lc (own := [("turn", 2)]) (g := gName 2) rfl sc_see_folding.nd (pi_list (pv 1)) (blkOk_by (own := [("turn", 2)]) (N := ["rule", "folding", "turn"]) (sc := defScope s_see_folding) (by decide +kernel)) (fun _ _ _ _ _ => pg_name (i := 2) sc_see_folding.nd rfl (Or.inl rfl)) (fun _ _ _ _ _ => (pts_one (PW.pt (pw_and (pt_cmpR op_ne (pv 2) pe_int (nomark _)) (pw_and1 (pt_cmpR op_ne (pv 2) pe_int (nomark _))))))) (fun _ _ _ _ _ => (pv 2))) (pe_lst pa_nil) (nomark _))))) (pss_one ps_never) pss_nil)))
theorem okN_see_folding (T : Txt K mg) (F : Pd K mg "see_folding" s_see_folding ["rule", "folding"]) (DN_see_rule : DfN P w K mg base 1 "see_rule" ["rule"] (p_see_ruleC P w K)) : DfN P w K mg base 2 "see_folding" ["rule", "folding"] (p_see_foldingC P w K) := by
  refine F.dfN sc_see_folding (fun vs H Q E h => ?_) (fun f cdv A outer s H vs Q E hr h => ⟨(t_see_folding K E0 (clo (p_see_ruleC P w K) E) (fun _ _ H => E (.ref (He.ga K "BadFolding")) none H)), ?_, r_see_foldingC h⟩)
  · exact n_see_folding h
  · exact (pss_cons (ps_expr (pe_callND DN_see_rule (hr.mono (by first | decide | omega)) rfl (L2N.takes_of rfl rfl rfl rfl) (pa_cons (pv 0) pa_nil)))
      (pss_one (ps_if (PW.pt (pw_or (pt_cmpR op_ne (pe_callB call_len_seq (by rfl) T.z_len (by decide +kernel) (pa_cons (pv 1) pa_nil)) (pe_op op_sub (pe_callB call_len_seq (by rfl) T.z_len (by decide +kernel) (pa_cons (pv 0) pa_nil)) pe_int) (nomark _)) (pw_or1 (pt_cmpR (op_neD hr.units) (pe_lc (own := [("turn", 2)]) (g := gName 2) rfl sc_see_folding.nd (pi_list (pv 1)) (blkOk_by (own := [("turn", 2)]) (N := ["rule", "folding", "turn"]) (sc := defScope s_see_folding) (by decide +kernel)) (fun _ _ _ _ _ => pg_name (i := 2) sc_see_folding.nd rfl (Or.inl rfl)) (fun _ _ _ _ _ => (pts_one (PW.pt (pw_and (pt_cmpR op_ne (pv 2) pe_int (nomark _)) (pw_and1 (pt_cmpR op_ne (pv 2) pe_int (nomark _))))))) (fun _ _ _ _ _ => (pv 2))) (pe_lst pa_nil) (nomark _))))) (pss_one (L2N.ps_raise rfl (L2N.takes_of rfl rfl rfl rfl) (L2N.pmk_own PySem.F.excBase_ValueError T.e_BadFolding.1 T.k_BadFolding T.e_BadFolding.2.1 (raises_own T.e_BadFolding.2.2.1 T.e_BadFolding.2.2.2) (by exact rfl)))) pss_nil)))
theorem ok_shown (T : Txt K mg) (F : Pd K mg "shown" s_shown ["rule", "folding"]) (D_see_folding : Df P w K mg base 2 "see_folding" ["rule", "folding"] (p_see_folding0 K)) : Df P w K mg base 3 "shown" ["rule", "folding"] (p_shown8 K) := by
  refine F.df sc_shown (fun vs H Q E h => ?_) (fun f cdv A outer s H vs Q E hr h => ⟨(t_shown K E0 (p_see_folding0 K)), ?_, r_shown8 h⟩)
  · repeat (first | (obtain ⟨rfl, _⟩ := h; rfl) | (obtain ⟨_, h⟩ := h))
  · exact (pss_cons (ps_expr (pe_callD D_see_folding (hr.mono (by first | decide | omega)) rfl (pa_cons (pv 0) (pa_cons (pv 1) pa_nil))))
      (pss_cons (ps_set (i := 2) sc_shown.nd rfl (Or.inl rfl) (pe_callTy call_str_int (by rfl) T.z_str (by decide +kernel) (pa_cons (pe_ix ix_list (pv 0) pe_int (fun _ _ => rfl)) pa_nil)))
      (pss_cons (ps_for PassesOwn.never rfl (pi_range1 rfl T.z_range (pa_cons (pe_callB call_len_seq (by rfl) T.z_len (by decide +kernel) (pa_cons (pv 1) pa_nil)) pa_nil)) (pg_name (i := 3) sc_shown.nd rfl (Or.inl rfl)) (pss_one (ps_set (i := 2) sc_shown.nd rfl (Or.inl rfl) (pe_op op_add_str (pe_op op_add_str (pv 2) (pe_ix ix_str pe_str (pe_ix ix_list (pv 1) (pv 3) (fun _ _ => rfl)) (fun _ _ => rfl))) (pe_callTy call_str_int (by rfl) T.z_str (by decide +kernel) (pa_cons (pe_ix ix_list (pv 0) (pe_op op_add (pv 3) pe_int) (fun _ _ => rfl)) pa_nil))))))
      (pss_one (ps_ret (pv 2))))))
theorem okX_number_of_word (T : Txt K mg) (F : Pd K mg "number_of_word" s_number_of_word ["word"]) : DfX P w K mg base 1 "number_of_word" ["word"] (p_number_of_wordC K) := by
  refine F.dfX sc_number_of_word (fun vs H Q E h => ?_) (fun f cdv A outer s H vs Q E hr h => ⟨(t_number_of_word K E0 (fun _ _ H => E (.ref (He.ga K "NoText")) none H) (fun _ _ H => E (.ref (He.ga K "NoText")) none H)), ?_, r_number_of_wordC h⟩)
  · exact n_number_of_word h
  · exact (pss_cons (ps_if (PW.pt (pw_or (pt_not (pt_chain op_le op_le pe_int (pe_callB call_len_str (by rfl) T.z_len (by decide +kernel) (pa_cons (pv 0) pa_nil)) pe_int)) (pw_or1 (pt_cmpR op_eq (pe_ix ix_str (pv 0) pe_int (fun _ _ => rfl)) pe_str (nomark _))))) (pss_one (ps_raise rfl (takes_of rfl rfl rfl rfl) (pmk_own PySem.F.excBase_ValueError T.e_NoText.1 T.k_NoText T.e_NoText.2.1 (raises_own T.e_NoText.2.2.1 T.e_NoText.2.2.2) (by exact rfl)))) pss_nil)
      (pss_cons (ps_for (passes_of rfl) rfl (pi_str (pv 0)) (pg_name (i := 1) sc_number_of_word.nd rfl (Or.inl rfl)) (pss_one (ps_if (pt_cmpR op_notIn_sign (pv 1) (pe_gstr rfl T.c_FIGURES) rfl) (pss_one (ps_raise rfl (takes_of rfl rfl rfl rfl) (pmk_own PySem.F.excBase_ValueError T.e_NoText.1 T.k_NoText T.e_NoText.2.1 (raises_own T.e_NoText.2.2.1 T.e_NoText.2.2.2) (by exact rfl)))) pss_nil)))
      (pss_one (ps_ret (pe_callTy call_int_str (by rfl) T.z_int (by decide +kernel) (pa_cons (pv 0) pa_nil))))))
theorem okX_read (T : Txt K mg) (F : Pd K mg "read" s_read ["text"]) (DN_see_folding : DfN P w K mg base 2 "see_folding" ["rule", "folding"] (p_see_foldingC P w K)) (DX_number_of_word : DfX P w K mg base 1 "number_of_word" ["word"] (p_number_of_wordC K)) : DfX P w K mg base 3 "read" ["text"] (p_readC P w K) := by
  refine F.dfX sc_read (fun vs H Q E h => ?_) (fun f cdv A outer s H vs Q E hr h => ⟨(t_read K E0 (p_see_foldingC P w K) (clo (p_number_of_wordC K) E) (fun _ _ H => E (.ref (He.ga K "NoText")) none H)), ?_, r_readC h⟩)
  · exact n_read h
  · exact (pss_cons (ps_set (i := 1) sc_read.nd rfl (Or.inl rfl) (pe_lst (pa_cons pe_str pa_nil)))
      (pss_cons (ps_set (i := 2) sc_read.nd rfl (Or.inl rfl) (pe_lst pa_nil))
      (pss_cons (ps_for (passes_of rfl) rfl (pi_str (pv 0)) (pg_name (i := 3) sc_read.nd rfl (Or.inl rfl)) (pss_one (ps_if (PW.pt (pw_or (pt_cmpR op_eq (pv 3) pe_str (nomark _)) (pw_or1 (pt_cmpR op_eq (pv 3) pe_str (nomark _))))) (pss_cons (ps_expr (pe_bm PySem.F.plainAttrs_list PySem.F.slot_list_append PySem.F.type_list_append mt_append (pv 2) (pa_cons (pe_callTy call_int1 (by rfl) T.z_int (by decide +kernel) (pa_cons (pe_cmpR op_eq (pv 3) pe_str (nomark _)) pa_nil)) pa_nil)))
      (pss_one (ps_expr (pe_bm PySem.F.plainAttrs_list PySem.F.slot_list_append PySem.F.type_list_append mt_append (pv 1) (pa_cons pe_str pa_nil))))) (pss_one (ps_asg (pe_op op_add_str (pe_ix ix_list (pv 1) (pe_un un_neg pe_int) (fun _ _ => rfl)) (pv 3)) (pg_sub (pv 1) (pe_un un_neg pe_int) set_list))))))
      (pss_cons (ps_setLcX (E := E) (i := 4) (own := [("word", 5)]) (g := gName 5) (takes_of rfl rfl rfl rfl) rfl rfl rfl sc_read.nd rfl rfl (sw_true rfl rfl rfl (by decide +kernel)) (pi_list (pv 1)) (blkOk_by (own := [("word", 5)]) (N := ["text", "words", "folding", "sign", "rule", "word"]) (sc := defScope s_read) (by decide +kernel)) (fun _ _ _ _ _ => pg_name (i := 5) sc_read.nd rfl (Or.inl rfl)) (fun _ _ _ _ _ => pts_nil) (fun _ _ _ _ _ xe hx => (pe_callXP DX_number_of_word (hr.mono (by first | decide | omega)) rfl hx (pa_cons (pv 5) pa_nil))))
      (pss_cons (ps_try_tupX (tb := fun W => tDrop (tCallS (p_see_foldingC P w K) (WE W) (tCons (tVar 4) (tCons (tVar 2) tNil)))) (ts := fun _ _ _ => (fun _ _ H => E (.ref (He.ga K "NoText")) none H)) rfl rfl rfl T.k_BadRule rfl T.k_BadFolding (L2H.passesAt_of rfl) (takes_of rfl rfl rfl rfl) (fun W pn xe tk _ => pss_one (ps_expr (pe_callNS DN_see_folding (hr.mono (by first | decide | omega)) rfl (fun σ => L2N.passAt tk σ) (pa_cons (pv 4) (pa_cons (pv 2) pa_nil))))) (fun _ _ _ _ _ _ _ tk hot => pss_one (L2H.ps_raiseH hot tk (L2N.pmk_own PySem.F.excBase_ValueError T.e_NoText.1 T.k_NoText T.e_NoText.2.1 (raises_own T.e_NoText.2.2.1 T.e_NoText.2.2.2) (by exact rfl)))))
      (pss_one (ps_ret (pe_tup (pa_cons (pv 4) (pa_cons (pv 2) pa_nil))))))))))
theorem ok__law_cell_at (T : Txt K mg) (F : Pd K mg "_law_cell_at" s__law_cell_at ["script", "k"]) : Df P w K mg base 1 "_law_cell_at" ["script", "k"] (p__law_cell_at K) := by
  refine F.df sc__law_cell_at (fun vs H Q E h => ?_) (fun f cdv A outer s H vs Q E hr h => ⟨(t__law_cell_at K E0), ?_, r__law_cell_at h⟩)
  · repeat (first | (obtain ⟨rfl, _⟩ := h; rfl) | (obtain ⟨_, h⟩ := h))
  · exact (pss_cons (ps_if (pt_cmpR op_lt (pv 1) (pe_callB call_len_seq (by rfl) T.z_len (by decide +kernel) (pa_cons (pv 0) pa_nil)) (nomark _)) (pss_one (ps_ret (pe_ix ix_list (pv 0) (pv 1) (fun _ _ => rfl)))) pss_nil)
      (pss_one (ps_ret pe_int)))
theorem ok__law_draw (T : Txt K mg) (F : Pd K mg "_law_draw" s__law_draw ["script", "k"]) (D__law_cell_at : Df P w K mg base 1 "_law_cell_at" ["script", "k"] (p__law_cell_at K)) : Df P w K mg base 2 "_law_draw" ["script", "k"] (p__law_draw K) := by
  refine F.df sc__law_draw (fun vs H Q E h => ?_) (fun f cdv A outer s H vs Q E hr h => ⟨(t__law_draw K E0 (p__law_cell_at K)), ?_, r__law_draw h⟩)
  · repeat (first | (obtain ⟨rfl, _⟩ := h; rfl) | (obtain ⟨_, h⟩ := h))
  · exact (pss_cons (ps_set (i := 2) sc__law_draw.nd rfl (Or.inl rfl) (pe_op op_mod (pe_op op_mul (pe_op op_add (pe_op op_add (pe_callD D__law_cell_at (hr.mono (by first | decide | omega)) rfl (pa_cons (pv 0) (pa_cons (pe_op op_mod (pv 1) pe_int) pa_nil))) (pe_op op_mul pe_int (pv 1))) pe_int) pe_int) pe_int))
      (pss_cons (ps_set (i := 2) sc__law_draw.nd rfl (Or.inl rfl) (pe_op op_mod (pe_op op_mul (pv 2) (pv 2)) pe_int))
      (pss_one (ps_ret (pe_op op_fdiv (pe_op op_mod (pe_op op_mul (pv 2) pe_int) pe_int) pe_int)))))
theorem ok__law_whole (T : Txt K mg) (F : Pd K mg "_law_whole" s__law_whole ["found"]) : Df P w K mg base 1 "_law_whole" ["found"] p__law_whole := by
  refine F.df sc__law_whole (fun vs H Q E h => ?_) (fun f cdv A outer s H vs Q E hr h => ⟨(t__law_whole K E0), ?_, r__law_whole h⟩)
  · repeat (first | (obtain ⟨rfl, _⟩ := h; rfl) | (obtain ⟨_, h⟩ := h))
  · exact (pss_one (ps_ret (pe_and (pe_callB call_isi (by rfl) T.z_isinstance (by decide +kernel) (pa_cons (pv 0) (pa_cons (pe_bltn rfl T.z_int (by decide +kernel) rfl) pa_nil))) (pe_one (pe_not (pe_callB call_isi (by rfl) T.z_isinstance (by decide +kernel) (pa_cons (pv 0) (pa_cons (pe_bltn rfl T.z_bool (by decide +kernel) rfl) pa_nil))))))))
theorem ok__law_rule (T : Txt K mg) (F : Pd K mg "_law_rule" s__law_rule ["script", "pieces"]) (D__law_draw : Df P w K mg base 2 "_law_draw" ["script", "k"] (p__law_draw K)) : Df P w K mg base 3 "_law_rule" ["script", "pieces"] (p__law_rule K) := by
  refine F.df sc__law_rule (fun vs H Q E h => ?_) (fun f cdv A outer s H vs Q E hr h => ⟨(t__law_rule K E0 (p__law_draw K)), ?_, r__law_rule h⟩)
  · repeat (first | (obtain ⟨rfl, _⟩ := h; rfl) | (obtain ⟨_, h⟩ := h))
  · exact (pss_cons (ps_set (i := 2) sc__law_rule.nd rfl (Or.inr rfl) (pe_ix ix_list (pe_lst (pa_cons pe_int (pa_cons pe_int (pa_cons pe_int (pa_cons pe_int pa_nil))))) (pe_op op_mod (pe_callD D__law_draw (hr.mono (by first | decide | omega)) rfl (pa_cons (pv 0) (pa_cons pe_int pa_nil))) pe_int) (fun _ _ => rfl)))
      (pss_cons (ps_set (i := 3) sc__law_rule.nd rfl (Or.inr rfl) (pe_lc (own := [("k", 4)]) (g := gName 4) rfl sc__law_rule.nd (pi_range1 rfl T.z_range (pa_cons (pv 1) pa_nil)) (blkOk_by (own := [("k", 4)]) (N := ["script", "pieces", "most", "rule", "k"]) (sc := defScope s__law_rule) (by decide +kernel)) (fun _ _ _ _ _ => pg_name (i := 4) sc__law_rule.nd rfl (Or.inl rfl)) (fun _ _ _ _ _ => pts_nil) (fun _ _ _ _ _ => (pe_op op_add pe_int (pe_op op_mod (pe_callD D__law_draw (hr.mono (by first | decide | omega)) rfl (pa_cons (pv 0) (pa_cons (pe_op op_add pe_int (pv 4)) pa_nil))) (pv 2))))))
      (pss_cons (ps_if (pt_cmpR op_eq (pe_op op_mod (pe_callD D__law_draw (hr.mono (by first | decide | omega)) rfl (pa_cons (pv 0) (pa_cons pe_int pa_nil))) pe_int) pe_int (nomark _)) (pss_one (ps_set (i := 3) sc__law_rule.nd rfl (Or.inr rfl) (pe_lc (own := [("k", 4)]) (g := gName 4) rfl sc__law_rule.nd (pi_range1 rfl T.z_range (pa_cons (pv 1) pa_nil)) (blkOk_by (own := [("k", 4)]) (N := ["script", "pieces", "most", "rule", "k"]) (sc := defScope s__law_rule) (by decide +kernel)) (fun _ _ _ _ _ => pg_name (i := 4) sc__law_rule.nd rfl (Or.inl rfl)) (fun _ _ _ _ _ => pts_nil) (fun _ _ _ _ _ => (pe_ix ix_list (pv 3) (pe_op op_mod (pv 4) pe_int) (fun _ _ => rfl)))))) pss_nil)
      (pss_one (ps_ret (pv 3))))))
theorem ok__law_folding (T : Txt K mg) (F : Pd K mg "_law_folding" s__law_folding ["script", "start", "pieces"]) (D__law_draw : Df P w K mg base 2 "_law_draw" ["script", "k"] (p__law_draw K)) : Df P w K mg base 3 "_law_folding" ["script", "start", "pieces"] (p__law_folding K) := by
  refine F.df sc__law_folding (fun vs H Q E h => ?_) (fun f cdv A outer s H vs Q E hr h => ⟨(t__law_folding K E0 (p__law_draw K)), ?_, r__law_folding h⟩)
  · repeat (first | (obtain ⟨rfl, _⟩ := h; rfl) | (obtain ⟨_, h⟩ := h))
  · exact (pss_one (ps_ret (pe_lc (own := [("k", 3)]) (g := gName 3) rfl sc__law_folding.nd (pi_range1 rfl T.z_range (pa_cons (pe_op op_sub (pv 2) pe_int) pa_nil)) (blkOk_by (own := [("k", 3)]) (N := ["script", "start", "pieces", "k"]) (sc := defScope s__law_folding) (by decide +kernel)) (fun _ _ _ _ _ => pg_name (i := 3) sc__law_folding.nd rfl (Or.inl rfl)) (fun _ _ _ _ _ => pts_nil) (fun _ _ _ _ _ => (pe_op op_mod (pe_callD D__law_draw (hr.mono (by first | decide | omega)) rfl (pa_cons (pv 0) (pa_cons (pe_op op_add (pv 1) (pv 3)) pa_nil))) pe_int)))))
theorem ok__law_numbers (T : Txt K mg) (F : Pd K mg "_law_numbers" s__law_numbers ["found", "due"]) (D__law_whole : Df P w K mg base 1 "_law_whole" ["found"] p__law_whole) : Df P w K mg base 2 "_law_numbers" ["found", "due"] (p__law_numbers K) := by
  refine F.df sc__law_numbers (fun vs H Q E h => ?_) (fun f cdv A outer s H vs Q E hr h => ⟨(t__law_numbers K E0 p__law_whole), ?_, r__law_numbers h⟩)
  · repeat (first | (obtain ⟨rfl, _⟩ := h; rfl) | (obtain ⟨_, h⟩ := h))
  · exact (pss_cons (ps_if (PW.pt (pw_or (pt_not (pt_val (pe_callB call_isi (by rfl) T.z_isinstance (by decide +kernel) (pa_cons (pv 0) (pa_cons (pe_bltn rfl T.z_list (by decide +kernel) rfl) pa_nil))))) (pw_or1 (pt_cmpR (op_neD hr.units) (pv 0) (pv 1) (nomark _))))) (pss_one (ps_ret pe_bl)) pss_nil)
      (pss_one (ps_ret (pe_cmpR op_notIn_seq pe_bl (pe_lc (own := [("number", 2)]) (g := gName 2) rfl sc__law_numbers.nd (pi_list (pv 0)) (blkOk_by (own := [("number", 2)]) (N := ["found", "due", "number"]) (sc := defScope s__law_numbers) (by decide +kernel)) (fun _ _ _ _ _ => pg_name (i := 2) sc__law_numbers.nd rfl (Or.inl rfl)) (fun _ _ _ _ _ => pts_nil) (fun _ _ _ _ _ => (pe_callD D__law_whole (hr.mono (by first | decide | omega)) rfl (pa_cons (pv 2) pa_nil)))) (by rfl)))))
theorem ok__law_alone (T : Txt K mg) (F : Pd K mg "_law_alone" s__law_alone ["e"]) : Df P w K mg base 1 "_law_alone" ["e"] (p__law_alone K) := by
  refine F.df sc__law_alone (fun vs H Q E h => ?_) (fun f cdv A outer s H vs Q E hr h => ⟨(t__law_alone K E0), ?_, r__law_alone h⟩)
  · repeat (first | (obtain ⟨rfl, _⟩ := h; rfl) | (obtain ⟨_, h⟩ := h))
  · exact (pss_cons (ps_set (i := 1) sc__law_alone.nd rfl (Or.inl rfl) (pe_lst (pa_cons (pe_callB call_isX (by rfl) T.z_isinstance (by decide +kernel) (pa_cons (pv 0) (pa_cons (pe_gcls rfl T.k_BadRule) pa_nil))) (pa_cons (pe_callB call_isX (by rfl) T.z_isinstance (by decide +kernel) (pa_cons (pv 0) (pa_cons (pe_gcls rfl T.k_BadFolding) pa_nil))) (pa_cons (pe_callB call_isX (by rfl) T.z_isinstance (by decide +kernel) (pa_cons (pv 0) (pa_cons (pe_gcls rfl T.k_NoSuch) pa_nil))) (pa_cons (pe_callB call_isX (by rfl) T.z_isinstance (by decide +kernel) (pa_cons (pv 0) (pa_cons (pe_gcls rfl T.k_NoText) pa_nil))) pa_nil))))))
      (pss_cons (ps_if (PW.pt (pw_or (pt_not (pt_val (pe_callB call_isX (by rfl) T.z_isinstance (by decide +kernel) (pa_cons (pv 0) (pa_cons (pe_gcls rfl T.k_RuleError) pa_nil))))) (pw_or (pt_not (pt_val (pe_callB call_isX (by rfl) T.z_isinstance (by decide +kernel) (pa_cons (pv 0) (pa_cons (pe_bltn rfl T.z_ValueError (by decide +kernel) rfl) pa_nil))))) (pw_or1 (pt_cmpR op_ne (pe_bm PySem.F.plainAttrs_list PySem.F.slot_list_count PySem.F.type_list_count mt_lcountB (pv 1) (pa_cons pe_bl pa_nil)) pe_int (nomark _)))))) (pss_one (ps_ret (pe_un un_neg pe_int))) pss_nil)
      (pss_one (ps_ret (pe_bm PySem.F.plainAttrs_list PySem.F.slot_list_index PySem.F.type_list_index mt_index (pv 1) (pa_cons pe_bl pa_nil))))))
theorem ok__law_shown (T : Txt K mg) (F : Pd K mg "_law_shown" s__law_shown ["rule", "folding"]) : Df P w K mg base 1 "_law_shown" ["rule", "folding"] (p__law_shown K) := by
  refine F.df sc__law_shown (fun vs H Q E h => ?_) (fun f cdv A outer s H vs Q E hr h => ⟨(t__law_shown K E0), ?_, r__law_shown h⟩)
  · repeat (first | (obtain ⟨rfl, _⟩ := h; rfl) | (obtain ⟨_, h⟩ := h))
  · exact (pss_cons (ps_set (i := 2) sc__law_shown.nd rfl (Or.inl rfl) (pe_callTy call_str_int (by rfl) T.z_str (by decide +kernel) (pa_cons (pe_ix ix_list (pv 0) pe_int (fun _ _ => rfl)) pa_nil)))
      (pss_cons (ps_for PassesOwn.never rfl (pi_range1 rfl T.z_range (pa_cons (pe_callB call_len_seq (by rfl) T.z_len (by decide +kernel) (pa_cons (pv 1) pa_nil)) pa_nil)) (pg_name (i := 3) sc__law_shown.nd rfl (Or.inl rfl)) (pss_one (ps_set (i := 2) sc__law_shown.nd rfl (Or.inl rfl) (pe_op op_add_str (pe_op op_add_str (pv 2) (pe_ix ix_list (pe_lst (pa_cons pe_str (pa_cons pe_str pa_nil))) (pe_ix ix_list (pv 1) (pv 3) (fun _ _ => rfl)) (fun _ _ => rfl))) (pe_callTy call_str_int (by rfl) T.z_str (by decide +kernel) (pa_cons (pe_ix ix_list (pv 0) (pe_op op_add (pv 3) pe_int) (fun _ _ => rfl)) pa_nil))))))
      (pss_one (ps_ret (pv 2)))))
theorem ok__law_turned (T : Txt K mg) (F : Pd K mg "_law_turned" s__law_turned ["text", "way", "cell"]) : Df P w K mg base 1 "_law_turned" ["text", "way", "cell"] (p__law_turned K) := by
  refine F.df sc__law_turned (fun vs H Q E h => ?_) (fun f cdv A outer s H vs Q E hr h => ⟨(t__law_turned K E0), ?_, r__law_turned h⟩)
  · repeat (first | (obtain ⟨rfl, _⟩ := h; rfl) | (obtain ⟨_, h⟩ := h))
  · exact (pss_cons (ps_set (i := 3) sc__law_turned.nd rfl (Or.inl rfl) (pe_op op_mod (pv 2) (pe_op op_add (pe_callB call_len_str (by rfl) T.z_len (by decide +kernel) (pa_cons (pv 0) pa_nil)) pe_int)))
      (pss_cons (ps_set (i := 4) sc__law_turned.nd rfl (Or.inl rfl) (pe_ix ix_str pe_str (pe_op op_mod (pe_op op_fdiv (pv 2) pe_int) pe_int) (fun _ _ => rfl)))
      (pss_cons (ps_if (pt_cmpR op_eq (pv 1) pe_int (nomark _)) (pss_one (ps_ret (pe_op op_add_str (pe_op op_add_str (pe_slice sl_str (pv 0) po_none (po_some (pv 3))) (pv 4)) (pe_slice sl_str (pv 0) (po_some (pv 3)) po_none)))) pss_nil)
      (pss_cons (ps_if (pt_cmpR op_eq (pv 1) pe_int (nomark _)) (pss_one (ps_ret (pe_op op_add_str (pe_op op_add_str (pe_slice sl_str (pv 0) po_none (po_some (pv 3))) (pv 4)) (pe_slice sl_str (pv 0) (po_some (pe_op op_add (pv 3) pe_int)) po_none)))) pss_nil)
      (pss_cons (ps_if (pt_cmpR op_eq (pv 1) pe_int (nomark _)) (pss_one (ps_ret (pe_op op_add_str (pe_slice sl_str (pv 0) po_none (po_some (pv 3))) (pe_slice sl_str (pv 0) (po_some (pe_op op_add (pv 3) pe_int)) po_none)))) pss_nil)
      (pss_one (ps_ret (pv 0))))))))
theorem ok__law_due (T : Txt K mg) (F : Pd K mg "_law_due" s__law_due ["text"]) : Df P w K mg base 1 "_law_due" ["text"] (p__law_due K) := by
  refine F.df sc__law_due (fun vs H Q E h => ?_) (fun f cdv A outer s H vs Q E hr h => ⟨(t__law_due K E0), ?_, r__law_due h⟩)
  · repeat (first | (obtain ⟨rfl, _⟩ := h; rfl) | (obtain ⟨_, h⟩ := h))
  · exact (pss_cons (ps_set (i := 1) sc__law_due.nd rfl (Or.inl rfl) (pe_lst pa_nil))
      (pss_cons (ps_set (i := 2) sc__law_due.nd rfl (Or.inl rfl) (pe_lst pa_nil))
      (pss_cons (ps_set (i := 3) sc__law_due.nd rfl (Or.inl rfl) pe_str)
      (pss_cons (ps_for PassesOwn.never rfl (pi_str (pe_op op_add_str (pv 0) pe_str)) (pg_name (i := 4) sc__law_due.nd rfl (Or.inl rfl)) (pss_one (ps_if (PW.pt (pw_or (pt_cmpR op_eq (pv 4) pe_str (nomark _)) (pw_or1 (pt_cmpR op_eq (pv 4) pe_str (nomark _))))) (pss_cons (ps_if (PW.pt (pw_or (pt_cmpR op_eq (pv 3) pe_str (nomark _)) (pw_or (pt_cmpR op_gt (pe_callB call_len_str (by rfl) T.z_len (by decide +kernel) (pa_cons (pv 3) pa_nil)) pe_int (nomark _)) (pw_or1 (pt_cmpR op_eq (pe_ix ix_str (pv 3) pe_int (fun _ _ => rfl)) pe_str (nomark _)))))) (pss_one (ps_ret pe_non)) pss_nil)
      (pss_cons (ps_expr (pe_bm PySem.F.plainAttrs_list PySem.F.slot_list_append PySem.F.type_list_append mt_append (pv 1) (pa_cons (pe_callTy call_int_str (by rfl) T.z_int (by decide +kernel) (pa_cons (pv 3) pa_nil)) pa_nil)))
      (pss_cons (ps_expr (pe_bm PySem.F.plainAttrs_list PySem.F.slot_list_append PySem.F.type_list_append mt_append (pv 2) (pa_cons (pe_callTy call_int1 (by rfl) T.z_int (by decide +kernel) (pa_cons (pe_cmpR op_eq (pv 4) pe_str (nomark _)) pa_nil)) pa_nil)))
      (pss_one (ps_set (i := 3) sc__law_due.nd rfl (Or.inl rfl) pe_str))))) (pss_one (ps_if (pt_cmpR op_notIn_sign (pv 4) pe_str rfl) (pss_one (ps_ret pe_non)) (pss_one (ps_set (i := 3) sc__law_due.nd rfl (Or.inl rfl) (pe_op op_add_str (pv 3) (pv 4)))))))))
      (pss_cons (ps_if (PW.pt (pw_or (pt_cmpR op_gt (pe_callB call_len_seq (by rfl) T.z_len (by decide +kernel) (pa_cons (pv 1) pa_nil)) pe_int (nomark _)) (pw_or1 (pt_cmpR op_gt (pe_callB (cr_max rfl) (by rfl) T.z_max (by decide +kernel) (pa_cons (pv 1) pa_nil)) pe_int (nomark _))))) (pss_one (ps_ret pe_non)) pss_nil)
      (pss_one (ps_ret (pe_tup (pa_cons (pv 1) (pa_cons (pe_slice sl_list (pv 2) po_none (po_some (pe_un un_neg pe_int))) pa_nil))))))))))
theorem ok__law_told (T : Txt K mg) (F : Pd K mg "_law_told" s__law_told ["text"]) (DX_read : DfX P w K mg base 3 "read" ["text"] (p_readC P w K)) : Df P w K mg base 4 "_law_told" ["text"] (p__law_told P w K) := by
  refine F.df sc__law_told (fun vs H Q E h => ?_) (fun f cdv A outer s H vs Q E hr h => ⟨(t__law_told K E0 (p_readC P w K)), ?_, r__law_told h⟩)
  · repeat (first | (obtain ⟨rfl, _⟩ := h; rfl) | (obtain ⟨_, h⟩ := h))
  · exact (pss_cons (ps_set (i := 1) sc__law_told.nd rfl (Or.inl rfl) pe_non)
      (pss_cons (ps_try_keep (i := 2) (tb := fun W => (tAsg (tCallS (p_readC P w K) (WE W) (tCons (tVar 0) tNil)) (gName 1))) (ts := (fun _ _ _ => (tAsg (tVar 2) (gName 1)))) rfl rfl rfl sc__law_told.nd rfl rfl ⟨rfl, by decide, Or.inl T.k_RuleError⟩ (fun W pn xe tk _ => (pss_one (ps_set (i := 1) sc__law_told.nd rfl (Or.inl rfl) (pe_callXS DX_read (hr.mono (by first | decide | omega)) rfl (fun σ => passAt tk σ) (pa_cons (pv 0) pa_nil))))) (fun _ _ _ _ _ _ _ => (pss_one (ps_set (i := 1) sc__law_told.nd rfl (Or.inl rfl) (pv 2)))))
      (pss_one (ps_ret (pv 1)))))
theorem ok_law (T : Txt K mg) (Y : Zs K) {f : Addr} {fd : FuncData} (F : FunD K "law" "law" (defArgs s_law) (defBody s_law) (defScope s_law) [] [] f fd) (D__law_draw : Df P w K mg base 2 "_law_draw" ["script", "k"] (p__law_draw K)) (D__law_rule : Df P w K mg base 3 "_law_rule" ["script", "pieces"] (p__law_rule K)) (D__law_folding : Df P w K mg base 3 "_law_folding" ["script", "start", "pieces"] (p__law_folding K)) (D__law_shown : Df P w K mg base 1 "_law_shown" ["rule", "folding"] (p__law_shown K)) (D_shown : Df P w K mg base 3 "shown" ["rule", "folding"] (p_shown8 K)) (D__law_turned : Df P w K mg base 1 "_law_turned" ["text", "way", "cell"] (p__law_turned K)) (D__law_due : Df P w K mg base 1 "_law_due" ["text"] (p__law_due K)) (D__law_told : Df P w K mg base 4 "_law_told" ["text"] (p__law_told P w K)) (D__law_alone : Df P w K mg base 1 "_law_alone" ["e"] (p__law_alone K)) (D__law_numbers : Df P w K mg base 2 "_law_numbers" ["found", "due"] (p__law_numbers K)) : FnOk P w K mg base CX0 5 f fd ["script"] (p_law K) := by
  refine F.ok sc_law (fun vs H Q E h => ?_) (fun cdv A outer s H vs Q E hr h => ⟨(t_law_k08 K E0 (p__law_draw K) (p__law_rule K) (p__law_folding K) (p__law_shown K) (p_shown8 K) (p__law_turned K) (p__law_due K) (p__law_told P w K) (p__law_alone K) (p__law_numbers K)), PSs.nox ?_, r_law_k08 Y h⟩)
  · obtain ⟨_, _, rfl, _⟩ := h
    rfl
  · exact (pss_cons (ps_set (i := 1) sc_law.nd rfl (Or.inl rfl) (pe_op op_add pe_int (pe_op op_mod (pe_callD D__law_draw (hr.mono (by first | decide | omega)) rfl (pa_cons (pv 0) (pa_cons pe_int pa_nil))) pe_int)))
      (pss_cons (ps_set (i := 2) sc_law.nd rfl (Or.inl rfl) (pe_callD D__law_rule (hr.mono (by first | decide | omega)) rfl (pa_cons (pv 0) (pa_cons (pv 1) pa_nil))))
      (pss_cons (ps_set (i := 3) sc_law.nd rfl (Or.inl rfl) (pe_callD D__law_folding (hr.mono (by first | decide | omega)) rfl (pa_cons (pv 0) (pa_cons pe_int (pa_cons (pv 1) pa_nil)))))
      (pss_cons (ps_set (i := 4) sc_law.nd rfl (Or.inl rfl) (pe_callD D__law_shown (hr.mono (by first | decide | omega)) rfl (pa_cons (pv 2) (pa_cons (pv 3) pa_nil))))
      (pss_cons (ps_set (i := 5) sc_law.nd rfl (Or.inl rfl) (pe_lst (pa_cons (pe_callTy call_list_of (by rfl) T.z_list (by decide +kernel) (pa_cons (pv 2) pa_nil)) (pa_cons (pe_callTy call_list_of (by rfl) T.z_list (by decide +kernel) (pa_cons (pv 3) pa_nil)) pa_nil))))
      (pss_cons (ps_set (i := 6) sc_law.nd rfl (Or.inl rfl) (pe_callD D_shown (hr.mono (by first | decide | omega)) rfl (pa_cons (pe_ix ix_list (pv 5) pe_int (fun _ _ => rfl)) (pa_cons (pe_ix ix_list (pv 5) pe_int (fun _ _ => rfl)) pa_nil))))
      (pss_cons (ps_if (PW.pt (pw_or (pt_not (pt_val (pe_callB call_isi (by rfl) T.z_isinstance (by decide +kernel) (pa_cons (pv 6) (pa_cons (pe_bltn rfl T.z_str (by decide +kernel) rfl) pa_nil))))) (pw_or (pt_cmpR op_ne (pv 6) (pv 4) (nomark _)) (pw_or1 (pt_cmpR (op_neD hr.units) (pv 5) (pe_lst (pa_cons (pv 2) (pa_cons (pv 3) pa_nil))) (nomark _)))))) (pss_one (ps_ret pe_bl)) pss_nil)
      (pss_cons (ps_set (i := 6) sc_law.nd rfl (Or.inl rfl) (pe_callD D__law_turned (hr.mono (by first | decide | omega)) rfl (pa_cons (pv 4) (pa_cons (pe_op op_mod (pe_callD D__law_draw (hr.mono (by first | decide | omega)) rfl (pa_cons (pv 0) (pa_cons pe_int pa_nil))) pe_int) (pa_cons (pe_callD D__law_draw (hr.mono (by first | decide | omega)) rfl (pa_cons (pv 0) (pa_cons pe_int pa_nil))) pa_nil)))))
      (pss_cons (ps_if (pt_cmpR op_eq (pe_op op_mod (pe_callD D__law_draw (hr.mono (by first | decide | omega)) rfl (pa_cons (pv 0) (pa_cons pe_int pa_nil))) pe_int) pe_int (nomark _)) (pss_one (ps_set (i := 6) sc_law.nd rfl (Or.inl rfl) (pe_ix ix_list (pe_lst (pa_cons pe_str (pa_cons pe_str (pa_cons pe_str (pa_cons pe_str (pa_cons pe_str (pa_cons (pe_op op_add_str (pe_op op_mulS pe_str pe_int) pe_str) (pa_cons pe_str pa_nil)))))))) (pe_op op_mod (pe_callD D__law_draw (hr.mono (by first | decide | omega)) rfl (pa_cons (pv 0) (pa_cons pe_int pa_nil))) pe_int) (fun _ _ => rfl)))) pss_nil)
      (pss_cons (ps_set (i := 4) sc_law.nd rfl (Or.inl rfl) (pe_callD D__law_due (hr.mono (by first | decide | omega)) rfl (pa_cons (pv 6) pa_nil)))
      (pss_cons (ps_for PassesOwn.never rfl (pi_range1 rfl T.z_range (pa_cons pe_int pa_nil)) (pg_name (i := 7) sc_law.nd rfl (Or.inl rfl)) (pss_cons (ps_set (i := 8) sc_law.nd rfl (Or.inl rfl) (pe_callD D__law_told (hr.mono (by first | decide | omega)) rfl (pa_cons (pv 6) pa_nil)))
      (pss_cons (ps_if (PW.pt (pw_and (pt_cmpR op_isN (pv 4) pe_non (nomark _)) (pw_and1 (pt_cmpR op_ne (pe_callD D__law_alone (hr.mono (by first | decide | omega)) rfl (pa_cons (pv 8) pa_nil)) pe_int (nomark _))))) (pss_one (ps_ret pe_bl)) pss_nil)
      (pss_one (ps_if (pt_cmpR op_notN (pv 4) pe_non (nomark _)) (pss_cons (ps_if (PW.pt (pw_or (pt_not (pt_val (pe_callB call_isi (by rfl) T.z_isinstance (by decide +kernel) (pa_cons (pv 8) (pa_cons (pe_bltn rfl T.z_tuple (by decide +kernel) rfl) pa_nil))))) (pw_or (pt_cmpR op_ne (pe_callB call_len_seq (by rfl) T.z_len (by decide +kernel) (pa_cons (pv 8) pa_nil)) pe_int (nomark _)) (pw_or1 (pt_not (pt_val (pe_callD D__law_numbers (hr.mono (by first | decide | omega)) rfl (pa_cons (pe_ix ix_tup (pv 8) pe_int (fun _ _ => rfl)) (pa_cons (pe_ix ix_tup (pv 4) pe_int (fun _ _ => rfl)) pa_nil))))))))) (pss_one (ps_ret pe_bl)) pss_nil)
      (pss_cons (ps_if (pt_not (pt_val (pe_callD D__law_numbers (hr.mono (by first | decide | omega)) rfl (pa_cons (pe_ix ix_tup (pv 8) pe_int (fun _ _ => rfl)) (pa_cons (pe_ix ix_tup (pv 4) pe_int (fun _ _ => rfl)) pa_nil))))) (pss_one (ps_ret pe_bl)) pss_nil)
      (pss_one (ps_expr (pe_bm0 PySem.F.plainAttrs_list PySem.F.slot_list_clear PySem.F.type_list_clear mt_clear (pe_ix ix_tup (pv 8) pe_int (fun _ _ => rfl))))))) pss_nil)))))
      (pss_one (ps_ret pe_bl)))))))))))))
end
abbrev FnA (n : Str) (st : Stmt) : He.DefD := ⟨(n, none), n, n, defArgs st, defBody st, defScope st, [], []⟩
def fn : List He.DefD := [FnA "see_rule" s_see_rule, FnA "see_folding" s_see_folding, FnA "shown" s_shown, FnA "number_of_word" s_number_of_word, FnA "read" s_read, FnA "_law_cell_at" s__law_cell_at, FnA "_law_draw" s__law_draw, FnA "_law_whole" s__law_whole, FnA "_law_rule" s__law_rule, FnA "_law_folding" s__law_folding, FnA "_law_numbers" s__law_numbers, FnA "_law_alone" s__law_alone, FnA "_law_shown" s__law_shown, FnA "_law_turned" s__law_turned, FnA "_law_due" s__law_due, FnA "_law_told" s__law_told, FnA "law" s_law]
def fa : List He.Fa := [.glo "see_rule", .glo "see_folding", .glo "shown", .glo "number_of_word", .glo "read", .glo "_law_cell_at", .glo "_law_draw", .glo "_law_whole", .glo "_law_rule", .glo "_law_folding", .glo "_law_numbers", .glo "_law_alone", .glo "_law_shown", .glo "_law_turned", .glo "_law_due", .glo "_law_told", .glo "law", .free "ValueError", .free "bool", .free "int", .free "isinstance", .free "len", .free "list", .free "max", .free "range", .free "str", .free "tuple", .glo "BadFolding", .glo "BadRule", .glo "NoSuch", .glo "NoText", .glo "RuleError", .exc "BadFolding", .exc "BadRule", .exc "NoText", .int "PIECES" 12, .int "LONGEST" 60, .str "FIGURES" "0123456789"]
abbrev R : PySem.W.OpenRow := PySem.W.OpenLaw.row PySem.Challenge.rw_foldrule_k08_written_and_read
def exq (K : PySem.W.Frag) : Bool := zsF K
abbrev hk : PySem.W.Hook := hookX 4 fa fn exq
def ob (s : PySem.W.SharedT) : He.AlD × Bool := (He.obsDG 4 fa fn (HandSHeadRun.getT s), exq (He.frG (HandSHeadRun.getT s) (He.asD (HandSHeadRun.getT s) 4)))
theorem ob_eq (s : PySem.W.SharedT) : ob s = hk.obs s.abs := obsX_eq (HandSHeadRun.getT_eq s)
def loose : List Str := [("RuleError" : Str), ("BadRule" : Str), ("BadFolding" : Str), ("NoSuch" : Str), ("NoText" : Str), ("PIECES" : Str), ("LONGEST" : Str), ("see_rule" : Str), ("see_folding" : Str), ("FIGURES" : Str), ("shown" : Str), ("number_of_word" : Str), ("read" : Str), ("_law_cell_at" : Str), ("_law_draw" : Str), ("_law_whole" : Str), ("_law_rule" : Str), ("_law_folding" : Str), ("_law_numbers" : Str), ("_law_alone" : Str), ("_law_shown" : Str), ("_law_turned" : Str), ("_law_due" : Str), ("_law_told" : Str)]
theorem run (w : World) : HandSHeadRun.RunEq R (PySem.W.view R.prog [28]) hk ob 6000 loose w := by
  intro os
  kernel_rfl
theorem facts {P : Program} {w : World} {K : PySem.W.Frag} {h : Heap} {mg : Str → Option Value} {f : Addr} (X : K.In h) (G : h.Ns mainGlobals mg) (hfa : mg ("law" : Str) = some (.ref f)) (c : He.SaysD fa fn K) (c2 : exq K = true) :
    ∃ fd : FuncData, (∀ (s : Shared) (v : Value), BindsTo s fd ⟨[v], []⟩ [("script", v)]) ∧ ∀ base : Heap, K.In base → base.Ns mainGlobals mg → FnOk P w K mg base CX0 5 f fd ["script"] (p_law K) := by
  have T : Txt K mg := ⟨He.free_ok X G (c.fact 17 (f := .free "ValueError") rfl), He.free_ok X G (c.fact 18 (f := .free "bool") rfl), He.free_ok X G (c.fact 19 (f := .free "int") rfl), He.free_ok X G (c.fact 20 (f := .free "isinstance") rfl), He.free_ok X G (c.fact 21 (f := .free "len") rfl), He.free_ok X G (c.fact 22 (f := .free "list") rfl), He.free_ok X G (c.fact 23 (f := .free "max") rfl), He.free_ok X G (c.fact 24 (f := .free "range") rfl), He.free_ok X G (c.fact 25 (f := .free "str") rfl), He.free_ok X G (c.fact 26 (f := .free "tuple") rfl), He.glo_ok X G (c.fact 27 (f := .glo "BadFolding") rfl), He.glo_ok X G (c.fact 28 (f := .glo "BadRule") rfl), He.glo_ok X G (c.fact 29 (f := .glo "NoSuch") rfl), He.glo_ok X G (c.fact 30 (f := .glo "NoText") rfl), He.glo_ok X G (c.fact 31 (f := .glo "RuleError") rfl), He.exc_ok (c.fact 32 (f := .exc "BadFolding") rfl), He.exc_ok (c.fact 33 (f := .exc "BadRule") rfl), He.exc_ok (c.fact 34 (f := .exc "NoText") rfl), He.int_ok X G (c.fact 35 (f := .int "PIECES" 12) rfl), He.int_ok X G (c.fact 36 (f := .int "LONGEST" 60) rfl), He.str_ok X G (c.fact 37 (f := .str "FIGURES" "0123456789") rfl)⟩
  have P_see_rule : Pd K mg "see_rule" s_see_rule ["rule"] := by
    obtain ⟨fd, F⟩ := c.def_ 0 (d := FnA "see_rule" s_see_rule) rfl
    exact ⟨_, fd, F, He.glo_ok X G (c.fact 0 (f := .glo "see_rule") rfl), F.bindsN fun _ _ _ _ _ _ us hl => match us, hl with | [_], _ => rfl⟩
  have P_see_folding : Pd K mg "see_folding" s_see_folding ["rule", "folding"] := by
    obtain ⟨fd, F⟩ := c.def_ 1 (d := FnA "see_folding" s_see_folding) rfl
    exact ⟨_, fd, F, He.glo_ok X G (c.fact 1 (f := .glo "see_folding") rfl), F.bindsN fun _ _ _ _ _ _ us hl => match us, hl with | [_, _], _ => rfl⟩
  have P_shown : Pd K mg "shown" s_shown ["rule", "folding"] := by
    obtain ⟨fd, F⟩ := c.def_ 2 (d := FnA "shown" s_shown) rfl
    exact ⟨_, fd, F, He.glo_ok X G (c.fact 2 (f := .glo "shown") rfl), F.bindsN fun _ _ _ _ _ _ us hl => match us, hl with | [_, _], _ => rfl⟩
  have P_number_of_word : Pd K mg "number_of_word" s_number_of_word ["word"] := by
    obtain ⟨fd, F⟩ := c.def_ 3 (d := FnA "number_of_word" s_number_of_word) rfl
    exact ⟨_, fd, F, He.glo_ok X G (c.fact 3 (f := .glo "number_of_word") rfl), F.bindsN fun _ _ _ _ _ _ us hl => match us, hl with | [_], _ => rfl⟩
  have P_read : Pd K mg "read" s_read ["text"] := by
    obtain ⟨fd, F⟩ := c.def_ 4 (d := FnA "read" s_read) rfl
    exact ⟨_, fd, F, He.glo_ok X G (c.fact 4 (f := .glo "read") rfl), F.bindsN fun _ _ _ _ _ _ us hl => match us, hl with | [_], _ => rfl⟩
  have P__law_cell_at : Pd K mg "_law_cell_at" s__law_cell_at ["script", "k"] := by
    obtain ⟨fd, F⟩ := c.def_ 5 (d := FnA "_law_cell_at" s__law_cell_at) rfl
    exact ⟨_, fd, F, He.glo_ok X G (c.fact 5 (f := .glo "_law_cell_at") rfl), F.bindsN fun _ _ _ _ _ _ us hl => match us, hl with | [_, _], _ => rfl⟩
  have P__law_draw : Pd K mg "_law_draw" s__law_draw ["script", "k"] := by
    obtain ⟨fd, F⟩ := c.def_ 6 (d := FnA "_law_draw" s__law_draw) rfl
    exact ⟨_, fd, F, He.glo_ok X G (c.fact 6 (f := .glo "_law_draw") rfl), F.bindsN fun _ _ _ _ _ _ us hl => match us, hl with | [_, _], _ => rfl⟩
  have P__law_whole : Pd K mg "_law_whole" s__law_whole ["found"] := by
    obtain ⟨fd, F⟩ := c.def_ 7 (d := FnA "_law_whole" s__law_whole) rfl
    exact ⟨_, fd, F, He.glo_ok X G (c.fact 7 (f := .glo "_law_whole") rfl), F.bindsN fun _ _ _ _ _ _ us hl => match us, hl with | [_], _ => rfl⟩
  have P__law_rule : Pd K mg "_law_rule" s__law_rule ["script", "pieces"] := by
    obtain ⟨fd, F⟩ := c.def_ 8 (d := FnA "_law_rule" s__law_rule) rfl
    exact ⟨_, fd, F, He.glo_ok X G (c.fact 8 (f := .glo "_law_rule") rfl), F.bindsN fun _ _ _ _ _ _ us hl => match us, hl with | [_, _], _ => rfl⟩
  have P__law_folding : Pd K mg "_law_folding" s__law_folding ["script", "start", "pieces"] := by
    obtain ⟨fd, F⟩ := c.def_ 9 (d := FnA "_law_folding" s__law_folding) rfl
    exact ⟨_, fd, F, He.glo_ok X G (c.fact 9 (f := .glo "_law_folding") rfl), F.bindsN fun _ _ _ _ _ _ us hl => match us, hl with | [_, _, _], _ => rfl⟩
  have P__law_numbers : Pd K mg "_law_numbers" s__law_numbers ["found", "due"] := by
    obtain ⟨fd, F⟩ := c.def_ 10 (d := FnA "_law_numbers" s__law_numbers) rfl
    exact ⟨_, fd, F, He.glo_ok X G (c.fact 10 (f := .glo "_law_numbers") rfl), F.bindsN fun _ _ _ _ _ _ us hl => match us, hl with | [_, _], _ => rfl⟩
  have P__law_alone : Pd K mg "_law_alone" s__law_alone ["e"] := by
    obtain ⟨fd, F⟩ := c.def_ 11 (d := FnA "_law_alone" s__law_alone) rfl
    exact ⟨_, fd, F, He.glo_ok X G (c.fact 11 (f := .glo "_law_alone") rfl), F.bindsN fun _ _ _ _ _ _ us hl => match us, hl with | [_], _ => rfl⟩
  have P__law_shown : Pd K mg "_law_shown" s__law_shown ["rule", "folding"] := by
    obtain ⟨fd, F⟩ := c.def_ 12 (d := FnA "_law_shown" s__law_shown) rfl
    exact ⟨_, fd, F, He.glo_ok X G (c.fact 12 (f := .glo "_law_shown") rfl), F.bindsN fun _ _ _ _ _ _ us hl => match us, hl with | [_, _], _ => rfl⟩
  have P__law_turned : Pd K mg "_law_turned" s__law_turned ["text", "way", "cell"] := by
    obtain ⟨fd, F⟩ := c.def_ 13 (d := FnA "_law_turned" s__law_turned) rfl
    exact ⟨_, fd, F, He.glo_ok X G (c.fact 13 (f := .glo "_law_turned") rfl), F.bindsN fun _ _ _ _ _ _ us hl => match us, hl with | [_, _, _], _ => rfl⟩
  have P__law_due : Pd K mg "_law_due" s__law_due ["text"] := by
    obtain ⟨fd, F⟩ := c.def_ 14 (d := FnA "_law_due" s__law_due) rfl
    exact ⟨_, fd, F, He.glo_ok X G (c.fact 14 (f := .glo "_law_due") rfl), F.bindsN fun _ _ _ _ _ _ us hl => match us, hl with | [_], _ => rfl⟩
  have P__law_told : Pd K mg "_law_told" s__law_told ["text"] := by
    obtain ⟨fd, F⟩ := c.def_ 15 (d := FnA "_law_told" s__law_told) rfl
    exact ⟨_, fd, F, He.glo_ok X G (c.fact 15 (f := .glo "_law_told") rfl), F.bindsN fun _ _ _ _ _ _ us hl => match us, hl with | [_], _ => rfl⟩
  obtain ⟨fdL, FL⟩ := c.def_ 16 (d := FnA "law" s_law) rfl
  have gL := He.glo_ok X G (c.fact 16 (f := .glo "law") rfl)
  have bA := FunD.bindsA (ps := ["script"]) FL fun _ _ _ _ _ _ us hl => match us, hl with | [_], _ => rfl
  have eL := hfa.symm.trans gL
  cases eL
  refine ⟨fdL, fun s v => bA s [v] rfl, fun base _ _ => ?_⟩
  have D_see_rule := ok_see_rule (P := P) (w := w) (base := base) T P_see_rule
  have DN_see_rule := okN_see_rule (P := P) (w := w) (base := base) T P_see_rule
  have D_see_folding := ok_see_folding (P := P) (w := w) (base := base) T P_see_folding D_see_rule
  have DN_see_folding := okN_see_folding (P := P) (w := w) (base := base) T P_see_folding DN_see_rule
  have D_shown := ok_shown (P := P) (w := w) (base := base) T P_shown D_see_folding
  have DX_number_of_word := okX_number_of_word (P := P) (w := w) (base := base) T P_number_of_word
  have DX_read := okX_read (P := P) (w := w) (base := base) T P_read DN_see_folding DX_number_of_word
  have D__law_cell_at := ok__law_cell_at (P := P) (w := w) (base := base) T P__law_cell_at
  have D__law_draw := ok__law_draw (P := P) (w := w) (base := base) T P__law_draw D__law_cell_at
  have D__law_whole := ok__law_whole (P := P) (w := w) (base := base) T P__law_whole
  have D__law_rule := ok__law_rule (P := P) (w := w) (base := base) T P__law_rule D__law_draw
  have D__law_folding := ok__law_folding (P := P) (w := w) (base := base) T P__law_folding D__law_draw
  have D__law_numbers := ok__law_numbers (P := P) (w := w) (base := base) T P__law_numbers D__law_whole
  have D__law_alone := ok__law_alone (P := P) (w := w) (base := base) T P__law_alone
  have D__law_shown := ok__law_shown (P := P) (w := w) (base := base) T P__law_shown
  have D__law_turned := ok__law_turned (P := P) (w := w) (base := base) T P__law_turned
  have D__law_due := ok__law_due (P := P) (w := w) (base := base) T P__law_due
  have D__law_told := ok__law_told (P := P) (w := w) (base := base) T P__law_told DX_read
  exact ok_law (P := P) (w := w) (base := base) T (zsF_ok c2) FL D__law_draw D__law_rule D__law_folding D__law_shown D_shown D__law_turned D__law_due D__law_told D__law_alone D__law_numbers
end Lw
open PySem PySem.W PySem.Calls PyProof.Rows
set_option maxRecDepth 100000 in
set_option maxHeartbeats 0 in
theorem PySem.Challenge.cw_foldrule_k08_written_and_read_holds : PySem.Challenge.rw_foldrule_k08_written_and_read.Holds := by
  w_on; o_law
  refine HandSHeadRun.head_any (r := OpenLaw.row PySem.Challenge.rw_foldrule_k08_written_and_read) (q := view (OpenLaw.row PySem.Challenge.rw_foldrule_k08_written_and_read).prog [28]) (H := Lw.hk) (ob := Lw.ob) (M := 6000) (loose := Lw.loose) (d := HandSHeadRun.topDef (OpenLaw.row PySem.Challenge.rw_foldrule_k08_written_and_read).prog 28) (kwd := []) Lw.ob_eq
    (by kernel_rfl) (fun s => by kernel_rfl) Lw.run (by kernel_rfl) (by kernel_rfl) (by kernel_rfl) (by rfl) (by first | assumption | decide +kernel) (by decide +kernel) ⟨rfl, rfl, rfl, rfl, rfl, by decide +kernel⟩ ?hw ?hc
  case hw => w_witness2
  case hc =>
    refine L2.walk_ofE (l := PySem.Challenge.rw_foldrule_k08_written_and_read) (n := 63) (k := 5) (x := "script") (CX := L2.CX0) rfl (by decide) (by kernel_rfl) ⟨rfl, by decide, by decide⟩ ?F (fun _ _ _ _ z => z)
    intro w mg fa h Y G hmg0
    obtain ⟨K, KX, c, c2⟩ := Y
    have hmg : mg ("law" : PySem.Str) = some (.ref fa) := by
      have e : (HandSHeadRun.topDef (OpenLaw.row PySem.Challenge.rw_foldrule_k08_written_and_read).prog 28).name = ("law" : PySem.Str) := by kernel_rfl
      rw [← e]
      exact hmg0
    obtain ⟨fd, hb, hF⟩ := Lw.facts (P := (PySem.Challenge.rw_foldrule_k08_written_and_read).prog) (w := w) KX G hmg c c2
    exact ⟨K, fd, Fo.p_law K, KX, hb, fun H a ns hl _ hS => ⟨a, ns, rfl, hS, fun _ => rfl⟩, hF⟩
#print axioms PySem.Challenge.cw_foldrule_k08_written_and_read_holds

