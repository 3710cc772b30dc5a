import PyProof.Rows.All
import Wide.All
import OpenK.AllK
import Wide.FinOn
import KE.KExcSuper
import HandS.ForMost
import HandS.Exc
import HandS.ExcInit
import HandS.TryMany
import HandS.ExcIs
import HandS.IsInst
import HandS.Lambda
import HandS.Style
import HandS.Wide
import HandS.Defaults
import PyProof.ReprRoads
import KE.KExcIs
import HandS.EndTab
import HandS.EndOwn
import HandS.HeadWalk
import PyProof.ReprText
import KE.BitLaws
import HandS.WordsExc
import HandS.Head0
import HandS.Head1
import HandS.Head2
import HandS.HeadEnd
import HandS.HeadHook4
import HandS.ExcField
import HandS.MakeKwOnly
import HandS.Codes
import HandS.Walk
import HandS.LawCells
import PyProof.FitsInt
import PyProof.P3Eq
import HandS.More
import KE.GoesEnum
import PyProof.EvalArms
import HandS.NoneIn
import HandS.WideBits
import Wide.Once
import PySem.Challenge.RW_codewalk_k49_tables_spoilt
set_option Elab.async false
set_option linter.all false
set_option maxRecDepth 100000
set_option maxHeartbeats 4000000
/-! ### own exceptions whose __init__ is: super().__init__(field); self.field = field -/
namespace PySem
namespace Nx
open PySem.W PySem.Calls PyProof.Rows PySem.HandSPX
def iA (p1 p2 : Pos) : Arguments := { posonlyargs := [], args := [{ arg := "self", annotation := none, pos := p1 }, { arg := "field", annotation := none, pos := p2 }], vararg := none, kwonlyargs := [], kw_defaults := [], kwarg := none, defaults := [] }
def iB (q1 q2 q3 q4 q5 q6 q7 q8 q9 q10 : Pos) : List Stmt :=
  [.Expr (.Call (.Attribute (.Call (.Name "super" q1) [] [] q2) "__init__" q3) [.Name "field" q4] [] q5) q6, .Assign [.Attribute (.Name "self" q7) "field" q8] (.Name "field" q9) q10]
def iS : Scope := { kind := .function, names := [(PySem.Str.ofString "self", .local), (PySem.Str.ofString "field", .local), (PySem.Str.ofString "__class__", .free), (PySem.Str.ofString "super", .globalImplicit)], isGenerator := false, isCoroutine := false, more := [] }
/-- what the written part says of the class at C and of its __init__ at fI -/
structure Txt (P : Program) (K : Frag) (mg : Str → Option Value) (C fI : Addr) : Prop where
  ox : L2.OexC K C
  noN : findIn K (.ref C) "field" = some none
  iC : findIn K (.ref C) "__init__" = some (some (.ref fI))
  tI : typeIn K (.ref fI) = some (.type "function")
  sup : ks_superIn K C C "__init__" = some (some (.builtin "ValueError.__init__"))
  sub : mroIn K C (.ref C) = some true
  isB : subIn K (.ref C) (.type "ValueError") = some true
  tp : nsIn K cStatics "thirdparty.any" = some none
  noS : mg "super" = none
  top : (P.main.scope.names.lookup ("super" : Str)).isSome = false
  fn : ∃ (qn : Str) (oc ccl cl ct doc pm : Value) (od cdd cld an : Option Addr) (osl ccs csl : Array (Option Value)) (cda cc : Addr) (vs : Array Value) (file : Str) (tf : Tok) (p1 p2 q1 q2 q3 q4 q5 q6 q7 q8 q9 q10 : Pos),
    K.lookup fI = some ⟨oc, od, .func (ksFn "__init__" qn (iA p1 p2) (iB q1 q2 q3 q4 q5 q6 q7 q8 q9 q10) iS .none .none doc pm an (.ref cda) ct cc), osl⟩ ∧ codeIn K (.ref cda) qn = true ∧
    K.lookup cda = some ⟨ccl, cdd, .fields vs, ccs⟩ ∧ vs[2]? = some (.str file tf) ∧ ((P.main.file : Str) == file) = true ∧
    K.lookup cc = some ⟨cl, cld, .cell (some (.ref C)), csl⟩ ∧
    (∀ env : Env, ∃ pl : Sem Bool, eval (.Call (.Attribute (.Call (.Name "super" q1) [] [] q2) "__init__" q3) [.Name "field" q4] [] q5) env = (do
      let ov ← attributeBase (.Call (.Name "super" q1) [] [] q2) "__init__" env (eval (.Call (.Name "super" q1) [] [] q2) env)
      standAt q3.atName
      let (f, first) ← holding [ov] (getMethod ov "__init__" pl)
      callWith q5 f first (backTo q5 (starEach [.Name "field" q4] env)) []))
section
variable {prog : Program} {w : World} {A : Around} {R : Result → Shared → Prop} {s : Shared} {K : Frag} {mg mb : Str → Option Value} {C fI : Addr}
/-- what __init__ leaves of a fresh exception at x -/
structure InitEnd (h h' : Heap) (x C dx t1 : Addr) (v : Value) : Prop where
  keep : ∀ b o, b ≠ x → h.get? b = some o → h'.get? b = some o
  obj : h'.get? x = some { cls := .ref C, dict := some dx, data := .fields #[.ref t1, .none, .none, .none, .bool false, .none] }
  dbig : h.objs.size ≤ dx
  dne : dx ≠ x
  ns : h'.Ns1 dx (fun y => if y = "field" then some v else none)
theorem init_ok (T : Txt prog K mg C fI) {x t0 : Addr} {v : Value} (X : K.In s.heap) (hns : s.heap.Ns mainGlobals mg) (hbl : s.heap.Ns builtinsNs mb) (hbb : ∀ x : Str, x ≠ "__name__" → mb x = bootBuiltins x) (hlim : s.heap.NoLimit)
    (hx : s.heap.get? x = some (excO C t0)) (hnx : K.lookup x = none) (hroom : A.depth < recursionLimit)
    (hq : ∀ h' tk dx t1, InitEnd s.heap h' x C dx t1 v → R (.ok (.ret .none)) { s with heap := h', toks := tk }) :
    codeAny (model prog w) A (.call (.ref fI) ⟨[.ref x, v], []⟩) R s := by
  obtain ⟨qn, oc, ccl, cl, ct, doc, pm, od, cdd, cld, an, osl, ccs, csl, cda, cc, vs, file, tf, p1, p2, q1, q2, q3, q4, q5, q6, q7, q8, q9, q10, ho, hcd, hcode, hvs, hfile, hcell, hev⟩ := T.fn
  obtain ⟨nm, q, N, bs, bm, sn, sub, ab, col, dd, k0, k1, k2, k3, k5, hC, hbm⟩ := T.ox.cls
  have hcl : clsIn K C = some { name := nm, bases := bs, mro := .ref C :: bm, ns := N, qualname := q, hasDict := true, slotNames := sn, subclasses := sub, abstract := ab, collection := col, hasDel := false } := by unfold clsIn; rw [hC] <;> rfl
  refine ks_codeAny_call_defAt (fd := ksFn "__init__" qn (iA p1 p2) (iB q1 q2 q3 q4 q5 q6 q7 q8 q9 q10) iS .none .none doc pm an (.ref cda) ct cc) (body := iB q1 q2 q3 q4 q5 q6 q7 q8 q9 q10) (binds := [("self", .ref x), ("field", v)])
    hroom (X _ _ ho) rfl hlim (codeRec_of X hcd) rfl (BindsTo.of_eq (by first | rfl | with_unfolding_all rfl)) (show ∀ x ∈ iS.names, x.2 ≠ NameKind.cell from by decide +kernel) (by
      intro y hy
      rcases List.mem_cons.mp hy with rfl | hy
      · exact (show iS.names.lookup ("self" : Str) = some .local from by decide +kernel)
      · rcases List.mem_cons.mp hy with rfl | hy
        · exact (show iS.names.lookup ("field" : Str) = some .local from by decide +kernel)
        · cases hy) (fun h₁ hn₁ k₁ => ?_)
  have X₁ : K.In h₁ := X.keeps k₁
  have hx₁ := k₁ _ _ hx
  obtain ⟨hp, g, dr, tk, os⟩ := s
  -- super().__init__(field)
  obtain ⟨pl, he⟩ := hev (ksEnv qn iS hp.objs.size fI (.ref cda) cc)
  refine ks_wpAt_execs_cons (ks_wpAt_Expr_any (ks_wpAt_MethodCall (pl := pl) ?_ he))
  refine ks_wpAt_super_base (env := ksEnv qn iS hp.objs.size fI (.ref cda) cc) rfl rfl (by decide +kernel) rfl (X₁ _ _ ho) rfl rfl rfl (X₁ _ _ hcode) rfl hvs hfile T.top ?_
  refine ks_loadName_global rfl rfl (loadGlobal_builtin (env := ksEnv qn iS hp.objs.size fI (.ref cda) cc) (hns.keeps k₁) T.noS (hbl.keeps k₁) ((hbb _ (by decide +kernel)).trans Boot.«super») ⟨rfl, ?_⟩)
  refine wpAny_loadName_free rfl rfl rfl ⟨_, X₁ _ _ hcell, rfl⟩ ?_
  refine wpAny_loadName_local rfl rfl hn₁ rfl ?_
  refine ks_wpAny_isType_cls (X₁ _ _ hC) rfl ⟨rfl, ?_⟩
  refine ks_wpAny_call_super (X₁ _ _ hC) rfl hx₁ rfl (fun c e => by cases e) (looks_mroIn X₁ T.sub) (fun h₂ e₂ k₂ => ?_)
  have X₂ : K.In h₂ := X₁.keeps k₂
  have hx₂ := k₂ _ _ hx₁
  have hm : alongIn K "__init__" (((Value.ref C :: bm).dropWhile (· != .ref C)).drop 1) = some (some (.builtin "ValueError.__init__")) := by
    have z := T.sup
    unfold ks_superIn at z
    rw [hcl] at z
    exact z
  have hI : Looks (model prog w) h₂ (isInstance (.ref x) (.type "ValueError")) true := (show InstAt h₂ x (excO C t0) C none from ⟨hx₂, rfl, rfl, trivial⟩).type.andThen (looks_subIn X₂ T.isB)
  have nxC : x ≠ C := by
    rintro rfl
    have z := X₂ _ _ hC
    rw [hx₂] at z
    cases z
  refine kxs_getMethod kxs_ValueError e₂ (looks_opaque X₂ T.tp) (l₀ := .ref C :: bm) (fun A Q E s k q => wpAny_bind ((looks_clsIn X₂ hcl) A _ E s k (wpAny_pure q))) rfl X₂ hm hI nxC (by decide +kernel) ?_
  have k₃ : ∀ b o, h₂.get? b = some o → (h₂.push (kxs_mw "ValueError.__init__" x)).get? b = some o := fun b o e => Heap.get?_push_of_some _ e
  have e₃ : (h₂.push (kxs_mw "ValueError.__init__" x)).get? h₂.objs.size = some (kxs_mw "ValueError.__init__" x) := Heap.get?_push_at rfl rfl
  have n₃ := (hn₁.keeps k₂).keeps k₃
  have X₃ := X₂.keeps k₃
  have hx₃ := k₃ _ _ hx₂
  refine kxs_callWith (i := "ValueError.__init__") (x := x) (by rfl) (evalArgs_plain ?_)
  show wpAny _ _ (spliced ((false, eval (.Name "field" q4) (ksEnv qn iS hp.objs.size fI (.ref cda) cc)) :: backTo q5 (starEach [] (ksEnv qn iS hp.objs.size fI (.ref cda) cc)))) _ _ _
  refine Calls.spliced_cons (wpAny_Name (wpAny_loadName_local rfl rfl n₃ rfl ?_) (by decide +kernel))
  refine Calls.spliced_nil ⟨e₃, ?_⟩
  show wpAny _ _ (call (.ref h₂.objs.size) [v]) _ _ _
  refine wpAny_call (codeAny_of_tree ?_)
  show wpAny _ _ (callAny (.ref h₂.objs.size) ⟨[v], []⟩) _ _ _
  simp only [callAny]
  refine wpAny_bind (wpAny_load e₃ ?_)
  simp only [kxs_mw, show (Value.type "method-wrapper" == Value.type "method" || Value.type "method-wrapper" == Value.type "builtin_function_or_method" || Value.type "method-wrapper" == Value.type "method-wrapper") = true by decide, if_true]
  refine KFB.if_so (by decide) ?_
  refine wpAny_bind (check_bound_init PySem.F.excBase_ValueError.toExcCallFacts (X₃ _ _ hC) hx₃ rfl ?_)
  refine wpAny_bind (wpAny_pure (wpAny_pure ?_))
  refine ⟨plainId_quiet PySem.F.excBase_ValueError.init.plain _, codeAny_builtin PySem.F.excBase_ValueError.initEntry ?_⟩
  refine exc_init_tree (e := x) (cls := .ref C) (dv := none) (c2 := .none) (c3 := .none) (b4 := .bool false) hx₃ (by show 1 ≤ sizeLine; rw [sizeLine_eq]; decide) (fun h₄ k₄ hx₄ _ => ?_)
  have X₄ : K.In h₄ := fun b o e => k₄ b o (fun z => by rw [z, hnx] at e; cases e) (X₃ b o e)
  have xL : hp.objs.size ≠ x := Nat.ne_of_gt (Heap.lt_size hx)
  have n₄ : h₄.Ns hp.objs.size (fun y => List.lookup y [(("self" : Str), Value.ref x), (("field" : Str), v)].reverse) := by
    obtain ⟨o, es, ep, e, r⟩ := n₃
    exact ⟨o, es, ep, k₄ _ _ xL e, r⟩
  -- self.field = field
  refine wpAt_of_wpAny (wpAny_execs_cons (plainObj_wpAny_Assign_Attribute ?_))
  refine wpAny_Name (wpAny_loadName_local rfl rfl n₄ rfl (wpAny_Name (wpAny_loadName_local rfl rfl n₄ rfl ?_) (by decide +kernel))) (by decide +kernel)
  refine set_plain X₄ (ox := excO C (h₂.push (kxs_mw "ValueError.__init__" x)).objs.size) (od := none) ⟨hx₄, rfl, rfl, trivial⟩ T.ox.sa ?_
  refine exc_osa X₄ hx₄ hcl (show refsVE (.ref C :: bm) = true from hbm) rfl T.noN (fun h₅ tk₅ dx k₅ dn dne hx₅ hn₅ => ?_)
  have old : ∀ b o, b ≠ x → hp.get? b = some o → h₅.get? b = some o := fun b o hb e => k₅ b o hb (k₄ b o hb (k₃ b o (k₂ b o (k₁ b o e))))
  have big : hp.objs.size ≤ dx := by
    obtain ⟨o, es, ep, e, r⟩ := n₄
    exact Nat.le_of_lt (Nat.lt_of_lt_of_le (Heap.lt_size e) dn)
  exact wpAny_execs_nil (hq h₅ tk₅ dx _ ⟨old, hx₅, big, dne, hn₅⟩)
end
end Nx
end PySem
set_option maxHeartbeats 4000000
namespace PySem
namespace Nx
open PySem.W PySem.Calls PyProof.Rows PySem.HandSPX
section
variable {prog : Program} {w : World} {A : Around} {R : Result → Shared → Prop} {s : Shared} {K : Frag} {mg mb : Str → Option Value} {C fI : Addr}
/-- a made exception -/
structure Made (h h' : Heap) (e C d : Addr) (v : Value) : Prop where
  keep : ∀ b o, h.get? b = some o → h'.get? b = some o
  new : h.objs.size ≤ e
  obj : ∃ oe vs, h'.get? e = some oe ∧ oe.cls = .ref C ∧ oe.dict = some d ∧ oe.data = .fields vs ∧ vs[1]? = some .none
  dbig : h.objs.size ≤ d
  dne : d ≠ e
  ns : h'.Ns1 d (fun y => if y = "field" then some v else none)
theorem made_ok (T : Txt prog K mg C fI) {v : Value} (X : K.In s.heap) (hns : s.heap.Ns mainGlobals mg) (hbl : s.heap.Ns builtinsNs mb) (hbb : ∀ x : Str, x ≠ "__name__" → mb x = bootBuiltins x) (hlim : s.heap.NoLimit) (hroom : A.depth + 1 < recursionLimit)
    (hq : ∀ h' tk e d, Made s.heap h' e C d v → R (.ok (.ret (.ref e))) { s with heap := h', toks := tk }) :
    codeAny (model prog w) A (.call (.ref C) ⟨[v], []⟩) R s := by
  obtain ⟨nm, q, N, bs, bm, sn, sub, ab, col, dd, k0, k1, k2, k3, k5, hC, hbm⟩ := T.ox.cls
  obtain ⟨hp, g, dr, tk, os⟩ := s
  have k : ∀ b o, hp.get? b = some o → ((hp.push (kdv_tup [v])).push (excO C hp.objs.size)).get? b = some o := fun b o e => Heap.get?_push_of_some _ (Heap.get?_push_of_some _ e)
  have hget : ((hp.push (kdv_tup [v])).push (excO C hp.objs.size)).get? (hp.objs.size + 1) = some (excO C hp.objs.size) := by heap_get
  have hnx : K.lookup (hp.objs.size + 1) = none := by
    cases e : K.lookup (hp.objs.size + 1) with
    | none => rfl
    | some o =>
      have z : hp.get? (hp.objs.size + 1) = some o := X _ _ e
      exact absurd (Nat.lt_of_succ_lt (Heap.lt_size z)) (Nat.lt_irrefl _)
  have one : [v].length ≤ sizeLine := by
    show 1 ≤ sizeLine
    rw [sizeLine_eq]
    decide
  refine call_own PySem.F.excBase_ValueError (fun X => refsVE_contains X bm hbm) (X _ _ hC) (looks_findIn X T.iC) (fun self => bind_fn X self T.tI) one ?_
  refine init_ok (s := ⟨(hp.push (kdv_tup [v])).push (excO C hp.objs.size), g, dr, tk, os⟩) T (X.keeps k) (hns.keeps k) (hbl.keeps k) hbb (hlim.keeps k) hget hnx ?_ fun h' tk' dx t1 ⟨k', hx, dn, dne, hns'⟩ => ?_
  · show A.depth + 1 < recursionLimit
    exact hroom
  · have old : ∀ b o, hp.get? b = some o → h'.get? b = some o := fun b o e => k' b o (Nat.ne_of_lt (Nat.lt_succ_of_lt (Heap.lt_size e))) (k b o e)
    have z : hp.objs.size + 1 + 1 ≤ dx := by
      first
        | (simpa only [Heap.size_push] using dn)
        | exact dn
        | (have q := dn; rw [Heap.size_push, Heap.size_push] at q; exact q)
    exact ⟨rfl, hq h' tk' (hp.objs.size + 1) dx ⟨old, Nat.le_succ _, ⟨_, _, hx, rfl, rfl, rfl, rfl⟩, Nat.le_trans (Nat.le_trans (Nat.le_succ _) (Nat.le_succ _)) z, dne, hns'⟩⟩
end
end Nx
end PySem
namespace L2
open PySem PySem.Spec PyProof.Rows
theorem relO_one {f : Str} {v : V} {v' : Value} (r : RelV v v') (g : Str) : RelO (List.lookup g [(f, v)]) (if g = f then some v' else none) := by
  rw [lookup_put]
  by_cases h : g = f
  · rw [if_pos h, if_pos h]
    exact r
  · rw [if_neg h, if_neg h]
    trivial
section
variable {X : Cx} {C fI : Addr}
/-- NoX(e), the class at C -/
def tMkNx (f : Str) (C : Addr) (ta : TA) : St → Hp → XK → Prop := fun σ H Q => ta σ H fun vs H1 => ∃ v, vs = [v] ∧ ∀ d, H1 d = none → Q (.ref C) (some d) (upd H1 d (.xd [(f, v)]))
theorem pmk_nx {a : Expr} {ta : TA} {x : Str} {p pos : Pos} {k : Nat} (T : PySem.Nx.Txt X.prog X.K X.mg C fI) (hr : Room k X.A) (ha : PA X [a] ta) (hg : Gl X x) (hm : X.mg x = some (.ref C)) (hdb : (x == ("__debug__" : Str)) = false := by decide)
    (he : starEach (a :: []) X.env = (false, eval a X.env) :: starEach [] X.env := by rfl) (hpl : (backTo pos (starEach [] X.env)).any (·.1) = false := by rfl) :
    PMk X (.Call (.Name x p) [a] [] pos) (tMkNx "field" C ta) := by
  intro pins s σ H Q I h
  refine wpAny_Call_Name_kw (ld_glob I hg hm ?_ hdb)
  refine PySem.W.callWith_K (h₀ := X.base) I.ok.mod.kin T.ox.kC (thn (ha.run pos pins s σ H _ I h) fun us s1 hh => ?_) he hpl
  obtain ⟨vs, H1, I1, r1, v, ev, q1⟩ := hh
  subst ev
  refine ⟨I1.kIn, ?_⟩
  cases r1 with
  | cons rv rn =>
    rename_i v' us'
    cases rn
    show wpAny _ _ (call (.ref C) [v']) _ _ _
    have hlim := I1.nolimit
    obtain ⟨mb, hb1, hb2⟩ := I1.ok.mod.blt
    have hns := I1.ok.mod.glob.keeps I1.bk
    have hbl := hb1.keeps I1.bk
    obtain ⟨hp, g, dr, tk, os⟩ := s1
    refine wpAny_call (PySem.Nx.made_ok T I1.kIn hns hbl hb2 hlim (by have := hr.dp; omega) fun h' tk' e d M => ?_)
    show MkP X pins σ Q (.ref e) ⟨h', g, dr, tk', os⟩
    obtain ⟨oe, fv, hoe, hc, hd, hdat, h1⟩ := M.obj
    have hns := M.ns
    obtain ⟨G', g1, g2⟩ := restrict h' fun b => decide (b ≠ e)
    have gk : ∀ b, b ≠ e → G'.get? b = h'.get? b := fun b hb => g1 b (decide_eq_true hb)
    have ge : G'.get? e = none := g2 e (by simp)
    have old : ∀ b o, hp.get? b = some o → G'.get? b = some o := fun b o q => (gk b (Nat.ne_of_lt (Nat.lt_of_lt_of_le (Heap.lt_size q) M.new))).trans (M.keep b o q)
    have ob : ObjOk X.prog X.w (upd H1 d (.xd [(("field" : Str), v)])) G' d (.xd [(("field" : Str), v)]) :=
      ⟨_, hns.at (fun o q => (gk d M.dne).trans q), fun f => relO_one rv f⟩
    have J : Inv X pins σ (upd H1 d (.xd [(("field" : Str), v)])) ⟨G', g, dr, tk', os⟩ := I1.laid (t' := tk') old M.dbig ob
    refine ⟨e, oe, fv, ⟨G', g, dr, tk', os⟩, _, .ref C, some d, rfl, J, fun b o q => ?_, ge, hoe, ⟨hc, hd⟩, hdat, h1, ?_, rfl, I1.bare, raises_own T.ox.exC T.ox.tyC, q1 d (I1.hok.fresh M.dbig)⟩
    · by_cases hb : b = e
      · have q' : G'.get? b = some o := q
        rw [hb, ge] at q'; cases q'
      · exact (gk b hb).symm.trans q
    · rw [upd_ne (Ne.symm M.dne)]
      exact I1.hok.fresh M.new
/-- isinstance(e, c), e the exception that the suite holds (at a; its class cls, its dict d) -/
def rIsX (K : PySem.W.Frag) (a : Addr) (cls : Value) (d : Option Addr) : List V → Hp → VK → Prop := fun xs H Q =>
  ∃ (D dd : Addr) (fs : List (Str × V)) (c : V) (cv : Value) (b : Bool), cls = .ref D ∧ ExcC K D ∧ d = some dd ∧ H dd = some (.xd fs) ∧ xs = [.ref a, c] ∧ (∀ u, RelV c u → u = cv) ∧ PySem.W.kitOne K (.ref D) cv = some b ∧ Q (.bl b) H
theorem call_isX {a : Addr} {oe : Obj} {cls : Value} {d : Option Addr} {pn : List (Addr × Obj)} (hz : Zc cls d oe) (hf : ∃ vs, oe.data = .fields vs) : CallR (X.suite a ((a, oe) :: pn)) (.builtin "isinstance") (rIsX X.K a cls d) := by
  intro pins s σ H xs us Q I r h
  obtain ⟨D, dd, fs, c, cv, b, rfl, T, rfl, hdd, rfl, hcv, e, q⟩ := h
  cases r with
  | cons rx rr =>
    cases rr with
    | cons rt rr =>
      cases rr
      cases rx
      have ec := hcv _ rt
      subst ec
      obtain ⟨hget, _⟩ := I.pin (a, oe) (List.mem_append.mpr (.inl List.mem_cons_self))
      obtain ⟨vs, hv⟩ := hf
      have hx : ObjOk X.prog X.w H s.heap dd (.xd fs) := I.hok dd _ hdd
      obtain ⟨mA, hns, hr⟩ := hx
      obtain ⟨od, ho, hl⟩ := lookIn_ns hns
      have J : PySem.W.InstAt s.heap a oe D (some od) := ⟨hget, hz.1, by unfold PySem.W.notCls; rw [hv] <;> rfl, by rw [hz.2]; exact ho⟩
      have hcl : (PySem.W.clsIn X.K D).isSome = true := by
        obtain ⟨cd, hc, _⟩ := PySem.W.any_some T.hd
        rw [hc] <;> rfl
      exact PySem.W.kia_one (PySem.W.kitx_exc hcl T.hg T.hk T.hs T.ha T.hn T.ht T.hm) I.kIn J e (fun z => nomatch z) fun tk => ⟨.bl b, H, I.kept (t' := tk) fun _ _ z => z, rfl, q⟩
end
end L2
set_option maxHeartbeats 4000000
namespace L2
open PySem PySem.Spec PyProof.Rows
/-- behind a suite with a name: slot i is gone -/
def goneE (D : Ends) (i : Nat) : Ends := { nx := fun σ H => D.nx (σ.set i none) H, rt := D.rt, bk := fun σ H => D.bk (σ.set i none) H, ct := fun σ H => D.ct (σ.set i none) H }
/-- the clauses «except c as n: ..» one after the other, each n at slot i -/
def wAll (K : PySem.W.Frag) (m i : Nat) (Wout : WX) (D : Ends) : List (Value × (Addr → Value → Option Addr → TS)) → WX
  | [] => Wout
  | (c, ts) :: r => fun cls d σ H => ∃ b, PySem.W.exmOne K cls c = some b ∧ (b = true → ∀ a, H a = none → σ.length = m → ts a cls d (goneE D i) (σ.set i (some (.ref a))) H) ∧ (b = false → wAll K m i Wout D r cls d σ H)
inductive HdAs (X : Cx) (n : Str) : List ExceptHandler → List (Value × (Addr → Value → Option Addr → TS)) → Prop
  | nil : HdAs X n [] []
  | cons {x : Str} {c : Value} {ts : Addr → Value → Option Addr → TS} {st : Stmt} {sts : List Stmt} {np p : Pos} {hds : List ExceptHandler} {l : List (Value × (Addr → Value → Option Addr → TS))} (hc : Names X x c)
      (hsu : ∀ (a : Addr) (oe : Obj) (cls : Value) (d : Option Addr) (pn : List (Addr × Obj)), Zc cls d oe → (∃ vs, oe.data = .fields vs) → PSs (X.suite a ((a, oe) :: pn)) (st :: sts) (ts a cls d)) (r : HdAs X n hds l) :
      HdAs X n (.ExceptHandler (some (.Name x np)) (some n) (st :: sts) p :: hds) ((c, ts) :: l)
section
variable {X : Cx} {n : Str} {i : Nat} {body : List Stmt} {h₀ : ExceptHandler} {hds : List ExceptHandler} {l : List (Value × (Addr → Value → Option Addr → TS))} {pos : Pos} {tb : WX → TS} {Wout : WX}
/-- one after the other, the exception being on the ground -/
theorem all_handled {pins : List (Addr × Obj)} {sI s' : Shared} {B : Heap} {σ' : St} {H' : Hp} {a : Addr} {cls : Value} {d : Option Addr} {D : Ends} {h3 : Heap} (hs : X.stack = X.env :: X.outer) (hf : X.env.frame = some X.env.locals) (hN : X.N.Nodup) (hi : X.N[i]? = some n)
    (hln : X.env.kindOf n = some .local) (tk : Takes X Wout) (ok : X.Ok) (J : Inv X pins σ' H' sI) (nb : ∀ b o, sI.heap.get? b = some o → b ∉ frs X.stack → B.get? b = some o) (up : sI.heap.UpToSlots h3) (na : H' a = none) (os : s'.os = sI.os) (ag : AllBare s'.gens)
    (fl3 : HandSPX.FlyingZ B (X.env :: X.outer) a (Zc cls d) h3) : ∀ {hds' : List ExceptHandler} {l' : List (Value × (Addr → Value → Option Addr → TS))}, HdAs X n hds' l' → wAll X.K X.N.length i Wout D l' cls d σ' H' →
      wpAny (model X.prog X.w) X.A (handleBy (.ref a) X.env hds') (SP X pins D) X.xe { s' with heap := h3 } := by
  have J3 : Inv X pins σ' H' { s' with heap := h3 } := J.landed nb fl3.1 up os ag
  obtain ⟨oe3, vs3, he3, hz3, hd3⟩ := fl3.there
  have nfr : a ∉ frs (X.env :: X.outer) := fun hm => by
    obtain ⟨_, o', e', hnf⟩ := fl3.2.2.1.mem hm
    rw [he3] at e'
    cases e'
    exact hnf _ hd3
  have nL : a ≠ X.env.locals := fun z => nfr (List.mem_filterMap.mpr ⟨X.env, List.mem_cons_self, by rw [hf, z]⟩)
  have nF : a ∉ X.fs := fun hm => by
    obtain ⟨e, he, q⟩ := List.mem_filterMap.mp hm
    exact nfr (List.mem_filterMap.mpr ⟨e, List.mem_cons_of_mem _ he, q⟩)
  have S3 := J3.suite he3 hd3 na nL nF
  intro hds' l' hk
  induction hk with
  | nil =>
    intro w
    obtain ⟨k1, k2, k3, oe, vs, T, oT, ts', he, hz, hd, h1, hr⟩ := id fl3
    refine wpAny_handleBy_nil ?_
    unfold PySem.passOn
    refine wpAny_bind (wpAny_field he hd h1 ?_)
    rw [if_neg (show ¬ ((Value.ref T == Value.none) = true) from by simp)]
    have fin : wpAny (model X.prog X.w) X.A (setFlight (.ref a) X.env.frame) (fun _ s4 => wpAny (model X.prog X.w) X.A (throw (.ref a) : Sem Flow) (SP X pins D) X.xe s4) X.xe { s' with heap := h3 } := by
      rw [hf]
      exact HandSPX.setFlight_upZ fl3 fun h4 hh4 up4 => wpAny_throw (tk _ _ ⟨a, B, sI, pins, σ', H', cls, d, rfl, J, nb, up.trans up4, .inr (.inr (by rw [hs]; exact hh4)), na, os, ag, w⟩)
    first
      | exact wpAny_bind (wpAny_pure (wpAny_bind fin))
      | exact wpAny_bind fin
  | @cons x c ts st sts np p hds2 l2 hc hsu r ih =>
    intro w
    obtain ⟨b, hb1, hyes, hno⟩ := w
    refine wpAny_handleBy_cons (codeAny_handlers_test ?_) (by intro q; cases q)
    have LT : PySem.W.Looks (model X.prog X.w) h3 (typeOf (.ref a)) cls := fun A Q E s k q => wpAny_typeOf_ref (k _ _ he3) (by rw [hz3.1]; exact q)
    have LM := PySem.W.exm_one (M := model X.prog X.w) (J3.kIn) LT hb1
    have test : ∀ {Q : Value → Shared → Prop} {E : Value → Shared → Prop}, Q c { s' with heap := h3 } → wpAny (model X.prog X.w) (X.A.mark (some (.ref a))) (eval (.Name x np) X.env) Q E { s' with heap := h3 } := fun {Q E} q => by
      obtain ⟨hg, hdbg, hm | ⟨hm, hv, hnn⟩⟩ := hc
      · exact ld_glob (X := X.suite a ((a, oe3) :: (X.pn ++ pins))) S3 hg hm q hdbg
      · exact ld_blt (X := X.suite a ((a, oe3) :: (X.pn ++ pins))) S3 hg hm hv q hnn hdbg
    refine test (LM.here ?_)
    cases b with
    | false =>
      show wpAny _ X.A (handleBy (.ref a) X.env hds2) _ _ _
      exact ih (hno rfl)
    | true =>
      refine codeAny_handlers_suite_as ?_
      refine HandSPX.lands_againZ fl3 fun h4 fl4 up4 => ?_
      have J4 : Inv X pins σ' H' { s' with heap := h4 } := J.landed nb fl4.1 (up.trans up4) os ag
      obtain ⟨oe4, vs4, he4, hz4, hd4⟩ := fl4.there
      have S4 := J4.suite he4 hd4 na nL nF
      refine store_ok (X := X.suite a ((a, oe4) :: (X.pn ++ pins))) (v := .ref a) S4 hN hi (.inl hln) rfl (fun s5 S5 => ?_) (.inr hln)
      refine wpAny_mono ((hsu a oe4 cls d (X.pn ++ pins) hz4 ⟨_, hd4⟩).run [] s5 _ H' _ S5 (hyes rfl a na J.len)) (fun f s6 hsp => ?_) (fun _ _ z => False.elim z)
      have end_ : ∀ {σ6 : St} {H6 : Hp} {Q : Shared → Prop}, Inv (X.suite a ((a, oe4) :: (X.pn ++ pins))) [] σ6 H6 s6 → (∀ s7, Inv X pins (σ6.set i none) H6 s7 → Q s7) →
          wpAny (model X.prog X.w) X.A (do bindName X.env n .none; unbindBehindTheSuite X.env n p) (fun _ s7 => Q s7) X.xe s6 := fun {σ6 H6 Q} S6 hq => gone_ok (S6.unsuite ok) hN hi hln hq
      cases f with
      | next =>
        obtain ⟨σ6, H6, S6, q6⟩ := hsp
        exact end_ S6 fun s7 J7 => ⟨_, _, J7, q6⟩
      | brk =>
        obtain ⟨σ6, H6, S6, q6⟩ := hsp
        exact end_ S6 fun s7 J7 => ⟨_, _, J7, q6⟩
      | cont =>
        obtain ⟨σ6, H6, S6, q6⟩ := hsp
        exact end_ S6 fun s7 J7 => ⟨_, _, J7, q6⟩
      | ret u =>
        obtain ⟨v6, σ6, H6, S6, r6, q6⟩ := hsp
        exact end_ S6 fun s7 J7 => ⟨_, _, _, J7, r6, q6⟩
theorem ps_try_all (hs : X.stack = X.env :: X.outer) (hf : X.env.frame = some X.env.locals) (hN : X.N.Nodup) (hi : X.N[i]? = some n) (hln : X.env.kindOf n = some .local) (tk : Takes X Wout)
    (hb : ∀ (W : WX) (pn : List (Addr × Obj)) (xe : Value → Shared → Prop), Takes (X.tr pn xe) W → PassesOwn (model X.prog X.w) X.A X.env xe → PSs (X.tr pn xe) body (tb W))
    (hh : HdAs X n (h₀ :: hds) l) : PS X (.Try body (h₀ :: hds) [] [] pos) (fun D σ H => tb (wAll X.K X.N.length i Wout D l) D σ H) := by
  refine ⟨fun pins s σ H D I h => ?_⟩
  have ok := I.ok
  have hfr : X.A.frames = some (X.env :: X.outer) := by rw [ok.frames, hs]
  refine wpAny_Try_except ?_
  refine wpAny_mono ((hb (wAll X.K X.N.length i Wout D l) (X.pn ++ pins) (fun e s₁ => wpAny (model X.prog X.w) X.A (noteFrame e X.env) (fun _ s₂ => wpAny (model X.prog X.w) X.A (setFlight e none) (fun _ s₃ =>
    wpAny (model X.prog X.w) X.A (handleBy e X.env (h₀ :: hds)) (SP X pins D) X.xe s₃) X.xe s₂) X.xe s₁) (fun u s' xx => ?_) PassesOwn.looking).run [] s σ H D (I.toTry _) h) (fun f s1 hsp => ?_) (fun e s1 he => he)
  · obtain ⟨a, B, sI, pins', σ', H', cls, d, rfl, J', nb, up, sky, na, os, ag, w⟩ := xx
    have J : Inv X pins σ' H' sI := J'.ofTry ok
    have sky' : Sky B (X.env :: X.outer) a (Zc cls d) X.env.locals s'.heap := by rw [← hs]; exact sky
    show wpAny (model X.prog X.w) X.A (noteFrame (.ref a) X.env) _ _ _
    exact Sky.land Zc.steady hfr hf sky' fun h3 fl3 up3 => all_handled hs hf hN hi hln tk ok J nb (up.trans up3) na os ag fl3 hh w
  · cases f with
    | next =>
      obtain ⟨σ', H', J', q⟩ := hsp
      exact wpAny_execs_nil ⟨σ', H', J'.ofTry ok, q⟩
    | brk =>
      obtain ⟨σ', H', J', q⟩ := hsp
      exact ⟨σ', H', J'.ofTry ok, q⟩
    | cont =>
      obtain ⟨σ', H', J', q⟩ := hsp
      exact ⟨σ', H', J'.ofTry ok, q⟩
    | ret u =>
      obtain ⟨v, σ', H', J', r, q⟩ := hsp
      exact ⟨v, σ', H', J'.ofTry ok, r, q⟩
end
end L2
set_option maxHeartbeats 4000000
/-! ### the end of a law, its def run at the caller's place alone (there no object is being shown: repr) -/
namespace Nd
open PySem PySem.Spec PyProof.Rows L2 LamX
/-- the script as it stands: frozen, or of the written part; a list that bears nothing else -/
def ScrL (K : PySem.W.Frag) (H : Hp) (a : Addr) (xs : List V) : Prop := (∃ vs : List Value, H a = some (.frz { cls := .type "list", data := .seq vs.toArray } (.lst xs))) ∨
  ∃ vs : List Value, K.lookup a = some { cls := .type "list", data := .seq vs.toArray } ∧ vs.length ≤ sizeLine ∧ Vals xs vs
theorem ScrL.seq {K : PySem.W.Frag} {H : Hp} {a : Addr} {xs : List V} (h : ScrL K H a xs) : SqL K H a xs := by
  rcases h with ⟨vs, h⟩ | ⟨vs, h, l, r⟩
  · exact .inl (.inr ⟨_, h⟩)
  · exact .inr ⟨_, vs.toArray, _, h, rfl, rfl, rfl, by rw [List.size_toArray]; exact l, by simpa using r⟩
/-- the law's def, called from the outside with the script at a -/
def RunsAt (P : Program) (w : World) (K : PySem.W.Frag) (mg : Str → Option Value) (base : Heap) (fa : Addr) (sp : Sp) : Prop :=
  ∀ (a : Addr) (s : Shared) (H : Hp), Env0 P w K mg base callerA [] s H → sp [.ref a] H (fun v _ => v = .bl true) E0 →
    codeAny (model P w) callerA (.call (.ref fa) ⟨[.ref a], []⟩) (CR CX0 [] P w H s (fun v _ => v = .bl true) E0) s
section
variable {P : Program} {w : World} {K : PySem.W.Frag} {mg mb : Str → Option Value} {fa a : Addr} {cs : List (Addr × Addr)} {sp : Sp} {s₁ : Shared} {vs : List Value} {ns : List Int}
/-- from one abstract heap that tells of the tables and the script alone -/
theorem run_core (KX : K.In s₁.heap) (hns : s₁.heap.Ns mainGlobals mg) (hb : s₁.heap.Ns builtinsNs mb) (hbb : ∀ x : Str, x ≠ "__name__" → mb x = bootBuiltins x) (hlim : s₁.heap.NoLimit) (hg : s₁.gens = #[])
    (hT : ∀ p ∈ cs, s₁.heap.get? p.2 = some { cls := .none, data := .fields #[] }) (nT : ∀ p ∈ cs, K.lookup p.2 = none) (C : ∀ p ∈ cs, PySem.W.CodeHd s₁.heap p.1 p.2)
    (hbm : ∃ (bm : Addr) (ob : Obj), mg "__builtins__" = some (.ref bm) ∧ bm ≠ builtinsNs ∧ s₁.heap.get? bm = some ob ∧ ob.cls = .type "module" ∧ ob.dict = some builtinsNs ∧ ob.data = .plain)
    (ha : s₁.heap.get? a = some { cls := .type "list", data := .seq vs.toArray })
    (F : ∀ base : Heap, K.In base → base.Ns mainGlobals mg → (∀ p ∈ cs, TabB base mg p.1 p.2) → RunsAt P w K mg base fa sp)
    {H : Hp} (hH : ∀ p ∈ cs, H p.2 = some (.tbl #[])) (hO : ∀ b, H b = none ∨ b ∈ cs.map (·.2) ∨ ∃ o xs, H b = some (.frz o (.lst xs))) (hok : HOk P w H s₁.heap) (hA : ∀ b, H b ≠ none → b = a ∨ b ∈ cs.map (·.2)) (hK : H a ≠ none → K.lookup a = none)
    (hq : sp [.ref a] H (fun v _ => v = .bl true) E0) :
    codeAny (model P w) callerA (.call (.ref fa) ⟨[.ref a], []⟩) (fun r s' => r = .ok (.ret (.bool true)) ∧ OldK s₁.heap s'.heap ∧ s'.os = s₁.os ∧ AllBare s'.gens) s₁ := by
  have isT : ∀ b : Addr, b ∈ cs.map (·.2) → s₁.heap.get? b = some { cls := .none, data := .fields #[] } := fun b hb => by
    obtain ⟨p, hp, e⟩ := List.mem_map.mp hb
    rw [← e]
    exact hT p hp
  -- an object of another kind is not tracked
  have noD : ∀ {b : Addr} {o : Obj}, s₁.heap.get? b = some o → (∀ vs n, o.data ≠ .seq vs n) → o.data ≠ .fields #[] → H b = none := fun {b o} e h1 h2 => by
    cases q : H b with
    | none => rfl
    | some u =>
      rcases hA b (by rw [q]; simp) with e' | e'
      · rw [e', ha] at e
        cases e
        exact (h1 _ _ rfl).elim
      · rw [isT b e'] at e
        cases e
        exact (h2 rfl).elim
  have dictK : ∀ {b : Addr} {m : Str → Option Value}, s₁.heap.Ns b m → (hidT s₁.heap H).Ns b m := fun {b m} ⟨o, es, ep, e, d, r⟩ =>
    ⟨o, es, ep, hidT_get e (noD e (fun vs n z => by rw [d] at z; cases z) fun z => by rw [d] at z; cases z), d, r⟩
  have hKb : K.In (hidT s₁.heap H) := fun b o e => hidT_get (KX b o e) (by
    cases q : H b with
    | none => rfl
    | some u =>
      rcases hA b (by rw [q]; simp) with e' | e'
      · rw [e'] at e q
        rw [hK (by rw [q]; simp)] at e
        cases e
      · obtain ⟨p, hp, ep⟩ := List.mem_map.mp e'
        rw [← ep, nT p hp] at e
        cases e)
  have hM : L2.Mod K mg (hidT s₁.heap H) := ⟨hKb, dictK hns, ⟨mb, dictK hb, hbb⟩, let ⟨mc, h1, h2⟩ := hlim; ⟨mc, dictK h1, h2⟩⟩
  have TB : ∀ p ∈ cs, TabB (hidT s₁.heap H) mg p.1 p.2 := fun p hp => by
    have hTp := hT p hp
    refine ⟨?_, ?_, fun z => ?_⟩
    · obtain ⟨o, us, file, tf, flags, tg, inF, text, tt, e1, r1, r2, r3, r4, r5, r6, r7, r8, hne⟩ := C p hp
      refine ⟨o, us, file, tf, flags, tg, inF, text, tt, hidT_get e1 (noD e1 (fun vs n z => by rw [r2] at z; cases z) fun z => ?_), r1, r2, r3, r4, r5, r6, r7, r8, hne⟩
      rw [r2] at z
      cases z
      simp at r3
    · obtain ⟨bm, ob, b1, b2, b3, b4, b5, b6⟩ := hbm
      have nG : bm ≠ mainGlobals := fun q => by
        obtain ⟨o, es, ep, e, hd, _⟩ := hns
        rw [q, e] at b3
        cases b3
        rw [hd] at b6
        cases b6
      have nP : bm ≠ p.2 := fun q => by
        rw [q, hTp] at b3
        cases b3
        cases b6
      exact ⟨bm, ob, b1, b2, nG, nP, hidT_get b3 (noD b3 (fun vs n z => by rw [b6] at z; cases z) fun z => by rw [b6] at z; cases z), b4, b5, b6⟩
    · obtain ⟨o, es, ep, e, hd, _⟩ := hns
      rw [z, hTp] at e
      cases e
      cases hd
  have e0 : Env0 P w K mg (hidT s₁.heap H) callerA [] s₁ H := ⟨rfl, hM, fun b o e => of_hidT e, Nat.le_of_eq (hidT_size _ _), trivial, fun b hb => absurd (show b ∈ ([] : List Addr) from hb) (by simp), hok, .of_eq hg⟩
  refine codeAny_mono (F _ hKb (dictK hns) TB a s₁ H e0 hq) fun r s' h => ?_
  cases r with
  | error e => exact False.elim h
  | ok fl =>
    cases fl with
    | next => exact False.elim h
    | brk => exact False.elim h
    | cont => exact False.elim h
    | ret u =>
      obtain ⟨v, H', os, bare, un, hok', r', q⟩ := h
      have q' : v = .bl true := q
      subst q'
      obtain rfl : u = Value.bool true := r'
      have key : ∀ b o, b ∉ cs.map (·.2) → s₁.heap.get? b = some o → s'.heap.get? b = some o := fun b o nb e => by
        rcases hO b with z | z | ⟨ob, xs, z⟩
        · exact un.keep b o e z (fun z => absurd (show b ∈ ([] : List Addr) from z) (by simp)) (by simp)
        · exact absurd z nb
        · obtain ⟨e1, _⟩ := hok b _ z
          obtain ⟨e2, _⟩ := hok' b _ (un.frzs b ob _ z)
          rw [e] at e1
          cases e1
          exact e2
      have grown : ∀ b, b ∈ cs.map (·.2) → ∃ more : Array Value, s'.heap.get? b = some { cls := .none, data := .fields more } := fun b hb => by
        obtain ⟨p, hp, ep⟩ := List.mem_map.mp hb
        obtain ⟨more, z⟩ := un.tbls p.2 #[] (hH p hp)
        rw [← ep]
        exact ⟨_, hok' p.2 _ z⟩
      refine ⟨rfl, ⟨fun b o e => ?_, fun b o e => ?_⟩, os, bare⟩
      · by_cases hb : b ∈ cs.map (·.2)
        · obtain ⟨more, hm⟩ := grown b hb
          obtain ⟨p, hp, ep⟩ := List.mem_map.mp hb
          rw [← ep] at e hm ⊢
          rw [hT p hp] at e
          cases e
          exact .inr (.inl ⟨((C p hp).tab (hT p hp)).isCodeTable, rfl, #[], more, rfl, by rw [Array.empty_append]; exact hm⟩)
        · exact .inl (key b o hb e)
      · by_cases hb : b ∈ cs.map (·.2)
        · obtain ⟨more, hm⟩ := grown b hb
          exact ⟨_, hm⟩
        · exact ⟨o, key b o hb e⟩
theorem run_law (KX : K.In s₁.heap) (hns : s₁.heap.Ns mainGlobals mg) (hb : s₁.heap.Ns builtinsNs mb) (hbb : ∀ x : Str, x ≠ "__name__" → mb x = bootBuiltins x) (hlim : s₁.heap.NoLimit) (hg : s₁.gens = #[])
    (hT : ∀ p ∈ cs, s₁.heap.get? p.2 = some { cls := .none, data := .fields #[] }) (nT : ∀ p ∈ cs, K.lookup p.2 = none) (C : ∀ p ∈ cs, PySem.W.CodeHd s₁.heap p.1 p.2)
    (hbm : ∃ (bm : Addr) (ob : Obj), mg "__builtins__" = some (.ref bm) ∧ bm ≠ builtinsNs ∧ s₁.heap.get? bm = some ob ∧ ob.cls = .type "module" ∧ ob.dict = some builtinsNs ∧ ob.data = .plain)
    (ha : s₁.heap.get? a = some { cls := .type "list", data := .seq vs.toArray }) (hi : IntsAre vs ns) (hl : ns.length ≤ sizeLine)
    (F : ∀ base : Heap, K.In base → base.Ns mainGlobals mg → (∀ p ∈ cs, TabB base mg p.1 p.2) → RunsAt P w K mg base fa sp)
    (hsp : ∀ H : Hp, (∀ p ∈ cs, H p.2 = some (.tbl #[])) → ScrL K H a (ns.map V.int) → sp [.ref a] H (fun v _ => v = .bl true) E0) :
    codeAny (model P w) callerA (.call (.ref fa) ⟨[.ref a], []⟩) (fun r s' => r = .ok (.ret (.bool true)) ∧ OldK s₁.heap s'.heap ∧ s'.os = s₁.os ∧ AllBare s'.gens) s₁ := by
  have rv := vals_ints hi
  have lenV := hi.length
  have isT : ∀ b : Addr, b ∈ cs.map (·.2) → s₁.heap.get? b = some { cls := .none, data := .fields #[] } := fun b hb => by
    obtain ⟨p, hp, e⟩ := List.mem_map.mp hb
    rw [← e]
    exact hT p hp
  have aT : a ∉ cs.map (·.2) := fun z => by
    have q := isT a z
    rw [ha] at q
    cases congrArg Obj.data (Option.some.inj q)
  have memT : ∀ p ∈ cs, p.2 ∈ cs.map (·.2) := fun p hp => List.mem_map.mpr ⟨p, hp, rfl⟩
  -- the script is of the written part, or it is tracked as it stands
  obtain ⟨scr, hscr⟩ : ∃ scr : Option HO, scr = (match K.lookup a with | some _ => none | none => some (.frz { cls := .type "list", data := .seq vs.toArray } (.lst (ns.map V.int)))) := ⟨_, rfl⟩
  obtain ⟨H, hHd⟩ : ∃ H : Hp, H = fun b => if b = a then scr else if b ∈ cs.map (·.2) then some (.tbl #[]) else none := ⟨_, rfl⟩
  have atA : H a = scr := by rw [hHd]; exact if_pos rfl
  have atT : ∀ b, b ≠ a → H b = if b ∈ cs.map (·.2) then some (.tbl #[]) else none := fun b hb => by rw [hHd]; exact if_neg hb
  have hH : ∀ p ∈ cs, H p.2 = some (.tbl #[]) := fun p hp => (atT _ fun z => aT (by rw [← z]; exact memT p hp)).trans (if_pos (memT p hp))
  have cases4 : scr = none ∨ scr = some (.frz { cls := .type "list", data := .seq vs.toArray } (.lst (ns.map V.int))) := by
    rw [hscr]
    cases K.lookup a with
    | some o => exact .inl rfl
    | none => exact .inr rfl
  refine run_core (H := H) KX hns hb hbb hlim hg hT nT C hbm ha F hH (fun b => ?_) (fun b u z => ?_) (fun b z => ?_) (fun z => ?_) (hsp H hH ?_)
  · by_cases hba : b = a
    · rw [hba, atA]
      rcases cases4 with q | q
      · exact .inl q
      · exact .inr (.inr ⟨_, _, q⟩)
    · by_cases hb : b ∈ cs.map (·.2)
      · exact .inr (.inl hb)
      · exact .inl ((atT b hba).trans (if_neg hb))
  · by_cases hba : b = a
    · rw [hba, atA] at z
      rcases cases4 with q | q
      · rw [q] at z
        cases z
      · rw [q] at z
        cases z
        rw [hba]
        exact ⟨ha, by rw [List.length_map]; exact hl, vs, _, rv, ha⟩
    · rw [atT b hba] at z
      by_cases hb : b ∈ cs.map (·.2)
      · rw [if_pos hb] at z
        cases z
        exact isT b hb
      · rw [if_neg hb] at z
        cases z
  · by_cases hba : b = a
    · exact .inl hba
    · by_cases hb : b ∈ cs.map (·.2)
      · exact .inr hb
      · exact absurd ((atT b hba).trans (if_neg hb)) z
  · cases hk : K.lookup a with
    | none => rfl
    | some o =>
      rw [atA, hscr, hk] at z
      exact absurd rfl z
  · cases hk : K.lookup a with
    | some o =>
      have e := KX a o hk
      rw [ha] at e
      cases e
      exact .inr ⟨vs, hk, by rw [lenV]; exact hl, rv⟩
    | none =>
      refine .inl ⟨vs, ?_⟩
      rw [atA, hscr, hk]
end
/-- what is known of the law's def at the head's heap h -/
def LawHas (l : PySem.W.OpenLaw) (w : World) (K : PySem.W.Frag) (n : Nat) (mg : Str → Option Value) (fa : Addr) (h : Heap) : Prop :=
  ∃ (cs : List (Addr × Addr)) (sp : Sp), (∀ p ∈ cs, h.get? p.2 = some { cls := .none, data := .fields #[] }) ∧ (∀ p ∈ cs, K.lookup p.2 = none) ∧ (∀ p ∈ cs, PySem.W.CodeHd h p.1 p.2) ∧
    (∀ (H : Hp) (a : Addr) (ns : List Int), ns.length ≤ n → (∀ z ∈ ns, Builtin.Int.intBits z ≤ 1048576) → (∀ p ∈ cs, H p.2 = some (.tbl #[])) → ScrL K H a (ns.map V.int) → sp [.ref a] H (fun v _ => v = .bl true) E0) ∧
    ∀ base : Heap, K.In base → base.Ns mainGlobals mg → (∀ p ∈ cs, TabB base mg p.1 p.2) → RunsAt l.prog w K mg base fa sp
theorem walk_at {l : PySem.W.OpenLaw} {n : Nat} {q : Program} {loose : List Str} {XP : (Str → Option Value) → Heap → Prop} {YP : World → Heap → Prop} {d : DefRec}
    (hn : l.most = some n) (hn2 : n ≤ sizeLine) (hdf : d.params.defaults = [])
    (F : ∀ (w : World) (mg : Str → Option Value) (fa : Addr) (h : Heap), YP w h → h.Ns mainGlobals mg → mg d.name = some (.ref fa) → ∃ K : PySem.W.Frag, K.In h ∧ LawHas l w K n mg fa h) :
    PySem.W.WalkO q loose XP YP l.row.toRowW d [] (fun f vs => PySem.call f vs) := by
  refine Att.attach_callB hn hdf fun w s₀ s₁ mg mb fa o pm cd doc a vs ns G Y ho hd hcd hmg hobj hints hlen hbits hg => ?_
  obtain ⟨K, KX, cs, sp, hT, nT, C, hsp, hF⟩ := F w mg fa _ Y G.T.g hmg
  exact run_law KX G.T.g G.T.b G.T.builtins G.T.nolimit hg hT nT C G.T.bmain hobj hints (Nat.le_trans hlen hn2) hF (fun H hH hS => hsp H a ns hlen hbits hH hS)
end Nd
set_option maxHeartbeats 4000000
/-! ### repr of data: lists, tuples, ints, bools, texts, None -/
namespace Nd
open PySem PySem.Spec PyProof.Rows L2
mutual
def shB : PyData → Nat
  | .none => 4
  | .bool _ => 5
  | .int i => (Str.ofString (toString i)).length
  | .str x => (reprText x).length
  | .list xs => shBs xs + 2
  | .tuple xs => shBs xs + 3
  | .dict _ => 0
def shBs : List PyData → Nat
  | [] => 0
  | x :: xs => shB x + 2 + shBs xs
end
theorem join_le (ts : List Str) : (Str.join ", " ts).length ≤ piled ts := by
  cases ts with
  | nil => decide
  | cons t r =>
    have h := join_length_add (t :: r) (by simp)
    omega
mutual
theorem shown_le : ∀ d : PyData, d.hasDict = false → d.shown.length ≤ shB d
  | .none, _ => by
    show (Str.ofString "None").length ≤ 4
    decide
  | .bool b, _ => by
    cases b <;> (show (Str.ofString _).length ≤ 5; decide)
  | .int i, _ => Nat.le_refl _
  | .str x, _ => Nat.le_refl _
  | .list xs, h => by
    have h1 := shown_all_le xs (by simpa [PyData.hasDict] using h)
    have h2 := join_le (PyData.shownAll xs)
    show (listText (PyData.shownAll xs)).length ≤ shBs xs + 2
    rw [listText_eq_join, strLen_append, strLen_append]
    have e1 : (Str.ofString "[").length = 1 := by decide
    have e2 : (Str.ofString "]").length = 1 := by decide
    omega
  | .tuple xs, h => by
    have h1 := shown_all_le xs (by simpa [PyData.hasDict] using h)
    have h2 := join_le (PyData.shownAll xs)
    show (tupleText (PyData.shownAll xs)).length ≤ shBs xs + 3
    unfold tupleText
    rw [strLen_append, strLen_append]
    have e1 : (Str.ofString "(").length = 1 := by decide
    have e2 : (Str.ofString (if ((PyData.shownAll xs).length == 1) = true then ",)" else ")")).length ≤ 2 := by
      split <;> decide
    omega
  | .dict _, h => by simp [PyData.hasDict] at h
theorem shown_all_le : ∀ xs : List PyData, PyData.hasDictAll xs = false → piled (PyData.shownAll xs) ≤ shBs xs
  | [], _ => by decide
  | x :: xs, h => by
    have hh : (x.hasDict || PyData.hasDictAll xs) = false := by simpa [PyData.hasDictAll] using h
    have h1 := shown_le x (by revert hh; cases x.hasDict <;> simp)
    have h2 := shown_all_le xs (by revert hh; cases x.hasDict <;> simp)
    show piled (x.shown :: PyData.shownAll xs) ≤ shB x + 2 + shBs xs
    have e : piled (x.shown :: PyData.shownAll xs) = x.shown.length + 2 + piled (PyData.shownAll xs) := by
      simp [piled]
    omega
end
def rRepr (K : PySem.W.Frag) : List V → Hp → VK → Prop := fun xs H Q => ∃ (a : Addr) (d : PyData), xs = [.ref a] ∧ Dp K H (.ref a) d ∧ d.showable = true ∧ d.hasDict = false ∧ d.depth ≤ 20 ∧ shB d ≤ 1000000 ∧ Q (.str d.shown) H
theorem call_repr {X : Cx} (hg : X.A.guards = some []) (hu : X.A.units + 64 < cLine) : CallR X (.builtin "repr") (rRepr X.K) := by
  intro pins s σ H xs us Q I r h
  obtain ⟨a, d, rfl, hd, hs, hn, hp, hl, q⟩ := h
  cases r with
  | cons ra rr =>
    cases rr
    obtain ⟨as, hr⟩ := Dp.reads I d _ _ hd ra
    cases ra
    refine repr_of_reads' hr hs (PyData.noDict_hsm hn) hg (by omega) (fun _ _ e => e) (fun h' u tk k => ⟨.str d.shown, H, I.kept (t' := tk) k, ⟨u, rfl⟩, q⟩) ?_
    exact Nat.le_trans (shown_le d hn) (Nat.le_trans hl (by rw [sizeLine_eq]; decide))
end Nd
set_option maxHeartbeats 4000000
/-! ### the calls of defs as constants; what changes in the heap -/
namespace Nd
open PySem PySem.Spec PyProof.Rows L2
section
variable (P : Program) (w : World) (K : PySem.W.Frag) (mg : Str → Option Value) (base : Heap)
/-- the module's name x is a def that keeps sp, at the level k -/
structure CalX (k : Nat) (x : Str) (sp : Sp) : Prop where
  ex : ∃ (f : Addr) (fd : FuncData) (ps : List Str), FnOk P w K mg base (L2.CX P w) k f fd ps sp ∧ mg x = some (.ref f) ∧ PySem.W.keepIn K (.ref f) = true ∧ Binds K fd ps []
/-- what is asked of a def as it stands behind the top -/
structure DefX (x : Str) (st : Stmt) (ps : List Str) (f : Addr) (fd : FuncData) : Prop where
  fn : FunD K x x (defArgs st) (defBody st) (defScope st) [] [] f fd
  mgf : mg x = some (.ref f)
  bi : Binds K fd ps []
end
section
variable {P : Program} {w : World} {K : PySem.W.Frag} {mg : Str → Option Value} {base : Heap}
theorem calx {x : Str} {st : Stmt} {f : Addr} {fd : FuncData} {N ps : List Str} {k : Nat} {sp : Sp} (F : DefX K mg x st ps f fd) (S : FnScope N ps (defScope st)) (len : ∀ vs H Q E, sp vs H Q E → vs.length = ps.length)
    (hbody : ∀ (cdv : Value) (A : Around) (outer : List Env) (s : Shared) (H : Hp) (vs : List V) (Q : VK) (E : XK), Room k (A.deeper (envOfC x (defScope st) s.heap.objs.size f cdv)) → sp vs H Q E →
      ∃ t, PSs (cxOf (L2.CX P w) P w K mg base N x (defScope st) f cdv A outer s H E).nox (defBody st) t ∧ t { nx := fun _ H' => Q .non H', rt := Q } (start N vs) H) : CalX P w K mg base (k + 1) x sp :=
  ⟨f, fd, ps, F.fn.ok S len fun cdv A outer s H vs Q E hr h => let ⟨t, a, b⟩ := hbody cdv A outer s H vs Q E hr h; ⟨t, a.nox, b⟩, F.mgf, F.fn.kp, F.bi⟩
/-- the same for a def that may raise -/
theorem calr {x : Str} {st : Stmt} {f : Addr} {fd : FuncData} {N ps : List Str} {k : Nat} {sp : Sp} (F : DefX K mg x st ps f fd) (S : FnScope N ps (defScope st)) (len : ∀ vs H Q E, sp vs H Q E → vs.length = ps.length)
    (hbody : ∀ (cdv : Value) (A : Around) (outer : List Env) (s : Shared) (H : Hp) (vs : List V) (Q : VK) (E : XK), Room k (A.deeper (envOfC x (defScope st) s.heap.objs.size f cdv)) → sp vs H Q E →
      ∃ t, PSs (cxOf (L2.CX P w) P w K mg base N x (defScope st) f cdv A outer s H E) (defBody st) t ∧ t { nx := fun _ H' => Q .non H', rt := Q } (start N vs) H) : CalX P w K mg base (k + 1) x sp :=
  ⟨f, fd, ps, F.fn.ok S len hbody, F.mgf, F.fn.kp, F.bi⟩
theorem CalX.imp {k : Nat} {x : Str} {sp sp' : Sp} (c : CalX P w K mg base k x sp) (h : ∀ vs H Q E, sp' vs H Q E → sp vs H Q E) : CalX P w K mg base k x sp' := by
  obtain ⟨f, fd, ps, F, a, b, d⟩ := c.ex
  exact ⟨f, fd, ps, F.imp h, a, b, d⟩
end
section
variable {X : Cx} {k j : Nat} {x : Str} {sp : Sp} {p pos : Pos} {e : Expr} {es : List Expr} {t : TA}
theorem pe_cx (c : CalX X.prog X.w X.K X.mg X.base k x sp) (hr : Room j X.A) (hk : k ≤ j) (hg : Gl X x) (ha : PA X (e :: es) t)
    (hdb : (x == ("__debug__" : Str)) = false := by decide) (he : starEach (e :: es) X.env = (false, eval e X.env) :: starEach es X.env := by rfl) (hpl : (backTo pos (starEach es X.env)).any (·.1) = false := by rfl) :
    PE X (.Call (.Name x p) (e :: es) [] pos) (tCall sp [] E0 t) := by
  obtain ⟨f, fd, ps, F, hm, kp, b⟩ := c.ex
  exact pe_call F (hr.mono hk) hg hm kp b .nil passL ha hdb he hpl
/-- a call that may raise: E, what is wished then -/
theorem pe_cr {E : XK} (c : CalX X.prog X.w X.K X.mg X.base k x sp) (hr : Room j X.A) (hk : k ≤ j) (hg : Gl X x) (hx : Passes (L2.CX X.prog X.w) X E) (ha : PA X (e :: es) t)
    (hdb : (x == ("__debug__" : Str)) = false := by decide) (he : starEach (e :: es) X.env = (false, eval e X.env) :: starEach es X.env := by rfl) (hpl : (backTo pos (starEach es X.env)).any (·.1) = false := by rfl) :
    PE X (.Call (.Name x p) (e :: es) [] pos) (tCall sp [] E t) := by
  obtain ⟨f, fd, ps, F, hm, kp, b⟩ := c.ex
  exact pe_call F (hr.mono hk) hg hm kp b .nil hx ha hdb he hpl
end
/-! ### the heap -/
/-- all that was tracked stays, but what lies at a -/
def But (a : Addr) (H H' : Hp) : Prop := ∀ b o, b ≠ a → H b = some o → H' b = some o
theorem But.of {a : Addr} {H H' : Hp} (s : Same H H') : But a H H' := fun b o _ e => s b o e
theorem But.refl {a : Addr} {H : Hp} : But a H H := fun _ _ _ e => e
theorem But.trans {a : Addr} {H H1 H2 : Hp} (x : But a H H1) (y : But a H1 H2) : But a H H2 := fun b o n e => y b o n (x b o n e)
theorem But.same {a : Addr} {H H' : Hp} (x : But a H H') (n : H a = none) : Same H H' := fun b o e => x b o (ne_of_none e n) e
theorem But.upd {a : Addr} {H H' : Hp} {o : HO} (x : But a H H') : But a H (upd H' a o) := fun b u n e => by rw [upd_ne n]; exact x b u n e
theorem Same.new {H : Hp} {p : Addr} {o : HO} (n : H p = none) : Same H (upd H p o) := fun b u e => by rw [upd_ne (ne_of_none e n)]; exact e
theorem Same.mut {H H' : Hp} {p : Addr} {o : HO} (s : Same H H') (n : H p = none) : Same H (upd H' p o) := fun b u e => by rw [upd_ne (ne_of_none e n)]; exact s b u e
end Nd
set_option maxHeartbeats 4000000
/-! ### a head's Hook that sees the statics too, tells one more value, and facts of own errors by Bools -/
namespace Nd
open PySem PySem.Spec PyProof.Rows L2 He
def asN (g : Addr → Option Obj) : Nat → List Addr
  | 0 => [mainGlobals, cStatics]
  | n + 1 => growD g (asN g n)
structure SaysN {β : Type} (fa : List Fa) (fn : List DefD) (tf : List Defn) (ex : PySem.W.Frag → Bool) (nx : PySem.W.Frag → β) (nv : β) (h : Heap) (K : PySem.W.Frag) : Prop where
  t : SaysD fa fn K
  more : ex K = true
  hd : ∀ p ∈ tf, PySem.W.codeHdIn K (cT K p).1 (cT K p).2 = true
  out : ∀ p ∈ tf, K.lookup (cT K p).2 = none
  empty : ∀ p ∈ tf, h.get? (cT K p).2 = some { cls := .none, data := .fields #[] }
  nx : nx K = nv
def obsN {β : Type} (n : Nat) (fa : List Fa) (fn : List DefD) (tf : List Defn) (ex : PySem.W.Frag → Bool) (nx : PySem.W.Frag → β) (g : Addr → Option Obj) : (AlD × Bool) × β :=
  ((obsD fa fn (frT g (asN g n)), ex (frT g (asN g n)) && tabsB g tf (frT g (asN g n))), nx (frT g (asN g n)))
def valN {β : Type} (fn : List DefD) (nv : β) : (AlD × Bool) × β := ((valD fn, true), nv)
theorem saysN_of {β : Type} {n : Nat} {fa : List Fa} {fn : List DefD} {tf : List Defn} {ex : PySem.W.Frag → Bool} {nx : PySem.W.Frag → β} {nv : β} {h : Heap} (e : obsN n fa fn tf ex nx h.get? = valN fn nv) : SaysN fa fn tf ex nx nv h (frT h.get? (asN h.get? n)) := by
  have e1 : obsD fa fn (frT h.get? (asN h.get? n)) = valD fn := congrArg (fun z : (AlD × Bool) × β => z.1.1) e
  have e2 : (ex (frT h.get? (asN h.get? n)) && tabsB h.get? tf (frT h.get? (asN h.get? n))) = true := congrArg (fun z : (AlD × Bool) × β => z.1.2) e
  have e3 : nx (frT h.get? (asN h.get? n)) = nv := congrArg (fun z : (AlD × Bool) × β => z.2) e
  obtain ⟨h1, h2⟩ := ba e2
  have key : ∀ p ∈ tf, PySem.W.codeHdIn (frT h.get? (asN h.get? n)) (cT (frT h.get? (asN h.get? n)) p).1 (cT (frT h.get? (asN h.get? n)) p).2 = true ∧ ∃ o, h.get? (cT (frT h.get? (asN h.get? n)) p).2 = some o ∧ emptyTab o = true := fun p hp => by
    obtain ⟨h3, h4⟩ := ba (List.all_eq_true.mp h2 p hp)
    refine ⟨h3, ?_⟩
    cases q : h.get? (cT (frT h.get? (asN h.get? n)) p).2 with
    | none =>
      rw [q] at h4
      cases h4
    | some o =>
      rw [q] at h4
      exact ⟨o, rfl, h4⟩
  refine ⟨e1, h1, fun p hp => (key p hp).1, fun p hp => ?_, fun p hp => ?_, e3⟩
  · obtain ⟨_, o, q, z⟩ := key p hp
    exact frT_none q z
  · obtain ⟨_, o, q, z⟩ := key p hp
    rw [q, emptyTab_eq z]
def hookN {β : Type} (n : Nat) (fa : List Fa) (fn : List DefD) (tf : List Defn) (ex : PySem.W.Frag → Bool) (nx : PySem.W.Frag → β) (nv : World → β) : PySem.W.Hook where
  α := (AlD × Bool) × β
  obs := fun s => obsN n fa fn tf ex nx s.heap.get?
  val := fun w => valN fn (nv w)
  says := fun w h => ∃ K : PySem.W.Frag, K.In h ∧ SaysN fa fn tf ex nx (nv w) h K
  of := fun _ _ e => ⟨_, frT_in, saysN_of e⟩
  keeps := fun _ _ _ ⟨K, hK, c⟩ k => ⟨K, PySem.W.Frag.In.keeps hK k, ⟨c.t, c.more, c.hd, c.out, fun p hp => k _ _ (c.empty p hp), c.nx⟩⟩
theorem obsN_eq {β : Type} {n : Nat} {fa : List Fa} {fn : List DefD} {tf : List Defn} {ex : PySem.W.Frag → Bool} {nx : PySem.W.Frag → β} {nv : World → β} {g : Addr → Option Obj} {s : Shared} (h : ∀ a, g a = s.heap.get? a) : obsN n fa fn tf ex nx g = (hookN n fa fn tf ex nx nv).obs s := by
  have e : g = s.heap.get? := funext h
  rw [e] <;> rfl
/-! ### Bools -/
def insB (K : PySem.W.Frag) (C : Addr) : Bool := eqO (PySem.W.findIn K (.ref C) "__class__") (some (some (.builtin "object.__class__"))) && (decide (PySem.W.specialIn K (.builtin "object.__class__") "__get__" = some (some (.builtin "getset_descriptor.__get__"))) &&
  (decide (PySem.W.takesIn K (.builtin "object.__class__") = some true) && (decide (PySem.W.mroIn K C (.type "object") = some true) && decide (PySem.W.kitOne K (.ref C) (.ref C) = some true))))
theorem insB_ok {K : PySem.W.Frag} {C : Addr} (cl : Cls K C) (h : insB K C = true) : C8.InsC K C := by
  obtain ⟨h1, h⟩ := ba h
  obtain ⟨h2, h⟩ := ba h
  obtain ⟨h3, h⟩ := ba h
  obtain ⟨h4, h5⟩ := ba h
  exact ⟨cl, eqO_ok h1, of_decide_eq_true h2, of_decide_eq_true h3, of_decide_eq_true h4, of_decide_eq_true h5⟩
def excCB (K : PySem.W.Frag) (D : Addr) : Bool := eqO (PySem.W.findIn K (.ref D) "__getattribute__") (some (some (.builtin "BaseException.__getattribute__"))) && (eqO (PySem.W.findIn K (.ref D) "__getattr__") (some none) && (decide (PySem.W.subIn K (.ref D) (.type "BaseException") = some true) &&
  (PySem.W.hasDictIn K D && (eqO (PySem.W.findIn K (.ref D) "__class__") (some (some (.builtin "object.__class__"))) && (decide (PySem.W.specialIn K (.builtin "object.__class__") "__get__" = some (some (.builtin "getset_descriptor.__get__"))) &&
  (decide (PySem.W.takesIn K (.builtin "object.__class__") = some true) && decide (PySem.W.mroIn K D (.type "object") = some true)))))))
theorem excCB_ok {K : PySem.W.Frag} {D : Addr} (h : excCB K D = true) : ExcC K D := by
  obtain ⟨h1, h⟩ := ba h
  obtain ⟨h2, h⟩ := ba h
  obtain ⟨h3, h⟩ := ba h
  obtain ⟨h4, h⟩ := ba h
  obtain ⟨h5, h⟩ := ba h
  obtain ⟨h6, h⟩ := ba h
  obtain ⟨h7, h8⟩ := ba h
  exact ⟨eqO_ok h1, eqO_ok h2, of_decide_eq_true h3, h4, eqO_ok h5, of_decide_eq_true h6, of_decide_eq_true h7, of_decide_eq_true h8⟩
/-- the class object of an own error over ValueError -/
def oexB (K : PySem.W.Frag) (C : Addr) : Bool := (match K.lookup C with
  | some ⟨.type "type", _, .cls cd, sl⟩ => (match cd.mro, sl.toList with
    | .ref C' :: bm, [_, _, _, _, some (.builtin n), _] => C' == C && (n == "ValueError.__new__" && (!cd.hasDel && (cd.hasDict && PySem.HandSPX.refsVE bm)))
    | _, _ => false)
  | _ => false) && (eqO (PySem.W.findIn K (.ref C) "__setattr__") (some (some (.builtin "object.__setattr__"))) && (decide (PySem.W.subIn K (.ref C) (.type "BaseException") = some true) && (decide (PySem.W.typeIn K (.ref C) = some (.type "type")) && PySem.W.keepIn K (.ref C))))
theorem oexB_ok {K : PySem.W.Frag} {C : Addr} (h : oexB K C = true) : OexC K C := by
  obtain ⟨q, h⟩ := ba h
  obtain ⟨h1, h⟩ := ba h
  obtain ⟨h2, h⟩ := ba h
  obtain ⟨h3, h4⟩ := ba h
  refine ⟨?_, eqO_ok h1, of_decide_eq_true h2, of_decide_eq_true h3, h4⟩
  split at q
  · rename_i dd cd sl ho
    split at q
    · rename_i C' bm k0 k1 k2 k3 n k5 hm hs
      simp only [Bool.and_eq_true, beq_iff_eq, Bool.not_eq_true'] at q
      obtain ⟨rfl, rfl, hdel, hdc, ht⟩ := q
      obtain ⟨nm, bs, mro, ns, qn, hd, sn, sub, ab, col, del⟩ := cd
      dsimp only at hm hdel hdc
      subst hm hdel hdc
      have hsl : sl = #[k0, k1, k2, k3, some (.builtin "ValueError.__new__"), k5] := by
        obtain ⟨l⟩ := sl
        simp only at hs
        rw [hs]
      subst hsl
      exact ⟨nm, qn, ns, bs, bm, sn, sub, ab, col, dd, k0, k1, k2, k3, k5, ho, ht⟩
    · cases q
  · cases q
/-- its __init__ that calls super's: what of it is compared -/
abbrev NxV : Type := Option (Str × Arguments × FuncBody × Scope × Addr × List Str × Value × Value × Addr)
def nxObs (x : Str) (K : PySem.W.Frag) : NxV := match K.lookup (ma K (ga K x) "__init__") with
  | some ⟨_, _, .func fd, _⟩ => some (fd.name, fd.params, fd.body, fd.scope, fd.globals, fd.closure.map (·.1), fd.defaults, fd.kwdefaults, fd.builtins)
  | _ => none
/-- the rest of it -/
def nxB (file : Str) (K : PySem.W.Frag) (C fI : Addr) : Bool := oexB K C && (eqO (PySem.W.findIn K (.ref C) "field") (some none) && (eqO (PySem.W.findIn K (.ref C) "__init__") (some (some (.ref fI))) && (decide (PySem.W.typeIn K (.ref fI) = some (.type "function")) &&
  (eqO (PySem.W.ks_superIn K C C "__init__") (some (some (.builtin "ValueError.__init__"))) && (decide (PySem.W.mroIn K C (.ref C) = some true) && (decide (PySem.W.subIn K (.ref C) (.type "ValueError") = some true) && (eqO (PySem.W.nsIn K cStatics "thirdparty.any") (some none) &&
  (match K.lookup fI with
    | some ⟨_, _, .func fd, _⟩ => (match fd.code, fd.closure with
      | .ref cda, [(_, cc)] => PySem.W.codeIn K (.ref cda) fd.qualname && ((match K.lookup cda with
          | some ⟨_, _, .fields vs, _⟩ => (match (vs[2]? : Option Value) with
            | some (.str f _) => file == f
            | _ => false)
          | _ => false) && (match K.lookup cc with
          | some ⟨_, _, .cell (some (.ref c)), _⟩ => decide (c = C)
          | _ => false))
      | _, _ => false)
    | _ => false))))))))
def nxVal (p1 p2 : Pos) (b : List Stmt) : NxV := some (("__init__" : Str), PySem.Nx.iA p1 p2, FuncBody.stmts b, PySem.Nx.iS, mainGlobals, [("__class__" : Str)], Value.none, Value.none, builtinsNs)
theorem nx_txt {P : Program} {K : PySem.W.Frag} {mg : Str → Option Value} {x file : Str} {p1 p2 q1 q2 q3 q4 q5 q6 q7 q8 q9 q10 : Pos} (hb : nxB file K (ga K x) (ma K (ga K x) "__init__") = true)
    (hv : nxObs x K = nxVal p1 p2 (PySem.Nx.iB q1 q2 q3 q4 q5 q6 q7 q8 q9 q10))
    (hfile : ((P.main.file : Str) == file) = true) (noS : mg "super" = none) (top : (P.main.scope.names.lookup ("super" : Str)).isSome = false)
    (hev : ∀ env : Env, ∃ pl : Sem Bool, eval (.Call (.Attribute (.Call (.Name "super" q1) [] [] q2) "__init__" q3) [.Name "field" q4] [] q5) env = (do
      let ov ← attributeBase (.Call (.Name "super" q1) [] [] q2) "__init__" env (eval (.Call (.Name "super" q1) [] [] q2) env)
      standAt q3.atName
      let (f, first) ← holding [ov] (getMethod ov "__init__" pl)
      callWith q5 f first (backTo q5 (starEach [.Name "field" q4] env)) [])) : PySem.Nx.Txt P K mg (ga K x) (ma K (ga K x) "__init__") := by
  obtain ⟨h1, h⟩ := ba hb
  obtain ⟨h2, h⟩ := ba h
  obtain ⟨h3, h⟩ := ba h
  obtain ⟨h4, h⟩ := ba h
  obtain ⟨h5, h⟩ := ba h
  obtain ⟨h6, h⟩ := ba h
  obtain ⟨h7, h⟩ := ba h
  obtain ⟨h8, h⟩ := ba h
  refine ⟨oexB_ok h1, eqO_ok h2, eqO_ok h3, of_decide_eq_true h4, eqO_ok h5, of_decide_eq_true h6, of_decide_eq_true h7, eqO_ok h8, noS, top, ?_⟩
  unfold nxObs nxVal at hv
  split at hv
  · rename_i oc od fd osl hk
    rw [hk] at h
    obtain ⟨n1, n2, n3, n4, n5, n6, n7, n8, n9, n10, n11, n12, n13, n14, n15⟩ := fd
    simp only [Option.some.injEq, Prod.mk.injEq] at hv
    obtain ⟨e1, e2, e3, e4, e5, e6, e7, e8, e9⟩ := hv
    subst e1 e2 e3 e4 e5 e7 e8 e9
    dsimp only at h
    cases n13 with
    | ref cda =>
      rcases n7 with _ | ⟨⟨y, cc⟩, _ | ⟨z, t⟩⟩
      · cases h
      · have ey : y = "__class__" := by
          have z : [y] = ([("__class__" : Str)] : List Str) := e6
          injection z
        subst ey
        obtain ⟨g1, h⟩ := ba h
        obtain ⟨g2, g3⟩ := ba h
        split at g2
        · rename_i c1 c2 vs c4 hk2
          split at g2
          · rename_i f tf hvs
            split at g3
            · rename_i d1 d2 c d4 hk3
              have ec := of_decide_eq_true g3
              rw [ec] at hk3
              have ef : file = f := eq_of_beq g2
              exact ⟨_, _, _, _, _, _, _, _, _, _, _, _, _, _, cda, cc, vs, f, tf, _, _, _, _, _, _, _, _, _, _, _, _, hk, g1, hk2, hvs, by rw [← ef]; exact hfile, hk3, hev⟩
            · cases g3
          · cases g2
        · cases g2
      · cases h
    | _ => cases h
  · cases hv
end Nd
set_option maxHeartbeats 4000000
/-! ### what no program is needed for -/
namespace Nd
open PySem PySem.Spec PyProof.Rows L2
def SqB (K : PySem.W.Frag) (H : Hp) (a : Addr) (xs : List V) : Prop := SqL K H a xs ∨ SqT K H a xs
theorem seqT {K : PySem.W.Frag} {H H' : Hp} {a : Addr} {xs : List V} (e : Same H H') (h : SqT K H a xs) : SqT K H' a xs := by
  rcases h with (h | ⟨o, h⟩) | h
  · exact .inl (.inl (e _ _ h))
  · exact .inl (.inr ⟨o, e _ _ h⟩)
  · exact .inr h
theorem SqB.same {K : PySem.W.Frag} {H H' : Hp} {a : Addr} {xs : List V} (h : SqB K H a xs) (e : Same H H') : SqB K H' a xs := h.imp (e.seq ·) (seqT e ·)
def iSeq (K : PySem.W.Frag) (tl : TE) : TI := fun σ H R => tl σ H fun x H1 => ∃ a, x = .ref a ∧ ((∃ xs, SqL K H1 a xs) ∧ R (Itl K a) H1 ∨ (∃ xs, SqT K H1 a xs) ∧ R (Itt K a) H1)
theorem pi_seq {X : Cx} {tg : Expr} {l : Expr} {tl : TE} (hl : PE X l tl) : PI X tg l (iSeq X.K tl) := by
  refine ⟨fun pins s σ H R I h => ?_⟩
  refine thn (hl.run pins s σ H _ I h) fun v s1 ⟨x, H1, I1, r1, q1⟩ => ?_
  obtain ⟨a, e, q⟩ := q1
  subst e
  cases r1
  rcases q with ⟨⟨xs, hq⟩, q⟩ | ⟨⟨xs, hq⟩, q⟩
  · obtain ⟨its, rv, p, hz⟩ := I1.list hq
    refine wpAny_pyIter_list p.isList ?_
    refine ⟨s1.heap.objs.size, [s1.heap.objs.size], _, _, H1, rfl, I1.kept (t' := s1.toks) fun b o e => Heap.get?_push_of_some _ e, turn_list a _, ⟨_, Heap.get?_push_size _ rfl, rfl, rfl⟩, fun b hb => ?_, q⟩
    have e : b = s1.heap.objs.size := by simpa using hb
    subst e
    exact I1.fpOk (Nat.le_refl _) (I1.hok.fresh (Nat.le_refl _))
  · obtain ⟨its, rv, p, hz⟩ := I1.tuple hq
    refine wpAny_pyIter_tuple (show s1.heap.IsTuple a its.toArray from p) ?_
    refine ⟨s1.heap.objs.size, [s1.heap.objs.size], _, _, H1, rfl, I1.kept (t' := s1.toks) fun b o e => Heap.get?_push_of_some _ e, turn_tuple a _, ⟨_, Heap.get?_push_size _ rfl, rfl, rfl⟩, fun b hb => ?_, q⟩
    have e : b = s1.heap.objs.size := by simpa using hb
    subst e
    exact I1.fpOk (Nat.le_refl _) (I1.hok.fresh (Nat.le_refl _))
theorem for_both {K : PySem.W.Frag} {a : Addr} {xs : List V} {g : TG} {tb : TS} {D : Ends} {σ : L2.St} {H0 H : Hp} (hq : SqB K H0 a xs) (Pv : Nat → L2.St → Hp → Prop) (h0 : Pv 0 σ H) (hl : ∀ i σ H', i ≤ xs.length → Pv i σ H' → Same H0 H')
    (hs : ∀ i x σ H, xs[i]? = some x → Pv i σ H → g x σ H fun σ2 H2 => tb { D with nx := Pv (i + 1), ct := Pv (i + 1), bk := D.nx } σ2 H2) (hd : ∀ σ H, Pv xs.length σ H → D.nx σ H) :
    (∃ xs, SqL K H a xs) ∧ (∃ W : Nat → Nat → L2.St → Hp → Prop, (∃ m, W 0 m σ H) ∧ ∀ i m σ H, W i m σ H →
      ((Itl K a).stop i H ∧ D.nx σ H) ∨ ((Itl K a).go i H ∧ ∃ N : L2.St → Hp → Prop, (∀ σ' H', N σ' H' → ∃ m', m' < m ∧ W (i + 1) m' σ' H') ∧ ∀ x H', (Itl K a).yld i H x H' → g x σ H' fun σ2 H2 => tb { D with nx := N, ct := N, bk := D.nx } σ2 H2)) ∨
    (∃ xs, SqT K H a xs) ∧ (∃ W : Nat → Nat → L2.St → Hp → Prop, (∃ m, W 0 m σ H) ∧ ∀ i m σ H, W i m σ H →
      ((Itt K a).stop i H ∧ D.nx σ H) ∨ ((Itt K a).go i H ∧ ∃ N : L2.St → Hp → Prop, (∀ σ' H', N σ' H' → ∃ m', m' < m ∧ W (i + 1) m' σ' H') ∧ ∀ x H', (Itt K a).yld i H x H' → g x σ H' fun σ2 H2 => tb { D with nx := N, ct := N, bk := D.nx } σ2 H2)) := by
  rcases hq with h | h
  · exact .inl ⟨⟨_, (hl 0 σ H (Nat.zero_le _) h0).seq h⟩, for_list Pv h0 (fun i σ H' l p => (hl i σ H' l p).seq h) hs hd⟩
  · exact .inr ⟨⟨_, seqT (hl 0 σ H (Nat.zero_le _) h0) h⟩, for_tup Pv h0 (fun i σ H' l p => seqT (hl i σ H' l p) h) hs hd⟩
section
variable (P : Program) (w : World) (K : PySem.W.Frag) (mg : Str → Option Value) (base : Heap)
/-- the module's name x is a def of one parameter p that keeps sp, at the level k -/
structure CalK (k : Nat) (x p : Str) (sp : Sp) : Prop where
  ex : ∃ (f : Addr) (fd : FuncData), FnOk P w K mg base (L2.CX P w) k f fd [p] sp ∧ mg x = some (.ref f) ∧ PySem.W.keepIn K (.ref f) = true ∧ KBn K fd [p] 0 [p] (fun _ ws => ws) (fun _ zs => zs)
end
section
variable {P : Program} {w : World} {K : PySem.W.Frag} {mg : Str → Option Value} {base : Heap}
theorem fnx {x : Str} {st : Stmt} {f : Addr} {fd : FuncData} {N ps : List Str} {k : Nat} {sp : Sp} (F : DefX K mg x st ps f fd) (S : FnScope N ps (defScope st)) (len : ∀ vs H Q E, sp vs H Q E → vs.length = ps.length)
    (hbody : ∀ (cdv : Value) (A : Around) (outer : List Env) (s : Shared) (H : Hp) (vs : List V) (Q : VK) (E : XK), Room k (A.deeper (envOfC x (defScope st) s.heap.objs.size f cdv)) → sp vs H Q E →
      ∃ t, PSs (cxOf (L2.CX P w) P w K mg base N x (defScope st) f cdv A outer s H E).nox (defBody st) t ∧ t { nx := fun _ H' => Q .non H', rt := Q } (start N vs) H) : FnOk P w K mg base (L2.CX P w) (k + 1) f fd ps sp :=
  F.fn.ok S len fun cdv A outer s H vs Q E hr h => let ⟨t, a, b⟩ := hbody cdv A outer s H vs Q E hr h; ⟨t, a.nox, b⟩
theorem DefX.cal {x : Str} {st : Stmt} {f : Addr} {fd : FuncData} {ps : List Str} {k : Nat} {sp : Sp} (F : DefX K mg x st ps f fd) (h : FnOk P w K mg base (L2.CX P w) k f fd ps sp) : CalX P w K mg base k x sp := ⟨f, fd, ps, h, F.mgf, F.fn.kp, F.bi⟩
theorem kb1 {x qual : Str} {params : Arguments} {body : List Stmt} {scope : Scope} {f : Addr} {fd : FuncData} {p : Str} (F : FunD K x qual params body scope [] [] f fd)
    (h : ∀ (kV doc pm : Value) (an : Option Addr) (cdv ct : Value) (u : Value), bindArgs (PySem.W.fnOf x qual params body scope .none kV doc pm an cdv ct) ⟨[], [(p, u)]⟩ = pure [(p, u)]) : KBn K fd [p] 0 [p] (fun _ ws => ws) (fun _ zs => zs) := by
  obtain ⟨oc, od, dV, kV, doc, pm, an, cdv, ct, osl, rfl, lk, hcd, hD, hK⟩ := F.ex
  rcases hD with ⟨_, rfl⟩ | ⟨e, _⟩
  · refine ⟨fun s us ws X l1 l2 => ?_, fun r1 r2 => r2⟩
    match us, ws, l1, l2 with
    | [], [u], _, _ =>
      refine BindsTo.of_looks fun M => ?_
      exact .of_pure (h kV doc pm an cdv ct u)
  · exact absurd rfl e
theorem DefX.calk {x : Str} {st : Stmt} {f : Addr} {fd : FuncData} {p : Str} {k : Nat} {sp : Sp} (F : DefX K mg x st [p] f fd) (h : FnOk P w K mg base (L2.CX P w) k f fd [p] sp)
    (hb : ∀ (kV doc pm : Value) (an : Option Addr) (cdv ct : Value) (u : Value), bindArgs (PySem.W.fnOf x x (defArgs st) (defBody st) (defScope st) .none kV doc pm an cdv ct) ⟨[], [(p, u)]⟩ = pure [(p, u)]) : CalK P w K mg base k x p sp :=
  ⟨f, fd, h, F.mgf, F.fn.kp, kb1 F.fn hb⟩
end
section
variable {X : Cx} {k j : Nat} {x q : Str} {sp : Sp} {p pos : Pos} {kws : List Keyword} {tk : TA}
def tCallK1 (sp : Sp) (E : XK) (tk : TA) : TE := fun σ H Q => tk σ H fun zs H2 => zs.length = 1 ∧ sp zs H2 Q E
/-- x(q = e) -/
theorem pe_ck {E : XK} (c : CalK X.prog X.w X.K X.mg X.base k x q sp) (hr : Room j X.A) (hk : k ≤ j) (hg : Gl X x) (hx : Passes (L2.CX X.prog X.w) X E) (hkw : PK X kws tk)
    (hall : (backToKw pos (keywordEach kws X.env)).all (·.1.isSome) = true := by rfl) (hks : (backToKw pos (keywordEach kws X.env)).filterMap (·.1) = [q] := by rfl) (hdb : (x == ("__debug__" : Str)) = false := by decide)
    (hpl : ((backTo pos (starEach [] X.env)).any (·.1) || (backToKw pos (keywordEach kws X.env)).any (·.1.isNone)) = false := by rfl) :
    PE X (.Call (.Name x p) [] kws pos) (tCallK1 sp E tk) := by
  obtain ⟨f, fd, F, hm, kp, b⟩ := c.ex
  refine ⟨fun pins s σ H Q I h => ?_⟩
  refine wpAny_Call_Name_kw (ld_glob I hg hm ?_ hdb)
  refine PySem.W.callWith_KW0 (h₀ := X.base) I.ok.mod.kin kp hall ?_ hpl
  refine thn (hkw.run pos pins s σ H _ I h) fun ws s2 ⟨zs, H2, I2, rz, l1, q2⟩ => ⟨I2.kIn, ?_⟩
  rw [hks]
  exact run_fnN (us := []) (vs := []) F (hr.mono hk) b hx I2 .nil rz rfl l1 q2
end
end Nd
namespace Nd
open PySem PySem.Spec PyProof.Rows L2
/-- what is asked of a method as it stands behind the top -/
structure MetX (K : PySem.W.Frag) (nm qn : Str) (st : Stmt) (ps : List Str) (f : Addr) (fd : FuncData) : Prop where
  fn : FunD K nm qn (defArgs st) (defBody st) (defScope st) [] [] f fd
  bi : Binds K fd ps []
def metOf (st : Stmt) (i : Nat) : Stmt := match st with
  | .ClassDef _ _ _ body _ _ _ _ _ _ _ => body.getD i (.Pass ⟨0, 0, 0, 0⟩)
  | _ => .Pass ⟨0, 0, 0, 0⟩
end Nd
namespace Nd
open PySem PySem.Spec PyProof.Rows L2
def gFld (K : PySem.W.Frag) (ta : TE) (f : Str) : TG := fun y σ H Q => ta σ H fun x H2 => ∃ a C dx fs, x = .ref a ∧ H2 a = some (.ins C dx fs) ∧ Cls K C ∧ NoAttr K C f ∧ fs.length < 1000 ∧ Q σ (upd H2 a (.ins C dx (putF f y fs)))
theorem pg_fld {X : Cx} {o : Expr} {f : Str} {pos : Pos} {ta : TE} (ha : PE X o ta) : PG X (.Attribute o f pos) (gFld X.K ta f) := by
  refine ⟨fun pins s σ H y u Q I ry h => ?_⟩
  have e : assign (.Attribute o f pos) X.env u = (do
      let ov ← holding [u] (eval o X.env)
      standAt pos.atName
      holding [u, ov] (setAttr ov f u)
      release [u, ov] []) := rfl
  rw [e]
  refine wpAny_bind (wpAny_holding (thn (ha.run pins s σ H _ I h) fun ov s2 ⟨x, H2, I2, rx, a, C, dx, fs, ex, ea, c, n, l, q2⟩ => ?_))
  subst ex
  obtain rfl : ov = Value.ref a := rx
  refine wpAny_bind (wpAny_standAt (wpAny_bind (wpAny_holding (setattr_ok I2 ea c n l ry fun s3 I3 => ?_))))
  exact wpAny_release ⟨σ, _, I3, q2⟩
theorem putF_len (f : Str) (v : V) : ∀ fs : List (Str × V), (putF f v fs).length ≤ fs.length + 1
  | [] => by simp [putF]
  | (g, x) :: r => by
    unfold putF
    split
    · simp
    · have := putF_len f v r
      simp only [List.length_cons]
      omega
/-- at most n fields -/
def Sm (n : Nat) (fs : List (Str × V)) : Prop := fs.length ≤ n
theorem Sm.put {n : Nat} {fs : List (Str × V)} {f : Str} {v : V} (h : Sm n fs) : Sm (n + 1) (putF f v fs) := Nat.le_trans (putF_len f v fs) (Nat.add_le_add_right h 1)
theorem fldlen {H : Hp} {self C dx : Addr} {f : Str} {v : V} {fs : List (Str × V)} {n : Nat} (_ : H self = some (.ins C dx (putF f v fs))) (h : Sm n fs) : Sm (n + 1) (putF f v fs) := h.put
theorem look_hit {f : Str} {v : V} {fs : List (Str × V)} : (putF f v fs).lookup f = some v := by rw [lookup_putF, if_pos rfl]
theorem look_miss {f g : Str} {v : V} {fs : List (Str × V)} {o : Option V} (h : g ≠ f) (k : fs.lookup g = o) : (putF f v fs).lookup g = o := by rw [lookup_putF, if_neg h]; exact k
end Nd
namespace Nd
open PySem PySem.Spec PyProof.Rows L2
def rCatS (K : PySem.W.Frag) : R2 := fun x y H Q => ∃ l b xs zs, x = .ref l ∧ y = .ref b ∧ ScrL K H l xs ∧ H b = some (.lst zs) ∧ xs.length + zs.length ≤ sizeLine ∧ ∀ p, H p = none → Q (.ref p) (upd H p (.lst (xs ++ zs)))
theorem op_catS {X : Cx} : OpR X (binaryOp .Add) (rCatS X.K) := by
  intro pins s σ H x y v u Q I rx ry h
  obtain ⟨l, b, xs, zs, rfl, rfl, hH, hB, hz, q⟩ := h
  cases rx
  cases ry
  obtain ⟨its, n, r, e⟩ : ∃ (its : List Value) (n : Nat), Vals xs its ∧ s.heap.get? l = some { cls := .type "list", data := .seq its.toArray n } := by
    rcases hH with ⟨vs, h⟩ | ⟨vs, h, _, r⟩
    · obtain ⟨_, _, its, n, r, e⟩ := I.hok l _ h
      exact ⟨its, n, r, e⟩
    · exact ⟨vs, _, r, I.kIn _ _ h⟩
  obtain ⟨z2, its2, n2, r2, hl2, e2⟩ := I.lstM hB
  refine PySem.P.add_list e e2 ?_ (by rw [List.size_toArray, List.size_toArray, ← r.length, ← r2.length]; exact hz)
  have ea : its.toArray ++ its2.toArray = (its ++ its2).toArray := by simp
  rw [ea]
  exact ⟨.ref _, _, I.lnew (t' := s.toks) (r.append r2) (by rw [List.length_append]; omega), rfl, q _ I.fresh⟩
theorem dp_ints {K : PySem.W.Frag} {H : Hp} : ∀ ns : List Int, DpAll K H (ns.map V.int) (ns.map PyData.int)
  | [] => .nil
  | n :: r => .cons (.int n) (dp_ints r)
theorem lay_ints : ∀ ns : List Int, PyData.canLayAll0 (ns.map PyData.int) = true
  | [] => by simp [PyData.canLayAll0]
  | n :: r => by
    simp only [List.map_cons, PyData.canLayAll0, PyData.canLay0, lay_ints r]
    rfl
theorem dep_ints : ∀ ns : List Int, PyData.depthAll (ns.map PyData.int) = 0
  | [] => by simp [PyData.depthAll]
  | n :: r => by simp [List.map_cons, PyData.depthAll, PyData.depth, dep_ints r]
theorem shaped_ints (ns : List Int) : SeqAt.shaped (.tuple (ns.map PyData.int)) = true := by
  show (PyData.canLay0 (.tuple (ns.map PyData.int)) && decide (PyData.depth (.tuple (ns.map PyData.int)) ≤ 64)) = true
  simp only [PyData.canLay0, PyData.depth, lay_ints, dep_ints]
  rfl
theorem eqv_ints (ns : List Int) : PyData.eqv (.tuple (ns.map PyData.int)) (.tuple (ns.map PyData.int)) = true := PySem.SeqAt.eqv_refl _ (by simp only [PyData.canLay0]; exact lay_ints ns)
end Nd
namespace Nd
open PySem PySem.Spec PyProof.Rows L2
theorem dfx {K : PySem.W.Frag} {mg : Str → Option Value} {h : Heap} {x : Str} {st : Stmt} {ps : List Str} {fd : FuncData} (X : K.In h) (G : h.Ns mainGlobals mg) (F : FunD K x x (defArgs st) (defBody st) (defScope st) [] [] (He.ga K x) fd) (g : (He.Fa.glo x).ok K = true)
    (b : ∀ (kV doc pm : Value) (an : Option Addr) (cdv ct : Value) (us : List Value), us.length = ps.length → bindArgs (PySem.W.fnOf x x (defArgs st) (defBody st) (defScope st) .none kV doc pm an cdv ct) ⟨us, []⟩ = pure (ps.zip us)) : DefX K mg x st ps (He.ga K x) fd := ⟨F, He.glo_ok X G g, F.bindsN b⟩
theorem metx {K : PySem.W.Frag} {nm qn : Str} {st : Stmt} {ps : List Str} {f : Addr} {fd : FuncData} (F : FunD K nm qn (defArgs st) (defBody st) (defScope st) [] [] f fd)
    (b : ∀ (kV doc pm : Value) (an : Option Addr) (cdv ct : Value) (us : List Value), us.length = ps.length → bindArgs (PySem.W.fnOf nm qn (defArgs st) (defBody st) (defScope st) .none kV doc pm an cdv ct) ⟨us, []⟩ = pure (ps.zip us)) : MetX K nm qn st ps f fd := ⟨F, F.bindsN b⟩
theorem int_rel {K : PySem.W.Frag} {mg : Str → Option Value} {h : Heap} {x : Str} {i : Int} (X : K.In h) (G : h.Ns mainGlobals mg) (c : (He.Fa.int x i).ok K = true) : ∃ u, mg x = some u ∧ RelV (.int i) u := by
  obtain ⟨t, e⟩ := He.int_ok X G c
  exact ⟨_, e, t, rfl⟩
end Nd
set_option maxHeartbeats 4000000
set_option hygiene false in
local macro_rules | `(tactic| walk_at "new1") => `(tactic| (intro p1 n1; generalize e1 : upd _ p1 _ = H1; (have s1 := (congrArg (Same _) e1).mp (Same.new n1)); (have h1 := (congrArg (fun z : Hp => z p1 = some _) e1).mp upd_same); clear e1))
set_option hygiene false in
local macro_rules | `(tactic| walk_at "new2") => `(tactic| (intro p2 n2; generalize e2 : upd _ p2 _ = H2; (have s2 := (congrArg (Same _) e2).mp (Same.new n2)); (have h2 := (congrArg (fun z : Hp => z p2 = some _) e2).mp upd_same); clear e2))
set_option hygiene false in
local macro_rules | `(tactic| walk_at "new3") => `(tactic| (intro p3 n3; generalize e3 : upd _ p3 _ = H3; (have s3 := (congrArg (Same _) e3).mp (Same.new n3)); (have h3 := (congrArg (fun z : Hp => z p3 = some _) e3).mp upd_same); clear e3))
set_option hygiene false in
local macro_rules | `(tactic| walk_at "new4") => `(tactic| (intro p4 n4; generalize e4 : upd _ p4 _ = H4; (have s4 := (congrArg (Same _) e4).mp (Same.new n4)); (have h4 := (congrArg (fun z : Hp => z p4 = some _) e4).mp upd_same); clear e4))
set_option hygiene false in
local macro_rules | `(tactic| walk_at "new5") => `(tactic| (intro p5 n5; generalize e5 : upd _ p5 _ = H5; (have s5 := (congrArg (Same _) e5).mp (Same.new n5)); (have h5 := (congrArg (fun z : Hp => z p5 = some _) e5).mp upd_same); clear e5))
set_option hygiene false in
local macro_rules | `(tactic| walk_at "new6") => `(tactic| (intro p6 n6; generalize e6 : upd _ p6 _ = H6; (have s6 := (congrArg (Same _) e6).mp (Same.new n6)); (have h6 := (congrArg (fun z : Hp => z p6 = some _) e6).mp upd_same); clear e6))
set_option hygiene false in
local macro_rules | `(tactic| walk_at "new7") => `(tactic| (intro p7 n7; generalize e7 : upd _ p7 _ = H7; (have s7 := (congrArg (Same _) e7).mp (Same.new n7)); (have h7 := (congrArg (fun z : Hp => z p7 = some _) e7).mp upd_same); clear e7))
set_option hygiene false in
local macro_rules | `(tactic| walk_at "new8") => `(tactic| (intro p8 n8; generalize e8 : upd _ p8 _ = H8; (have s8 := (congrArg (Same _) e8).mp (Same.new n8)); (have h8 := (congrArg (fun z : Hp => z p8 = some _) e8).mp upd_same); clear e8))
set_option hygiene false in
local macro_rules | `(tactic| walk_at "new9") => `(tactic| (intro p9 n9; generalize e9 : upd _ p9 _ = H9; (have s9 := (congrArg (Same _) e9).mp (Same.new n9)); (have h9 := (congrArg (fun z : Hp => z p9 = some _) e9).mp upd_same); clear e9))
namespace K49
open PySem PySem.Spec PyProof.Rows L2 Nd
def top (i : Nat) : Stmt := PySem.Challenge.pw_codewalk_k49_tables_spoilt.main.body.getD i (.Pass ⟨0, 0, 0, 0⟩)
/-! numbers in pieces of six bits, the lowest first -/
def dig (n : Nat) : List Int := if n < 64 then [(n : Int)] else ((n % 64 : Nat) : Int) :: dig (n / 64)
termination_by n
decreasing_by omega
theorem dig_lt {n : Nat} (h : n < 64) : dig n = [(n : Int)] := by rw [dig, if_pos h]
theorem dig_ge {n : Nat} (h : ¬ n < 64) : dig n = ((n % 64 : Nat) : Int) :: dig (n / 64) := by rw [dig, if_neg h]
theorem dig_len : ∀ (k n : Nat), n < 64 ^ k → (dig n).length ≤ k + 1
  | 0, n, h => by
    have : n < 64 := by simp at h; omega
    rw [dig_lt this]
    simp
  | k + 1, n, h => by
    by_cases c : n < 64
    · rw [dig_lt c]
      simp
    · rw [dig_ge c, List.length_cons]
      have := dig_len k (n / 64) (by rw [Nat.pow_succ] at h; omega)
      omega
/-- what the globals are -/
structure Gs (mg : Str → Option Value) : Prop where
  c_FURTHER : ∃ u, mg "FURTHER" = some u ∧ RelV (.int 64) u
section
variable {P : Program} {w : World} {K : PySem.W.Frag} {mg : Str → Option Value} {base : Heap}
theorem shr6 (m : Nat) : (m : Int) / 2 ^ (6 : Int).toNat = ((m / 64 : Nat) : Int) := by
  show (m : Int) / 64 = _
  omega
theorem and63 (m : Nat) : Builtin.bitAnd (m : Int) 63 = ((m % 64 : Nat) : Int) := by
  rw [PyProof.Rows.bitAnd_m6]
  omega
end
abbrev s_law_source_of : Stmt := top 30
abbrev s_law_next : Stmt := top 31
abbrev s_law_one : Stmt := top 32
abbrev s_law_pieces : Stmt := top 33
abbrev s_law_marked : Stmt := top 34
/-- what the globals are -/
structure Gl0 (mg : Str → Option Value) : Prop where
  n_int : mg "int" = none
  n_len : mg "len" = none
  n_range : mg "range" = none
/-! the pieces marked: 64 more, but the last -/
def mk : List Int → List Int
  | [] => []
  | [x] => [x]
  | x :: y :: r => (x + 64) :: mk (y :: r)
theorem mk_snoc : ∀ (l : List Int) (x : Int), mk (l ++ [x]) = l.map (· + 64) ++ [x]
  | [], x => rfl
  | [a], x => rfl
  | a :: b :: r, x => by
    show (a + 64) :: mk ((b :: r) ++ [x]) = _
    rw [mk_snoc (b :: r) x]
    rfl
theorem mk_len : ∀ l : List Int, (mk l).length = l.length
  | [] => rfl
  | [_] => rfl
  | _ :: b :: r => by
    show (mk (b :: r)).length + 1 = (b :: r).length + 1
    rw [mk_len (b :: r)]
theorem dig_ne (n : Nat) : dig n ≠ [] := by
  by_cases c : n < 64
  · rw [dig_lt c]
    simp
  · rw [dig_ge c]
    simp
section
variable {P : Program} {w : World} {K : PySem.W.Frag} {mg : Str → Option Value} {base : Heap}
/-! ### marked -/
def spMarked (K : PySem.W.Frag) : Sp := fun vs H Q _ => ∃ (a : Addr) (xs : List Int), vs = [.ref a] ∧ SqL K H a (xs.map V.int) ∧ xs ≠ [] ∧ xs.length ≤ 2000 ∧ ∀ p H', H p = none → Same H H' → H' p = some (.lst ((mk xs).map V.int)) → Q (.ref p) H'
theorem cut_init (xs : List V) (y : V) : cutV (xs ++ [y]) none (some (-1)) = xs := by
  unfold cutV
  have e : HT.sIx (xs ++ [y]).length (xs ++ [y]).length (some (-1)) = xs.length := by
    show (if (-1 : Int) < 0 then ((-1 : Int) + ((xs ++ [y]).length : Int)).toNat else min (-1 : Int).toNat (xs ++ [y]).length) = _
    rw [if_pos (by decide), List.length_append, List.length_singleton]
    omega
  rw [e]
  show List.take (xs.length - 0) (List.drop 0 (xs ++ [y])) = xs
  simp
theorem cut_last (xs : List V) (y : V) : cutV (xs ++ [y]) (some (-1)) none = [y] := by
  unfold cutV
  have e : HT.sIx (xs ++ [y]).length 0 (some (-1)) = xs.length := by
    show (if (-1 : Int) < 0 then ((-1 : Int) + ((xs ++ [y]).length : Int)).toNat else min (-1 : Int).toNat (xs ++ [y]).length) = _
    rw [if_pos (by decide), List.length_append, List.length_singleton]
    omega
  rw [e]
  show List.take ((xs ++ [y]).length - xs.length) (List.drop xs.length (xs ++ [y])) = [y]
  simp
abbrev N_law_marked : List Str := ["some", "piece"]
theorem sc_law_marked : FnScope N_law_marked ["some"] (defScope s_law_marked) := ⟨rfl, rfl, rfl, by decide +kernel, rfl, by decide +kernel, by decide +kernel⟩
theorem ok_law_marked {f : Addr} {fd : FuncData} (F : DefX K mg "_law_marked" s_law_marked ["some"] f fd) : CalX P w K mg base 1 "_law_marked" (spMarked K) := by
  refine calx F sc_law_marked (fun vs H Q E h => ?_) (fun cdv A outer s H vs Q E hr h => ?_)
  · obtain ⟨a, xs, rfl, _⟩ := h
    rfl
  · obtain ⟨a, xs, rfl, ha, hne, hl, k⟩ := h
    refine ⟨_, (pss_one (ps_ret (pe_op op_cat (pe_lc (own := [("piece", 1)]) (g := gName 1) (tt := tYes) rfl sc_law_marked.nd (pi_list (pe_slice sl_list (pv 0) po_none (po_some (pe_un un_neg pe_int)))) (blkOk_by (own := [("piece", 1)]) (N := N_law_marked) (sc := defScope s_law_marked) (by decide +kernel)) (fun _ _ _ _ _ => (pg_name (i := 1) sc_law_marked.nd rfl (Or.inl rfl))) (fun _ _ _ _ _ => pts_nil) (fun _ _ _ _ _ => (pe_op op_add (pv 1) pe_int))) (pe_slice sl_list (pv 0) (po_some (pe_un un_neg pe_int)) po_none)))), ?_⟩
    obtain ⟨ys, y, rfl⟩ : ∃ ys y, xs = ys ++ [y] := ⟨xs.dropLast, xs.getLast hne, (List.dropLast_concat_getLast hne).symm⟩
    have em : (ys ++ [y]).map V.int = ys.map V.int ++ [V.int y] := by simp
    rw [em] at ha
    have hl' : ys.length ≤ 2000 := by
      rw [List.length_append] at hl
      omega
    refine ⟨_, rfl, _, rfl, _, rfl, _, _, rfl, ha, ?_⟩
    walk_at "new1"
    try dsimp only at h1
    rw [cut_init] at h1
    refine ⟨p1, rfl, ⟨_, SqL.of h1⟩, fun D nD => lc_list (K := K) (a := p1) (xs := ys.map V.int) (fun i H' => Same H1 H' ∧ H' D = some (.lst (((ys.take i).map (· + 64)).map V.int))) ⟨Same.new nD, by rw [upd_same]; rfl⟩
      (fun i H' _ p => p.1.seq (SqL.of h1)) ?_ ?_⟩
    · rintro i x H' hi ⟨s2, hD⟩
      obtain ⟨z, hz, rfl⟩ : ∃ z, ys[i]? = some z ∧ x = V.int z := by
        rw [List.getElem?_map] at hi
        cases e : ys[i]? with
        | none => rw [e] at hi; cases hi
        | some z => rw [e] at hi; exact ⟨z, rfl, (Option.some.inj hi).symm⟩
      refine ⟨rfl, ?_⟩
      refine ⟨_, rfl, _, _, rfl, rfl, _, hD, ?_, Same.mut s2 nD, ?_⟩
      · rw [List.length_map, List.length_map, List.length_take]
        exact Nat.lt_of_le_of_lt (Nat.min_le_right _ _) (Nat.lt_of_le_of_lt hl' (by decide))
      · rw [upd_same, List.take_add_one, hz]
        simp
    · rintro H' ⟨s2, hD⟩
      rw [List.length_map, List.take_length] at hD
      refine ⟨_, rfl, _, rfl, _, rfl, _, _, rfl, s2.seq (s1.seq ha), ?_⟩
      walk_at "new3"
      try dsimp only at h3
      rw [cut_last] at h3
      refine ⟨D, p3, _, _, rfl, rfl, s3 _ _ hD, h3, ?_, ?_⟩
      · rw [List.length_map, List.length_map]
        exact Nat.le_trans (Nat.add_le_add_right hl' 1) (by decide)
      · walk_at "new4"
        refine k p4 H4 ?_ (((s1.trans s2).trans s3).trans s4) ?_
        · exact s1.free (s2.free (s3.free n4))
        · rw [h4, mk_snoc, List.map_append]
          rfl
end
section
variable {P : Program} {w : World} {K : PySem.W.Frag} {mg : Str → Option Value} {base : Heap}
/-! ### _law_pieces -/
abbrev N_law_pieces : List Str := ["number", "found", "k"]
theorem sc_law_pieces : FnScope N_law_pieces ["number"] (defScope s_law_pieces) := ⟨rfl, rfl, rfl, by decide +kernel, rfl, by decide +kernel, by decide +kernel⟩
def spLPieces : Sp := fun vs H Q _ => ∃ n : Nat, vs = [.int (n : Int)] ∧ n < 64 ^ 60 ∧ ∀ p H', H p = none → Same H H' → H' p = some (.lst ((dig n).map V.int)) → Q (.ref p) H'
theorem ok_law_pieces {f : Addr} {fd : FuncData} (T : Gl0 mg) (F : DefX K mg "_law_pieces" s_law_pieces ["number"] f fd) : CalX P w K mg base 1 "_law_pieces" spLPieces := by
  refine calx F sc_law_pieces (fun vs H Q E h => ?_) (fun cdv A outer s H vs Q E hr h => ?_)
  · obtain ⟨n, rfl, _⟩ := h
    rfl
  · obtain ⟨n, rfl, hn, k⟩ := h
    refine ⟨_, (pss_cons (ps_set (i := 1) sc_law_pieces.nd rfl (.inl rfl) (pe_lst (pa_cons (pe_op op_mod (pe_callTy call_int1 (by rfl) T.n_int Boot.«int» (pa_cons (pv 0) pa_nil)) pe_int) pa_nil)))
      (pss_cons (ps_for PassesOwn.never rfl (pi_range1 (by rfl) T.n_range (pa_cons pe_int pa_nil)) (pg_name (i := 2) sc_law_pieces.nd rfl (.inl rfl))
        (pss_cons (ps_set (i := 0) sc_law_pieces.nd rfl (.inl rfl) (pe_op op_fdiv (pv 0) pe_int))
      (pss_one (ps_if (pt_cmpR op_gt (pv 0) pe_int (nomark _))
        (pss_one (ps_expr (pe_bm PySem.F.plainAttrs_list PySem.F.slot_list_append PySem.F.type_list_append mt_append (pv 1) (pa_cons (pe_op op_mod (pe_callTy call_int1 (by rfl) T.n_int Boot.«int» (pa_cons (pv 0) pa_nil)) pe_int) pa_nil))))
        pss_nil))))
      (pss_one (ps_ret (pv 1))))), ?_⟩
    refine ⟨_, rfl, .inl ⟨_, rfl, _, _, rfl, rfl, (by show (0 : Int) < 64; decide), (by show 1 ≤ sizeLine; decide), ?_⟩⟩
    walk_at "new1"
    refine ⟨60, rfl, by decide, by decide, for_range (lo := 0) (n := 60) (fun i σ H' => ∃ (m : Nat) (acc : List Int) (v : Option V), σ = [some (.int (m : Int)), some (.ref p1), v] ∧ Same H H' ∧ H' p1 = some (.lst (acc.map V.int)) ∧ m < 64 ^ (60 - i) ∧ acc.length ≤ i + 1 ∧
        acc ++ (if m / 64 = 0 then [] else dig (m / 64)) = dig n) ⟨n, [((n % 64 : Nat) : Int)], none, rfl, s1, ?_, hn, by simp, ?_⟩ ?_ ?_⟩
    · rw [h1]
      rfl
    · by_cases c : n < 64
      · rw [if_pos (by omega), dig_lt c]
        have : n % 64 = n := by omega
        rw [this]
        rfl
      · rw [if_neg (by omega), dig_ge c]
        rfl
    · rintro i σ H' hi ⟨m, acc, v, rfl, s2, h2, hm, hl, e⟩
      refine ⟨_, rfl, _, _, rfl, rfl, ⟨by show (0 : Int) < 64; decide, by decide⟩, ?_⟩
      have ediv : ((m : Int) / 64) = ((m / 64 : Nat) : Int) := by omega
      refine ⟨_, rfl, _, _, rfl, rfl, _, rfl, ?_⟩
      have hm2 : m / 64 < 64 ^ (60 - (i + 1)) := by
        have e64 : 64 ^ (60 - i) = 64 ^ (60 - (i + 1)) * 64 := by
          rw [← Nat.pow_succ]
          congr 1
          omega
        rw [e64] at hm
        exact Nat.div_lt_of_lt_mul (by omega)
      refine ite2 (fun c => ?_) (fun c => ?_)
      · have c' : m / 64 ≠ 0 := by
          have := of_decide_eq_true c
          have : (0 : Int) < (m : Int) / 64 := this
          omega
        refine ⟨_, rfl, .inl ⟨rfl, _, SqL.of h2⟩, _, rfl, .inl ⟨_, rfl, _, _, rfl, rfl, (by show (0 : Int) < 64; decide), p1, _, _, rfl, rfl, h2, ?_, ?_⟩⟩
        · rw [List.length_map]
          exact Nat.lt_of_le_of_lt hl (Nat.lt_of_lt_of_le (by omega : i + 1 < 100) (by decide))
        · refine ⟨m / 64, acc ++ [((m / 64 % 64 : Nat) : Int)], some (.int (0 + (i : Int))), ?_, Same.mut s2 n1, ?_, hm2, ?_, ?_⟩
          · show [some (V.int ((m : Int) / 64)), some (.ref p1), some (V.int (0 + (i : Int)))] = _
            rw [ediv]
          · rw [upd_same, List.map_append]
            show some (HO.lst (acc.map V.int ++ [V.int (((m : Int) / 64) % 64)])) = some (HO.lst (acc.map V.int ++ [V.int ((m / 64 % 64 : Nat) : Int)]))
            rw [ediv]
            rfl
          · rw [List.length_append, List.length_singleton]
            omega
          · rw [← e, if_neg c']
            by_cases c2 : m / 64 < 64
            · rw [if_pos (by omega), dig_lt c2]
              have : m / 64 % 64 = m / 64 := by omega
              rw [this]
              simp
            · rw [if_neg (by omega), dig_ge c2]
              simp
      · have c' : m / 64 = 0 := by
          have z : ¬ ((0 : Int) < (m : Int) / 64) := fun z => c (decide_eq_true z)
          omega
        refine ⟨m / 64, acc, some (.int (0 + (i : Int))), ?_, s2, h2, hm2, by omega, ?_⟩
        · show [some (V.int ((m : Int) / 64)), some (.ref p1), some (V.int (0 + (i : Int)))] = _
          rw [ediv]
        · rw [← e, if_pos c', if_pos (by omega)]
    · rintro σ H' ⟨m, acc, v, rfl, s2, h2, hm, hl, e⟩
      have m0 : m = 0 := by
        have z : m < 64 ^ 0 := hm
        simpa using z
      rw [m0] at e
      rw [if_pos (by decide), List.append_nil] at e
      rw [e] at h2
      exact ⟨_, rfl, k p1 H' n1 s2 h2⟩
/-! ### the source of choices: three numbers -/
def Src (H : Hp) (a : Addr) : Prop := ∃ x y z : Int, H a = some (.lst [.int x, .int y, .int z]) ∧ 0 ≤ x ∧ 0 ≤ y ∧ 0 ≤ z
def spSource : Sp := fun vs H Q _ => ∃ c : Int, vs = [.int c] ∧ ∀ p H', H p = none → Same H H' → Src H' p → Q (.ref p) H'
abbrev N_law_source_of : List Str := ["cell"]
theorem sc_law_source_of : FnScope N_law_source_of ["cell"] (defScope s_law_source_of) := ⟨rfl, rfl, rfl, by decide +kernel, rfl, by decide +kernel, by decide +kernel⟩
theorem ok_law_source_of {f : Addr} {fd : FuncData} (T : Gl0 mg) (F : DefX K mg "_law_source_of" s_law_source_of ["cell"] f fd) : CalX P w K mg base 1 "_law_source_of" spSource := by
  refine calx F sc_law_source_of (fun vs H Q E h => ?_) (fun cdv A outer s H vs Q E hr h => ?_)
  · obtain ⟨n, rfl, _⟩ := h
    rfl
  · obtain ⟨n, rfl, k⟩ := h
    refine ⟨_, (pss_cons (ps_set (i := 0) sc_law_source_of.nd rfl (.inl rfl) (pe_ifExp (pt_cmpR op_ge (pv 0) pe_int (nomark _)) (pv 0) (pe_op op_sub (pe_op op_sub pe_int (pe_op op_mul pe_int (pv 0))) pe_int)))
      (pss_one (ps_ret (pe_lst (pa_cons (pe_op op_mul (pv 0) (pe_callTy call_int1 (by rfl) T.n_int Boot.«int» (pa_cons (pe_cmpR op_ge (pv 0) (pe_op op_pow pe_int pe_int) (nomark _)) pa_nil))) (pa_cons (pe_op op_mod (pe_callTy call_int1 (by rfl) T.n_int Boot.«int» (pa_cons (pv 0) pa_nil)) pe_int) (pa_cons pe_int pa_nil))))))), ?_⟩
    refine ⟨_, rfl, _, _, rfl, rfl, _, rfl, ?_⟩
    refine ite2 (fun c => ?_) (fun c => ?_)
    · have hm : (0 : Int) ≤ n := of_decide_eq_true c
      refine ⟨_, rfl, ?_⟩
      refine ⟨_, rfl, _, rfl, _, _, rfl, rfl, ⟨by decide, by decide, by decide⟩, _, _, rfl, rfl, .inr ⟨_, rfl, _, _, rfl, rfl, .inr ?_, _, rfl, .inl ⟨_, rfl, _, _, rfl, rfl, (by show (0 : Int) < 2147483647; decide), (by show 3 ≤ sizeLine; decide), ?_⟩⟩⟩
      · split <;> decide
      · walk_at "new1"
        exact k p1 H1 n1 s1 ⟨_, _, _, h1, Int.mul_nonneg hm (by split <;> decide), Int.emod_nonneg _ (by decide), by decide⟩
    · have hm : (0 : Int) ≤ 0 - 3 * n - 1 := by
        have c' : ¬ ((0 : Int) ≤ n) := fun z => c (decide_eq_true z)
        omega
      refine ⟨_, rfl, _, _, rfl, rfl, .inl ⟨by decide, by decide⟩, _, _, rfl, rfl, _, _, rfl, rfl, ?_⟩
      refine ⟨_, rfl, _, rfl, _, _, rfl, rfl, ⟨by decide, by decide, by decide⟩, _, _, rfl, rfl, .inr ⟨_, rfl, _, _, rfl, rfl, .inr ?_, _, rfl, .inl ⟨_, rfl, _, _, rfl, rfl, (by show (0 : Int) < 2147483647; decide), (by show 3 ≤ sizeLine; decide), ?_⟩⟩⟩
      · split <;> decide
      · walk_at "new1"
        exact k p1 H1 n1 s1 ⟨_, _, _, h1, Int.mul_nonneg hm (by split <;> decide), Int.emod_nonneg _ (by decide), by decide⟩
end
section
variable {P : Program} {w : World} {K : PySem.W.Frag} {mg : Str → Option Value} {base : Heap}
/-! ### _law_next: some number below many -/
def spNext : Sp := fun vs H Q _ => ∃ (a : Addr) (m : Int), vs = [.ref a, .int m] ∧ Src H a ∧ 0 < m ∧ m.natAbs < 2 ^ 200 ∧ ∀ v H', 0 ≤ v → v < m → But a H H' → Src H' a → Q (.int v) H'
abbrev N_law_next : List Str := ["source", "many", "found", "prime", "number"]
theorem sc_law_next : FnScope N_law_next ["source", "many"] (defScope s_law_next) := ⟨rfl, rfl, rfl, by decide +kernel, rfl, by decide +kernel, by decide +kernel⟩
theorem md (a : Int) : -(2 ^ 64) < a % 2147483647 ∧ a % 2147483647 < 2 ^ 64 := by
  have h1 := Int.emod_nonneg a (by decide : (2147483647 : Int) ≠ 0)
  have h2 := Int.emod_lt_of_pos a (by decide : (0 : Int) < 2147483647)
  omega
theorem at0 (x y z : V) : atI [x, y, z] 0 = some x := rfl
theorem at1 (x y z : V) : atI [x, y, z] 1 = some y := rfl
theorem at2 (x y z : V) : atI [x, y, z] 2 = some z := rfl
theorem ok_law_next {f : Addr} {fd : FuncData} (T : Gl0 mg) (F : DefX K mg "_law_next" s_law_next ["source", "many"] f fd) : CalX P w K mg base 1 "_law_next" spNext := by
  refine calx F sc_law_next (fun vs H Q E h => ?_) (fun cdv A outer s H vs Q E hr h => ?_)
  · obtain ⟨a, m, rfl, _⟩ := h
    rfl
  · obtain ⟨a, m, rfl, ⟨x, y, z, ha, hx, hy, hz⟩, hm, hm2, k⟩ := h
    refine ⟨_, (pss_cons (ps_if (pt_cmpR op_gt (pe_ix ix_list (pv 0) pe_int (fun _ _ => rfl)) pe_int (nomark _))
        (pss_cons (ps_set (i := 2) sc_law_next.nd rfl (.inl rfl) (pe_op op_mod (pe_callTy call_int1 (by rfl) T.n_int Boot.«int» (pa_cons (pe_ix ix_list (pv 0) pe_int (fun _ _ => rfl)) pa_nil)) (pv 1)))
      (pss_cons (ps_asg (pe_op op_fdivW (pe_ix ix_list (pv 0) pe_int (fun _ _ => rfl)) (pv 1)) (pg_sub (pv 0) pe_int set_list))
      (pss_one (ps_ret (pv 2)))))
        pss_nil)
      (pss_cons (ps_asg (pe_op op_add (pe_ix ix_list (pv 0) pe_int (fun _ _ => rfl)) pe_int) (pg_sub (pv 0) pe_int set_list))
      (pss_cons (ps_set (i := 3) sc_law_next.nd rfl (.inl rfl) pe_int)
      (pss_cons (ps_set (i := 4) sc_law_next.nd rfl (.inl rfl) (pe_op op_mod (pe_callTy call_int1 (by rfl) T.n_int Boot.«int» (pa_cons (pe_op op_add (pe_op op_add (pe_ix ix_list (pv 0) pe_int (fun _ _ => rfl)) (pe_op op_mul pe_int (pe_ix ix_list (pv 0) pe_int (fun _ _ => rfl)))) pe_int) pa_nil)) (pv 3)))
      (pss_cons (ps_set (i := 4) sc_law_next.nd rfl (.inl rfl) (pe_op op_mod (pe_callTy call_int1 (by rfl) T.n_int Boot.«int» (pa_cons (pe_op op_mul (pv 4) pe_int) pa_nil)) (pv 3)))
      (pss_cons (ps_set (i := 4) sc_law_next.nd rfl (.inl rfl) (pe_op op_mod (pe_callTy call_int1 (by rfl) T.n_int Boot.«int» (pa_cons (pe_op op_mul (pv 4) (pe_op op_add (pe_op op_fdiv (pv 4) pe_int) pe_int)) pa_nil)) (pv 3)))
      (pss_cons (ps_set (i := 4) sc_law_next.nd rfl (.inl rfl) (pe_op op_mod (pe_callTy call_int1 (by rfl) T.n_int Boot.«int» (pa_cons (pe_op op_mul (pv 4) (pe_op op_add (pe_op op_fdiv (pv 4) pe_int) pe_int)) pa_nil)) pe_int))
      (pss_one (ps_ret (pe_op op_mod (pe_callTy call_int1 (by rfl) T.n_int Boot.«int» (pa_cons (pe_op op_fdiv (pv 4) pe_int) pa_nil)) (pv 1))))))))))), ?_⟩
    refine ⟨_, rfl, a, _, _, _, rfl, rfl, SqL.of ha, at0 _ _ _, _, _, rfl, rfl, _, rfl, ?_⟩
    refine ite2 (fun c => ?_) (fun c => ?_)
    · refine ⟨_, rfl, a, _, _, _, rfl, rfl, SqL.of ha, at0 _ _ _, .inl ⟨_, rfl, _, rfl, _, _, rfl, rfl, hm, ?_⟩⟩
      refine ⟨_, rfl, a, _, _, _, rfl, rfl, SqL.of ha, at0 _ _ _, _, rfl, _, _, rfl, rfl, wide_div hm hm2 (by decide) (by decide), ?_⟩
      refine ⟨_, rfl, a, _, _, 0, rfl, rfl, ha, rfl, ?_⟩
      exact ⟨_, rfl, k _ _ (Int.emod_nonneg _ (by omega)) (Int.emod_lt_of_pos _ hm) (But.upd But.refl) ⟨_, _, _, upd_same, Int.ediv_nonneg hx (by omega), hy, hz⟩⟩
    · refine ⟨_, rfl, a, _, _, _, rfl, rfl, SqL.of ha, at2 _ _ _, _, _, rfl, rfl, ?_⟩
      refine ⟨_, rfl, a, _, _, 2, rfl, rfl, ha, rfl, ?_⟩
      have hb : upd H a (.lst [.int x, .int y, .int (z + 1)]) a = some (.lst [.int x, .int y, .int (z + 1)]) := upd_same
      refine ⟨_, rfl, a, _, _, _, rfl, rfl, SqL.of hb, at1 _ _ _, _, rfl, a, _, _, _, rfl, rfl, SqL.of hb, at2 _ _ _, _, _, rfl, rfl, .inl ⟨by decide, by decide⟩, _, _, rfl, rfl, _, _, rfl, rfl, .inl ⟨_, rfl, _, rfl, _, _, rfl, rfl, (by show (0 : Int) < 2147483647; decide), ?_⟩⟩
      refine ⟨_, rfl, _, _, rfl, rfl, .inr ⟨by decide, by decide⟩, .inl ⟨_, rfl, _, rfl, _, _, rfl, rfl, (by show (0 : Int) < 2147483647; decide), ?_⟩⟩
      refine ⟨_, rfl, _, rfl, _, _, rfl, rfl, ⟨by decide, by decide⟩, _, _, rfl, rfl, _, _, rfl, rfl, .inl (md _), .inl ⟨_, rfl, _, rfl, _, _, rfl, rfl, (by show (0 : Int) < 2147483647; decide), ?_⟩⟩
      refine ⟨_, rfl, _, rfl, _, _, rfl, rfl, ⟨by decide, by decide⟩, _, _, rfl, rfl, _, _, rfl, rfl, .inl (md _), .inl ⟨_, rfl, _, _, rfl, rfl, (by show (0 : Int) < 2147483399; decide), ?_⟩⟩
      refine ⟨_, rfl, _, _, rfl, rfl, ⟨by decide, by decide⟩, .inl ⟨_, rfl, _, rfl, _, _, rfl, rfl, hm, ?_⟩⟩
      exact k _ _ (Int.emod_nonneg _ (by omega)) (Int.emod_lt_of_pos _ hm) (But.upd But.refl) ⟨_, _, _, hb, hx, hy, by omega⟩
/-! ### _law_one: one of some -/
def spOne (K : PySem.W.Frag) : Sp := fun vs H Q _ => ∃ (a b : Addr) (xs : List V), vs = [.ref a, .ref b] ∧ Src H a ∧ H b = some (.lst xs) ∧ xs ≠ [] ∧ xs.length ≤ 1000 ∧ ∀ v H', v ∈ xs → But a H H' → Src H' a → Q v H'
abbrev N_law_one : List Str := ["source", "some"]
theorem sc_law_one : FnScope N_law_one ["source", "some"] (defScope s_law_one) := ⟨rfl, rfl, rfl, by decide +kernel, rfl, by decide +kernel, by decide +kernel⟩
theorem Src.ne {H : Hp} {a b : Addr} {xs : List V} (s : Src H a) (h : H b = some (.lst xs)) (hx : xs.length ≠ 3 ∨ ∃ x ∈ xs, ∀ i, x ≠ V.int i) : b ≠ a := by
  rintro rfl
  obtain ⟨x, y, z, e, _⟩ := s
  rw [h] at e
  cases e
  rcases hx with q | ⟨x, hx, n⟩
  · exact q rfl
  · simp at hx
    rcases hx with rfl | rfl | rfl <;> exact n _ rfl
theorem ok_law_one {f : Addr} {fd : FuncData} (T : Gl0 mg) (c_law_next : CalX P w K mg base 1 "_law_next" spNext) (F : DefX K mg "_law_one" s_law_one ["source", "some"] f fd) :
    CalX P w K mg base 2 "_law_one" (fun vs H Q E => spOne K vs H Q E ∧ ∀ a b, vs = [.ref a, .ref b] → b ≠ a) := by
  refine calx F sc_law_one (fun vs H Q E h => ?_) (fun cdv A outer s H vs Q E hr h => ?_)
  · obtain ⟨⟨a, m, xs, rfl, _⟩, _⟩ := h
    rfl
  · obtain ⟨⟨a, b, xs, rfl, hs, hb, hne, hl, k⟩, nba⟩ := h
    have nba := nba a b rfl
    have hpos : 0 < xs.length := List.length_pos_iff.mpr hne
    refine ⟨_, (pss_one (ps_ret (pe_ix ix_list (pv 1) (pe_cx c_law_next hr (by decide) rfl (pa_cons (pv 0) (pa_cons (pe_callB call_len_seq (by rfl) T.n_len Boot.«len» (pa_cons (pv 1) pa_nil)) pa_nil))) (fun _ _ => rfl)))), ?_⟩
    refine ⟨_, rfl, _, rfl, _, rfl, b, xs, rfl, .inl (SqL.of hb), a, _, rfl, hs, ?_, ?_, fun v H' v0 v1 bu s1 => ?_⟩
    · show (0 : Int) < (xs.length : Int)
      omega
    · show ((xs.length : Int)).natAbs < 2 ^ 200
      rw [Int.natAbs_natCast]
      exact Nat.lt_of_le_of_lt hl (by decide)
    · have e : v = (v.toNat : Int) := by omega
      have hv : v.toNat < xs.length := by omega
      have g : atI xs v = some (xs[v.toNat]) := by
        have q := atI_nat (List.getElem?_eq_getElem hv)
        rw [← e] at q
        exact q
      exact ⟨b, xs, v, _, rfl, rfl, SqL.of (bu _ _ nba hb), g, k _ _ (List.getElem_mem hv) bu s1⟩
end
theorem Src.ne0 {H : Hp} {a p : Addr} (s : Src H a) (n : H p = none) : p ≠ a := by
  rintro rfl
  obtain ⟨x, y, z, e, _⟩ := s
  rw [n] at e
  cases e
theorem Src.same {H H' : Hp} {a : Addr} (s : Src H a) (q : Same H H') : Src H' a := by
  obtain ⟨x, y, z, e, h⟩ := s
  exact ⟨x, y, z, q _ _ e, h⟩
/-- the bytes of a number -/
def enc (n : Nat) : List Int := mk (dig n).reverse
theorem enc_len {n : Nat} (h : n < 64 ^ 20) : (enc n).length ≤ 21 := by
  unfold enc
  rw [mk_len, List.length_reverse]
  exact dig_len 20 n h
theorem dig_pos (n : Nat) : 0 < (dig n).length := List.length_pos_iff.mpr (dig_ne n)
theorem enc_pos (n : Nat) : 0 < (enc n).length := by
  unfold enc
  rw [mk_len, List.length_reverse]
  exact dig_pos n
theorem half (n : Nat) : ((2 * n : Nat) : Int) / 2 = (n : Int) := by omega
theorem lt60 {n : Nat} (h : n < 64 ^ 20) : n < 64 ^ 60 := Nat.lt_trans h (by decide)
theorem head_up {l : List Int} (h : 0 < l.length) : ∃ x r, l = x :: r := by
  cases l with
  | nil => simp at h
  | cons x r => exact ⟨x, r, rfl⟩
theorem atC {α : Type} (x : α) (xs : List α) : atI (x :: xs) 0 = some x := atI_nat (j := 0) rfl
theorem ixC {α : Type} (x : α) (xs : List α) : ixN (x :: xs).length 0 = some 0 := by
  unfold ixN
  rw [if_pos (by decide), if_pos (by rw [List.length_cons]; omega)]
  rfl
theorem rev_map (l : List Int) : (l.map V.int).reverse = l.reverse.map V.int := by simp
/-! ### numbers read back -/
def val (l : List Int) : Int := l.foldl (fun a d => a * 64 + d) 0
theorem val_snoc (l : List Int) (d : Int) : val (l ++ [d]) = val l * 64 + d := by
  unfold val
  rw [List.foldl_append]
  rfl
theorem dig_val (n : Nat) : val (dig n).reverse = (n : Int) := by
  induction n using Nat.strongRecOn with
  | ind n ih =>
    by_cases c : n < 64
    · rw [dig_lt c]
      show (0 : Int) * 64 + (n : Int) = n
      omega
    · rw [dig_ge c, List.reverse_cons, val_snoc, ih (n / 64) (by omega)]
      omega
theorem dig_dig (n : Nat) : ∀ d ∈ dig n, 0 ≤ d ∧ d < 64 := by
  induction n using Nat.strongRecOn with
  | ind n ih =>
    by_cases c : n < 64
    · rw [dig_lt c]
      intro d h
      have : d = (n : Int) := by simpa using h
      omega
    · rw [dig_ge c]
      intro d h
      rcases List.mem_cons.mp h with h | h
      · omega
      · exact ih (n / 64) (by omega) d h
theorem dig_top (n : Nat) : 0 < n → (dig n).reverse[0]? ≠ some 0 := by
  induction n using Nat.strongRecOn with
  | ind n ih =>
    intro hn
    by_cases c : n < 64
    · rw [dig_lt c]
      intro h
      have : (n : Int) = 0 := Option.some.inj h
      omega
    · rw [dig_ge c, List.reverse_cons, List.getElem?_append_left (by rw [List.length_reverse]; exact dig_pos _)]
      exact ih (n / 64) (by omega) (by omega)
theorem mk_get : ∀ (l : List Int) (j : Nat) (d : Int), l[j]? = some d → (mk l)[j]? = some (d + (if j + 1 < l.length then 64 else 0))
  | [], j, d, h => by simp at h
  | [x], 0, d, h => by
    have : x = d := Option.some.inj h
    show some x = _
    rw [this, if_neg (by simp), Int.add_zero]
  | [x], j + 1, d, h => by simp at h
  | x :: y :: r, 0, d, h => by
    have : x = d := Option.some.inj h
    show some (x + 64) = _
    rw [this, if_pos (by simp)]
  | x :: y :: r, j + 1, d, h => by
    have ih := mk_get (y :: r) j d h
    show (mk (y :: r))[j]? = _
    rw [ih]
    by_cases c : j + 1 < (y :: r).length
    · rw [if_pos c, if_pos (by rw [List.length_cons]; omega)]
    · rw [if_neg c, if_neg (by rw [List.length_cons]; omega)]
theorem and64 {b : Int} (h0 : 0 ≤ b) (h1 : b < 256) : Builtin.bitAnd b 64 = 64 * (b / 64 % 2) := by
  have key : ∀ i : Fin 256, Builtin.bitAnd ((i.val : Nat) : Int) 64 = 64 * (((i.val : Nat) : Int) / 64 % 2) := by decide +kernel
  have := key ⟨b.toNat, by omega⟩
  have e : ((b.toNat : Nat) : Int) = b := by omega
  rw [← e]
  exact this
theorem map_at {B : List Int} {i : Nat} {b : Int} (h : B[i]? = some b) : atI (B.map V.int) ((i : Nat) : Int) = some (V.int b) := atI_nat (by rw [List.getElem?_map, h]; rfl)
structure Gl1 (mg : Str → Option Value) : Prop where
  c_FURTHER : ∃ u, mg "FURTHER" = some u ∧ RelV (.int 64) u
  c_MARK : ∃ u, mg "MARK" = some u ∧ RelV (.int 128) u
  n_tuple : mg "tuple" = none
section
variable {P : Program} {w : World} {K : PySem.W.Frag} {mg : Str → Option Value} {base : Heap}
end
end K49
set_option maxHeartbeats 4000000
set_option hygiene false in
local macro_rules | `(tactic| walk_at "fld") => `(tactic| (generalize eu : upd _ self (HO.ins _ _ _) = Hn; (have hs := (congrArg (fun z : Hp => z self = some _) eu).mp upd_same); (have B := (congrArg (But self H) eu).mp (But.upd B)); (have ln := fldlen hs ln); clear eu))
set_option hygiene false in
local macro_rules | `(tactic| walk_at "fld3") => `(tactic| (generalize eu : upd _ self (HO.ins _ _ _) = Hn; (have hs := (congrArg (fun z : Hp => z self = some _) eu).mp upd_same); (have B := (congrArg (But self H) eu).mp (But.upd B)); (have B3 := (congrArg (But self H3) eu).mp (But.upd B3)); (have ln := fldlen hs ln); clear eu))
set_option hygiene false in
local macro_rules | `(tactic| walk_at "new1") => `(tactic| (intro p1 n1; generalize e1 : upd _ p1 _ = H1; (have s1 := (congrArg (Same _) e1).mp (Same.new n1)); (have h1 := (congrArg (fun z : Hp => z p1 = some _) e1).mp upd_same); clear e1))
set_option hygiene false in
local macro_rules | `(tactic| walk_at "new2") => `(tactic| (intro p2 n2; generalize e2 : upd _ p2 _ = H2; (have s2 := (congrArg (Same _) e2).mp (Same.new n2)); (have h2 := (congrArg (fun z : Hp => z p2 = some _) e2).mp upd_same); clear e2))
set_option hygiene false in
local macro_rules | `(tactic| walk_at "new3") => `(tactic| (intro p3 n3; generalize e3 : upd _ p3 _ = H3; (have s3 := (congrArg (Same _) e3).mp (Same.new n3)); (have h3 := (congrArg (fun z : Hp => z p3 = some _) e3).mp upd_same); clear e3))
set_option hygiene false in
local macro_rules | `(tactic| walk_at "new4") => `(tactic| (intro p4 n4; generalize e4 : upd _ p4 _ = H4; (have s4 := (congrArg (Same _) e4).mp (Same.new n4)); (have h4 := (congrArg (fun z : Hp => z p4 = some _) e4).mp upd_same); clear e4))
set_option hygiene false in
local macro_rules | `(tactic| walk_at "new5") => `(tactic| (intro p5 n5; generalize e5 : upd _ p5 _ = H5; (have s5 := (congrArg (Same _) e5).mp (Same.new n5)); (have h5 := (congrArg (fun z : Hp => z p5 = some _) e5).mp upd_same); clear e5))
set_option hygiene false in
local macro_rules | `(tactic| walk_at "new6") => `(tactic| (intro p6 n6; generalize e6 : upd _ p6 _ = H6; (have s6 := (congrArg (Same _) e6).mp (Same.new n6)); (have h6 := (congrArg (fun z : Hp => z p6 = some _) e6).mp upd_same); clear e6))
set_option hygiene false in
local macro_rules | `(tactic| walk_at "new7") => `(tactic| (intro p7 n7; generalize e7 : upd _ p7 _ = H7; (have s7 := (congrArg (Same _) e7).mp (Same.new n7)); (have h7 := (congrArg (fun z : Hp => z p7 = some _) e7).mp upd_same); clear e7))
set_option hygiene false in
local macro_rules | `(tactic| walk_at "new8") => `(tactic| (intro p8 n8; generalize e8 : upd _ p8 _ = H8; (have s8 := (congrArg (Same _) e8).mp (Same.new n8)); (have h8 := (congrArg (fun z : Hp => z p8 = some _) e8).mp upd_same); clear e8))
set_option hygiene false in
local macro_rules | `(tactic| walk_at "new9") => `(tactic| (intro p9 n9; generalize e9 : upd _ p9 _ = H9; (have s9 := (congrArg (Same _) e9).mp (Same.new n9)); (have h9 := (congrArg (fun z : Hp => z p9 = some _) e9).mp upd_same); clear e9))
namespace K49
open PySem PySem.Spec PyProof.Rows L2 Nd
abbrev s_want_code : Stmt := top 18
def flds : List Str := ["argcount", "onlycount", "stacksize", "flags", "code", "constants", "names", "slots", "kinds", "name", "path", "line", "lines", "handlers", "nested"]
def oddT : List String := ["NoneType", "int", "str", "list", "tuple", "bool", "dict"]
/-- what the class Code and the class NoCode are -/
structure GlK (P : Program) (K : PySem.W.Frag) (mg : Str → Option Value) (Cc Cn fI : Addr) : Prop where
  c_Code : ∃ u, mg "Code" = some u ∧ RelV (.ref Cc) u
  ins : C8.InsC K Cc
  na : ∀ f ∈ flds, NoAttr K Cc f
  no : ∀ t ∈ oddT, PySem.W.kitOne K (.type t) (.ref Cc) = some false
  nx : PySem.Nx.Txt P K mg Cn fI
  gN : mg "NoCode" = some (.ref Cn)
  n_isinstance : mg "isinstance" = none
/-- an odd thing: of a type that is no Code -/
def Odd (K : PySem.W.Frag) (H : Hp) (x : V) : Prop := ∃ t ∈ oddT, TyX K H x (.type t)
def errCode (Cn : Addr) (H : Hp) (E : XK) : Prop := ∀ d, H d = none → E (.ref Cn) (some d) (upd H d (.xd [("field", .str "code")]))
def spWant (K : PySem.W.Frag) (Cc Cn : Addr) : Sp := fun vs H Q E => ∃ x, vs = [x] ∧ ((∃ a dx fs, x = .ref a ∧ H a = some (.ins Cc dx fs) ∧ Q .non H) ∨ (Odd K H x ∧ errCode Cn H E))
theorem passE {X : Cx} {E : XK} (tk : Takes X (fun cls d _ H => E cls d H)) : Passes (L2.CX X.prog X.w) X E := fun pins σ H s e s' I c => passAt tk σ pins H s e s' I c
theorem TyX.same {K : PySem.W.Frag} {H H' : Hp} {x : V} {t : Value} (s : Same H H') (h : TyX K H x t) : TyX K H' x t := by
  cases h with
  | base b =>
    refine .base ?_
    cases b with
    | non => exact .non
    | bl y => exact .bl y
    | int i => exact .int i
    | str y => exact .str y
    | flt y => exact .flt y
    | lst e => exact .lst (s _ _ e)
    | frz e => exact .frz (s _ _ e)
    | tup e => exact .tup (s _ _ e)
    | dK e => exact .dK (s _ _ e)
    | dT e => exact .dT (s _ _ e)
    | ins e c1 c2 c3 c4 c5 => exact .ins (s _ _ e) c1 c2 c3 c4 c5
  | byt b => exact .byt b
  | set e => exact .set (s _ _ e)
  | kList e c => exact .kList e c
  | kTuple e c => exact .kTuple e c
  | kDict e c => exact .kDict e c
  | fTuple e => exact .fTuple (s _ _ e)
  | fDict e => exact .fDict (s _ _ e)
theorem Odd.same {K : PySem.W.Frag} {H H' : Hp} {x : V} (s : Same H H') (h : Odd K H x) : Odd K H' x := by
  obtain ⟨t, m, h⟩ := h
  exact ⟨t, m, TyX.same s h⟩
section
variable {P : Program} {w : World} {K : PySem.W.Frag} {mg : Str → Option Value} {base : Heap} {Cc Cn fI : Addr}
abbrev N_want_code : List Str := ["value"]
theorem sc_want_code : FnScope N_want_code ["value"] (defScope s_want_code) := ⟨rfl, rfl, rfl, by decide +kernel, rfl, by decide +kernel, by decide +kernel⟩
theorem ok_want_code {f : Addr} {fd : FuncData} (G : GlK P K mg Cc Cn fI) (F : DefX K mg "want_code" s_want_code ["value"] f fd) : CalX P w K mg base 2 "want_code" (spWant K Cc Cn) := by
  refine calr F sc_want_code (fun vs H Q E h => ?_) (fun cdv A outer s H vs Q E hr h => ?_)
  · obtain ⟨x, rfl, _⟩ := h
    rfl
  · obtain ⟨x, rfl, h⟩ := h
    refine ⟨_, (pss_one (ps_if (pt_not (pt_val (pe_callB call_isi (by rfl) G.n_isinstance Boot.«isinstance» (pa_cons (pv 0) (pa_cons (C8.pe_gc rfl G.c_Code) pa_nil)))))
      (pss_one (ps_raise rfl (takes_of rfl rfl rfl rfl) (pmk_nx G.nx hr (pa_cons pe_str pa_nil) rfl G.gN)))
      pss_nil)), ?_⟩
    rcases h with ⟨a, dx, fs, rfl, ha, q⟩ | ⟨⟨t, ht, ty⟩, e⟩
    · refine ⟨_, rfl, V.ref a, V.ref Cc, .ref Cc, .ref Cc, true, rfl, .own Cc, .base (.ins ha G.ins.cl G.ins.ha G.ins.hn G.ins.htk G.ins.hm), G.ins.me, _, rfl, ?_⟩
      exact iteF q
    · refine ⟨_, rfl, x, V.ref Cc, .type t, .ref Cc, false, rfl, .own Cc, ty, G.no t ht, _, rfl, ?_⟩
      exact iteT ⟨_, rfl, fun d hd => e d hd⟩
end
abbrev s_is_number : Stmt := top 9
abbrev s_is_string : Stmt := top 10
abbrev s_is_byte : Stmt := top 11
abbrev s_are_bytes : Stmt := top 12
abbrev s_are_strings : Stmt := top 13
abbrev s_are_constants : Stmt := top 15
structure Gl2 (mg : Str → Option Value) : Prop where
  n_isinstance : mg "isinstance" = none
  n_int : mg "int" = none
  n_bool : mg "bool" = none
  n_str : mg "str" = none
  n_all : mg "all" = none
  n_ord : mg "ord" = none
  n_list : mg "list" = none
  n_tuple : mg "tuple" = none
  c_MOST : ∃ u, mg "MOST_NUMBER" = some u ∧ RelV (.int 2147483647) u
def tNev : TE := fun _ _ _ => False
theorem pe_nev {X : Cx} {e : Expr} : PE X e tNev := ⟨fun _ _ _ _ _ _ h => h.elim⟩
theorem ii {K : PySem.W.Frag} : PySem.W.kitOne K (.type "int") (.type "int") = some true := kit_ty (by decide +kernel)
theorem ib {K : PySem.W.Frag} : PySem.W.kitOne K (.type "int") (.type "bool") = some false := kit_ty (by decide +kernel)
theorem ss {K : PySem.W.Frag} : PySem.W.kitOne K (.type "str") (.type "str") = some true := kit_ty (by decide +kernel)
section
variable {P : Program} {w : World} {K : PySem.W.Frag} {mg : Str → Option Value} {base : Heap}
def spNum : Sp := fun vs H Q _ => ∃ i : Int, vs = [.int i] ∧ 0 ≤ i ∧ i ≤ 2147483647 ∧ Q (.bl true) H
abbrev N_is_number : List Str := ["value"]
theorem sc_is_number : FnScope N_is_number ["value"] (defScope s_is_number) := ⟨rfl, rfl, rfl, by decide +kernel, rfl, by decide +kernel, by decide +kernel⟩
theorem ok_is_number {f : Addr} {fd : FuncData} (T : Gl2 mg) (F : DefX K mg "is_number" s_is_number ["value"] f fd) : CalX P w K mg base 1 "is_number" spNum := by
  refine calx F sc_is_number (fun vs H Q E h => ?_) (fun cdv A outer s H vs Q E hr h => ?_)
  · obtain ⟨i, rfl, _⟩ := h
    rfl
  · obtain ⟨i, rfl, i0, i1, k⟩ := h
    refine ⟨_, (pss_one (ps_ret (pe_and (pe_callB call_isi (by rfl) T.n_isinstance Boot.«isinstance» (pa_cons (pv 0) (pa_cons (pe_bltn (v := .ty "int") (by rfl) T.n_int Boot.«int» rfl) pa_nil))) (pe_and (pe_not (pe_callB call_isi (by rfl) T.n_isinstance Boot.«isinstance» (pa_cons (pv 0) (pa_cons (pe_bltn (v := .ty "bool") (by rfl) T.n_bool Boot.«bool» rfl) pa_nil)))) (pe_one (pe_chain op_le op_le pe_int (pv 0) (C8.pe_gc rfl T.c_MOST))))))), ?_⟩
    refine ⟨_, rfl, V.int i, V.ty "int", .type "int", .type "int", true, rfl, .ty "int", .base (.int i), ii, _, rfl, iteT ?_⟩
    refine ⟨_, rfl, V.int i, V.ty "bool", .type "int", .type "bool", false, rfl, .ty "bool", .base (.int i), ib, _, rfl, _, rfl, iteT ?_⟩
    refine ⟨_, rfl, _, _, rfl, rfl, _, rfl, ?_⟩
    refine ite2 (fun _ => ?_) (fun c => absurd (decide_eq_true i0) c)
    refine ⟨_, _, rfl, rfl, ?_⟩
    have e : decide (i ≤ (2147483647 : Int)) = true := decide_eq_true i1
    show Q (V.bl (decide (i ≤ 2147483647))) H
    rw [e]
    exact k
def spByte : Sp := fun vs H Q _ => ∃ i : Int, vs = [.int i] ∧ 0 ≤ i ∧ i ≤ 255 ∧ Q (.bl true) H
abbrev N_is_byte : List Str := ["value"]
theorem sc_is_byte : FnScope N_is_byte ["value"] (defScope s_is_byte) := ⟨rfl, rfl, rfl, by decide +kernel, rfl, by decide +kernel, by decide +kernel⟩
theorem ok_is_byte {f : Addr} {fd : FuncData} (T : Gl2 mg) (F : DefX K mg "is_byte" s_is_byte ["value"] f fd) : CalX P w K mg base 1 "is_byte" spByte := by
  refine calx F sc_is_byte (fun vs H Q E h => ?_) (fun cdv A outer s H vs Q E hr h => ?_)
  · obtain ⟨i, rfl, _⟩ := h
    rfl
  · obtain ⟨i, rfl, i0, i1, k⟩ := h
    refine ⟨_, (pss_one (ps_ret (pe_and (pe_callB call_isi (by rfl) T.n_isinstance Boot.«isinstance» (pa_cons (pv 0) (pa_cons (pe_bltn (v := .ty "int") (by rfl) T.n_int Boot.«int» rfl) pa_nil))) (pe_and (pe_not (pe_callB call_isi (by rfl) T.n_isinstance Boot.«isinstance» (pa_cons (pv 0) (pa_cons (pe_bltn (v := .ty "bool") (by rfl) T.n_bool Boot.«bool» rfl) pa_nil)))) (pe_one (pe_chain op_le op_le pe_int (pv 0) pe_int)))))), ?_⟩
    refine ⟨_, rfl, V.int i, V.ty "int", .type "int", .type "int", true, rfl, .ty "int", .base (.int i), ii, _, rfl, iteT ?_⟩
    refine ⟨_, rfl, V.int i, V.ty "bool", .type "int", .type "bool", false, rfl, .ty "bool", .base (.int i), ib, _, rfl, _, rfl, iteT ?_⟩
    refine ⟨_, rfl, _, _, rfl, rfl, _, rfl, ?_⟩
    refine ite2 (fun _ => ?_) (fun c => absurd (decide_eq_true i0) c)
    refine ⟨_, _, rfl, rfl, ?_⟩
    have e : decide (i ≤ (255 : Int)) = true := decide_eq_true i1
    show Q (V.bl (decide (i ≤ 255))) H
    rw [e]
    exact k
/-! ### is_string -/
def OkS (x : Str) : Prop := ∀ (i : Nat) c, x.cps[i]? = some c → decide ((⟨#[c]⟩ : Str).cps.toList < (" " : Str).cps.toList) = false ∧ decide (("~" : Str).cps.toList < (⟨#[c]⟩ : Str).cps.toList) = false ∧ (((⟨#[c]⟩ : Str).cps.getD 0 0 : Nat) : Int) ≠ 37
def spStr : Sp := fun vs H Q _ => ∃ x : Str, vs = [.str x] ∧ x.cps.size ≤ 1000 ∧ OkS x ∧ ∀ H', Same H H' → Q (.bl true) H'
abbrev N_is_string : List Str := ["value", "sign"]
theorem sc_is_string : FnScope N_is_string ["value"] (defScope s_is_string) := ⟨rfl, rfl, rfl, by decide +kernel, rfl, by decide +kernel, by decide +kernel⟩
theorem all_trues (n : Nat) : (List.replicate n true).all id = true := by
  induction n with
  | zero => rfl
  | succ n ih =>
    rw [List.replicate_succ, List.all_cons, ih]
    rfl
theorem ok_is_string {f : Addr} {fd : FuncData} (T : Gl2 mg) (F : DefX K mg "is_string" s_is_string ["value"] f fd) : CalX P w K mg base 1 "is_string" spStr := by
  refine calx F sc_is_string (fun vs H Q E h => ?_) (fun cdv A outer s H vs Q E hr h => ?_)
  · obtain ⟨i, rfl, _⟩ := h
    rfl
  · obtain ⟨x, rfl, hz, ok, k⟩ := h
    refine ⟨_, (pss_one (ps_ret (pe_and (pe_callB call_isi (by rfl) T.n_isinstance Boot.«isinstance» (pa_cons (pv 0) (pa_cons (pe_bltn (v := .ty "str") (by rfl) T.n_str Boot.«str» rfl) pa_nil))) (pe_one (pe_callB (cr_all rfl) (by rfl) T.n_all Boot.«all» (pa_cons (pe_lc (own := [("sign", 1)]) (g := gName 1) (tt := tYes) rfl sc_is_string.nd (pi_str (pv 0)) (blkOk_by (own := [("sign", 1)]) (N := N_is_string) (sc := defScope s_is_string) (by decide +kernel)) (fun _ _ _ _ _ => (pg_name (i := 1) sc_is_string.nd rfl (Or.inl rfl))) (fun _ _ _ _ _ => pts_nil) (fun _ _ _ _ _ => (pe_and (pe_chain op_le_str op_le_str pe_str (pv 1) pe_str) (pe_one (pe_cmpR op_ne (pe_callB call_ord (by rfl) T.n_ord Boot.«ord» (pa_cons (pv 1) pa_nil)) pe_int (nomark _)))))) pa_nil)))))), ?_⟩
    refine ⟨_, rfl, V.str x, V.ty "str", .type "str", .type "str", true, rfl, .ty "str", .base (.str x), ss, _, rfl, iteT ?_⟩
    refine ⟨_, rfl, x, rfl, fun D nD => lc_it walk_str (fun i H' => Same H H' ∧ H' D = some (.lst ((List.replicate i true).map V.bl))) ⟨Same.new nD, by rw [upd_same]; rfl⟩ (fun _ _ _ _ => trivial) ?_ ?_⟩
    · rintro i v H' H'' hi ⟨s2, hD⟩ ⟨rfl, c, hc, rfl⟩
      obtain ⟨o1, o2, o3⟩ := ok i c hc
      refine ⟨rfl, ?_⟩
      refine ⟨_, rfl, _, _, rfl, rfl, _, rfl, ?_⟩
      rw [o1]
      refine iteT ⟨_, _, rfl, rfl, ?_⟩
      rw [o2]
      refine ⟨_, rfl, iteT ?_⟩
      refine ⟨_, rfl, _, rfl, rfl, rfl, ?_⟩
      refine ⟨_, hD, ?_, ?_, ?_⟩
      · rw [List.length_map, List.length_replicate]
        exact Nat.lt_of_lt_of_le hi (Nat.le_trans hz (by decide))
      · exact Same.mut s2 nD
      · rw [upd_same, List.replicate_succ', List.map_append]
        have e : (!decide (V.int (((⟨#[c]⟩ : Str).cps.getD 0 0 : Nat) : Int) = V.int 37)) = true := by
          rw [decide_eq_false (fun z => o3 (by injection z))]
          rfl
        rw [e]
        rfl
    · rintro H' ⟨s2, hD⟩
      refine ⟨D, _, rfl, SqL.of hD, ?_⟩
      rw [all_trues]
      exact k H' s2
/-! ### are_bytes, are_strings and are_constants (of none) -/
def spBytesOf : Sp := fun vs H Q _ => ∃ (a : Addr) (ns : List Int), vs = [.ref a] ∧ H a = some (.lst (ns.map V.int)) ∧ (∀ n ∈ ns, 0 ≤ n ∧ n ≤ 255) ∧ ns.length ≤ 100000 ∧ ∀ H', Same H H' → Q (.bl true) H'
abbrev N_are_bytes : List Str := ["value", "one"]
theorem sc_are_bytes : FnScope N_are_bytes ["value"] (defScope s_are_bytes) := ⟨rfl, rfl, rfl, by decide +kernel, rfl, by decide +kernel, by decide +kernel⟩
theorem ll {K : PySem.W.Frag} : PySem.W.kitAny K (.type "list") [.type "list", .type "tuple"] = some true := kitAny_cons (b := true) (kit_ty (by decide +kernel)) (fun z => by cases z) (fun _ => rfl)
theorem two_cls : Paired ClsV [V.ty "list", V.ty "tuple"] [.type "list", .type "tuple"] := .cons (.ty "list") (.cons (.ty "tuple") .nil)
theorem ok_are_bytes {f : Addr} {fd : FuncData} (T : Gl2 mg) (c_is_byte : CalX P w K mg base 1 "is_byte" spByte) (F : DefX K mg "are_bytes" s_are_bytes ["value"] f fd) : CalX P w K mg base 2 "are_bytes" spBytesOf := by
  refine calx F sc_are_bytes (fun vs H Q E h => ?_) (fun cdv A outer s H vs Q E hr h => ?_)
  · obtain ⟨a, ns, rfl, _⟩ := h
    rfl
  · obtain ⟨a, ns, rfl, ha, hb, hz, k⟩ := h
    refine ⟨_, (pss_one (ps_ret (pe_and (pe_callB call_isiT (by rfl) T.n_isinstance Boot.«isinstance» (pa_cons (pv 0) (pa_cons (pe_tup (pa_cons (pe_bltn (v := .ty "list") (by rfl) T.n_list Boot.«list» rfl) (pa_cons (pe_bltn (v := .ty "tuple") (by rfl) T.n_tuple Boot.«tuple» rfl) pa_nil))) pa_nil))) (pe_one (pe_callB (cr_all rfl) (by rfl) T.n_all Boot.«all» (pa_cons (pe_lc (own := [("one", 1)]) (g := gName 1) (tt := tYes) rfl sc_are_bytes.nd (pi_list (pv 0)) (blkOk_by (own := [("one", 1)]) (N := N_are_bytes) (sc := defScope s_are_bytes) (by decide +kernel)) (fun _ _ _ _ _ => (pg_name (i := 1) sc_are_bytes.nd rfl (Or.inl rfl))) (fun _ _ _ _ _ => pts_nil) (fun _ _ _ _ _ => (pe_cx c_is_byte hr (by decide) rfl (pa_cons (pv 1) pa_nil)))) pa_nil)))))), ?_⟩
    refine ⟨_, rfl, (by show 2 ≤ sizeLine; decide), ?_⟩
    walk_at "new1"
    refine ⟨V.ref a, p1, _, .type "list", _, true, rfl, h1, two_cls, .base (.lst (s1 _ _ ha)), ll, _, rfl, iteT ?_⟩
    have ha1 := s1 _ _ ha
    refine ⟨_, rfl, a, rfl, ⟨_, SqL.of ha1⟩, fun D nD => lc_list (K := K) (a := a) (xs := ns.map V.int) (fun i H' => Same H1 H' ∧ H' D = some (.lst ((List.replicate i true).map V.bl))) ⟨Same.new nD, by rw [upd_same]; rfl⟩
      (fun i H' _ p => p.1.seq (SqL.of ha1)) ?_ ?_⟩
    · rintro i x H' hi ⟨s2, hD⟩
      obtain ⟨z, hz', rfl⟩ : ∃ z, ns[i]? = some z ∧ x = V.int z := by
        rw [List.getElem?_map] at hi
        cases e : ns[i]? with
        | none => rw [e] at hi; cases hi
        | some z => rw [e] at hi; exact ⟨z, rfl, (Option.some.inj hi).symm⟩
      have hil : i < ns.length := (List.getElem?_eq_some_iff.mp hz').1
      obtain ⟨b0, b1⟩ := hb z (List.mem_of_getElem? hz')
      refine ⟨rfl, ?_⟩
      refine ⟨_, rfl, z, rfl, b0, b1, _, hD, ?_, Same.mut s2 nD, ?_⟩
      · rw [List.length_map, List.length_replicate]
        exact Nat.lt_of_lt_of_le hil (Nat.le_trans hz (by decide))
      · rw [upd_same, List.replicate_succ', List.map_append]
        rfl
    · rintro H' ⟨s2, hD⟩
      refine ⟨D, _, rfl, SqL.of hD, ?_⟩
      rw [all_trues]
      exact k H' (s1.trans s2)
def spNone : Sp := fun vs H Q _ => ∃ (a : Addr), vs = [.ref a] ∧ H a = some (.lst []) ∧ ∀ H', Same H H' → Q (.bl true) H'
abbrev N_are_strings : List Str := ["value", "one"]
theorem sc_are_strings : FnScope N_are_strings ["value"] (defScope s_are_strings) := ⟨rfl, rfl, rfl, by decide +kernel, rfl, by decide +kernel, by decide +kernel⟩
theorem ok_are_strings {f : Addr} {fd : FuncData} (T : Gl2 mg) (F : DefX K mg "are_strings" s_are_strings ["value"] f fd) : CalX P w K mg base 1 "are_strings" spNone := by
  refine calx F sc_are_strings (fun vs H Q E h => ?_) (fun cdv A outer s H vs Q E hr h => ?_)
  · obtain ⟨a, rfl, _⟩ := h
    rfl
  · obtain ⟨a, rfl, ha, k⟩ := h
    refine ⟨_, (pss_one (ps_ret (pe_and (pe_callB call_isiT (by rfl) T.n_isinstance Boot.«isinstance» (pa_cons (pv 0) (pa_cons (pe_tup (pa_cons (pe_bltn (v := .ty "list") (by rfl) T.n_list Boot.«list» rfl) (pa_cons (pe_bltn (v := .ty "tuple") (by rfl) T.n_tuple Boot.«tuple» rfl) pa_nil))) pa_nil))) (pe_one (pe_callB (cr_all rfl) (by rfl) T.n_all Boot.«all» (pa_cons (pe_lc (own := [("one", 1)]) (g := gName 1) (tt := tYes) rfl sc_are_strings.nd (pi_list (pv 0)) (blkOk_by (own := [("one", 1)]) (N := N_are_strings) (sc := defScope s_are_strings) (by decide +kernel)) (fun _ _ _ _ _ => (pg_name (i := 1) sc_are_strings.nd rfl (Or.inl rfl))) (fun _ _ _ _ _ => pts_nil) (fun _ _ _ _ _ => pe_nev)) pa_nil)))))), ?_⟩
    refine ⟨_, rfl, (by show 2 ≤ sizeLine; decide), ?_⟩
    walk_at "new1"
    refine ⟨V.ref a, p1, _, .type "list", _, true, rfl, h1, two_cls, .base (.lst (s1 _ _ ha)), ll, _, rfl, iteT ?_⟩
    have ha1 := s1 _ _ ha
    refine ⟨_, rfl, a, rfl, ⟨_, SqL.of ha1⟩, fun D nD => lc_list (K := K) (a := a) (xs := []) (fun i H' => Same H1 H' ∧ H' D = some (.lst [])) ⟨Same.new nD, by rw [upd_same]⟩
      (fun i H' _ p => p.1.seq (SqL.of ha1)) ?_ ?_⟩
    · rintro i x H' hi _
      simp at hi
    · rintro H' ⟨s2, hD⟩
      exact ⟨D, [], rfl, SqL.of hD, k H' (s1.trans s2)⟩
abbrev N_are_constants : List Str := ["value", "one"]
theorem sc_are_constants : FnScope N_are_constants ["value"] (defScope s_are_constants) := ⟨rfl, rfl, rfl, by decide +kernel, rfl, by decide +kernel, by decide +kernel⟩
theorem ok_are_constants {f : Addr} {fd : FuncData} (T : Gl2 mg) (F : DefX K mg "are_constants" s_are_constants ["value"] f fd) : CalX P w K mg base 1 "are_constants" spNone := by
  refine calx F sc_are_constants (fun vs H Q E h => ?_) (fun cdv A outer s H vs Q E hr h => ?_)
  · obtain ⟨a, rfl, _⟩ := h
    rfl
  · obtain ⟨a, rfl, ha, k⟩ := h
    refine ⟨_, (pss_one (ps_ret (pe_and (pe_callB call_isiT (by rfl) T.n_isinstance Boot.«isinstance» (pa_cons (pv 0) (pa_cons (pe_tup (pa_cons (pe_bltn (v := .ty "list") (by rfl) T.n_list Boot.«list» rfl) (pa_cons (pe_bltn (v := .ty "tuple") (by rfl) T.n_tuple Boot.«tuple» rfl) pa_nil))) pa_nil))) (pe_one (pe_callB (cr_all rfl) (by rfl) T.n_all Boot.«all» (pa_cons (pe_lc (own := [("one", 1)]) (g := gName 1) (tt := tYes) rfl sc_are_constants.nd (pi_list (pv 0)) (blkOk_by (own := [("one", 1)]) (N := N_are_constants) (sc := defScope s_are_constants) (by decide +kernel)) (fun _ _ _ _ _ => (pg_name (i := 1) sc_are_constants.nd rfl (Or.inl rfl))) (fun _ _ _ _ _ => pts_nil) (fun _ _ _ _ _ => pe_nev)) pa_nil)))))), ?_⟩
    refine ⟨_, rfl, (by show 2 ≤ sizeLine; decide), ?_⟩
    walk_at "new1"
    refine ⟨V.ref a, p1, _, .type "list", _, true, rfl, h1, two_cls, .base (.lst (s1 _ _ ha)), ll, _, rfl, iteT ?_⟩
    have ha1 := s1 _ _ ha
    refine ⟨_, rfl, a, rfl, ⟨_, SqL.of ha1⟩, fun D nD => lc_list (K := K) (a := a) (xs := []) (fun i H' => Same H1 H' ∧ H' D = some (.lst [])) ⟨Same.new nD, by rw [upd_same]⟩
      (fun i H' _ p => p.1.seq (SqL.of ha1)) ?_ ?_⟩
    · rintro i x H' hi _
      simp at hi
    · rintro H' ⟨s2, hD⟩
      exact ⟨D, [], rfl, SqL.of hD, k H' (s1.trans s2)⟩
end
abbrev s_Code_init : Stmt := metOf (top 17) 0
abbrev s_Code_look : Stmt := metOf (top 17) 1
def isNum (v : V) : Prop := ∃ i : Int, v = .int i ∧ 0 ≤ i ∧ i ≤ 2147483647
def isTxt (v : V) : Prop := ∃ x : Str, v = .str x ∧ x.cps.size ≤ 1000 ∧ OkS x
def isByt (H : Hp) (v : V) : Prop := ∃ (a : Addr) (ns : List Int), v = .ref a ∧ H a = some (.lst (ns.map V.int)) ∧ (∀ n ∈ ns, 0 ≤ n ∧ n ≤ 255) ∧ ns.length ≤ 100000
def isEmp (H : Hp) (v : V) : Prop := ∃ a, v = .ref a ∧ H a = some (.lst [])
theorem isByt.same {H H' : Hp} {v : V} (s : Same H H') (h : isByt H v) : isByt H' v := by
  obtain ⟨a, ns, e, h, k⟩ := h
  exact ⟨a, ns, e, s _ _ h, k⟩
theorem isEmp.same {H H' : Hp} {v : V} (s : Same H H') (h : isEmp H v) : isEmp H' v := by
  obtain ⟨a, e, h⟩ := h
  exact ⟨a, e, s _ _ h⟩
/-- the fields before look -/
structure FsOk (H : Hp) (fs : List (Str × V)) : Prop where
  argcount : ∃ v, fs.lookup ("argcount" : Str) = some v ∧ isNum v
  onlycount : ∃ v, fs.lookup ("onlycount" : Str) = some v ∧ isNum v
  stacksize : ∃ v, fs.lookup ("stacksize" : Str) = some v ∧ isNum v
  flags : ∃ v, fs.lookup ("flags" : Str) = some v ∧ isNum v
  code : ∃ v, fs.lookup ("code" : Str) = some v ∧ isByt H v
  constants : ∃ v, fs.lookup ("constants" : Str) = some v ∧ isEmp H v
  names : ∃ v, fs.lookup ("names" : Str) = some v ∧ isEmp H v
  slots : ∃ v, fs.lookup ("slots" : Str) = some v ∧ isEmp H v
  kinds : ∃ v, fs.lookup ("kinds" : Str) = some v ∧ isEmp H v
  name : ∃ v, fs.lookup ("name" : Str) = some v ∧ isTxt v
  path : ∃ v, fs.lookup ("path" : Str) = some v ∧ isTxt v
  line : ∃ v, fs.lookup ("line" : Str) = some v ∧ isNum v
  lines : ∃ v, fs.lookup ("lines" : Str) = some v ∧ isByt H v
  handlers : ∃ v, fs.lookup ("handlers" : Str) = some v ∧ isByt H v
def spLook (Cc : Addr) : Sp := fun vs H Q _ => ∃ (self dx : Addr) (fs : List (Str × V)), vs = [.ref self] ∧ H self = some (.ins Cc dx fs) ∧ FsOk H fs ∧ ∀ H', Same H H' → Q .non H'
section
variable {P : Program} {w : World} {K : PySem.W.Frag} {mg : Str → Option Value} {base : Heap} {Cc Cn fI : Addr}
abbrev N_Code_look : List Str := ["self", "numbers", "found", "lasts", "field", "one"]
theorem sc_Code_look : FnScope N_Code_look ["self"] (defScope s_Code_look) := ⟨rfl, rfl, rfl, by decide +kernel, rfl, by decide +kernel, by decide +kernel⟩
theorem ok_Code_look {f : Addr} {fd : FuncData} (T : Gl0 mg) (G : GlK P K mg Cc Cn fI) (c_is_number : CalX P w K mg base 1 "is_number" spNum) (c_is_string : CalX P w K mg base 1 "is_string" spStr) (c_are_bytes : CalX P w K mg base 2 "are_bytes" spBytesOf)
    (c_are_strings : CalX P w K mg base 1 "are_strings" spNone) (c_are_constants : CalX P w K mg base 1 "are_constants" spNone) (F : MetX K "look" "Code.look" s_Code_look ["self"] f fd) : FnOk P w K mg base (L2.CX P w) 3 f fd ["self"] (spLook Cc) := by
  refine F.fn.ok sc_Code_look (fun vs H Q E h => ?_) (fun cdv A outer s H vs Q E hr h => ?_)
  · obtain ⟨x, dx, fs, rfl, _⟩ := h
    rfl
  · obtain ⟨self, dx, fs, rfl, hs, ok, k⟩ := h
    refine ⟨_, PSs.nox (pss_cons (ps_set (i := 1) sc_Code_look.nd rfl (.inl rfl) (pe_lst (pa_cons (pe_tup (pa_cons pe_str (pa_cons (pe_fld (pv 0) rfl) pa_nil))) (pa_cons (pe_tup (pa_cons pe_str (pa_cons (pe_fld (pv 0) rfl) pa_nil))) (pa_cons (pe_tup (pa_cons pe_str (pa_cons (pe_fld (pv 0) rfl) pa_nil))) pa_nil)))))
    (pss_cons (ps_setLc (i := 2) (y := "found") (own := [("field", 4), ("one", 5)]) (g := gTup K 2 (gCons (gName 4) (gCons (gName 5) gNil))) rfl sc_Code_look.nd rfl rfl (sw_true rfl rfl rfl (by decide +kernel)) (pi_list (pe_op op_cat (pv 1) (pe_lst (pa_cons (pe_tup (pa_cons pe_str (pa_cons (pe_fld (pv 0) rfl) pa_nil))) pa_nil)))) (blkOk_by (own := [("field", 4), ("one", 5)]) (N := N_Code_look) (sc := defScope s_Code_look) (by decide +kernel)) (fun _ _ _ _ _ => (pg_tup rfl (pgs_cons (pg_name (i := 4) sc_Code_look.nd rfl (Or.inl rfl)) (pgs_cons (pg_name (i := 5) sc_Code_look.nd rfl (Or.inl rfl)) pgs_nil)))) (fun _ _ _ _ _ => (pts_one (pt_not (pt_val (pe_cx c_is_number hr (by decide) rfl (pa_cons (pv 5) pa_nil)))))) (fun _ _ _ _ _ => (pv 4)))
    (pss_cons (ps_set (i := 2) sc_Code_look.nd rfl (.inl rfl) (pe_op op_cat (pv 2) (pe_op op_rep (pe_lst (pa_cons pe_str pa_nil)) (pe_callTy call_int1 (by rfl) T.n_int Boot.«int» (pa_cons (pe_not (pe_cx c_are_bytes hr (by decide) rfl (pa_cons (pe_fld (pv 0) rfl) pa_nil))) pa_nil)))))
    (pss_cons (ps_set (i := 2) sc_Code_look.nd rfl (.inl rfl) (pe_op op_cat (pv 2) (pe_op op_rep (pe_lst (pa_cons pe_str pa_nil)) (pe_callTy call_int1 (by rfl) T.n_int Boot.«int» (pa_cons (pe_not (pe_cx c_are_constants hr (by decide) rfl (pa_cons (pe_fld (pv 0) rfl) pa_nil))) pa_nil)))))
    (pss_cons (ps_set (i := 2) sc_Code_look.nd rfl (.inl rfl) (pe_op op_cat (pe_op op_cat (pv 2) (pe_op op_rep (pe_lst (pa_cons pe_str pa_nil)) (pe_callTy call_int1 (by rfl) T.n_int Boot.«int» (pa_cons (pe_not (pe_cx c_are_strings hr (by decide) rfl (pa_cons (pe_fld (pv 0) rfl) pa_nil))) pa_nil)))) (pe_op op_rep (pe_lst (pa_cons pe_str pa_nil)) (pe_callTy call_int1 (by rfl) T.n_int Boot.«int» (pa_cons (pe_not (pe_cx c_are_strings hr (by decide) rfl (pa_cons (pe_fld (pv 0) rfl) pa_nil))) pa_nil)))))
    (pss_cons (ps_if (PW.pt (pw_and (pt_cmpR (op_eqD hr.units) (pv 2) (pe_lst pa_nil) (nomark _)) (pw_and1 (PW.pt (pw_or (pt_not (pt_val (pe_cx c_are_bytes hr (by decide) rfl (pa_cons (pe_fld (pv 0) rfl) pa_nil)))) (pw_or1 (pt_cmpR op_ne (pe_callB call_len_seq (by rfl) T.n_len Boot.«len» (pa_cons (pe_fld (pv 0) rfl) pa_nil)) (pe_callB call_len_seq (by rfl) T.n_len Boot.«len» (pa_cons (pe_fld (pv 0) rfl) pa_nil)) (nomark _))))))))
      (pss_one (ps_set (i := 2) sc_Code_look.nd rfl (.inl rfl) (pe_lst (pa_cons pe_str pa_nil))))
      pss_nil)
    (pss_cons (ps_set (i := 2) sc_Code_look.nd rfl (.inl rfl) (pe_op op_cat (pv 2) (pe_lc (own := [("field", 4), ("one", 5)]) (g := gTup K 2 (gCons (gName 4) (gCons (gName 5) gNil))) rfl sc_Code_look.nd (pi_list (pe_lst (pa_cons (pe_tup (pa_cons pe_str (pa_cons (pe_fld (pv 0) rfl) pa_nil))) (pa_cons (pe_tup (pa_cons pe_str (pa_cons (pe_fld (pv 0) rfl) pa_nil))) pa_nil)))) (blkOk_by (own := [("field", 4), ("one", 5)]) (N := N_Code_look) (sc := defScope s_Code_look) (by decide +kernel)) (fun _ _ _ _ _ => (pg_tup rfl (pgs_cons (pg_name (i := 4) sc_Code_look.nd rfl (Or.inl rfl)) (pgs_cons (pg_name (i := 5) sc_Code_look.nd rfl (Or.inl rfl)) pgs_nil)))) (fun _ _ _ _ _ => (pts_one (pt_not (pt_val (pe_cx c_is_string hr (by decide) rfl (pa_cons (pv 5) pa_nil)))))) (fun _ _ _ _ _ => (pv 4)))))
    (pss_cons (ps_set (i := 2) sc_Code_look.nd rfl (.inl rfl) (pe_op op_cat (pv 2) (pe_op op_rep (pe_lst (pa_cons pe_str pa_nil)) (pe_callTy call_int1 (by rfl) T.n_int Boot.«int» (pa_cons (pe_not (pe_cx c_is_number hr (by decide) rfl (pa_cons (pe_fld (pv 0) rfl) pa_nil))) pa_nil)))))
    (pss_cons (ps_set (i := 3) sc_Code_look.nd rfl (.inl rfl) (pe_lst (pa_cons (pe_tup (pa_cons pe_str (pa_cons (pe_fld (pv 0) rfl) pa_nil))) (pa_cons (pe_tup (pa_cons pe_str (pa_cons (pe_fld (pv 0) rfl) pa_nil))) pa_nil))))
    (pss_cons (ps_set (i := 2) sc_Code_look.nd rfl (.inl rfl) (pe_op op_cat (pv 2) (pe_lc (own := [("field", 4), ("one", 5)]) (g := gTup K 2 (gCons (gName 4) (gCons (gName 5) gNil))) rfl sc_Code_look.nd (pi_list (pv 3)) (blkOk_by (own := [("field", 4), ("one", 5)]) (N := N_Code_look) (sc := defScope s_Code_look) (by decide +kernel)) (fun _ _ _ _ _ => (pg_tup rfl (pgs_cons (pg_name (i := 4) sc_Code_look.nd rfl (Or.inl rfl)) (pgs_cons (pg_name (i := 5) sc_Code_look.nd rfl (Or.inl rfl)) pgs_nil)))) (fun _ _ _ _ _ => (pts_one (pt_not (pt_val (pe_cx c_are_bytes hr (by decide) rfl (pa_cons (pv 5) pa_nil)))))) (fun _ _ _ _ _ => (pv 4)))))
    (pss_one (ps_if (pt_cmpR (op_neD hr.units) (pv 2) (pe_lst pa_nil) (nomark _))
      (pss_one ps_never)
      pss_nil)))))))))))), ?_⟩
    have cl := G.ins.cl
    have na : ∀ f ∈ flds, NoAttr K Cc f := G.na
    have S : Same H H := Same.refl H
    obtain ⟨v1, l1, w1⟩ := ok.argcount
    obtain ⟨v2, l2, w2⟩ := ok.onlycount
    obtain ⟨v3, l3, w3⟩ := ok.stacksize
    obtain ⟨v4, l4, w4⟩ := ok.flags
    obtain ⟨v5, l5, a5, b5, rfl, w5⟩ := ok.code
    obtain ⟨v6, l6, a6, rfl, w6⟩ := ok.constants
    obtain ⟨v7, l7, a7, rfl, w7⟩ := ok.names
    obtain ⟨v8, l8, a8, rfl, w8⟩ := ok.slots
    obtain ⟨v9, l9, a9, rfl, w9⟩ := ok.kinds
    obtain ⟨v10, l10, w10⟩ := ok.name
    obtain ⟨v11, l11, w11⟩ := ok.path
    obtain ⟨v12, l12, x12, rfl, w12⟩ := ok.line
    obtain ⟨v13, l13, w13⟩ := ok.lines
    obtain ⟨v14, l14, w14⟩ := ok.handlers
    -- numbers
    refine ⟨_, rfl, self, Cc, dx, fs, v1, rfl, S _ _ hs, cl, na _ (by decide), l1, (by show 2 ≤ sizeLine; decide), ?_⟩
    walk_at "new1"
    have S := S.trans s1
    refine ⟨_, rfl, self, Cc, dx, fs, v2, rfl, S _ _ hs, cl, na _ (by decide), l2, (by show 2 ≤ sizeLine; decide), ?_⟩
    walk_at "new2"
    have S := S.trans s2
    refine ⟨_, rfl, self, Cc, dx, fs, v3, rfl, S _ _ hs, cl, na _ (by decide), l3, (by show 2 ≤ sizeLine; decide), ?_⟩
    walk_at "new3"
    have S := S.trans s3
    refine ⟨(by show 3 ≤ sizeLine; decide), ?_⟩
    walk_at "new4"
    have S := S.trans s4
    -- found
    refine ⟨_, rfl, _, rfl, self, Cc, dx, fs, v4, rfl, S _ _ hs, cl, na _ (by decide), l4, (by show 2 ≤ sizeLine; decide), ?_⟩
    walk_at "new5"
    have S := S.trans s5
    refine ⟨(by show 1 ≤ sizeLine; decide), ?_⟩
    walk_at "new6"
    have S := S.trans s6
    refine ⟨p4, p6, _, _, rfl, rfl, (s5.trans s6) _ _ h4, h6, (by show 4 ≤ sizeLine; decide), ?_⟩
    walk_at "new7"
    have S := S.trans s7
    have hx : ∀ x, x ∈ [V.ref p1, .ref p2, .ref p3, .ref p5] → ∃ p s v, x = .ref p ∧ H7 p = some (.tup [.str s, v]) ∧ isNum v := by
      intro x hx
      simp at hx
      rcases hx with rfl | rfl | rfl | rfl
      · exact ⟨p1, _, v1, rfl, (((((s2.trans s3).trans s4).trans s5).trans s6).trans s7) _ _ h1, w1⟩
      · exact ⟨p2, _, v2, rfl, ((((s3.trans s4).trans s5).trans s6).trans s7) _ _ h2, w2⟩
      · exact ⟨p3, _, v3, rfl, (((s4.trans s5).trans s6).trans s7) _ _ h3, w3⟩
      · exact ⟨p5, _, v4, rfl, (s6.trans s7) _ _ h5, w4⟩
    refine ⟨p7, rfl, ⟨_, SqL.of h7⟩, fun D nD => lc_list (K := K) (a := p7) (xs := [.ref p1, .ref p2, .ref p3, .ref p5]) (fun i H' => Same H7 H' ∧ H' D = some (.lst [])) ⟨Same.new nD, by rw [upd_same]⟩
      (fun i H' _ p => p.1.seq (SqL.of h7)) ?_ ?_⟩
    · rintro i x H' hi ⟨t, hD⟩
      obtain ⟨p, s, v, rfl, hp, n, rfl, n0, n1⟩ := hx x (List.mem_of_getElem? hi)
      refine ⟨p, _, rfl, SqT.of (t _ _ hp), rfl, _, _, rfl, _, _, rfl, rfl, ?_⟩
      exact ⟨rfl, _, rfl, n, rfl, n0, n1, _, rfl, iteF ⟨t, hD⟩⟩
    rintro J ⟨t, hf⟩
    have S := S.trans t
    clear hx
    -- code
    refine ⟨_, rfl, (by show 1 ≤ sizeLine; decide), ?_⟩
    walk_at "new1"
    have S := S.trans s1
    have hf := s1 _ _ hf
    refine ⟨_, rfl, self, Cc, dx, fs, _, rfl, S _ _ hs, cl, na _ (by decide), l5, a5, b5, rfl, S _ _ w5.1, w5.2.1, w5.2.2, fun J t => ?_⟩
    have S := S.trans t
    have hf := t _ _ hf
    have h1 := t _ _ h1
    refine ⟨_, rfl, .inr ⟨_, rfl, p1, _, _, rfl, rfl, h1, by decide, by decide, (by show 0 ≤ sizeLine; decide), ?_⟩⟩
    walk_at "new2"
    have S := S.trans s2
    have hf := s2 _ _ hf
    refine ⟨_, p2, _, _, rfl, rfl, hf, h2, (by show 0 ≤ sizeLine; decide), ?_⟩
    walk_at "new3"
    have S := S.trans s3
    replace hf : H3 p3 = some (.lst []) := h3
    -- constants
    refine ⟨_, rfl, (by show 1 ≤ sizeLine; decide), ?_⟩
    walk_at "new1"
    have S := S.trans s1
    have hf := s1 _ _ hf
    refine ⟨_, rfl, self, Cc, dx, fs, _, rfl, S _ _ hs, cl, na _ (by decide), l6, a6, rfl, S _ _ w6, fun J t => ?_⟩
    have S := S.trans t
    have hf := t _ _ hf
    have h1 := t _ _ h1
    refine ⟨_, rfl, .inr ⟨_, rfl, p1, _, _, rfl, rfl, h1, by decide, by decide, (by show 0 ≤ sizeLine; decide), ?_⟩⟩
    walk_at "new2"
    have S := S.trans s2
    have hf := s2 _ _ hf
    refine ⟨_, p2, _, _, rfl, rfl, hf, h2, (by show 0 ≤ sizeLine; decide), ?_⟩
    walk_at "new3"
    have S := S.trans s3
    replace hf : H3 p3 = some (.lst []) := h3
    -- names, slots
    refine ⟨_, rfl, (by show 1 ≤ sizeLine; decide), ?_⟩
    walk_at "new1"
    have S := S.trans s1
    have hf := s1 _ _ hf
    refine ⟨_, rfl, self, Cc, dx, fs, _, rfl, S _ _ hs, cl, na _ (by decide), l7, a7, rfl, S _ _ w7, fun J t => ?_⟩
    have S := S.trans t
    have hf := t _ _ hf
    have h1 := t _ _ h1
    refine ⟨_, rfl, .inr ⟨_, rfl, p1, _, _, rfl, rfl, h1, by decide, by decide, (by show 0 ≤ sizeLine; decide), ?_⟩⟩
    walk_at "new2"
    have S := S.trans s2
    have hf := s2 _ _ hf
    refine ⟨_, p2, _, _, rfl, rfl, hf, h2, (by show 0 ≤ sizeLine; decide), ?_⟩
    walk_at "new3"
    have S := S.trans s3
    replace hf : H3 p3 = some (.lst []) := h3
    refine ⟨(by show 1 ≤ sizeLine; decide), ?_⟩
    walk_at "new1"
    have S := S.trans s1
    have hf := s1 _ _ hf
    refine ⟨_, rfl, self, Cc, dx, fs, _, rfl, S _ _ hs, cl, na _ (by decide), l8, a8, rfl, S _ _ w8, fun J t => ?_⟩
    have S := S.trans t
    have hf := t _ _ hf
    have h1 := t _ _ h1
    refine ⟨_, rfl, .inr ⟨_, rfl, p1, _, _, rfl, rfl, h1, by decide, by decide, (by show 0 ≤ sizeLine; decide), ?_⟩⟩
    walk_at "new2"
    have S := S.trans s2
    have hf := s2 _ _ hf
    refine ⟨_, p2, _, _, rfl, rfl, hf, h2, (by show 0 ≤ sizeLine; decide), ?_⟩
    walk_at "new3"
    have S := S.trans s3
    replace hf : H3 p3 = some (.lst []) := h3
    -- kinds
    refine ⟨_, rfl, (by show 0 ≤ sizeLine; decide), ?_⟩
    walk_at "new1"
    have S := S.trans s1
    have hf := s1 _ _ hf
    refine ⟨_, _, Dp.lst (SqL.of hf) .nil, Dp.lst (SqL.of h1) .nil, rfl, rfl, _, rfl, ?_⟩
    refine ite2 (fun _ => ?_) (fun c => absurd rfl c)
    refine ⟨_, rfl, self, Cc, dx, fs, _, rfl, S _ _ hs, cl, na _ (by decide), l9, a9, [], rfl, S _ _ w9, (by simp), (by simp), fun J t => ?_⟩
    have S := S.trans t
    have hf := t _ _ hf
    refine ⟨_, rfl, iteF ?_⟩
    refine ⟨_, rfl, self, Cc, dx, fs, _, rfl, S _ _ hs, cl, na _ (by decide), l9, a9, _, rfl, .inl (SqL.of (S _ _ w9)), _, rfl, self, Cc, dx, fs, _, rfl, S _ _ hs, cl, na _ (by decide), l8, a8, _, rfl, .inl (SqL.of (S _ _ w8)), rfl, _, rfl, ?_⟩
    refine ite2 (fun c => absurd c (by decide)) (fun _ => ?_)
    -- name, path
    refine ⟨_, rfl, ?_⟩
    refine ⟨_, rfl, self, Cc, dx, fs, v10, rfl, S _ _ hs, cl, na _ (by decide), l10, (by show 2 ≤ sizeLine; decide), ?_⟩
    walk_at "new1"
    have S := S.trans s1
    have hf := s1 _ _ hf
    refine ⟨_, rfl, self, Cc, dx, fs, v11, rfl, S _ _ hs, cl, na _ (by decide), l11, (by show 2 ≤ sizeLine; decide), ?_⟩
    walk_at "new2"
    have S := S.trans s2
    have hf := s2 _ _ hf
    refine ⟨(by show 2 ≤ sizeLine; decide), ?_⟩
    walk_at "new3"
    have S := S.trans s3
    have hf := s3 _ _ hf
    have hx : ∀ x, x ∈ [V.ref p1, .ref p2] → ∃ p s v, x = .ref p ∧ H3 p = some (.tup [.str s, v]) ∧ isTxt v := by
      intro x hx
      simp at hx
      rcases hx with rfl | rfl
      · exact ⟨p1, _, v10, rfl, (s2.trans s3) _ _ h1, w10⟩
      · exact ⟨p2, _, v11, rfl, s3 _ _ h2, w11⟩
    refine ⟨p3, rfl, ⟨_, SqL.of h3⟩, fun D nD => lc_list (K := K) (a := p3) (xs := [.ref p1, .ref p2]) (fun i H' => Same H3 H' ∧ H' D = some (.lst [])) ⟨Same.new nD, by rw [upd_same]⟩
      (fun i H' _ p => p.1.seq (SqL.of h3)) ?_ ?_⟩
    · rintro i x H' hi ⟨t, hD⟩
      obtain ⟨p, s, v, rfl, hp, n, rfl, n0, n1⟩ := hx x (List.mem_of_getElem? hi)
      refine ⟨p, _, rfl, SqT.of (t _ _ hp), rfl, _, _, rfl, _, _, rfl, rfl, ?_⟩
      exact ⟨rfl, _, rfl, n, rfl, n0, n1, fun J' t' => ⟨_, rfl, iteF ⟨t.trans t', t' _ _ hD⟩⟩⟩
    rintro J ⟨t, hD⟩
    have S := S.trans t
    have hf := t _ _ hf
    refine ⟨_, D, _, _, rfl, rfl, hf, hD, (by show 0 ≤ sizeLine; decide), ?_⟩
    walk_at "new4"
    have S := S.trans s4
    replace hf : H4 p4 = some (.lst []) := h4
    clear hx
    -- line
    refine ⟨_, rfl, (by show 1 ≤ sizeLine; decide), ?_⟩
    walk_at "new1"
    have S := S.trans s1
    have hf := s1 _ _ hf
    refine ⟨_, rfl, self, Cc, dx, fs, _, rfl, S _ _ hs, cl, na _ (by decide), l12, x12, rfl, w12.1, w12.2, ?_⟩
    refine ⟨_, rfl, .inr ⟨_, rfl, p1, _, _, rfl, rfl, h1, by decide, by decide, (by show 0 ≤ sizeLine; decide), ?_⟩⟩
    walk_at "new2"
    have S := S.trans s2
    have hf := s2 _ _ hf
    refine ⟨_, p2, _, _, rfl, rfl, hf, h2, (by show 0 ≤ sizeLine; decide), ?_⟩
    walk_at "new3"
    have S := S.trans s3
    replace hf : H3 p3 = some (.lst []) := h3
    -- lasts
    refine ⟨_, rfl, self, Cc, dx, fs, v13, rfl, S _ _ hs, cl, na _ (by decide), l13, (by show 2 ≤ sizeLine; decide), ?_⟩
    walk_at "new5"
    have S := S.trans s5
    have hf := s5 _ _ hf
    refine ⟨_, rfl, self, Cc, dx, fs, v14, rfl, S _ _ hs, cl, na _ (by decide), l14, (by show 2 ≤ sizeLine; decide), ?_⟩
    walk_at "new6"
    have S := S.trans s6
    have hf := s6 _ _ hf
    refine ⟨(by show 2 ≤ sizeLine; decide), ?_⟩
    walk_at "new7"
    have S := S.trans s7
    have hf := s7 _ _ hf
    have hx : ∀ x, x ∈ [V.ref p5, .ref p6] → ∃ p s v, x = .ref p ∧ H7 p = some (.tup [.str s, v]) ∧ isByt H7 v := by
      intro x hx
      simp at hx
      rcases hx with rfl | rfl
      · exact ⟨p5, _, v13, rfl, (s6.trans s7) _ _ h5, w13.same S⟩
      · exact ⟨p6, _, v14, rfl, s7 _ _ h6, w14.same S⟩
    refine ⟨_, rfl, _, rfl, p7, rfl, ⟨_, SqL.of h7⟩, fun D nD => lc_list (K := K) (a := p7) (xs := [.ref p5, .ref p6]) (fun i H' => Same H7 H' ∧ H' D = some (.lst [])) ⟨Same.new nD, by rw [upd_same]⟩
      (fun i H' _ p => p.1.seq (SqL.of h7)) ?_ ?_⟩
    · rintro i x H' hi ⟨t, hD⟩
      obtain ⟨p, s, v, rfl, hp, a, ns, rfl, m0, m1, m2⟩ := hx x (List.mem_of_getElem? hi)
      refine ⟨p, _, rfl, SqT.of (t _ _ hp), rfl, _, _, rfl, _, _, rfl, rfl, ?_⟩
      exact ⟨rfl, _, rfl, a, ns, rfl, t _ _ m0, m1, m2, fun J' t' => ⟨_, rfl, iteF ⟨t.trans t', t' _ _ hD⟩⟩⟩
    rintro J ⟨t, hD⟩
    have S := S.trans t
    have hf := t _ _ hf
    refine ⟨_, D, _, _, rfl, rfl, hf, hD, (by show 0 ≤ sizeLine; decide), ?_⟩
    walk_at "new4"
    have S := S.trans s4
    replace hf : H4 p4 = some (.lst []) := h4
    clear hx
    -- the end
    refine ⟨_, rfl, (by show 0 ≤ sizeLine; decide), ?_⟩
    walk_at "new1"
    have S := S.trans s1
    have hf := s1 _ _ hf
    refine ⟨_, _, Dp.lst (SqL.of hf) .nil, Dp.lst (SqL.of h1) .nil, rfl, rfl, _, rfl, ?_⟩
    refine ite2 (fun c => absurd c (by decide)) (fun _ => ?_)
    exact k _ S
end
def tNevT : TT := fun _ _ _ => False
theorem pt_nev {X : Cx} {e : Expr} : PT X e tNevT := ⟨fun _ _ _ _ _ _ h => h.elim⟩
theorem fsok_of {H : Hp} {self C dx : Addr} {fs : List (Str × V)} (_ : H self = some (.ins C dx fs)) (h : FsOk H fs) : FsOk H fs := h
/-- Code(..): numbers, bytes, none of constants, names, slots and kinds, good texts -/
def spInit (Cc : Addr) : Sp := fun vs H Q _ => ∃ (self dx c k1 k2 k3 k4 l h : Addr) (i1 i2 i3 i4 i5 : Int) (x1 x2 : Str) (nl nh : List Int),
  vs = [.ref self, .int i1, .int i2, .int i3, .int i4, .ref c, .ref k1, .ref k2, .ref k3, .ref k4, .str x1, .str x2, .int i5, .ref l, .ref h] ∧ H self = some (.ins Cc dx []) ∧ isNum (.int i1) ∧ isNum (.int i2) ∧ isNum (.int i3) ∧ isNum (.int i4) ∧
  isByt H (.ref c) ∧ H k1 = some (.lst []) ∧ H k2 = some (.lst []) ∧ H k3 = some (.lst []) ∧ H k4 = some (.lst []) ∧ isTxt (.str x1) ∧ isTxt (.str x2) ∧ isNum (.int i5) ∧
  H l = some (.lst (nl.map V.int)) ∧ (∀ n ∈ nl, 0 ≤ n ∧ n ≤ 255) ∧ nl.length ≤ 100000 ∧ H h = some (.lst (nh.map V.int)) ∧ (∀ n ∈ nh, 0 ≤ n ∧ n ≤ 255) ∧ nh.length ≤ 100000 ∧
  ∀ H' fs tl th, But self H H' → H' self = some (.ins Cc dx fs) → fs.lookup ("line" : Str) = some (.int i5) → fs.lookup ("lines" : Str) = some (V.ref tl) → H' tl = some (.tup (nl.map V.int)) → fs.lookup ("handlers" : Str) = some (V.ref th) → H' th = some (.tup (nh.map V.int)) → Q .non H'
structure Gl3 (mg : Str → Option Value) : Prop where
  n_max : mg "max" = none
section
variable {P : Program} {w : World} {K : PySem.W.Frag} {mg : Str → Option Value} {base : Heap} {Cc Cn fI : Addr}
abbrev N_Code_init : List Str := ["self", "argcount", "onlycount", "stacksize", "flags", "code", "constants", "names", "slots", "kinds", "name", "path", "line", "lines", "handlers", "one"]
theorem sc_Code_init : FnScope N_Code_init ["self", "argcount", "onlycount", "stacksize", "flags", "code", "constants", "names", "slots", "kinds", "name", "path", "line", "lines", "handlers"] (defScope s_Code_init) := ⟨rfl, rfl, rfl, by decide +kernel, rfl, by decide +kernel, by decide +kernel⟩
theorem ok_Code_init {f fL : Addr} {fd fdL : FuncData} (T0 : Gl0 mg) (T : Gl2 mg) (T3 : Gl3 mg) (G : GlK P K mg Cc Cn fI) (ML : Meth K Cc "look" fL) (FL : FnOk P w K mg base (L2.CX P w) 3 fL fdL ["self"] (spLook Cc)) (BL : Binds K fdL ["self"] [])
    (F : MetX K "__init__" "Code.__init__" s_Code_init ["self", "argcount", "onlycount", "stacksize", "flags", "code", "constants", "names", "slots", "kinds", "name", "path", "line", "lines", "handlers"] f fd) :
    FnOk P w K mg base (L2.CX P w) 4 f fd ["self", "argcount", "onlycount", "stacksize", "flags", "code", "constants", "names", "slots", "kinds", "name", "path", "line", "lines", "handlers"] (spInit Cc) := by
  refine F.fn.ok sc_Code_init (fun vs H Q E h => ?_) (fun cdv A outer s H vs Q E hr h => ?_)
  · obtain ⟨self, dx, c, k1, k2, k3, k4, l, h, i1, i2, i3, i4, i5, x1, x2, nl, nh, rfl, _⟩ := h
    rfl
  · obtain ⟨self, dx, c, k1, k2, k3, k4, l, h, i1, i2, i3, i4, i5, x1, x2, nl, nh, rfl, hs, w1, w2, w3, w4, wc, e1, e2, e3, e4, wx1, wx2, w5, hl, bl, zl, hh, bh, zh, k⟩ := h
    refine ⟨_, PSs.nox (pss_cons (ps_fld (pv 0) (pv 1) rfl)
    (pss_cons (ps_fld (pv 0) (pv 2) rfl)
    (pss_cons (ps_fld (pv 0) (pv 3) rfl)
    (pss_cons (ps_fld (pv 0) (pv 4) rfl)
    (pss_cons (ps_fld (pv 0) (pv 5) rfl)
    (pss_cons (ps_fld (pv 0) (pv 6) rfl)
    (pss_cons (ps_fld (pv 0) (pv 7) rfl)
    (pss_cons (ps_fld (pv 0) (pv 8) rfl)
    (pss_cons (ps_fld (pv 0) (pv 9) rfl)
    (pss_cons (ps_fld (pv 0) (pv 10) rfl)
    (pss_cons (ps_fld (pv 0) (pv 11) rfl)
    (pss_cons (ps_fld (pv 0) (pv 12) rfl)
    (pss_cons (ps_fld (pv 0) (pv 13) rfl)
    (pss_cons (ps_fld (pv 0) (pv 14) rfl)
    (pss_cons (ps_expr (pe_meth0 (pv 0) G.ins.cl ML FL (hr.mono (by decide)) BL .nil passL))
    (pss_cons (ps_fld (pv 0) (pe_callTy call_tuple_of (by rfl) T.n_tuple Boot.«tuple» (pa_cons (pv 6) pa_nil)) rfl)
    (pss_cons (ps_fld (pv 0) (pe_callTy call_tuple_of (by rfl) T.n_tuple Boot.«tuple» (pa_cons (pv 7) pa_nil)) rfl)
    (pss_cons (ps_fld (pv 0) (pe_callTy call_tuple_of (by rfl) T.n_tuple Boot.«tuple» (pa_cons (pv 8) pa_nil)) rfl)
    (pss_cons (ps_asg (pe_tup (pa_cons (pe_callTy call_tuple_of (by rfl) T.n_tuple Boot.«tuple» (pa_cons (pv 5) pa_nil)) (pa_cons (pe_callTy call_tuple_of (by rfl) T.n_tuple Boot.«tuple» (pa_cons (pv 9) pa_nil)) pa_nil))) (pg_tup (by rfl) (pgs_cons (pg_fld (pv 0)) (pgs_cons (pg_fld (pv 0)) pgs_nil))))
    (pss_cons (ps_asg (pe_tup (pa_cons (pe_callTy call_tuple_of (by rfl) T.n_tuple Boot.«tuple» (pa_cons (pv 13) pa_nil)) (pa_cons (pe_callTy call_tuple_of (by rfl) T.n_tuple Boot.«tuple» (pa_cons (pv 14) pa_nil)) pa_nil))) (pg_tup (by rfl) (pgs_cons (pg_fld (pv 0)) (pgs_cons (pg_fld (pv 0)) pgs_nil))))
    (pss_one (ps_fld (pv 0) (pe_op op_add pe_int (pe_callB (cr_max rfl) (by rfl) T3.n_max Boot.«max» (pa_cons (pe_op op_cat (pe_lst (pa_cons pe_int pa_nil)) (pe_lc (own := [("one", 15)]) (g := gName 15) rfl sc_Code_init.nd (pi_list (pv 6)) (blkOk_by (own := [("one", 15)]) (N := N_Code_init) (sc := defScope s_Code_init) (by decide +kernel)) (fun _ _ _ _ _ => (pg_name (i := 15) sc_Code_init.nd rfl (Or.inl rfl))) (fun _ _ _ _ _ => (pts_one pt_nev)) (fun _ _ _ _ _ => pe_nev))) pa_nil))) rfl)))))))))))))))))))))), ?_⟩
    have cl := G.ins.cl
    have na : ∀ f ∈ flds, NoAttr K Cc f := G.na
    have B : But self H H := But.refl
    have ln : Sm 0 ([] : List (Str × V)) := Nat.le_refl _
    have nlst : ∀ {a : Addr} {xs : List V}, H a = some (.lst xs) → a ≠ self := fun {a xs} e z => by
      rw [z, hs] at e
      cases e
    have keep : ∀ {H' : Hp} {a : Addr} {xs : List V}, But self H H' → H a = some (.lst xs) → H' a = some (.lst xs) := fun b e => b _ _ (nlst e) e
    refine ⟨_, rfl, _, rfl, self, Cc, dx, _, rfl, hs, cl, na _ (by decide), Nat.lt_of_le_of_lt ln (by decide), ?_⟩
    walk_at "fld"
    refine ⟨_, rfl, _, rfl, self, Cc, dx, _, rfl, hs, cl, na _ (by decide), Nat.lt_of_le_of_lt ln (by decide), ?_⟩
    walk_at "fld"
    refine ⟨_, rfl, _, rfl, self, Cc, dx, _, rfl, hs, cl, na _ (by decide), Nat.lt_of_le_of_lt ln (by decide), ?_⟩
    walk_at "fld"
    refine ⟨_, rfl, _, rfl, self, Cc, dx, _, rfl, hs, cl, na _ (by decide), Nat.lt_of_le_of_lt ln (by decide), ?_⟩
    walk_at "fld"
    refine ⟨_, rfl, _, rfl, self, Cc, dx, _, rfl, hs, cl, na _ (by decide), Nat.lt_of_le_of_lt ln (by decide), ?_⟩
    walk_at "fld"
    refine ⟨_, rfl, _, rfl, self, Cc, dx, _, rfl, hs, cl, na _ (by decide), Nat.lt_of_le_of_lt ln (by decide), ?_⟩
    walk_at "fld"
    refine ⟨_, rfl, _, rfl, self, Cc, dx, _, rfl, hs, cl, na _ (by decide), Nat.lt_of_le_of_lt ln (by decide), ?_⟩
    walk_at "fld"
    refine ⟨_, rfl, _, rfl, self, Cc, dx, _, rfl, hs, cl, na _ (by decide), Nat.lt_of_le_of_lt ln (by decide), ?_⟩
    walk_at "fld"
    refine ⟨_, rfl, _, rfl, self, Cc, dx, _, rfl, hs, cl, na _ (by decide), Nat.lt_of_le_of_lt ln (by decide), ?_⟩
    walk_at "fld"
    refine ⟨_, rfl, _, rfl, self, Cc, dx, _, rfl, hs, cl, na _ (by decide), Nat.lt_of_le_of_lt ln (by decide), ?_⟩
    walk_at "fld"
    refine ⟨_, rfl, _, rfl, self, Cc, dx, _, rfl, hs, cl, na _ (by decide), Nat.lt_of_le_of_lt ln (by decide), ?_⟩
    walk_at "fld"
    refine ⟨_, rfl, _, rfl, self, Cc, dx, _, rfl, hs, cl, na _ (by decide), Nat.lt_of_le_of_lt ln (by decide), ?_⟩
    walk_at "fld"
    refine ⟨_, rfl, _, rfl, self, Cc, dx, _, rfl, hs, cl, na _ (by decide), Nat.lt_of_le_of_lt ln (by decide), ?_⟩
    walk_at "fld"
    refine ⟨_, rfl, _, rfl, self, Cc, dx, _, rfl, hs, cl, na _ (by decide), Nat.lt_of_le_of_lt ln (by decide), ?_⟩
    walk_at "fld"
    have ok := fsok_of hs ⟨
      ⟨_, look_miss (by decide +kernel) (look_miss (by decide +kernel) (look_miss (by decide +kernel) (look_miss (by decide +kernel) (look_miss (by decide +kernel) (look_miss (by decide +kernel) (look_miss (by decide +kernel) (look_miss (by decide +kernel) (look_miss (by decide +kernel) (look_miss (by decide +kernel) (look_miss (by decide +kernel) (look_miss (by decide +kernel) (look_miss (by decide +kernel) (look_hit))))))))))))), w1⟩,
      ⟨_, look_miss (by decide +kernel) (look_miss (by decide +kernel) (look_miss (by decide +kernel) (look_miss (by decide +kernel) (look_miss (by decide +kernel) (look_miss (by decide +kernel) (look_miss (by decide +kernel) (look_miss (by decide +kernel) (look_miss (by decide +kernel) (look_miss (by decide +kernel) (look_miss (by decide +kernel) (look_miss (by decide +kernel) (look_hit)))))))))))), w2⟩,
      ⟨_, look_miss (by decide +kernel) (look_miss (by decide +kernel) (look_miss (by decide +kernel) (look_miss (by decide +kernel) (look_miss (by decide +kernel) (look_miss (by decide +kernel) (look_miss (by decide +kernel) (look_miss (by decide +kernel) (look_miss (by decide +kernel) (look_miss (by decide +kernel) (look_miss (by decide +kernel) (look_hit))))))))))), w3⟩,
      ⟨_, look_miss (by decide +kernel) (look_miss (by decide +kernel) (look_miss (by decide +kernel) (look_miss (by decide +kernel) (look_miss (by decide +kernel) (look_miss (by decide +kernel) (look_miss (by decide +kernel) (look_miss (by decide +kernel) (look_miss (by decide +kernel) (look_miss (by decide +kernel) (look_hit)))))))))), w4⟩,
      ⟨_, look_miss (by decide +kernel) (look_miss (by decide +kernel) (look_miss (by decide +kernel) (look_miss (by decide +kernel) (look_miss (by decide +kernel) (look_miss (by decide +kernel) (look_miss (by decide +kernel) (look_miss (by decide +kernel) (look_miss (by decide +kernel) (look_hit))))))))), let ⟨a, ns, q, u, v⟩ := wc; ⟨a, ns, q, keep B u, v⟩⟩,
      ⟨_, look_miss (by decide +kernel) (look_miss (by decide +kernel) (look_miss (by decide +kernel) (look_miss (by decide +kernel) (look_miss (by decide +kernel) (look_miss (by decide +kernel) (look_miss (by decide +kernel) (look_miss (by decide +kernel) (look_hit)))))))), ⟨_, rfl, keep B e1⟩⟩,
      ⟨_, look_miss (by decide +kernel) (look_miss (by decide +kernel) (look_miss (by decide +kernel) (look_miss (by decide +kernel) (look_miss (by decide +kernel) (look_miss (by decide +kernel) (look_miss (by decide +kernel) (look_hit))))))), ⟨_, rfl, keep B e2⟩⟩,
      ⟨_, look_miss (by decide +kernel) (look_miss (by decide +kernel) (look_miss (by decide +kernel) (look_miss (by decide +kernel) (look_miss (by decide +kernel) (look_miss (by decide +kernel) (look_hit)))))), ⟨_, rfl, keep B e3⟩⟩,
      ⟨_, look_miss (by decide +kernel) (look_miss (by decide +kernel) (look_miss (by decide +kernel) (look_miss (by decide +kernel) (look_miss (by decide +kernel) (look_hit))))), ⟨_, rfl, keep B e4⟩⟩,
      ⟨_, look_miss (by decide +kernel) (look_miss (by decide +kernel) (look_miss (by decide +kernel) (look_miss (by decide +kernel) (look_hit)))), wx1⟩,
      ⟨_, look_miss (by decide +kernel) (look_miss (by decide +kernel) (look_miss (by decide +kernel) (look_hit))), wx2⟩,
      ⟨_, look_miss (by decide +kernel) (look_miss (by decide +kernel) (look_hit)), w5⟩,
      ⟨_, look_miss (by decide +kernel) (look_hit), ⟨l, nl, rfl, keep B hl, bl, zl⟩⟩,
      ⟨_, look_hit, ⟨h, nh, rfl, keep B hh, bh, zh⟩⟩⟩
    refine ⟨_, rfl, self, dx, _, rfl, hs, look_miss (by decide +kernel) (look_miss (by decide +kernel) (look_miss (by decide +kernel) (look_miss (by decide +kernel) (look_miss (by decide +kernel) (look_miss (by decide +kernel) (look_miss (by decide +kernel) (look_miss (by decide +kernel) (look_miss (by decide +kernel) (look_miss (by decide +kernel) (look_miss (by decide +kernel) (look_miss (by decide +kernel) (look_miss (by decide +kernel) (look_miss (by decide +kernel) (rfl)))))))))))))), self, dx, _, rfl, hs, ok, fun J S => ?_⟩
    replace hs := S _ _ hs
    replace B := B.trans (But.of S)
    clear ok S
    -- the tuples
    obtain ⟨F0, hs, ln, kl⟩ : ∃ F0, J self = some (.ins Cc dx F0) ∧ Sm 14 F0 ∧ F0.lookup ("line" : Str) = some (V.int i5) := ⟨_, hs, ln, look_miss (by decide +kernel) (look_miss (by decide +kernel) (look_hit))⟩
    obtain ⟨ca, cn, ce, wc, wc2, wc3⟩ := wc
    cases ce
    refine ⟨_, rfl, _, _, rfl, .inl ⟨SqL.of (keep B e1), ?_⟩⟩
    walk_at "new1"
    replace hs := s1 _ _ hs
    replace B := B.trans (But.of s1)
    refine ⟨_, rfl, self, Cc, dx, _, rfl, hs, cl, na _ (by decide), Nat.lt_of_le_of_lt ln (by decide), ?_⟩
    walk_at "fld"
    refine ⟨_, rfl, _, _, rfl, .inl ⟨SqL.of (keep B e2), ?_⟩⟩
    walk_at "new1"
    replace hs := s1 _ _ hs
    replace B := B.trans (But.of s1)
    refine ⟨_, rfl, self, Cc, dx, _, rfl, hs, cl, na _ (by decide), Nat.lt_of_le_of_lt ln (by decide), ?_⟩
    walk_at "fld"
    refine ⟨_, rfl, _, _, rfl, .inl ⟨SqL.of (keep B e3), ?_⟩⟩
    walk_at "new1"
    replace hs := s1 _ _ hs
    replace B := B.trans (But.of s1)
    refine ⟨_, rfl, self, Cc, dx, _, rfl, hs, cl, na _ (by decide), Nat.lt_of_le_of_lt ln (by decide), ?_⟩
    walk_at "fld"
    refine ⟨_, rfl, _, _, rfl, .inl ⟨SqL.of (keep B wc), ?_⟩⟩
    walk_at "new1"
    replace hs := s1 _ _ hs
    replace B := B.trans (But.of s1)
    refine ⟨_, rfl, _, _, rfl, .inl ⟨SqL.of (keep B e4), ?_⟩⟩
    walk_at "new2"
    replace hs := s2 _ _ hs
    replace B := B.trans (But.of s2)
    refine ⟨(by show 2 ≤ sizeLine; decide), ?_⟩
    walk_at "new3"
    replace hs := s3 _ _ hs
    replace B := B.trans (But.of s3)
    refine ⟨p3, _, rfl, SqT.of h3, rfl, _, _, rfl, _, rfl, self, Cc, dx, _, rfl, hs, cl, na _ (by decide), Nat.lt_of_le_of_lt ln (by decide), ?_⟩
    walk_at "fld"
    refine ⟨_, _, rfl, _, rfl, self, Cc, dx, _, rfl, hs, cl, na _ (by decide), Nat.lt_of_le_of_lt ln (by decide), ?_⟩
    walk_at "fld"
    refine ⟨rfl, ?_⟩
    refine ⟨_, rfl, _, _, rfl, .inl ⟨SqL.of (keep B hl), ?_⟩⟩
    walk_at "new1"
    replace hs := s1 _ _ hs
    replace B := B.trans (But.of s1)
    refine ⟨_, rfl, _, _, rfl, .inl ⟨SqL.of (keep B hh), ?_⟩⟩
    walk_at "new2"
    replace hs := s2 _ _ hs
    replace B := B.trans (But.of s2)
    refine ⟨(by show 2 ≤ sizeLine; decide), ?_⟩
    walk_at "new3"
    replace hs := s3 _ _ hs
    replace B := B.trans (But.of s3)
    replace h1 := (s2.trans s3) _ _ h1
    replace h2 := s3 _ _ h2
    have q1 : p1 ≠ self := fun z => by
      rw [z, hs] at h1
      cases h1
    have q2 : p2 ≠ self := fun z => by
      rw [z, hs] at h2
      cases h2
    have B3 : But self H3 H3 := But.refl
    refine ⟨p3, _, rfl, SqT.of h3, rfl, _, _, rfl, _, rfl, self, Cc, dx, _, rfl, hs, cl, na _ (by decide), Nat.lt_of_le_of_lt ln (by decide), ?_⟩
    walk_at "fld3"
    refine ⟨_, _, rfl, _, rfl, self, Cc, dx, _, rfl, hs, cl, na _ (by decide), Nat.lt_of_le_of_lt ln (by decide), ?_⟩
    walk_at "fld3"
    refine ⟨rfl, ?_⟩
    -- nested
    refine ⟨(by show 1 ≤ sizeLine; decide), ?_⟩
    walk_at "new4"
    replace hs := s4 _ _ hs
    replace B := B.trans (But.of s4)
    replace B3 := B3.trans (But.of s4)
    have hk := keep B e1
    refine ⟨_, rfl, k1, rfl, ⟨_, SqL.of hk⟩, fun D nD => lc_list (K := K) (a := k1) (xs := []) (fun i H' => Same H4 H' ∧ H' D = some (.lst [])) ⟨Same.new nD, by rw [upd_same]⟩
      (fun i H' _ p => p.1.seq (SqL.of hk)) ?_ ?_⟩
    · rintro i x H' hi _
      simp at hi
    rintro J ⟨t, hD⟩
    replace hs := t _ _ hs
    replace B := B.trans (But.of t)
    replace B3 := B3.trans (But.of t)
    refine ⟨p4, D, _, _, rfl, rfl, t _ _ h4, hD, (by show 1 ≤ sizeLine; decide), ?_⟩
    walk_at "new5"
    replace hs := s5 _ _ hs
    replace B := B.trans (But.of s5)
    replace B3 := B3.trans (But.of s5)
    refine ⟨p5, [0], rfl, SqL.of h5, by decide, fun m hm _ => ?_⟩
    obtain rfl : m = 0 := by simpa using hm
    refine ⟨_, _, rfl, rfl, ?_⟩
    refine ⟨_, rfl, self, Cc, dx, _, rfl, hs, cl, na _ (by decide), Nat.lt_of_le_of_lt ln (by decide), ?_⟩
    walk_at "fld3"
    refine k Hn _ p1 p2 B hs ?_ ?_ (B3 _ _ q1 h1) ?_ (B3 _ _ q2 h2)
    · exact look_miss (by decide +kernel) (look_miss (by decide +kernel) (look_miss (by decide +kernel) (look_miss (by decide +kernel) (look_miss (by decide +kernel) (look_miss (by decide +kernel) (look_miss (by decide +kernel) (look_miss (by decide +kernel) (kl))))))))
    · exact look_miss (by decide +kernel) (look_miss (by decide +kernel) (look_hit))
    · exact look_miss (by decide +kernel) (look_hit)
end
abbrev s_law_made : Stmt := top 35
/-- a Code with lines and handlers -/
def CodeAt (Cc : Addr) (H : Hp) (c : Addr) (first : Int) (nl nh : List Int) : Prop := ∃ (dx : Addr) (fs : List (Str × V)) (tl th : Addr), H c = some (.ins Cc dx fs) ∧ fs.lookup ("line" : Str) = some (.int first) ∧
  fs.lookup ("lines" : Str) = some (V.ref tl) ∧ H tl = some (.tup (nl.map V.int)) ∧ fs.lookup ("handlers" : Str) = some (V.ref th) ∧ H th = some (.tup (nh.map V.int))
theorem CodeAt.same {Cc : Addr} {H H' : Hp} {c : Addr} {first : Int} {nl nh : List Int} (s : Same H H') (h : CodeAt Cc H c first nl nh) : CodeAt Cc H' c first nl nh := by
  obtain ⟨dx, fs, tl, th, h1, h2, h3, h4, h5, h6⟩ := h
  exact ⟨dx, fs, tl, th, s _ _ h1, h2, h3, s _ _ h4, h5, s _ _ h6⟩
def spMade (Cc : Addr) : Sp := fun vs H Q _ => ∃ (d l h : Addr) (first : Int) (nl nh : List Int), vs = [.ref d, .ref l, .ref h, .int first] ∧ isByt H (.ref d) ∧ isNum (.int first) ∧
  H l = some (.lst (nl.map V.int)) ∧ (∀ n ∈ nl, 0 ≤ n ∧ n ≤ 255) ∧ nl.length ≤ 100000 ∧ H h = some (.lst (nh.map V.int)) ∧ (∀ n ∈ nh, 0 ≤ n ∧ n ≤ 255) ∧ nh.length ≤ 100000 ∧
  ∀ c H', Same H H' → CodeAt Cc H' c first nl nh → Q (.ref c) H'
theorem isTxt_f : isTxt (.str "f") := by
  refine ⟨"f", rfl, by decide, fun i c h => ?_⟩
  have e : ("f" : Str).cps = #[102] := by decide +kernel
  rw [e] at h
  cases i with
  | zero =>
    have h' : (some 102 : Option _) = some c := h
    injection h' with h'
    subst h'
    decide +kernel
  | succ i => simp at h
section
variable {P : Program} {w : World} {K : PySem.W.Frag} {mg : Str → Option Value} {base : Heap} {Cc Cn fI : Addr}
theorem GlK.gC (G : GlK P K mg Cc Cn fI) : mg "Code" = some (.ref Cc) := by
  obtain ⟨u, e, r⟩ := G.c_Code
  rw [e]
  exact congrArg some r
abbrev N_law_made : List Str := ["data", "lines", "guards", "first"]
theorem sc_law_made : FnScope N_law_made ["data", "lines", "guards", "first"] (defScope s_law_made) := ⟨rfl, rfl, rfl, by decide +kernel, rfl, by decide +kernel, by decide +kernel⟩
theorem ok_law_made {f fN : Addr} {fd fdN : FuncData} {ps : List Str} (G : GlK P K mg Cc Cn fI) (M : Mk K Cc fN) (FN : FnOk P w K mg base (L2.CX P w) 4 fN fdN ps (spInit Cc)) (BN : Binds K fdN ps [])
    (F : DefX K mg "_law_made" s_law_made ["data", "lines", "guards", "first"] f fd) : CalX P w K mg base 6 "_law_made" (spMade Cc) := by
  refine calx F sc_law_made (fun vs H Q E h => ?_) (fun cdv A outer s H vs Q E hr h => ?_)
  · obtain ⟨d, l, h, first, nl, nh, rfl, _⟩ := h
    rfl
  · obtain ⟨d, l, h, first, nl, nh, rfl, hd, hf, hl, bl, zl, hh, bh, zh, k⟩ := h
    refine ⟨_, (pss_one (ps_ret (pe_make M FN hr rfl G.gC BN .nil passL (pa_cons pe_int (pa_cons pe_int (pa_cons pe_int (pa_cons pe_int (pa_cons (pv 0) (pa_cons (pe_lst pa_nil) (pa_cons (pe_lst pa_nil) (pa_cons (pe_lst pa_nil) (pa_cons (pe_lst pa_nil) (pa_cons pe_str (pa_cons pe_str (pa_cons (pv 3) (pa_cons (pv 1) (pa_cons (pv 2) pa_nil))))))))))))))))), ?_⟩
    refine ⟨_, rfl, (by show 0 ≤ sizeLine; decide), ?_⟩
    walk_at "new1"
    refine ⟨(by show 0 ≤ sizeLine; decide), ?_⟩
    walk_at "new2"
    refine ⟨(by show 0 ≤ sizeLine; decide), ?_⟩
    walk_at "new3"
    refine ⟨(by show 0 ≤ sizeLine; decide), ?_⟩
    walk_at "new4"
    have S := ((s1.trans s2).trans s3).trans s4
    refine ⟨_, rfl, _, rfl, _, rfl, fun x dx nx nd ne => ?_⟩
    have hsx : upd (upd H4 dx (.own x)) x (.ins Cc dx []) x = some (.ins Cc dx []) := upd_same
    have S5 : Same H4 (upd (upd H4 dx (.own x)) x (.ins Cc dx [])) := fun b o e => by
      rw [upd_ne (ne_of_none e nx), upd_ne (ne_of_none e nd)]
      exact e
    generalize upd (upd H4 dx (.own x)) x (.ins Cc dx []) = H5 at hsx S5
    have S6 := S.trans S5
    refine ⟨x, dx, d, p1, p2, p3, p4, l, h, 0, 0, 1, 0, first, "f", "f", nl, nh, rfl, hsx, ⟨0, rfl, by decide, by decide⟩, ⟨0, rfl, by decide, by decide⟩, ⟨1, rfl, by decide, by decide⟩, ⟨0, rfl, by decide, by decide⟩,
      hd.same S6, (((s2.trans s3).trans s4).trans S5) _ _ h1, ((s3.trans s4).trans S5) _ _ h2, (s4.trans S5) _ _ h3, S5 _ _ h4, isTxt_f, isTxt_f, hf, S6 _ _ hl, bl, zl, S6 _ _ hh, bh, zh, ?_⟩
    intro H' fs tl th B e1 e2 e3 e4 e5 e6
    refine ⟨rfl, k x H' (fun b o e => B b o (ne_of_none (S _ _ e) nx) (S6 _ _ e)) ⟨dx, fs, tl, th, e1, e2, e3, e4, e5, e6⟩⟩
end
abbrev s_law_caught : Stmt := top 45
/-- what is asked of the errors -/
structure GlE (K : PySem.W.Frag) (mg : Str → Option Value) (Cn : Addr) : Prop where
  exc : ExcC K Cn
  xf : XfC K Cn
  ce : ∃ CE : Addr, mg "CodeError" = some (.ref CE) ∧ PySem.W.kitOne K (.ref Cn) (.ref CE) = some true
  kV : PySem.W.kitOne K (.ref Cn) (.type "ValueError") = some true
  n_ValueError : mg "ValueError" = none
  n_isinstance : mg "isinstance" = none
  exm : PySem.W.exmOne K (.ref Cn) (.ref Cn) = some true
  gT : ∃ c : Addr, mg "NoTable" = some (.ref c)
  gR : ∃ c : Addr, mg "NoRows" = some (.ref c)
  gB : ∃ c : Addr, mg "NoBytes" = some (.ref c)
/-- told of «code» -/
def errTold (Cn : Addr) (Q : VK) : XK := fun cls d H' => cls = .ref Cn ∧ ∃ dd, d = some dd ∧ H' dd = some (.xd [("field", .str "code")]) ∧ ∀ p, H' p = none → Q (.ref p) (upd H' p (.tup [.str "code", .str "code"]))
def TTc (Cn : Addr) : (XK → Hp → VK → Prop) → Hp → VK → Prop := fun tl H Q => tl (errTold Cn Q) H (fun _ H' => Q .non H')
abbrev N_law_caught : List Str := ["ask", "e"]
theorem sc_law_caught : FnScope N_law_caught ["ask"] (defScope s_law_caught) := ⟨rfl, rfl, rfl, by decide +kernel, rfl, by decide +kernel, by decide +kernel⟩
theorem caught_gives {X : Cx} {g : Addr} {cdg : Value} {q : Str} {P : Program} {Cc Cn fI : Addr} (G : GlK P X.K X.mg Cc Cn fI) (GE : GlE X.K X.mg Cn) :
    LamX.GivesTo X N_law_caught "_law_caught" (defScope s_law_caught) g cdg (defBody s_law_caught) "ask" q (TTc Cn) := by
  obtain ⟨CE, gCE, kCE⟩ := GE.ce
  obtain ⟨cT, gT⟩ := GE.gT
  obtain ⟨cR, gR⟩ := GE.gR
  obtain ⟨cB, gB⟩ := GE.gB
  intro f c' s H Q tl act hc h
  refine ⟨_, pss_cons (ps_try_all (X := (cxOf C8.CX0 X.prog X.w X.K X.mg X.base N_law_caught "_law_caught" (defScope s_law_caught) g cdg X.A X.stack s H C8.E0).nox) (i := 1) (n := "e") (Wout := fun _ _ _ _ => False)
      (tb := fun W D σ H => ∃ Ech : XK, (∀ cls d σ' H', Ech cls d H' → W cls d σ' H') ∧ σ[0]? = some (some (.ref f)) ∧ H c' = some (LamX.CodeO c' q) ∧ tl Ech H (fun _ H' => D.nx σ H'))
      rfl rfl sc_law_caught.nd rfl rfl LamX.takes0 (fun W pn xe tk _ => ?_)
      (HdAs.cons (c := .ref Cn) ⟨rfl, by decide, .inl G.gN⟩ (fun a oe cls d pn hz hf => pss_one (ps_ret (pe_ifExp (PW.pt (pw_and (pt_val (pe_callB (call_isX hz hf) (by rfl) GE.n_isinstance Boot.«isinstance» (pa_cons (pv 1) (pa_cons (C8.pe_gc (v := .ref CE) rfl ⟨_, gCE, rfl⟩) pa_nil))))
          (pw_and1 (pt_val (pe_callB (call_isX hz hf) (by rfl) GE.n_isinstance Boot.«isinstance» (pa_cons (pv 1) (pa_cons (pe_bltn (v := .ty "ValueError") (by rfl) GE.n_ValueError Boot.«ValueError» rfl) pa_nil)))))))
          (pe_tup (pa_cons pe_str (pa_cons (pe_xf GE.xf G.nx.noN hz hf (pv 1)) pa_nil))) pe_non)))
      (HdAs.cons (c := .ref cT) ⟨rfl, by decide, .inl gT⟩ (fun a oe cls d pn hz hf => pss_never)
      (HdAs.cons (c := .ref cR) ⟨rfl, by decide, .inl gR⟩ (fun a oe cls d pn hz hf => pss_never)
      (HdAs.cons (c := .ref cB) ⟨rfl, by decide, .inl gB⟩ (fun a oe cls d pn hz hf => pss_never) .nil)))))
      (pss_one (ps_ret pe_non)), ?_⟩
  · refine ⟨fun pins s' σ H' D I h' => ?_⟩
    obtain ⟨Ech, hW, h1, h2, h3⟩ := h'
    exact (pss_one (ps_expr (act W pn xe Ech _ _ tk hW))).run pins s' σ H' D I ⟨h1, h2, h3⟩
  · refine ⟨errTold Cn Q, fun cls d σ' H' ⟨e1, dd, e2, e3, e4⟩ => ?_, rfl, hc, h⟩
    subst e1
    refine ⟨true, GE.exm, fun _ a na hlen => ?_, fun z => by cases z⟩
    obtain ⟨y0, y1, rfl⟩ : ∃ y0 y1, σ' = [y0, y1] := by
      match σ', hlen with
      | [y0, y1], _ => exact ⟨y0, y1, rfl⟩
    refine ⟨_, rfl, Cn, dd, _, V.ref CE, .ref CE, true, rfl, GE.exc, e2, e3, rfl, fun u r => r, kCE, _, rfl, iteT ?_⟩
    refine ⟨_, rfl, Cn, dd, _, V.ty "ValueError", .type "ValueError", true, rfl, GE.exc, e2, e3, rfl, fun u r => r, GE.kV, _, rfl, iteT ?_⟩
    exact ⟨_, rfl, rfl, rfl, dd, _, _, e2, e3, rfl, (by show 2 ≤ sizeLine; decide), fun p np => e4 p np⟩
theorem shw {n : Nat} (h : n < 2 ^ 200) : (PyData.int (n : Int)).showable = true := by
  show decide (((n : Int)).natAbs.log2 < 1920) = true
  refine decide_eq_true ?_
  rw [Int.natAbs_natCast]
  by_cases z : n = 0
  · rw [z]
    decide
  · exact Nat.lt_trans ((Nat.log2_lt z).mpr h) (by decide)
theorem txt {n : Nat} (h : n < 10 ^ 60) : shB (.int (n : Int)) ≤ 61 := by
  show (Str.ofString (toString ((n : Nat) : Int))).length ≤ 61
  have e := PySem.int_text_length_le10 (a := (n : Int)) (k := 60) (by decide) (by rw [Int.natAbs_natCast]; exact h)
  rw [PySem.ofString_length]
  omega
theorem TyX.ext {K : PySem.W.Frag} {H H' : Hp} {x : V} {t : Value} (s : LamX.ExtN H H') (h : TyX K H x t) : TyX K H' x t := by
  cases h with
  | base b =>
    refine .base ?_
    cases b with
    | non => exact .non
    | bl y => exact .bl y
    | int i => exact .int i
    | str y => exact .str y
    | flt y => exact .flt y
    | lst e => exact .lst (s _ _ e fun _ z => by cases z)
    | frz e => exact .frz (s _ _ e fun _ z => by cases z)
    | tup e => exact .tup (s _ _ e fun _ z => by cases z)
    | dK e => exact .dK (s _ _ e fun _ z => by cases z)
    | dT e => exact .dT (s _ _ e fun _ z => by cases z)
    | ins e c1 c2 c3 c4 c5 => exact .ins (s _ _ e fun _ z => by cases z) c1 c2 c3 c4 c5
  | byt b => exact .byt b
  | set e => exact .set (s _ _ e fun _ z => by cases z)
  | kList e c => exact .kList e c
  | kTuple e c => exact .kTuple e c
  | kDict e c => exact .kDict e c
  | fTuple e => exact .fTuple (s _ _ e fun _ z => by cases z)
  | fDict e => exact .fDict (s _ _ e fun _ z => by cases z)
theorem Odd.ext {K : PySem.W.Frag} {H H' : Hp} {x : V} (s : LamX.ExtN H H') (h : Odd K H x) : Odd K H' x := by
  obtain ⟨t, m, h⟩ := h
  exact ⟨t, m, TyX.ext s h⟩
theorem cut_mem {l : List V} {lo hi : Option Int} {x : V} (h : x ∈ cutV l lo hi) : x ∈ l := by
  unfold cutV at h
  exact List.mem_of_mem_drop (List.mem_of_mem_take h)
theorem ScrL.same {K : PySem.W.Frag} {H H' : Hp} {a : Addr} {xs : List V} (s : Same H H') (h : ScrL K H a xs) : ScrL K H' a xs := by
  rcases h with ⟨vs, h⟩ | h
  · exact .inl ⟨vs, s _ _ h⟩
  · exact .inr h
end K49
set_option maxHeartbeats 4000000
/-! ### a list of tuples in the heap -/
namespace Nd
open PySem PySem.Spec PyProof.Rows L2
def TupsAt {α : Type} (f : α → List V) (H : Hp) : List V → List α → Prop
  | [], [] => True
  | x :: xs, r :: rs => (∃ p, x = .ref p ∧ H p = some (.tup (f r))) ∧ TupsAt f H xs rs
  | _, _ => False
section
variable {α : Type} {f : α → List V} {H H' : Hp}
theorem TupsAt.len : ∀ {xs : List V} {rs : List α}, TupsAt f H xs rs → xs.length = rs.length
  | [], [], _ => rfl
  | _ :: _, _ :: _, h => congrArg (· + 1) (TupsAt.len h.2)
  | [], _ :: _, h => h.elim
  | _ :: _, [], h => h.elim
theorem TupsAt.mono (k : ∀ p (xs : List V), H p = some (.tup xs) → H' p = some (.tup xs)) : ∀ {xs : List V} {rs : List α}, TupsAt f H xs rs → TupsAt f H' xs rs
  | [], [], _ => trivial
  | _ :: _, _ :: _, ⟨⟨p, e, h⟩, t⟩ => ⟨⟨p, e, k p _ h⟩, TupsAt.mono k t⟩
  | [], _ :: _, h => h.elim
  | _ :: _, [], h => h.elim
theorem TupsAt.same {xs : List V} {rs : List α} (h : TupsAt f H xs rs) (s : Same H H') : TupsAt f H' xs rs := h.mono fun p r e => s _ _ e
/-- what lies at a is no tuple -/
theorem TupsAt.but {xs : List V} {rs : List α} {a : Addr} {ys : List V} (h : TupsAt f H xs rs) (b : But a H H') (ha : H a = some (.lst ys)) : TupsAt f H' xs rs := h.mono fun p r e => b p _ (by
  rintro rfl
  rw [ha] at e
  cases e) e
theorem TupsAt.upd {xs : List V} {rs : List α} {a : Addr} {o : HO} {ys : List V} (h : TupsAt f H xs rs) (ha : H a = some (.lst ys)) : TupsAt f (upd H a o) xs rs := h.but (But.upd But.refl) ha
theorem TupsAt.snoc {p : Addr} {r : α} (hp : H p = some (.tup (f r))) : ∀ {xs : List V} {rs : List α}, TupsAt f H xs rs → TupsAt f H (xs ++ [.ref p]) (rs ++ [r])
  | [], [], _ => ⟨⟨p, rfl, hp⟩, trivial⟩
  | _ :: _, _ :: _, ⟨h, t⟩ => ⟨h, TupsAt.snoc hp t⟩
  | [], _ :: _, h => h.elim
  | _ :: _, [], h => h.elim
theorem TupsAt.get : ∀ {xs : List V} {rs : List α} {i : Nat} {x : V}, TupsAt f H xs rs → xs[i]? = some x → ∃ p r, rs[i]? = some r ∧ x = .ref p ∧ H p = some (.tup (f r))
  | [], _, _, _, _, e => by simp at e
  | _ :: _, [], _, _, h, _ => h.elim
  | x :: xs, r :: rs, 0, y, ⟨⟨p, e1, h⟩, _⟩, e => by
    have e' : x = y := Option.some.inj e
    exact ⟨p, r, rfl, e' ▸ e1, h⟩
  | x :: xs, r :: rs, i + 1, y, ⟨_, t⟩, e => by
    obtain ⟨p, r', h1, h2, h3⟩ := t.get (i := i) (x := y) e
    exact ⟨p, r', h1, h2, h3⟩
theorem TupsAt.unsnoc : ∀ {rs : List α} {xs : List V} {r : α}, TupsAt f H xs (rs ++ [r]) → ∃ ys p, xs = ys ++ [.ref p] ∧ H p = some (.tup (f r)) ∧ TupsAt f H ys rs
  | [], [], _, h => h.elim
  | [], [x], r, ⟨⟨p, e, h⟩, _⟩ => ⟨[], p, by rw [e]; rfl, h, trivial⟩
  | [], x :: y :: t, r, ⟨_, h⟩ => h.elim
  | q :: rs, [], _, h => h.elim
  | q :: rs, x :: xs, r, ⟨h, t⟩ => by
    obtain ⟨ys, p, e, hp, ht⟩ := TupsAt.unsnoc (rs := rs) t
    exact ⟨x :: ys, p, by rw [e]; rfl, hp, h, ht⟩
theorem dp_tups {K : PySem.W.Frag} {g : α → List PyData} (hg : ∀ r, DpAll K H (f r) (g r)) : ∀ {xs : List V} {rs : List α}, TupsAt f H xs rs → DpAll K H xs (rs.map fun r => .tuple (g r))
  | [], [], _ => .nil
  | _ :: _, r :: _, ⟨⟨p, e, h⟩, t⟩ => by
    subst e
    exact .cons (.tup (SqT.of h) (hg r)) (dp_tups hg t)
  | [], _ :: _, h => h.elim
  | _ :: _, [], h => h.elim
end
theorem set_last {ys : List V} {x y : V} : (ys ++ [x]).set ys.length y = ys ++ [y] := by simp
theorem ix_last {ys : List V} {x : V} : ixN (ys ++ [x]).length (-1) = some ys.length := by
  unfold ixN
  rw [if_neg (by decide), if_pos (by rw [List.length_append, List.length_singleton]; omega), List.length_append, List.length_singleton]
  congr 1
  omega
end Nd
set_option maxHeartbeats 4000000
/-! ### .get of a dict of the module with text keys -/
namespace Nd
open PySem PySem.Spec PyProof.Rows L2
def tKGet2 (K : PySem.W.Frag) (d : Addr) (td ty tx : TE) : TE := fun σ H Q => td σ H fun x H1 => x = .ref d ∧ ty σ H1 fun y H2 => tx σ H2 fun z H3 => ∃ (k : Str) (r : Option Value), y = .str k ∧ PySem.W.nsIn K d k = some r ∧ (r = none → Q z H3) ∧ (∀ u, r = some u → ∃ v, RelV v u ∧ Q v H3)
theorem pe_kget2 {X : Cx} {o e f : Expr} {apos cpos : Pos} {td ty tx : TE} {d : Addr} {es : Array DictEntry} {n : Nat} (D : KDict X.K X.w d es n) (ho : PE X o td) (he : PE X e ty) (hf : PE X f tx) (m : M2 X o "get" apos e f cpos) : PE X (.Call (.Attribute o "get" apos) [e, f] [] cpos) (tKGet2 X.K d td ty tx) := by
  refine ⟨fun pins s σ H Q I h => ?_⟩
  refine wpAny_Call_method m.base m.few m.line PySem.F.plainAttrs_dict PySem.F.slot_dict_get PySem.F.type_dict_get (thn (ho.run pins s σ H _ I h) fun u s1 ⟨x, H1, I1, rx, ex, q1⟩ => ?_)
  subst ex
  obtain rfl : u = Value.ref d := rx
  refine ⟨kd_type D I1, fun b q => ?_, ?_⟩
  · cases q
    exact ⟨_, I1.kIn _ _ D.at_, rfl⟩
  rw [m.trees]
  refine Calls.callWith_builtin rfl (Calls.evalArgs_plain (Calls.spliced_cons (thn (he.run pins s1 σ H1 _ I1 q1) fun iv s2 ⟨y, H2, I2, ry, q2⟩ =>
    Calls.spliced_cons (thn (hf.run pins s2 σ H2 _ I2 q2) fun fv s3 ⟨z, H3, I3, rz, k, r, ek, er, q3, q4⟩ => Calls.spliced_nil ?_))))
  subst ek
  obtain ⟨t, rfl⟩ := ry
  have mo := PySem.W.mapOf_K (prog := X.prog) (w := X.w) I3.kIn D.at_ D.lit
  refine call_meetsIn PySem.F.slot_dict_get mo.typeIs PySem.F.entry_dict_get (PySem.F.args_dict_get_3 _ _ _) (meets_dict_get_default (PySem.strKind X.prog X.w) d (PySem.strKind_is X.prog X.w k t) D.low fv) ⟨_, mo, ?_⟩
  have ef := PySem.W.find_K D.at_ er
  show EP X pins σ Q ((findBy Value.isStrOf es k).getD fv) { s3 with toks := s3.toks + 1 }
  rw [ef]
  cases r with
  | none => exact ⟨z, H3, I3.tok _, rz, q3 rfl⟩
  | some u =>
    obtain ⟨v, rv, q⟩ := q4 u rfl
    exact ⟨v, H3, I3.tok _, rv, q⟩
end Nd
set_option maxHeartbeats 4000000
/-! ### enumerate of a list or a tuple -/
namespace Nd
open PySem PySem.Spec PyProof.Rows L2
theorem meets_enumB {v : Value} {o : Obj} {G : Heap → Prop} (B : Begins v o G) :
    Meets (Builtin.«enumerate.__new__» ⟨[.type "enumerate", v], []⟩) (fun _ R s => G s.heap ∧
      R (.ok (.ret (.ref (s.heap.push o).objs.size))) { s with heap := (s.heap.push o).push { cls := .type "enumerate", data := .fields #[.none, .bool false, .ref s.heap.objs.size, rawInt 0, .none, .none] } }) :=
  .of_wp fun prog w A R s h => by
    obtain ⟨hp, g, d, tk, os⟩ := s
    obtain ⟨h1, h⟩ := h
    have hsub := sub_enumerate
    have q1 : ∀ {A' : Around} {E : Value → Shared → Prop} {Q : Value → Shared → Prop}, Q (.ref hp.objs.size) ⟨hp.push o, g, d, tk, os⟩ → wpAny (model prog w) A' (pyIter v) Q E ⟨hp, g, d, tk, os⟩ :=
      fun q => B.iter prog w _ _ ⟨hp, g, d, tk, os⟩ _ h1 q
    wp_walk using q1
    refine wpAny_stack_any fun st => wpAny_pure ?_
    split
    · rename_i c _ _ _ _ _
      cases (c == Value.type "enumerate")
      · wp_walk using q1
        exact ⟨_, rfl, h⟩
      · wp_walk using q1
        exact ⟨_, rfl, h⟩
    · wp_walk using q1
      exact ⟨_, rfl, h⟩
theorem enumB {prog : Program} {w : World} {A : Around} {E : Value → Shared → Prop} {s : Shared} {v : Value} {o : Obj} {G : Heap → Prop} {Q : Value → Shared → Prop} (B : Begins v o G) (h1 : G s.heap)
    (h : ∀ h', IsEnum h' (s.heap.objs.size + 1) s.heap.objs.size 0 .none → h'.get? s.heap.objs.size = some o → h'.objs.size = s.heap.objs.size + 2 →
      (∀ b o, s.heap.get? b = some o → h'.get? b = some o) → Q (.ref (s.heap.objs.size + 1)) { s with heap := h' }) :
    wpAny (model prog w) A (call (.type "enumerate") [v]) Q E s := by
  refine callType_new F.called_enumerate (by decide) (F.typeCall_enumerate_1 _) (F.newCall_enumerate_1 _) (fun obj => F.args_object_init_2 obj _) F.entry_enumerate_new
    (meets_enumB B) ⟨h1, ?_⟩
  have hz : (s.heap.push o).objs.size = s.heap.objs.size + 1 := Heap.size_push ..
  show _ ∧ _
  rw [hz]
  have he : IsEnum ((s.heap.push o).push { cls := .type "enumerate", data := .fields #[.none, .bool false, .ref s.heap.objs.size, rawInt 0, .none, .none] }) (s.heap.objs.size + 1) s.heap.objs.size 0 .none := by
    have := Heap.get?_push_size (s.heap.push o) (o := { cls := .type "enumerate", data := .fields #[.none, .bool false, .ref s.heap.objs.size, rawInt 0, .none, .none] }) rfl
    rw [hz] at this; exact this
  exact ⟨⟨_, he, rfl⟩, h _ he (Heap.get?_push_of_some _ (Heap.get?_push_size _ B.free)) (by rw [Heap.size_push, hz]) fun b o x => Heap.get?_push_of_some _ (Heap.get?_push_of_some _ x)⟩
/-- the tuple at a, each item in a new pair -/
def Itet (K : PySem.W.Frag) (a : Addr) : It :=
  ⟨fun i H => ∃ (xs : List V) (x : V), SqT K H a xs ∧ xs[i]? = some x, fun i H v H' => ∃ T x, v = .ref T ∧ H T = none ∧ H' = upd H T (.tup [.int (i : Nat), x]) ∧ ∀ xs, SqT K H a xs → xs[i]? = some x, fun i H => ∃ xs : List V, SqT K H a xs ∧ xs.length = i⟩
theorem turn_enumt {P : Program} {w : World} {K : PySem.W.Frag} {elts : List Expr} {kk : Nat} {tpos : Pos} (a e it : Addr) (nai : a ≠ it) (nae : e ≠ a) :
    Turn P w K (.Tuple elts kk tpos) (Itet K a) [e, it] e (fun i h => (∃ old, IsEnum h e it ((i : Nat) : Int) old) ∧ h.IsTupleIter it a i ∧ e ≠ it) where
  mem := by simp
  obj := fun i h st b hb => by
    obtain ⟨⟨old, he⟩, ⟨o, ho, hc, hd⟩, _⟩ := st
    have e' : b = e ∨ b = it := by simpa using hb
    rcases e' with z | z
    · rw [z]; exact ⟨_, he, fun v q => nomatch q⟩
    · rw [z]; exact ⟨o, ho, fun v q => by rw [hd] at q; cases q⟩
  keep := fun i h h' st k => let ⟨⟨old, he⟩, hi, hne⟩ := st; ⟨⟨old, k e (by simp) _ he⟩, hi.at fun o q => k it (by simp) o q, hne⟩
  item := by
    intro X hP hw hK hc i pins s σ H E I hf st hg
    subst hP hw hK
    obtain ⟨⟨old, he⟩, hit, hne⟩ := st
    obtain ⟨xs, x, hq, hx⟩ := hg
    obtain ⟨its, rv, p, hz⟩ := I.tuple hq
    obtain ⟨u, hu, ru⟩ := rv.get hx
    have hel : e < s.heap.objs.size := Heap.lt_size he
    have hil : it < s.heap.objs.size := by obtain ⟨_, q, _⟩ := hit; exact Heap.lt_size q
    have hi : i < its.toArray.size := by
      rw [List.size_toArray]
      exact (List.getElem?_eq_some_iff.mp hu).1
    have D : Draws X.prog X.w X.A.in1 it [it, a] its.toArray.size (fun i v => its.toArray[i]? = some v) (fun i h => h.IsTupleIter it a i ∧ h.IsTuple a its.toArray) := Draws.tuple (A := X.A.in1) (show X.A.in1.handled = none from I.ok.hd hc) it a nai its.toArray
    refine wpAny_pyNext_enum_itemD D he ⟨hit, p⟩ hi hne (by simp [hne, nae]) fun u' h' tk hu' ho hit' hT hsz hk => ?_
    obtain rfl : u' = u := by
      have z : its[i]? = some u' := by simpa using hu'
      exact Option.some.inj (z.symm.trans hu)
    refine ⟨_, rfl, wpAny_letOwnedTupleGo_enum (s := { s with heap := h', toks := tk + 1 }) ho fun h'' he' sb => ?_⟩
    have hT2 : h''.get? s.heap.objs.size = some { cls := .type "tuple", data := .seq #[.int i tk, u'] } := (sb.2 _ (Nat.ne_of_gt hel)).trans hT
    have new : ObjOk X.prog X.w (upd H s.heap.objs.size (.tup [.int (i : Nat), x])) h'' s.heap.objs.size (.tup [.int (i : Nat), x]) :=
      ⟨by show 2 ≤ sizeLine; decide, [.int i tk, u'], .cons ⟨_, rfl⟩ (.cons ru .nil), ⟨_, hT2, rfl, _, rfl⟩⟩
    have I1 : Inv X pins σ (upd H s.heap.objs.size (.tup [.int (i : Nat), x])) { s with heap := h'', toks := tk + 1 } :=
      I.turnedNew (ch := [e, it]) (fun b ob hb q => (sb.2 b (fun z => hb (by simp [z]))).trans (hk b ob (fun z => hb (by simp [z])) (fun z => hb (by simp [z])) q)) hf (Nat.le_refl _) new
    refine ⟨.ref s.heap.objs.size, _, I1, rfl, ⟨_, x, rfl, I.hok.fresh (Nat.le_refl _), rfl, fun ys hy => by rw [I.tuple_inj hy hq]; exact hx⟩, ⟨⟨u', ?_⟩, hit'.1.at fun o q => (sb.2 it (Ne.symm hne)).trans q, hne⟩, fun b hb => ?_⟩
    · have e1 : ((i + 1 : Nat) : Int) = (i : Int) + 1 := by omega
      rw [e1]; exact he'
    · have hb' : b < s.heap.objs.size := by
        have e' : b = e ∨ b = it := by simpa using hb
        rcases e' with z | z
        · rw [z]; exact hel
        · rw [z]; exact hil
      rw [upd_ne (Nat.ne_of_lt hb')]
      exact (hf b hb).1
  done := by
    intro X hP hw hK hc i pins s σ H E I hf st hg
    subst hP hw hK
    obtain ⟨⟨old, he⟩, hit, hne⟩ := st
    obtain ⟨xs, hq, hx⟩ := hg
    obtain ⟨its, rv, p, hz⟩ := I.tuple hq
    obtain ⟨f0, f1, f2, f3, f4, f5⟩ := hf it (by simp)
    have hl := rv.length
    have D : Draws X.prog X.w X.A.in1 it [it, a] its.toArray.size (fun i v => its.toArray[i]? = some v) (fun i h => h.IsTupleIter it a i ∧ h.IsTuple a its.toArray) := Draws.tuple (A := X.A.in1) (show X.A.in1.handled = none from I.ok.hd hc) it a nai its.toArray
    have e : i = its.toArray.size := by rw [List.size_toArray, ← hl, hx]
    rw [e] at he hit
    exact wpAny_pyNext_enum_endD D he ⟨hit, p⟩ fun h' eb => ⟨rfl, I.turned (t' := s.toks) (fun b o hb q => eb b o hb q) f0 f1 f3 f4 f5⟩
  self := fun A i s Q E st h => let ⟨⟨_, he⟩, _⟩ := st; wpAny_pyIter_enum he h
def iEnumB (K : PySem.W.Frag) (ta : TA) : TI := fun σ H R => ta σ H fun vs H1 => ∃ a, vs = [.ref a] ∧ ((∃ xs, SqL K H1 a xs) ∧ R (Ite K a) H1 ∨ (∃ xs, SqT K H1 a xs) ∧ R (Itet K a) H1)
theorem pi_enumB {X : Cx} {e : Expr} {ta : TA} {p pos tpos : Pos} {elts : List Expr} {kk : Nat} (hg : Gl X "enumerate") (hm : X.mg "enumerate" = none) (ha : PA X [e] ta) (hs : starEach [e] X.env = [(false, eval e X.env)] := by rfl) :
    PI X (.Tuple elts kk tpos) (.Call (.Name "enumerate" p) [e] [] pos) (iEnumB X.K ta) := by
  refine ⟨fun pins s σ H R I h => ?_⟩
  refine Call_ (ld_blt I hg hm boot_enumerate (PyProof.Rows.callWith_type1 (thn (ha.run pos pins s σ H _ I h) fun us s1 ⟨vs, H1, I1, r1, q1⟩ => ?_) hs rfl))
  obtain ⟨a, ex, q⟩ := q1
  subst ex
  cases r1 with
  | cons r rr =>
    cases rr
    cases r
    have ff : ∀ b ∈ [s1.heap.objs.size + 1, s1.heap.objs.size], s1.heap.objs.size ≤ b := fun b hb => by
      have e' : b = s1.heap.objs.size + 1 ∨ b = s1.heap.objs.size := by simpa using hb
      rcases e' with z | z
      · rw [z]; exact Nat.le_add_right _ _
      · rw [z]; exact Nat.le_refl _
    rcases q with ⟨⟨xs, hq⟩, q⟩ | ⟨⟨xs, hq⟩, q⟩
    · obtain ⟨its, rv, p', hz⟩ := I1.list hq
      refine call_enumerate_list p'.isList fun h' he hit hsz hk => wpAny_pyIter_enum he ?_
      have I2 : Inv X pins σ H1 { s1 with heap := h' } := I1.kept (t' := s1.toks) hk
      exact ⟨s1.heap.objs.size + 1, [s1.heap.objs.size + 1, s1.heap.objs.size], _, _, H1, rfl, I2, turn_enum a (s1.heap.objs.size + 1) s1.heap.objs.size, ⟨⟨.none, he⟩, hit, Nat.succ_ne_self _⟩, fun b hb => I1.fpOk (ff b hb) (I1.hok.fresh (ff b hb)), q⟩
    · obtain ⟨its, rv, p', hz⟩ := I1.tuple hq
      have hal : a < s1.heap.objs.size := by
        obtain ⟨o, ho, _⟩ := id p'
        exact Heap.lt_size ho
      refine enumB (begins_tuple a its.toArray) (show s1.heap.IsTuple a its.toArray from p') fun h' he hit hsz hk => wpAny_pyIter_enum he ?_
      have I2 : Inv X pins σ H1 { s1 with heap := h' } := I1.kept (t' := s1.toks) hk
      exact ⟨s1.heap.objs.size + 1, [s1.heap.objs.size + 1, s1.heap.objs.size], _, _, H1, rfl, I2, turn_enumt a (s1.heap.objs.size + 1) s1.heap.objs.size (Nat.ne_of_lt hal) (Nat.ne_of_gt (Nat.lt_succ_of_lt hal)), ⟨⟨.none, he⟩, ⟨_, hit, rfl, rfl⟩, Nat.succ_ne_self _⟩, fun b hb => I1.fpOk (ff b hb) (I1.hok.fresh (ff b hb)), q⟩
theorem walk_enumt {K : PySem.W.Frag} {a : Addr} {xs : List V} : Walk (Itet K a) xs.length (fun H => SqT K H a xs) (YPair (fun i => some (.int (i : Nat))) (fun i => xs[i]?)) := by
  refine ⟨fun i _ hi q => ⟨xs, xs[i], q, by simp [hi]⟩, fun _ q => ⟨xs, q, rfl⟩, fun i H v H' _ q y => ?_⟩
  obtain ⟨T, x, h1, h2, h3, h4⟩ := y
  exact ⟨T, .int (i : Nat), x, h1, h2, h3, rfl, h4 xs q⟩
theorem for_enumB {K : PySem.W.Frag} {a : Addr} {xs : List V} {g : TG} {tb : TS} {D : Ends} {σ : L2.St} {H0 H : Hp} (hq : SqB K H0 a xs) (Pv : Nat → L2.St → Hp → Prop) (h0 : Pv 0 σ H) (hl : ∀ i σ H', i ≤ xs.length → Pv i σ H' → Same H0 H')
    (hs : ∀ i x σ H T, xs[i]? = some x → Pv i σ H → H T = none → g (.ref T) σ (upd H T (.tup [.int (i : Nat), x])) fun σ2 H2 => tb { D with nx := Pv (i + 1), ct := Pv (i + 1), bk := D.nx } σ2 H2) (hd : ∀ σ H, Pv xs.length σ H → D.nx σ H) :
    (∃ xs, SqL K H a xs) ∧ (∃ W : Nat → Nat → L2.St → Hp → Prop, (∃ m, W 0 m σ H) ∧ ∀ i m σ H, W i m σ H →
      ((Ite K a).stop i H ∧ D.nx σ H) ∨ ((Ite K a).go i H ∧ ∃ N : L2.St → Hp → Prop, (∀ σ' H', N σ' H' → ∃ m', m' < m ∧ W (i + 1) m' σ' H') ∧ ∀ x H', (Ite K a).yld i H x H' → g x σ H' fun σ2 H2 => tb { D with nx := N, ct := N, bk := D.nx } σ2 H2)) ∨
    (∃ xs, SqT K H a xs) ∧ (∃ W : Nat → Nat → L2.St → Hp → Prop, (∃ m, W 0 m σ H) ∧ ∀ i m σ H, W i m σ H →
      ((Itet K a).stop i H ∧ D.nx σ H) ∨ ((Itet K a).go i H ∧ ∃ N : L2.St → Hp → Prop, (∀ σ' H', N σ' H' → ∃ m', m' < m ∧ W (i + 1) m' σ' H') ∧ ∀ x H', (Itet K a).yld i H x H' → g x σ H' fun σ2 H2 => tb { D with nx := N, ct := N, bk := D.nx } σ2 H2)) := by
  have step : ∀ i x σ H H', i < xs.length → Pv i σ H → YPair (fun i => some (.int (i : Nat))) (fun i => xs[i]?) i H x H' → g x σ H' fun σ2 H2 => tb { D with nx := Pv (i + 1), ct := Pv (i + 1), bk := D.nx } σ2 H2 := by
    rintro i x σ H H' hi p ⟨T, u, v, rfl, h2, rfl, h4, h5⟩
    cases h4
    exact hs i v σ H T h5 p h2
  rcases hq with h | h
  · exact .inl ⟨⟨_, (hl 0 σ H (Nat.zero_le _) h0).seq h⟩, for_it walk_enum Pv h0 (fun i σ H' l p => (hl i σ H' l p).seq h) step hd⟩
  · exact .inr ⟨⟨_, seqT (hl 0 σ H (Nat.zero_le _) h0) h⟩, for_it walk_enumt Pv h0 (fun i σ H' l p => seqT (hl i σ H' l p) h) step hd⟩
end Nd
set_option maxHeartbeats 4000000
/-! ### own errors whose field is «at» -/
namespace PySem
namespace NxA
open PySem.W PySem.Calls PyProof.Rows PySem.HandSPX
def iA (p1 p2 : Pos) : Arguments := { posonlyargs := [], args := [{ arg := "self", annotation := none, pos := p1 }, { arg := "at", annotation := none, pos := p2 }], vararg := none, kwonlyargs := [], kw_defaults := [], kwarg := none, defaults := [] }
def iB (q1 q2 q3 q4 q5 q6 q7 q8 q9 q10 : Pos) : List Stmt :=
  [.Expr (.Call (.Attribute (.Call (.Name "super" q1) [] [] q2) "__init__" q3) [.Name "at" q4] [] q5) q6, .Assign [.Attribute (.Name "self" q7) "at" q8] (.Name "at" q9) q10]
def iS : Scope := { kind := .function, names := [(PySem.Str.ofString "self", .local), (PySem.Str.ofString "at", .local), (PySem.Str.ofString "__class__", .free), (PySem.Str.ofString "super", .globalImplicit)], isGenerator := false, isCoroutine := false, more := [] }
/-- what the written part says of the class at C and of its __init__ at fI -/
structure Txt (P : Program) (K : Frag) (mg : Str → Option Value) (C fI : Addr) : Prop where
  ox : L2.OexC K C
  noN : findIn K (.ref C) "at" = some none
  iC : findIn K (.ref C) "__init__" = some (some (.ref fI))
  tI : typeIn K (.ref fI) = some (.type "function")
  sup : ks_superIn K C C "__init__" = some (some (.builtin "ValueError.__init__"))
  sub : mroIn K C (.ref C) = some true
  isB : subIn K (.ref C) (.type "ValueError") = some true
  tp : nsIn K cStatics "thirdparty.any" = some none
  noS : mg "super" = none
  top : (P.main.scope.names.lookup ("super" : Str)).isSome = false
  fn : ∃ (qn : Str) (oc ccl cl ct doc pm : Value) (od cdd cld an : Option Addr) (osl ccs csl : Array (Option Value)) (cda cc : Addr) (vs : Array Value) (file : Str) (tf : Tok) (p1 p2 q1 q2 q3 q4 q5 q6 q7 q8 q9 q10 : Pos),
    K.lookup fI = some ⟨oc, od, .func (ksFn "__init__" qn (iA p1 p2) (iB q1 q2 q3 q4 q5 q6 q7 q8 q9 q10) iS .none .none doc pm an (.ref cda) ct cc), osl⟩ ∧ codeIn K (.ref cda) qn = true ∧
    K.lookup cda = some ⟨ccl, cdd, .fields vs, ccs⟩ ∧ vs[2]? = some (.str file tf) ∧ ((P.main.file : Str) == file) = true ∧
    K.lookup cc = some ⟨cl, cld, .cell (some (.ref C)), csl⟩ ∧
    (∀ env : Env, ∃ pl : Sem Bool, eval (.Call (.Attribute (.Call (.Name "super" q1) [] [] q2) "__init__" q3) [.Name "at" q4] [] q5) env = (do
      let ov ← attributeBase (.Call (.Name "super" q1) [] [] q2) "__init__" env (eval (.Call (.Name "super" q1) [] [] q2) env)
      standAt q3.atName
      let (f, first) ← holding [ov] (getMethod ov "__init__" pl)
      callWith q5 f first (backTo q5 (starEach [.Name "at" q4] env)) []))
section
variable {prog : Program} {w : World} {A : Around} {R : Result → Shared → Prop} {s : Shared} {K : Frag} {mg mb : Str → Option Value} {C fI : Addr}
/-- what __init__ leaves of a fresh exception at x -/
structure InitEnd (h h' : Heap) (x C dx t1 : Addr) (v : Value) : Prop where
  keep : ∀ b o, b ≠ x → h.get? b = some o → h'.get? b = some o
  obj : h'.get? x = some { cls := .ref C, dict := some dx, data := .fields #[.ref t1, .none, .none, .none, .bool false, .none] }
  dbig : h.objs.size ≤ dx
  dne : dx ≠ x
  ns : h'.Ns1 dx (fun y => if y = "at" then some v else none)
theorem init_ok (T : Txt prog K mg C fI) {x t0 : Addr} {v : Value} (X : K.In s.heap) (hns : s.heap.Ns mainGlobals mg) (hbl : s.heap.Ns builtinsNs mb) (hbb : ∀ x : Str, x ≠ "__name__" → mb x = bootBuiltins x) (hlim : s.heap.NoLimit)
    (hx : s.heap.get? x = some (excO C t0)) (hnx : K.lookup x = none) (hroom : A.depth < recursionLimit)
    (hq : ∀ h' tk dx t1, InitEnd s.heap h' x C dx t1 v → R (.ok (.ret .none)) { s with heap := h', toks := tk }) :
    codeAny (model prog w) A (.call (.ref fI) ⟨[.ref x, v], []⟩) R s := by
  obtain ⟨qn, oc, ccl, cl, ct, doc, pm, od, cdd, cld, an, osl, ccs, csl, cda, cc, vs, file, tf, p1, p2, q1, q2, q3, q4, q5, q6, q7, q8, q9, q10, ho, hcd, hcode, hvs, hfile, hcell, hev⟩ := T.fn
  obtain ⟨nm, q, N, bs, bm, sn, sub, ab, col, dd, k0, k1, k2, k3, k5, hC, hbm⟩ := T.ox.cls
  have hcl : clsIn K C = some { name := nm, bases := bs, mro := .ref C :: bm, ns := N, qualname := q, hasDict := true, slotNames := sn, subclasses := sub, abstract := ab, collection := col, hasDel := false } := by unfold clsIn; rw [hC] <;> rfl
  refine ks_codeAny_call_defAt (fd := ksFn "__init__" qn (iA p1 p2) (iB q1 q2 q3 q4 q5 q6 q7 q8 q9 q10) iS .none .none doc pm an (.ref cda) ct cc) (body := iB q1 q2 q3 q4 q5 q6 q7 q8 q9 q10) (binds := [("self", .ref x), ("at", v)])
    hroom (X _ _ ho) rfl hlim (codeRec_of X hcd) rfl (BindsTo.of_eq (by first | rfl | with_unfolding_all rfl)) (show ∀ x ∈ iS.names, x.2 ≠ NameKind.cell from by decide +kernel) (by
      intro y hy
      rcases List.mem_cons.mp hy with rfl | hy
      · exact (show iS.names.lookup ("self" : Str) = some .local from by decide +kernel)
      · rcases List.mem_cons.mp hy with rfl | hy
        · exact (show iS.names.lookup ("at" : Str) = some .local from by decide +kernel)
        · cases hy) (fun h₁ hn₁ k₁ => ?_)
  have X₁ : K.In h₁ := X.keeps k₁
  have hx₁ := k₁ _ _ hx
  obtain ⟨hp, g, dr, tk, os⟩ := s
  -- super().__init__(field)
  obtain ⟨pl, he⟩ := hev (ksEnv qn iS hp.objs.size fI (.ref cda) cc)
  refine ks_wpAt_execs_cons (ks_wpAt_Expr_any (ks_wpAt_MethodCall (pl := pl) ?_ he))
  refine ks_wpAt_super_base (env := ksEnv qn iS hp.objs.size fI (.ref cda) cc) rfl rfl (by decide +kernel) rfl (X₁ _ _ ho) rfl rfl rfl (X₁ _ _ hcode) rfl hvs hfile T.top ?_
  refine ks_loadName_global rfl rfl (loadGlobal_builtin (env := ksEnv qn iS hp.objs.size fI (.ref cda) cc) (hns.keeps k₁) T.noS (hbl.keeps k₁) ((hbb _ (by decide +kernel)).trans Boot.«super») ⟨rfl, ?_⟩)
  refine wpAny_loadName_free rfl rfl rfl ⟨_, X₁ _ _ hcell, rfl⟩ ?_
  refine wpAny_loadName_local rfl rfl hn₁ rfl ?_
  refine ks_wpAny_isType_cls (X₁ _ _ hC) rfl ⟨rfl, ?_⟩
  refine ks_wpAny_call_super (X₁ _ _ hC) rfl hx₁ rfl (fun c e => by cases e) (looks_mroIn X₁ T.sub) (fun h₂ e₂ k₂ => ?_)
  have X₂ : K.In h₂ := X₁.keeps k₂
  have hx₂ := k₂ _ _ hx₁
  have hm : alongIn K "__init__" (((Value.ref C :: bm).dropWhile (· != .ref C)).drop 1) = some (some (.builtin "ValueError.__init__")) := by
    have z := T.sup
    unfold ks_superIn at z
    rw [hcl] at z
    exact z
  have hI : Looks (model prog w) h₂ (isInstance (.ref x) (.type "ValueError")) true := (show InstAt h₂ x (excO C t0) C none from ⟨hx₂, rfl, rfl, trivial⟩).type.andThen (looks_subIn X₂ T.isB)
  have nxC : x ≠ C := by
    rintro rfl
    have z := X₂ _ _ hC
    rw [hx₂] at z
    cases z
  refine kxs_getMethod kxs_ValueError e₂ (looks_opaque X₂ T.tp) (l₀ := .ref C :: bm) (fun A Q E s k q => wpAny_bind ((looks_clsIn X₂ hcl) A _ E s k (wpAny_pure q))) rfl X₂ hm hI nxC (by decide +kernel) ?_
  have k₃ : ∀ b o, h₂.get? b = some o → (h₂.push (kxs_mw "ValueError.__init__" x)).get? b = some o := fun b o e => Heap.get?_push_of_some _ e
  have e₃ : (h₂.push (kxs_mw "ValueError.__init__" x)).get? h₂.objs.size = some (kxs_mw "ValueError.__init__" x) := Heap.get?_push_at rfl rfl
  have n₃ := (hn₁.keeps k₂).keeps k₃
  have X₃ := X₂.keeps k₃
  have hx₃ := k₃ _ _ hx₂
  refine kxs_callWith (i := "ValueError.__init__") (x := x) (by rfl) (evalArgs_plain ?_)
  show wpAny _ _ (spliced ((false, eval (.Name "at" q4) (ksEnv qn iS hp.objs.size fI (.ref cda) cc)) :: backTo q5 (starEach [] (ksEnv qn iS hp.objs.size fI (.ref cda) cc)))) _ _ _
  refine Calls.spliced_cons (wpAny_Name (wpAny_loadName_local rfl rfl n₃ rfl ?_) (by decide +kernel))
  refine Calls.spliced_nil ⟨e₃, ?_⟩
  show wpAny _ _ (call (.ref h₂.objs.size) [v]) _ _ _
  refine wpAny_call (codeAny_of_tree ?_)
  show wpAny _ _ (callAny (.ref h₂.objs.size) ⟨[v], []⟩) _ _ _
  simp only [callAny]
  refine wpAny_bind (wpAny_load e₃ ?_)
  simp only [kxs_mw, show (Value.type "method-wrapper" == Value.type "method" || Value.type "method-wrapper" == Value.type "builtin_function_or_method" || Value.type "method-wrapper" == Value.type "method-wrapper") = true by decide, if_true]
  refine KFB.if_so (by decide) ?_
  refine wpAny_bind (check_bound_init PySem.F.excBase_ValueError.toExcCallFacts (X₃ _ _ hC) hx₃ rfl ?_)
  refine wpAny_bind (wpAny_pure (wpAny_pure ?_))
  refine ⟨plainId_quiet PySem.F.excBase_ValueError.init.plain _, codeAny_builtin PySem.F.excBase_ValueError.initEntry ?_⟩
  refine exc_init_tree (e := x) (cls := .ref C) (dv := none) (c2 := .none) (c3 := .none) (b4 := .bool false) hx₃ (by show 1 ≤ sizeLine; rw [sizeLine_eq]; decide) (fun h₄ k₄ hx₄ _ => ?_)
  have X₄ : K.In h₄ := fun b o e => k₄ b o (fun z => by rw [z, hnx] at e; cases e) (X₃ b o e)
  have xL : hp.objs.size ≠ x := Nat.ne_of_gt (Heap.lt_size hx)
  have n₄ : h₄.Ns hp.objs.size (fun y => List.lookup y [(("self" : Str), Value.ref x), (("at" : Str), v)].reverse) := by
    obtain ⟨o, es, ep, e, r⟩ := n₃
    exact ⟨o, es, ep, k₄ _ _ xL e, r⟩
  -- self.field = field
  refine wpAt_of_wpAny (wpAny_execs_cons (plainObj_wpAny_Assign_Attribute ?_))
  refine wpAny_Name (wpAny_loadName_local rfl rfl n₄ rfl (wpAny_Name (wpAny_loadName_local rfl rfl n₄ rfl ?_) (by decide +kernel))) (by decide +kernel)
  refine set_plain X₄ (ox := excO C (h₂.push (kxs_mw "ValueError.__init__" x)).objs.size) (od := none) ⟨hx₄, rfl, rfl, trivial⟩ T.ox.sa ?_
  refine exc_osa X₄ hx₄ hcl (show refsVE (.ref C :: bm) = true from hbm) rfl T.noN (fun h₅ tk₅ dx k₅ dn dne hx₅ hn₅ => ?_)
  have old : ∀ b o, b ≠ x → hp.get? b = some o → h₅.get? b = some o := fun b o hb e => k₅ b o hb (k₄ b o hb (k₃ b o (k₂ b o (k₁ b o e))))
  have big : hp.objs.size ≤ dx := by
    obtain ⟨o, es, ep, e, r⟩ := n₄
    exact Nat.le_of_lt (Nat.lt_of_lt_of_le (Heap.lt_size e) dn)
  exact wpAny_execs_nil (hq h₅ tk₅ dx _ ⟨old, hx₅, big, dne, hn₅⟩)
end
end NxA
end PySem
namespace PySem
namespace NxA
open PySem.W PySem.Calls PyProof.Rows PySem.HandSPX
section
variable {prog : Program} {w : World} {A : Around} {R : Result → Shared → Prop} {s : Shared} {K : Frag} {mg mb : Str → Option Value} {C fI : Addr}
/-- a made exception -/
structure Made (h h' : Heap) (e C d : Addr) (v : Value) : Prop where
  keep : ∀ b o, h.get? b = some o → h'.get? b = some o
  new : h.objs.size ≤ e
  obj : ∃ oe vs, h'.get? e = some oe ∧ oe.cls = .ref C ∧ oe.dict = some d ∧ oe.data = .fields vs ∧ vs[1]? = some .none
  dbig : h.objs.size ≤ d
  dne : d ≠ e
  ns : h'.Ns1 d (fun y => if y = "at" then some v else none)
theorem made_ok (T : Txt prog K mg C fI) {v : Value} (X : K.In s.heap) (hns : s.heap.Ns mainGlobals mg) (hbl : s.heap.Ns builtinsNs mb) (hbb : ∀ x : Str, x ≠ "__name__" → mb x = bootBuiltins x) (hlim : s.heap.NoLimit) (hroom : A.depth + 1 < recursionLimit)
    (hq : ∀ h' tk e d, Made s.heap h' e C d v → R (.ok (.ret (.ref e))) { s with heap := h', toks := tk }) :
    codeAny (model prog w) A (.call (.ref C) ⟨[v], []⟩) R s := by
  obtain ⟨nm, q, N, bs, bm, sn, sub, ab, col, dd, k0, k1, k2, k3, k5, hC, hbm⟩ := T.ox.cls
  obtain ⟨hp, g, dr, tk, os⟩ := s
  have k : ∀ b o, hp.get? b = some o → ((hp.push (kdv_tup [v])).push (excO C hp.objs.size)).get? b = some o := fun b o e => Heap.get?_push_of_some _ (Heap.get?_push_of_some _ e)
  have hget : ((hp.push (kdv_tup [v])).push (excO C hp.objs.size)).get? (hp.objs.size + 1) = some (excO C hp.objs.size) := by heap_get
  have hnx : K.lookup (hp.objs.size + 1) = none := by
    cases e : K.lookup (hp.objs.size + 1) with
    | none => rfl
    | some o =>
      have z : hp.get? (hp.objs.size + 1) = some o := X _ _ e
      exact absurd (Nat.lt_of_succ_lt (Heap.lt_size z)) (Nat.lt_irrefl _)
  have one : [v].length ≤ sizeLine := by
    show 1 ≤ sizeLine
    rw [sizeLine_eq]
    decide
  refine call_own PySem.F.excBase_ValueError (fun X => refsVE_contains X bm hbm) (X _ _ hC) (looks_findIn X T.iC) (fun self => bind_fn X self T.tI) one ?_
  refine init_ok (s := ⟨(hp.push (kdv_tup [v])).push (excO C hp.objs.size), g, dr, tk, os⟩) T (X.keeps k) (hns.keeps k) (hbl.keeps k) hbb (hlim.keeps k) hget hnx ?_ fun h' tk' dx t1 ⟨k', hx, dn, dne, hns'⟩ => ?_
  · show A.depth + 1 < recursionLimit
    exact hroom
  · have old : ∀ b o, hp.get? b = some o → h'.get? b = some o := fun b o e => k' b o (Nat.ne_of_lt (Nat.lt_succ_of_lt (Heap.lt_size e))) (k b o e)
    have z : hp.objs.size + 1 + 1 ≤ dx := by
      first
        | (simpa only [Heap.size_push] using dn)
        | exact dn
        | (have q := dn; rw [Heap.size_push, Heap.size_push] at q; exact q)
    exact ⟨rfl, hq h' tk' (hp.objs.size + 1) dx ⟨old, Nat.le_succ _, ⟨_, _, hx, rfl, rfl, rfl, rfl⟩, Nat.le_trans (Nat.le_trans (Nat.le_succ _) (Nat.le_succ _)) z, dne, hns'⟩⟩
end
end NxA
end PySem
namespace L2
open PySem PySem.Spec PyProof.Rows
section
variable {X : Cx} {C fI : Addr}
theorem pmk_nxA {a : Expr} {ta : TA} {x : Str} {p pos : Pos} {k : Nat} (T : PySem.NxA.Txt X.prog X.K X.mg C fI) (hr : Room k X.A) (ha : PA X [a] ta) (hg : Gl X x) (hm : X.mg x = some (.ref C)) (hdb : (x == ("__debug__" : Str)) = false := by decide)
    (he : starEach (a :: []) X.env = (false, eval a X.env) :: starEach [] X.env := by rfl) (hpl : (backTo pos (starEach [] X.env)).any (·.1) = false := by rfl) :
    PMk X (.Call (.Name x p) [a] [] pos) (tMkNx "at" C ta) := by
  intro pins s σ H Q I h
  refine wpAny_Call_Name_kw (ld_glob I hg hm ?_ hdb)
  refine PySem.W.callWith_K (h₀ := X.base) I.ok.mod.kin T.ox.kC (thn (ha.run pos pins s σ H _ I h) fun us s1 hh => ?_) he hpl
  obtain ⟨vs, H1, I1, r1, v, ev, q1⟩ := hh
  subst ev
  refine ⟨I1.kIn, ?_⟩
  cases r1 with
  | cons rv rn =>
    rename_i v' us'
    cases rn
    show wpAny _ _ (call (.ref C) [v']) _ _ _
    have hlim := I1.nolimit
    obtain ⟨mb, hb1, hb2⟩ := I1.ok.mod.blt
    have hns := I1.ok.mod.glob.keeps I1.bk
    have hbl := hb1.keeps I1.bk
    obtain ⟨hp, g, dr, tk, os⟩ := s1
    refine wpAny_call (PySem.NxA.made_ok T I1.kIn hns hbl hb2 hlim (by have := hr.dp; omega) fun h' tk' e d M => ?_)
    show MkP X pins σ Q (.ref e) ⟨h', g, dr, tk', os⟩
    obtain ⟨oe, fv, hoe, hc, hd, hdat, h1⟩ := M.obj
    have hns := M.ns
    obtain ⟨G', g1, g2⟩ := restrict h' fun b => decide (b ≠ e)
    have gk : ∀ b, b ≠ e → G'.get? b = h'.get? b := fun b hb => g1 b (decide_eq_true hb)
    have ge : G'.get? e = none := g2 e (by simp)
    have old : ∀ b o, hp.get? b = some o → G'.get? b = some o := fun b o q => (gk b (Nat.ne_of_lt (Nat.lt_of_lt_of_le (Heap.lt_size q) M.new))).trans (M.keep b o q)
    have ob : ObjOk X.prog X.w (upd H1 d (.xd [(("at" : Str), v)])) G' d (.xd [(("at" : Str), v)]) :=
      ⟨_, hns.at (fun o q => (gk d M.dne).trans q), fun f => relO_one rv f⟩
    have J : Inv X pins σ (upd H1 d (.xd [(("at" : Str), v)])) ⟨G', g, dr, tk', os⟩ := I1.laid (t' := tk') old M.dbig ob
    refine ⟨e, oe, fv, ⟨G', g, dr, tk', os⟩, _, .ref C, some d, rfl, J, fun b o q => ?_, ge, hoe, ⟨hc, hd⟩, hdat, h1, ?_, rfl, I1.bare, raises_own T.ox.exC T.ox.tyC, q1 d (I1.hok.fresh M.dbig)⟩
    · by_cases hb : b = e
      · have q' : G'.get? b = some o := q
        rw [hb, ge] at q'; cases q'
      · exact (gk b hb).symm.trans q
    · rw [upd_ne (Ne.symm M.dne)]
      exact I1.hok.fresh M.new
end
end L2
namespace Nd
open PySem PySem.Spec PyProof.Rows L2 He
/-- the rest of it -/
def nxBA (file : Str) (K : PySem.W.Frag) (C fI : Addr) : Bool := oexB K C && (eqO (PySem.W.findIn K (.ref C) "at") (some none) && (eqO (PySem.W.findIn K (.ref C) "__init__") (some (some (.ref fI))) && (decide (PySem.W.typeIn K (.ref fI) = some (.type "function")) &&
  (eqO (PySem.W.ks_superIn K C C "__init__") (some (some (.builtin "ValueError.__init__"))) && (decide (PySem.W.mroIn K C (.ref C) = some true) && (decide (PySem.W.subIn K (.ref C) (.type "ValueError") = some true) && (eqO (PySem.W.nsIn K cStatics "thirdparty.any") (some none) &&
  (match K.lookup fI with
    | some ⟨_, _, .func fd, _⟩ => (match fd.code, fd.closure with
      | .ref cda, [(_, cc)] => PySem.W.codeIn K (.ref cda) fd.qualname && ((match K.lookup cda with
          | some ⟨_, _, .fields vs, _⟩ => (match (vs[2]? : Option Value) with
            | some (.str f _) => file == f
            | _ => false)
          | _ => false) && (match K.lookup cc with
          | some ⟨_, _, .cell (some (.ref c)), _⟩ => decide (c = C)
          | _ => false))
      | _, _ => false)
    | _ => false))))))))
def nxValA (p1 p2 : Pos) (b : List Stmt) : NxV := some (("__init__" : Str), PySem.NxA.iA p1 p2, FuncBody.stmts b, PySem.NxA.iS, mainGlobals, [("__class__" : Str)], Value.none, Value.none, builtinsNs)
theorem nx_txtA {P : Program} {K : PySem.W.Frag} {mg : Str → Option Value} {x file : Str} {p1 p2 q1 q2 q3 q4 q5 q6 q7 q8 q9 q10 : Pos} (hb : nxBA file K (ga K x) (ma K (ga K x) "__init__") = true)
    (hv : nxObs x K = nxValA p1 p2 (PySem.NxA.iB q1 q2 q3 q4 q5 q6 q7 q8 q9 q10))
    (hfile : ((P.main.file : Str) == file) = true) (noS : mg "super" = none) (top : (P.main.scope.names.lookup ("super" : Str)).isSome = false)
    (hev : ∀ env : Env, ∃ pl : Sem Bool, eval (.Call (.Attribute (.Call (.Name "super" q1) [] [] q2) "__init__" q3) [.Name "at" q4] [] q5) env = (do
      let ov ← attributeBase (.Call (.Name "super" q1) [] [] q2) "__init__" env (eval (.Call (.Name "super" q1) [] [] q2) env)
      standAt q3.atName
      let (f, first) ← holding [ov] (getMethod ov "__init__" pl)
      callWith q5 f first (backTo q5 (starEach [.Name "at" q4] env)) [])) : PySem.NxA.Txt P K mg (ga K x) (ma K (ga K x) "__init__") := by
  obtain ⟨h1, h⟩ := ba hb
  obtain ⟨h2, h⟩ := ba h
  obtain ⟨h3, h⟩ := ba h
  obtain ⟨h4, h⟩ := ba h
  obtain ⟨h5, h⟩ := ba h
  obtain ⟨h6, h⟩ := ba h
  obtain ⟨h7, h⟩ := ba h
  obtain ⟨h8, h⟩ := ba h
  refine ⟨oexB_ok h1, eqO_ok h2, eqO_ok h3, of_decide_eq_true h4, eqO_ok h5, of_decide_eq_true h6, of_decide_eq_true h7, eqO_ok h8, noS, top, ?_⟩
  unfold nxObs nxValA at hv
  split at hv
  · rename_i oc od fd osl hk
    rw [hk] at h
    obtain ⟨n1, n2, n3, n4, n5, n6, n7, n8, n9, n10, n11, n12, n13, n14, n15⟩ := fd
    simp only [Option.some.injEq, Prod.mk.injEq] at hv
    obtain ⟨e1, e2, e3, e4, e5, e6, e7, e8, e9⟩ := hv
    subst e1 e2 e3 e4 e5 e7 e8 e9
    dsimp only at h
    cases n13 with
    | ref cda =>
      rcases n7 with _ | ⟨⟨y, cc⟩, _ | ⟨z, t⟩⟩
      · cases h
      · have ey : y = "__class__" := by
          have z : [y] = ([("__class__" : Str)] : List Str) := e6
          injection z
        subst ey
        obtain ⟨g1, h⟩ := ba h
        obtain ⟨g2, g3⟩ := ba h
        split at g2
        · rename_i c1 c2 vs c4 hk2
          split at g2
          · rename_i f tf hvs
            split at g3
            · rename_i d1 d2 c d4 hk3
              have ec := of_decide_eq_true g3
              rw [ec] at hk3
              have ef : file = f := eq_of_beq g2
              exact ⟨_, _, _, _, _, _, _, _, _, _, _, _, _, _, cda, cc, vs, f, tf, _, _, _, _, _, _, _, _, _, _, _, _, hk, g1, hk2, hvs, by rw [← ef]; exact hfile, hk3, hev⟩
            · cases g3
          · cases g2
        · cases g2
      · cases h
    | _ => cases h
  · cases hv
end Nd
set_option maxHeartbeats 4000000
/-! ### a run of the top that lays a dict's entries out at each change of it (a long table of the top takes cubic time otherwise) -/
namespace Nd
open PySem PySem.W PySem.Calls PyProof.Rows HandSHeadRun
section
variable {α : Type}
def frV (v : Value) (k : Value → α) : α := match v with
  | .str x t => k (.str x t)
  | .int i t => k (.int i t)
  | v => k v
theorem frV_eq (v : Value) (k : Value → α) : frV v k = k v := by
  cases v <;> rfl
def frE (e : DictEntry) (k : DictEntry → α) : α := match e with
  | ⟨h, y, v⟩ => frV y fun y => frV v fun v => k ⟨h, y, v⟩
theorem frE_eq (e : DictEntry) (k : DictEntry → α) : frE e k = k e := by
  obtain ⟨h, y, v⟩ := e
  show frV y (fun y => frV v fun v => k ⟨h, y, v⟩) = _
  rw [frV_eq, frV_eq]
def frL : List DictEntry → (List DictEntry → α) → α
  | [], k => k []
  | e :: r, k => frE e fun e => frL r fun r => k (e :: r)
theorem frL_eq : ∀ (l : List DictEntry) (k : List DictEntry → α), frL l k = k l
  | [], _ => rfl
  | e :: r, k => by
    show frE e (fun e => frL r fun r => k (e :: r)) = _
    rw [frE_eq, frL_eq r]
def frAt (s : SharedT) (a : Addr) (k : SharedT → α) : α := match s with
  | ⟨T, n, life, gens, drawn, toks, os⟩ => match T.get a with
    | some ⟨c, d, .dict ⟨l⟩ ep, sl⟩ => frL l fun l => frNat ep fun ep => k ⟨T.set a (fun _ => ⟨c, d, .dict ⟨l⟩ ep, sl⟩), n, life, gens, drawn, toks, os⟩
    | _ => k ⟨T, n, life, gens, drawn, toks, os⟩
theorem set_same : ∀ (T : BT) (a : Nat) (o : Obj), T.get a = some o → T.set a (fun _ => o) = T
  | .nil, _, _, h => by cases h
  | .node v l r, a, o, h => by
    unfold BT.get at h
    unfold BT.set
    cases e : Nat.beq a 0 with
    | true =>
      rw [e] at h
      cases h
      rfl
    | false =>
      rw [e] at h
      dsimp only at h ⊢
      cases e2 : Nat.beq (a % 2) 1 with
      | true =>
        rw [e2] at h
        dsimp only at h ⊢
        rw [set_same l _ o h]
      | false =>
        rw [e2] at h
        dsimp only at h ⊢
        rw [set_same r _ o h]
theorem frAt_eq (s : SharedT) (a : Addr) (k : SharedT → α) : frAt s a k = k s := by
  obtain ⟨T, n, life, gens, drawn, toks, os⟩ := s
  unfold frAt
  dsimp only
  split
  · rename_i c d l ep sl h
    rw [frL_eq, frNat_eq, set_same _ _ _ h]
  · rfl
end
def stepD (st : SharedT → Thread → Option (SharedT × Thread)) (s : SharedT) (t : Thread) : Option (SharedT × Thread) := match t with
  | ⟨.update a x f k, code, pos, stack⟩ => match st s ⟨.update a x f k, code, pos, stack⟩ with
    | some (s', t') => frAt s' a fun s' => some (s', t')
    | none => none
  | t => st s t
theorem stepD_eq (st : SharedT → Thread → Option (SharedT × Thread)) : stepD st = st := by
  funext s t
  unfold stepD
  split
  · split
    · rename_i h
      rw [frAt_eq, h]
    · rename_i h
      rw [h]
  · rfl
/-- RunEq by such a run -/
theorem runD {r : OpenRow} {q : Program} {H : Hook} {ob : SharedT → H.α} {M : Nat} {loose : List PySem.Str} {w : World}
    (h : ∀ os : OsState, (endF (stepD (stepQ (denQ tabQ) r.prog w)) M r.prog w os).map (fun s => (looksF r.prog (boot_heap w.params) s.abs, seenQ q loose (importedModules r.prog.main.body) (fun s => xlAt q [] s && recOk r.toRowW.records s) s.abs, ob s)) = some (true, openGood q loose, H.val w)) : RunEq r q H ob M loose w := by
  rw [stepD_eq] at h
  exact h
end Nd
set_option maxHeartbeats 4000000
/-! ### a run of the top in which a long table is laid out quickly: a look among a dict's entries by lists (by arrays it takes cubic time) -/
namespace Nd
open PySem PySem.W PySem.Calls PyProof.Rows HandSHeadRun
noncomputable section
def anyEnt (es : Array DictEntry) (p : DictEntry → Bool) (i j : Nat) : Bool := match Nat.beq i 0 with
  | true => match Nat.beq j es.toList.length with
    | true => es.toList.all p
    | false => Array.all es p i j
  | false => Array.all es p i j
theorem anyEnt_eq : @Array.all DictEntry = anyEnt := by
  funext es p i j
  unfold anyEnt
  cases h1 : Nat.beq i 0 with
  | false => rfl
  | true =>
    cases h2 : Nat.beq j es.toList.length with
    | false => rfl
    | true =>
      have e1 : i = 0 := Nat.eq_of_beq_eq_true h1
      have e2 : j = es.toList.length := Nat.eq_of_beq_eq_true h2
      subst e1 e2
      exact Array.all_toList.symm
def whereEnt (p : DictEntry → Bool) (es : Array DictEntry) : Option Nat := es.toList.findIdx? p
theorem whereEnt_eq : @Array.findIdx? DictEntry = whereEnt := by
  funext p es
  obtain ⟨l⟩ := es
  simp [whereEnt]
def foundD : { f : Addr → Value → Array DictEntry → Str → Sem (Option Nat) // f = PySem.W.Fast.tw16073574877836486461 } := by
  refine ⟨?f, ?h⟩
  case h =>
    delta PySem.W.Fast.tw16073574877836486461
    rw [whereEnt_eq]
def findD : { f : Addr → Value → Int → Sem (Option Nat) // f = PySem.W.Fast.tw7228091826238408665 } := by
  refine ⟨?f, ?h⟩
  case h =>
    delta PySem.W.Fast.tw7228091826238408665
    rw [anyEnt_eq, ← foundD.2]
def setHD : { f : Addr → Value → Int → Value → Sem Unit // f = PySem.W.Fast.tw4359058424727691002 } := by
  refine ⟨?f, ?h⟩
  case h =>
    delta PySem.W.Fast.tw4359058424727691002
    rw [← findD.2]
def setD : { f : Addr → Value → Value → Sem Unit // f = PySem.W.Fast.tw11925912800584824493 } := by
  refine ⟨?f, ?h⟩
  case h =>
    delta PySem.W.Fast.tw11925912800584824493
    rw [← setHD.2]
def putD : { f : Addr → Int → Value → Value → Sem Unit // f = PySem.W.Fast.tw9652029157277244616 } := by
  refine ⟨?f, ?h⟩
  case h =>
    delta PySem.W.Fast.tw9652029157277244616
    rw [← findD.2]
def subD : { f : List (Sem Value × Sem Value) → Sem Addr // f = PySem.W.Fast.tw11913375310210876947 } := by
  refine ⟨?f, ?h⟩
  case h =>
    delta PySem.W.Fast.tw11913375310210876947
    rw [← setD.2]
def mergeD : { f : Addr → Value → Bool → Sem Unit // f = PySem.W.Fast.tw8596071696976842438 } := by
  refine ⟨?f, ?h⟩
  case h =>
    delta PySem.W.Fast.tw8596071696976842438
    rw [← putD.2, ← findD.2, ← setD.2]
def dispD : { f : List (Option (Sem Value) × Sem Value) → Sem Value // f = PySem.W.Fast.tw11216187645035866516 } := by
  refine ⟨?f, ?h⟩
  case h =>
    delta PySem.W.Fast.tw11216187645035866516
    rw [← subD.2, ← mergeD.2]
theorem dispD_eq : @dictDisplay = dispD.1 := PySem.W.Fast.te11216187645035866516.trans dispD.2.symm
/-! the statement x = {..} of the top, its body -/
def keysD (ks : List (Option Expr)) (env : Env) : List (Option (Sem Value)) := ks.map fun o => match o with
  | some e => some (PySem.W.Fast.tw14044960220447912780 e env)
  | none => none
theorem keysD_eq : ∀ (ks : List (Option Expr)) (env : Env), evalEachOpt ks env = keysD ks env
  | [], _ => rfl
  | none :: r, env => by
    show none :: evalEachOpt r env = none :: keysD r env
    rw [keysD_eq r env]
  | some e :: r, env => by
    show some (eval e env) :: evalEachOpt r env = some (PySem.W.Fast.tw14044960220447912780 e env) :: keysD r env
    rw [keysD_eq r env, PySem.W.Fast.te14044960220447912780]
def asgD (ts : List Expr) (ks : List (Option Expr)) (vs : List Expr) (p pos : Pos) (env : Env) : { f : Sem Flow // f = exec (.Assign ts (.Dict ks vs p) pos) env } := by
  refine ⟨?f, ?h⟩
  case h =>
    rw [arm_exec_Assign, arm_eval_Dict, dispD_eq, keysD_eq, PySem.W.Fast.te10458482166411082596, PySem.W.Fast.te2470068587113613483, PySem.W.Fast.te4016559146275205325, PySem.W.Fast.te7783108440312521181, PySem.W.Fast.te1406442740598737775, PySem.W.Fast.te15628205474173192105, PySem.W.Fast.te15591190973536708279]
    try rw [PySem.W.Fast.te9053332837126583604]
def nextD (f : Flow) (k : Sem Flow) : Sem Flow := match f with
  | .next => k
  | f => pure f
def execD (s : Stmt) (env : Env) : Sem Flow := match s with
  | .Assign ts (.Dict ks vs p) pos => (asgD ts ks vs p pos env).1
  | s => PySem.W.Fast.tw12563942051412417395 [s] env
theorem one_eq (s : Stmt) (env : Env) : execs [s] env = exec s env := by
  rw [execs_cons, execs_nil]
  have e : (fun f : Flow => (match f with | .next => (pure .next : Sem Flow) | f => pure f)) = pure := by
    funext f
    cases f <;> rfl
  show (exec s env >>= fun f : Flow => (match f with | .next => (pure .next : Sem Flow) | f => pure f)) = _
  rw [e]
  exact bind_pure _
theorem execD_eq (s : Stmt) (env : Env) : execD s env = exec s env := by
  unfold execD
  split
  · exact (asgD _ _ _ _ _ env).2
  · rw [← PySem.W.Fast.te12563942051412417395, one_eq]
def execsD : List Stmt → Env → Sem Flow
  | [], _ => pure .next
  | s :: r, env => PySem.W.R.bindR (execD s env) fun f => nextD f (execsD r env)
theorem execsD_eq : @execs = execsD := by
  funext l env
  induction l with
  | nil => rfl
  | cons s r ih =>
    rw [execs_cons]
    unfold execsD
    rw [execD_eq, ← ih, ← PySem.W.R.bindR_eq]
    show (exec s env >>= fun f : Flow => _) = (exec s env >>= fun f => nextD f (execs r env))
    congr 1
def bodyD (l : List Stmt) (env : Env) : { f : Sem Fin // f = denote treeTable (.body l env) } := by
  refine ⟨?f, ?h⟩
  case h =>
    rw [denote, execsD_eq, PySem.W.Fast.te1066825118222455980, PySem.W.Fast.te9442747609961115081, PySem.W.R.onRaiseR_eq]
    try rw [PySem.W.Fast.te9053332837126583604]
def denD (c : Code) : Sem Fin := match c with
  | .body l env => (bodyD l env).1
  | c => denQ tabQ c
theorem denD_eq : denD = denQ tabQ := by
  funext c
  unfold denD
  split
  · rw [(bodyD _ _).2, denQ_eq, tabQ_eq]
  · rfl
/-- RunEq by such a run -/
theorem runT {r : OpenRow} {q : Program} {H : Hook} {ob : SharedT → H.α} {M : Nat} {loose : List PySem.Str} {w : World}
    (h : ∀ os : OsState, (endF (stepD (stepQ denD r.prog w)) M r.prog w os).map (fun s => (looksF r.prog (boot_heap w.params) s.abs, seenQ q loose (importedModules r.prog.main.body) (fun s => xlAt q [] s && recOk r.toRowW.records s) s.abs, ob s)) = some (true, openGood q loose, H.val w)) : RunEq r q H ob M loose w := by
  rw [stepD_eq, denD_eq] at h
  exact h
end
end Nd
set_option maxHeartbeats 4000000
/-! ### a lambda handed to a def that hands it on to another def -/
namespace Nd
open PySem PySem.Spec PyProof.Rows L2 LamX
/-- two stretches, the second with frames of its own that stand above the first's begin -/
theorem un_join {fs fs2 : List Addr} {H H2 H3 : Hp} {h h2 h3 : Heap} (a : Un fs [] H H2 h h2) (b : Un fs2 [] H2 H3 h2 h3) (hf : ∀ c ∈ fs2, c ∈ fs ∨ h.objs.size ≤ c) : Un fs [] H H3 h h3 where
  keep := fun c o e n hc hx => b.keep c o (a.keep c o e n hc hx) (a.free c o e n hx) (fun m => (hf c m).elim hc fun le => absurd (Heap.lt_size e) (Nat.not_lt.mpr le)) hx
  slot := fun c o e n hc hx => by
    obtain ⟨sl, e2⟩ := a.slot c o e n hc hx
    obtain ⟨sl2, e3⟩ := b.any e2 (a.free c o e n hx) (by simp)
    exact ⟨sl2, e3⟩
  free := fun c o e n hx => by
    obtain ⟨o2, e2⟩ := a.there c o e hx
    exact b.free c o2 e2 (a.free c o e n hx) (by simp)
  there := fun c o e hx => by
    obtain ⟨o2, e2⟩ := a.there c o e hx
    exact b.there c o2 e2 hx
  tups := fun c xs e => b.tups c xs (a.tups c xs e)
  frzs := fun c o u e => b.frzs c o u (a.frzs c o u e)
  tbls := fun c ps e => by
    obtain ⟨m1, e1⟩ := a.tbls c ps e
    obtain ⟨m2, e2⟩ := b.tbls c _ e1
    exact ⟨m1 ++ m2, by rw [e2, Array.append_assoc]⟩
section
variable {X : Cx} {pins : List (Addr × Obj)} {σ : L2.St} {H : Hp} {s : Shared}
/-- what the lambda at f does, called in a frame that was entered at s2 with the frames st2 around it -/
def Act (X : Cx) (s : Shared) (H : Hp) (f c' : Addr) (q : Str) (k : Nat) (tl : XK → Hp → VK → Prop) : Prop :=
  ∀ (Ng : List Str) (qg : Str) (sg : Scope) (g : Addr) (cdg : Value) (A2 : Around) (st2 : List Env) (s2 : Shared) (H2 : Hp) (i : Nat) (a : Str) (pn : List (Addr × Obj)) (xe : Value → Shared → Prop) (W : WX) (E : XK) (p1 p2 : Pos),
    Un (frs X.stack) [] H H2 s.heap s2.heap → (∀ b ∈ frs st2, b ∈ frs X.stack ∨ s.heap.objs.size ≤ b) → Room (k + 1) (A2.deeper (envOfC qg sg s2.heap.objs.size g cdg)) → Ng[i]? = some a → Vis sg a → (a == ("__debug__" : Str)) = false → (a == ("__classdict__" : Str)) = false →
    Takes ((cxOf C8.CX0 X.prog X.w X.K X.mg X.base Ng qg sg g cdg A2 st2 s2 H2 C8.E0).tr pn xe) W → (∀ cls d σ' H', E cls d H' → W cls d σ' H') →
    PE ((cxOf C8.CX0 X.prog X.w X.K X.mg X.base Ng qg sg g cdg A2 st2 s2 H2 C8.E0).tr pn xe) (.Call (.Name a p1) [] [] p2) (fun σZ HZ Q => σZ[i]? = some (some (.ref f)) ∧ HZ c' = some (CodeO c' q) ∧ tl E HZ Q)
theorem act_of {f c' : Addr} {pm ctv : Value} {params : Arguments} {body : Expr} {scope : Scope} {k : Nat} {t : XK → TE}
    (I : Inv X pins σ H s) (L : LamS X.env.scope scope) (hf : s.heap.get? f = some (PySem.W.kla_obj "<lambda>" (X.env.qual ++ "<lambda>") params body scope (cloFrom X.env.cells scope.names []) pm c' ctv)) (hfn : H f = none) (hfr : f ∉ frs X.stack)
    (hbind : bindArgs (PySem.W.kla_fn "<lambda>" (X.env.qual ++ "<lambda>") params body scope (cloFrom X.env.cells scope.names []) pm (.ref c') ctv) ⟨[], []⟩ = pure [])
    (hbody : ∀ (A : Around) (outer : List Env) (s : Shared) (H : Hp) (E : XK), Room k (A.deeper (lamEnv X scope s.heap.objs.size f c')) → PE (lamCx X A outer s H E scope f c') body (t E)) :
    Act X s H f c' (X.env.qual ++ "<lambda>") k (fun E H' Q' => t E σ H' Q') := by
  intro Ng qg sg g cdg A2 st2 s2 H2 i a pn xe W E p1 p2 u hst hr hN hv hd hcd tk hW
  refine ⟨fun pinsZ sZ σZ HZ Q IZ h => ?_⟩
  obtain ⟨hs, hc, ht⟩ := h
  have look := (pe_var (pos := p1) (i := i) hN hv hd hcd).run pinsZ sZ σZ HZ (fun v H1 => v = .ref f ∧ H1 = HZ) IZ ⟨.ref f, hs, rfl, rfl⟩
  refine wpAny_Call_Name_kw (thn look fun u1 s1 ⟨v, H1, I1, r1, ev, eH⟩ => ?_)
  subst ev
  rw [eH] at I1
  obtain rfl : u1 = Value.ref f := r1
  have un : Un (frs X.stack) [] H HZ s.heap s1.heap := un_join u (show Un (frs st2) [] H2 HZ s2.heap s1.heap from I1.base) hst
  have lives := un.keep f _ hf hfn hfr (fun z => nomatch (show f ∈ ([] : List Addr) from z))
  refine PySem.W.callWith_F0 ⟨_, _, _, _, lives⟩ ?_
  obtain ⟨⟨oc, vs, tok, hoc, hdc, hvc⟩, _, _⟩ := I1.hok c' _ hc
  have hx : Passes (L2.CX X.prog X.w) ((cxOf C8.CX0 X.prog X.w X.K X.mg X.base Ng qg sg g cdg A2 st2 s2 H2 C8.E0).tr pn xe) E := passes_call tk hW
  have rc : codeAny (model X.prog X.w) (A2.deeper (envOfC qg sg s2.heap.objs.size g cdg)) (.call (.ref f) ⟨[], []⟩) (CR (L2.CX X.prog X.w) (envOfC qg sg s2.heap.objs.size g cdg :: st2) X.prog X.w HZ s1 Q E) s1 := by
    refine PySem.W.kla_callFunE hr.depth lives rfl L.co L.gen rfl ⟨c', oc, vs, tok, rfl, hoc, hdc, hvc⟩ ?_
    rw [hbind]
    refine wpAny_pure (wpAny_newFunctionEnv (fun y hy => (L.own y hy).2) (fun y hy => absurd hy (by simp)) (fun h1 hns hsb => ⟨I1.nolimit.fresh _ hsb, ?_⟩) L.kind)
    have kp : ∀ b o, s1.heap.get? b = some o → h1.get? b = some o := fun b o e => hsb.extBut b o (Nat.ne_of_lt (Heap.lt_size e)) (Heap.get?_push_of_some _ e)
    have J := lam_start2 (E := E) (f := f) (c' := c') (tk := s1.toks + ([] : List (Str × Value)).length) I L I1.env0 hr.hd un hns kp
    show codeAny _ _ (.expr body (lamEnv X scope s1.heap.objs.size f c')) _ _
    refine PySem.W.kla_codeExpr (wpAny_mono ((hbody _ _ s1 HZ E (hr.deeper _)).run [] _ _ HZ Q J ht) (fun v s' hq => ?_) fun e s' hq => hq)
    obtain ⟨w', H', J', rv, q⟩ := hq
    exact ⟨w', H', J'.os, J'.bare, J'.base, J'.hok, rv, q⟩
  refine wpAny_call (codeAny_mono rc fun r s' hq => ?_)
  match r, hq with
  | .error e, hq => exact hx pinsZ σZ HZ s1 e s' I1 hq
  | .ok (.ret u), hq => exact I1.after hq
  | .ok .next, hq => exact False.elim hq
  | .ok .brk, hq => exact False.elim hq
  | .ok .cont, hq => exact False.elim hq
/-- the def that gets the lambda and one thing more -/
def Gives2 (X : Cx) (Ng : List Str) (x : Str) (sg : Scope) (g : Addr) (cdg : Value) (bg : List Stmt) (q : Str) (k : Nat) (TT : (XK → Hp → VK → Prop) → V → Hp → VK → Prop) : Prop :=
  ∀ (f c' : Addr) (s : Shared) (H : Hp) (Q : VK) (v : V) (tl : XK → Hp → VK → Prop), Act X s H f c' q k tl → Room (k + 2) (X.A.deeper (envOfC x sg s.heap.objs.size g cdg)) → H c' = some (CodeO c' q) → TT tl v H Q →
    ∃ t, PSs (cxOf C8.CX0 X.prog X.w X.K X.mg X.base Ng x sg g cdg X.A X.stack s H C8.E0).nox bg t ∧ t { nx := fun _ H' => Q .non H', rt := Q } (L2.start Ng [.ref f, v]) H
def tLam2 (T : List (Addr × Str)) (q : Str) (TT : (XK → Hp → VK → Prop) → V → Hp → VK → Prop) (t : XK → TE) (te : TE) : TE := fun σ H Q => Tabs T H ∧ ∀ H1, ExtN H H1 → Tabs T H1 → te σ H1 fun v H2 => (∀ c', H1 c' = some (CodeO c' q) → H2 c' = some (CodeO c' q)) ∧ TT (fun E H' Q' => t E σ H' Q') v H2 Q
/-- x(lambda: body, e) -/
theorem pe_lam2 {T : List (Addr × Str)} {TT : (XK → Hp → VK → Prop) → V → Hp → VK → Prop} {x a a2 : Str} {g c P : Addr} {k : Nat} {pg : Arguments} {bg : List Stmt} {sg : Scope} {dV kV doc pm cdv ct oc : Value} {an od : Option Addr} {osl : Array (Option Value)} {Ng : List Str}
    {params : Arguments} {body e2 : Expr} {scope : Scope} {t : XK → TE} {te : TE} {p lpos pos : Pos} (hg : Gl X x) (hm : X.mg x = some (.ref g)) (hk : PySem.W.keepIn X.K (.ref g) = true)
    (lk : X.K.lookup g = some ⟨oc, od, .func (PySem.W.fnOf x x pg bg sg dV kV doc pm an cdv ct), osl⟩) (hcg : PySem.W.codeIn X.K cdv x = true) (hb : L2.Binds X.K (PySem.W.fnOf x x pg bg sg dV kV doc pm an cdv ct) [a, a2] []) (Sg : FnScope Ng [a, a2] sg)
    (hG : Gives2 X Ng x sg g cdv bg (X.env.qual ++ "<lambda>") k TT) (TB : TabB X.base X.mg c P) (hcode : X.env.code = .ref c) (hmT : (P, X.env.qual ++ "<lambda>") ∈ T) (hu : ∀ p ∈ T, p.1 = P → p.2 = X.env.qual ++ "<lambda>") (hr : Room (k + 3) X.A)
    (L : LamS X.env.scope scope) (hdef : defaultsOf params X.env = ([], [])) (hbind : ∀ (q : Str) (cl : List (Str × Addr)) (pm cv ctv : Value), bindArgs (PySem.W.kla_fn "<lambda>" q params body scope cl pm cv ctv) ⟨[], []⟩ = pure [])
    (hbody : ∀ (A : Around) (outer : List Env) (s : Shared) (H : Hp) (E : XK) (f c' : Addr), Room k (A.deeper (lamEnv X scope s.heap.objs.size f c')) → PE (lamCx X A outer s H E scope f c') body (t E)) (he : PE X e2 te)
    (hs2 : starEach [e2] X.env = [(false, eval e2 X.env)] := by rfl) (hdb : (x == ("__debug__" : Str)) = false := by decide) :
    PE X (.Call (.Name x p) [.Lambda params body scope lpos, e2] [] pos) (tLam2 T (X.env.qual ++ "<lambda>") TT t te) := by
  refine ⟨fun pins s σ H Q I h => ?_⟩
  obtain ⟨hT, h⟩ := h
  refine wpAny_Call_Name_kw (ld_glob I hg hm ?_ hdb)
  refine PySem.W.callWith_K (h₀ := X.base) I.ok.mod.kin hk ?_ (by rfl) (by rw [hs2]; rfl)
  show wpAny _ _ (spliced ((false, eval (.Lambda params body scope lpos) X.env) :: backTo pos (starEach [e2] X.env))) _ _ s
  rw [hs2]
  refine Calls.spliced_cons (lam_make2 I TB hcode hmT hu hT hdef (L.has I.ok) fun f c' pm' ctv H1 s' I1 eN T1 hf hfn hfr hco => ?_)
  have nl : f ≠ X.env.locals := fun z => by
    obtain ⟨m, ⟨o, es, ep, e, hd, _⟩, _⟩ := I1.loc
    rw [← z, hf] at e
    cases e
    cases hd
  have nf : f ∉ X.fs := fun z => hfr (by
    rcases I1.ok.stk with e | ⟨e, e2⟩
    · rw [e]
      exact z
    · rw [e]
      unfold frs
      rw [List.filterMap_cons, e2]
      exact List.mem_cons_of_mem _ z)
  have I2 : Inv X ((f, PySem.W.kla_obj "<lambda>" (X.env.qual ++ "<lambda>") params body scope (cloFrom X.env.cells scope.names []) pm' c' ctv) :: pins) σ H1 s' := I1.pins_of fun q hq => by
    rcases List.mem_cons.mp hq with z | z
    · subst z
      exact ⟨hf, hfn, nl, nf, fun v z => by cases z⟩
    · exact I1.pin q (List.mem_append_right _ z)
  refine Calls.spliced_cons (thn (he.run _ s' σ H1 _ I2 (h H1 eN T1)) fun u2 s2 ⟨v2, H2, J2, r2, hc2, hq2⟩ => ?_)
  have pf := J2.pin _ (List.mem_append_right _ (List.mem_cons_self (l := pins)))
  have J1 : Inv X pins σ H2 s2 := J2.pins_of fun q hq => J2.pin q (List.mem_append_right _ (List.mem_cons_of_mem _ hq))
  refine Calls.spliced_nil ⟨J1.kIn, ?_⟩
  have act := act_of (t := t) J1 L pf.1 pf.2.1 hfr (hbind _ _ _ _ _) (fun A outer s H E hr2 => hbody A outer s H E f c' hr2)
  have rc : codeAny (model X.prog X.w) X.A (.call (.ref g) ⟨[.ref f, u2], []⟩) (CR C8.CX0 X.stack X.prog X.w H2 s2 Q C8.E0) s2 := by
    refine run_ofS (N := Ng) (ps := [a, a2]) (us := [.ref f, u2]) (vs := [.ref f, v2]) lk hcg Sg hr J1.env0 (hb s2 [.ref f, u2] J1.kIn rfl) (.cons rfl (.cons r2 .nil)) rfl fun hr' => ?_
    obtain ⟨t', ht', hq'⟩ := hG f c' s2 H2 Q v2 _ act hr' (hc2 c' hco) hq2
    exact ⟨t', ht'.nox, hq'⟩
  refine wpAny_call (codeAny_mono rc fun r s3 hq => ?_)
  match r, hq with
  | .error e, hq => exact (show False from hq).elim
  | .ok (.ret u), hq => exact J1.after hq
  | .ok .next, hq => exact False.elim hq
  | .ok .brk, hq => exact False.elim hq
  | .ok .cont, hq => exact False.elim hq
/-- x(e), e being such a lambda, x a def that calls it -/
theorem pe_hand {TT : (XK → Hp → VK → Prop) → Hp → VK → Prop} {x a q : Str} {g : Addr} {k : Nat} {pg : Arguments} {bg : List Stmt} {sg : Scope} {dV kV doc pm cdv ct oc : Value} {an od : Option Addr} {osl : Array (Option Value)} {Ng : List Str}
    {e : Expr} {ta : TA} {p pos : Pos} (hg : Gl X x) (hm : X.mg x = some (.ref g)) (hk : PySem.W.keepIn X.K (.ref g) = true)
    (lk : X.K.lookup g = some ⟨oc, od, .func (PySem.W.fnOf x x pg bg sg dV kV doc pm an cdv ct), osl⟩) (hcg : PySem.W.codeIn X.K cdv x = true) (hb : L2.Binds X.K (PySem.W.fnOf x x pg bg sg dV kV doc pm an cdv ct) [a] []) (Sg : FnScope Ng [a] sg)
    (hG : GivesTo X Ng x sg g cdv bg a q TT) (hr : Room (k + 1) X.A) (ha : PA X [e] ta)
    (hdb : (x == ("__debug__" : Str)) = false := by decide) (he : starEach [e] X.env = [(false, eval e X.env)] := by rfl) :
    PE X (.Call (.Name x p) [e] [] pos) (fun σ H Q => ta σ H fun vs H1 => ∃ (f c' : Addr) (tl : XK → Hp → VK → Prop), vs = [.ref f] ∧ H1 c' = some (CodeO c' q) ∧
      (∀ (s1 : Shared), Un X.fs X.ex X.H_0 H1 X.s_0.heap s1.heap → Room k (X.A.deeper (envOfC x sg s1.heap.objs.size g cdv)) → ∀ (W : WX) (pn : List (Addr × Obj)) (xe : Value → Shared → Prop) (E : XK) (p1 p2 : Pos), Takes ((cxOf C8.CX0 X.prog X.w X.K X.mg X.base Ng x sg g cdv X.A X.stack s1 H1 C8.E0).tr pn xe) W → (∀ cls d σ' H', E cls d H' → W cls d σ' H') →
        PE ((cxOf C8.CX0 X.prog X.w X.K X.mg X.base Ng x sg g cdv X.A X.stack s1 H1 C8.E0).tr pn xe) (.Call (.Name a p1) [] [] p2) (fun σZ HZ Q => σZ[0]? = some (some (.ref f)) ∧ HZ c' = some (CodeO c' q) ∧ tl E HZ Q)) ∧ TT tl H1 Q) := by
  refine ⟨fun pins s σ H Q I h => ?_⟩
  refine wpAny_Call_Name_kw (ld_glob I hg hm ?_ hdb)
  refine PySem.W.callWith_K (h₀ := X.base) I.ok.mod.kin hk (thn (ha.run pos pins s σ H _ I h) fun us s1 ⟨vs, H1, I1, r, f, c', tl, ev, hco, act, hq1⟩ => ⟨I1.kIn, ?_⟩) he (by rfl)
  subst ev
  obtain ⟨u, rfl, ru⟩ : ∃ u, us = [u] ∧ L2.RelV (.ref f) u := by
    cases r with
    | cons r1 rr => cases rr; exact ⟨_, rfl, r1⟩
  obtain rfl : u = Value.ref f := ru
  have rc : codeAny (model X.prog X.w) X.A (.call (.ref g) ⟨[.ref f], []⟩) (CR C8.CX0 X.stack X.prog X.w H1 s1 Q C8.E0) s1 := by
    refine run_ofS (N := Ng) (ps := [a]) (us := [.ref f]) (vs := [.ref f]) lk hcg Sg hr I1.env0 (hb s1 [.ref f] I1.kIn rfl) (.cons rfl .nil) rfl fun hr' => ?_
    obtain ⟨t', ht', hq'⟩ := hG f c' s1 H1 Q tl (fun W pn xe E p1 p2 tk hW => act s1 I1.base hr' W pn xe E p1 p2 tk hW) hco hq1
    exact ⟨t', ht'.nox, hq'⟩
  refine wpAny_call (codeAny_mono rc fun r s3 hq => ?_)
  match r, hq with
  | .error e, hq => exact (show False from hq).elim
  | .ok (.ret u), hq => exact I1.after hq
  | .ok .next, hq => exact False.elim hq
  | .ok .brk, hq => exact False.elim hq
  | .ok .cont, hq => exact False.elim hq
end
end Nd
set_option maxHeartbeats 4000000
set_option hygiene false in
local macro_rules | `(tactic| walk_at "new1") => `(tactic| (intro p1 n1; generalize e1 : upd _ p1 _ = H1; (have s1 := (congrArg (Same _) e1).mp (Same.new n1)); (have h1 := (congrArg (fun z : Hp => z p1 = some _) e1).mp upd_same); clear e1))
set_option hygiene false in
local macro_rules | `(tactic| walk_at "new2") => `(tactic| (intro p2 n2; generalize e2 : upd _ p2 _ = H2; (have s2 := (congrArg (Same _) e2).mp (Same.new n2)); (have h2 := (congrArg (fun z : Hp => z p2 = some _) e2).mp upd_same); clear e2))
set_option hygiene false in
local macro_rules | `(tactic| walk_at "new3") => `(tactic| (intro p3 n3; generalize e3 : upd _ p3 _ = H3; (have s3 := (congrArg (Same _) e3).mp (Same.new n3)); (have h3 := (congrArg (fun z : Hp => z p3 = some _) e3).mp upd_same); clear e3))
set_option hygiene false in
local macro_rules | `(tactic| walk_at "new4") => `(tactic| (intro p4 n4; generalize e4 : upd _ p4 _ = H4; (have s4 := (congrArg (Same _) e4).mp (Same.new n4)); (have h4 := (congrArg (fun z : Hp => z p4 = some _) e4).mp upd_same); clear e4))
set_option hygiene false in
local macro_rules | `(tactic| walk_at "new5") => `(tactic| (intro p5 n5; generalize e5 : upd _ p5 _ = H5; (have s5 := (congrArg (Same _) e5).mp (Same.new n5)); (have h5 := (congrArg (fun z : Hp => z p5 = some _) e5).mp upd_same); clear e5))
set_option hygiene false in
local macro_rules | `(tactic| walk_at "new6") => `(tactic| (intro p6 n6; generalize e6 : upd _ p6 _ = H6; (have s6 := (congrArg (Same _) e6).mp (Same.new n6)); (have h6 := (congrArg (fun z : Hp => z p6 = some _) e6).mp upd_same); clear e6))
set_option hygiene false in
local macro_rules | `(tactic| walk_at "new7") => `(tactic| (intro p7 n7; generalize e7 : upd _ p7 _ = H7; (have s7 := (congrArg (Same _) e7).mp (Same.new n7)); (have h7 := (congrArg (fun z : Hp => z p7 = some _) e7).mp upd_same); clear e7))
set_option hygiene false in
local macro_rules | `(tactic| walk_at "new8") => `(tactic| (intro p8 n8; generalize e8 : upd _ p8 _ = H8; (have s8 := (congrArg (Same _) e8).mp (Same.new n8)); (have h8 := (congrArg (fun z : Hp => z p8 = some _) e8).mp upd_same); clear e8))
set_option hygiene false in
local macro_rules | `(tactic| walk_at "new9") => `(tactic| (intro p9 n9; generalize e9 : upd _ p9 _ = H9; (have s9 := (congrArg (Same _) e9).mp (Same.new n9)); (have h9 := (congrArg (fun z : Hp => z p9 = some _) e9).mp upd_same); clear e9))
set_option hygiene false in
local macro_rules | `(tactic| walk_at "new10") => `(tactic| (intro p10 n10; generalize e10 : upd _ p10 _ = H10; (have s10 := (congrArg (Same _) e10).mp (Same.new n10)); (have h10 := (congrArg (fun z : Hp => z p10 = some _) e10).mp upd_same); clear e10))
set_option hygiene false in
local macro_rules | `(tactic| walk_at "new11") => `(tactic| (intro p11 n11; generalize e11 : upd _ p11 _ = H11; (have s11 := (congrArg (Same _) e11).mp (Same.new n11)); (have h11 := (congrArg (fun z : Hp => z p11 = some _) e11).mp upd_same); clear e11))
set_option hygiene false in
local macro_rules | `(tactic| walk_at "new12") => `(tactic| (intro p12 n12; generalize e12 : upd _ p12 _ = H12; (have s12 := (congrArg (Same _) e12).mp (Same.new n12)); (have h12 := (congrArg (fun z : Hp => z p12 = some _) e12).mp upd_same); clear e12))
set_option hygiene false in
local macro_rules | `(tactic| walk_at "new13") => `(tactic| (intro p13 n13; generalize e13 : upd _ p13 _ = H13; (have s13 := (congrArg (Same _) e13).mp (Same.new n13)); (have h13 := (congrArg (fun z : Hp => z p13 = some _) e13).mp upd_same); clear e13))
set_option hygiene false in
local macro_rules | `(tactic| walk_at "new14") => `(tactic| (intro p14 n14; generalize e14 : upd _ p14 _ = H14; (have s14 := (congrArg (Same _) e14).mp (Same.new n14)); (have h14 := (congrArg (fun z : Hp => z p14 = some _) e14).mp upd_same); clear e14))
set_option hygiene false in
local macro_rules | `(tactic| walk_at "new15") => `(tactic| (intro p15 n15; generalize e15 : upd _ p15 _ = H15; (have s15 := (congrArg (Same _) e15).mp (Same.new n15)); (have h15 := (congrArg (fun z : Hp => z p15 = some _) e15).mp upd_same); clear e15))
set_option hygiene false in
local macro_rules | `(tactic| walk_at "new16") => `(tactic| (intro p16 n16; generalize e16 : upd _ p16 _ = H16; (have s16 := (congrArg (Same _) e16).mp (Same.new n16)); (have h16 := (congrArg (fun z : Hp => z p16 = some _) e16).mp upd_same); clear e16))
set_option hygiene false in
local macro_rules | `(tactic| walk_at "new17") => `(tactic| (intro p17 n17; generalize e17 : upd _ p17 _ = H17; (have s17 := (congrArg (Same _) e17).mp (Same.new n17)); (have h17 := (congrArg (fun z : Hp => z p17 = some _) e17).mp upd_same); clear e17))
set_option hygiene false in
local macro_rules | `(tactic| walk_at "new18") => `(tactic| (intro p18 n18; generalize e18 : upd _ p18 _ = H18; (have s18 := (congrArg (Same _) e18).mp (Same.new n18)); (have h18 := (congrArg (fun z : Hp => z p18 = some _) e18).mp upd_same); clear e18))
set_option hygiene false in
local macro_rules | `(tactic| walk_at "new19") => `(tactic| (intro p19 n19; generalize e19 : upd _ p19 _ = H19; (have s19 := (congrArg (Same _) e19).mp (Same.new n19)); (have h19 := (congrArg (fun z : Hp => z p19 = some _) e19).mp upd_same); clear e19))
set_option hygiene false in
local macro_rules | `(tactic| walk_at "new20") => `(tactic| (intro p20 n20; generalize e20 : upd _ p20 _ = H20; (have s20 := (congrArg (Same _) e20).mp (Same.new n20)); (have h20 := (congrArg (fun z : Hp => z p20 = some _) e20).mp upd_same); clear e20))
set_option hygiene false in
local macro_rules | `(tactic| walk_at "new21") => `(tactic| (intro p21 n21; generalize e21 : upd _ p21 _ = H21; (have s21 := (congrArg (Same _) e21).mp (Same.new n21)); (have h21 := (congrArg (fun z : Hp => z p21 = some _) e21).mp upd_same); clear e21))
set_option hygiene false in
local macro_rules | `(tactic| walk_at "new22") => `(tactic| (intro p22 n22; generalize e22 : upd _ p22 _ = H22; (have s22 := (congrArg (Same _) e22).mp (Same.new n22)); (have h22 := (congrArg (fun z : Hp => z p22 = some _) e22).mp upd_same); clear e22))
set_option hygiene false in
local macro_rules | `(tactic| walk_at "new23") => `(tactic| (intro p23 n23; generalize e23 : upd _ p23 _ = H23; (have s23 := (congrArg (Same _) e23).mp (Same.new n23)); (have h23 := (congrArg (fun z : Hp => z p23 = some _) e23).mp upd_same); clear e23))
set_option hygiene false in
local macro_rules | `(tactic| walk_at "new24") => `(tactic| (intro p24 n24; generalize e24 : upd _ p24 _ = H24; (have s24 := (congrArg (Same _) e24).mp (Same.new n24)); (have h24 := (congrArg (fun z : Hp => z p24 = some _) e24).mp upd_same); clear e24))
set_option hygiene false in
local macro_rules | `(tactic| walk_at "new25") => `(tactic| (intro p25 n25; generalize e25 : upd _ p25 _ = H25; (have s25 := (congrArg (Same _) e25).mp (Same.new n25)); (have h25 := (congrArg (fun z : Hp => z p25 = some _) e25).mp upd_same); clear e25))
set_option hygiene false in
local macro_rules | `(tactic| walk_at "new26") => `(tactic| (intro p26 n26; generalize e26 : upd _ p26 _ = H26; (have s26 := (congrArg (Same _) e26).mp (Same.new n26)); (have h26 := (congrArg (fun z : Hp => z p26 = some _) e26).mp upd_same); clear e26))
set_option hygiene false in
local macro_rules | `(tactic| walk_at "new27") => `(tactic| (intro p27 n27; generalize e27 : upd _ p27 _ = H27; (have s27 := (congrArg (Same _) e27).mp (Same.new n27)); (have h27 := (congrArg (fun z : Hp => z p27 = some _) e27).mp upd_same); clear e27))
set_option hygiene false in
local macro_rules | `(tactic| walk_at "new28") => `(tactic| (intro p28 n28; generalize e28 : upd _ p28 _ = H28; (have s28 := (congrArg (Same _) e28).mp (Same.new n28)); (have h28 := (congrArg (fun z : Hp => z p28 = some _) e28).mp upd_same); clear e28))
set_option hygiene false in
local macro_rules | `(tactic| walk_at "new29") => `(tactic| (intro p29 n29; generalize e29 : upd _ p29 _ = H29; (have s29 := (congrArg (Same _) e29).mp (Same.new n29)); (have h29 := (congrArg (fun z : Hp => z p29 = some _) e29).mp upd_same); clear e29))
set_option hygiene false in
local macro_rules | `(tactic| walk_at "new30") => `(tactic| (intro p30 n30; generalize e30 : upd _ p30 _ = H30; (have s30 := (congrArg (Same _) e30).mp (Same.new n30)); (have h30 := (congrArg (fun z : Hp => z p30 = some _) e30).mp upd_same); clear e30))
namespace K49
open PySem PySem.Spec PyProof.Rows L2 Nd
abbrev s_joined : Stmt := top 26
abbrev s_law_joined : Stmt := top 37
/-! ### rows of lines: from, to, line or none -/
structure R3 where
  lo : Int
  hi : Int
  ln : Option Int
def lnV : Option Int → V
  | none => .non
  | some i => .int i
def lnD : Option Int → PyData
  | none => .none
  | some i => .int i
def R3.vs (r : R3) : List V := [.int r.lo, .int r.hi, lnV r.ln]
def R3.ds (r : R3) : List PyData := [.int r.lo, .int r.hi, lnD r.ln]
theorem dp_ln {K : PySem.W.Frag} {H : Hp} : ∀ o, Dp K H (lnV o) (lnD o)
  | none => .non
  | some i => .int i
theorem dp_r3 {K : PySem.W.Frag} {H : Hp} (r : R3) : DpAll K H r.vs r.ds := .cons (.int _) (.cons (.int _) (.cons (dp_ln _) .nil))
def rowsD (rs : List R3) : PyData := .list (rs.map fun r => .tuple r.ds)
theorem lay_r3 (r : R3) : PyData.canLayAll0 r.ds = true := by
  obtain ⟨a, b, c⟩ := r
  cases c <;> rfl
theorem dep_r3 (r : R3) : PyData.depthAll r.ds = 0 := by
  obtain ⟨a, b, c⟩ := r
  cases c <;> rfl
theorem lay_rows : ∀ rs : List R3, PyData.canLayAll0 (rs.map fun r => .tuple r.ds) = true
  | [] => by simp [PyData.canLayAll0]
  | r :: t => by
    simp only [List.map_cons, PyData.canLayAll0, PyData.canLay0, lay_rows t, lay_r3 r]
    rfl
theorem dep_rows : ∀ rs : List R3, PyData.depthAll (rs.map fun r => PyData.tuple r.ds) ≤ 1
  | [] => by simp [PyData.depthAll]
  | r :: t => by
    have := dep_rows t
    simp only [List.map_cons, PyData.depthAll, PyData.depth, dep_r3 r]
    omega
theorem shaped_rows (rs : List R3) : SeqAt.shaped (rowsD rs) = true := by
  have h1 := dep_rows rs
  have h2 : PyData.depth (rowsD rs) ≤ 64 := by
    unfold rowsD
    simp only [PyData.depth]
    omega
  show (PyData.canLay0 (rowsD rs) && decide (PyData.depth (rowsD rs) ≤ 64)) = true
  rw [Bool.and_eq_true]
  exact ⟨by unfold rowsD; simp only [PyData.canLay0]; exact lay_rows rs, decide_eq_true h2⟩
theorem ln_eq (a b : Option Int) : decide (lnV a = lnV b) = decide (a = b) := by
  cases a <;> cases b <;> simp [lnV]
theorem ln_scal (a b : Option Int) : scal (lnV a) (lnV b) = true := by
  cases a <;> cases b <;> rfl
/-- one row more: neighbours of one line are joined -/
def jstep (acc : List R3) (r : R3) : List R3 := match acc.getLast? with
  | some q => if q.ln = r.ln then acc.dropLast ++ [⟨q.lo, r.hi, r.ln⟩] else acc ++ [r]
  | none => [r]
def joinR (rs : List R3) : List R3 := rs.foldl jstep []
theorem jstep_nil (r : R3) : jstep [] r = [r] := rfl
theorem jstep_eq {qs : List R3} {q r : R3} (h : q.ln = r.ln) : jstep (qs ++ [q]) r = qs ++ [⟨q.lo, r.hi, r.ln⟩] := by
  unfold jstep
  rw [List.getLast?_concat]
  show (if q.ln = r.ln then _ else _) = _
  rw [if_pos h, List.dropLast_concat]
theorem jstep_ne {qs : List R3} {q r : R3} (h : q.ln ≠ r.ln) : jstep (qs ++ [q]) r = qs ++ [q] ++ [r] := by
  unfold jstep
  rw [List.getLast?_concat]
  show (if q.ln = r.ln then _ else _) = _
  rw [if_neg h]
theorem jstep_len (acc : List R3) (r : R3) : (jstep acc r).length ≤ acc.length + 1 := by
  rcases List.eq_nil_or_concat acc with rfl | ⟨qs, q, rfl⟩
  · simp [jstep]
  · by_cases h : q.ln = r.ln
    · rw [List.concat_eq_append, jstep_eq h]
      simp
    · rw [List.concat_eq_append, jstep_ne h]
      simp
theorem join_take {rs : List R3} {i : Nat} {r : R3} (h : rs[i]? = some r) : joinR (rs.take (i + 1)) = jstep (joinR (rs.take i)) r := by
  unfold joinR
  rw [List.take_add_one, h, List.foldl_append]
  rfl
theorem fold_len : ∀ (rs acc : List R3), (rs.foldl jstep acc).length ≤ acc.length + rs.length
  | [], acc => by simp
  | r :: t, acc => by
    have h1 := fold_len t (jstep acc r)
    have h2 := jstep_len acc r
    rw [List.foldl_cons, List.length_cons]
    omega
theorem join_len (rs : List R3) : (joinR rs).length ≤ rs.length := by
  have := fold_len rs []
  simp at this
  exact this
/-- joined: rows in a list or a tuple, a new list of joined ones -/
def spJoined (K : PySem.W.Frag) : Sp := fun vs H Q _ => ∃ (a : Addr) (xs : List V) (rs : List R3), vs = [.ref a] ∧ SqB K H a xs ∧ TupsAt R3.vs H xs rs ∧ rs.length ≤ 100000 ∧
  ∀ q H' ys, H q = none → Same H H' → H' q = some (.lst ys) → TupsAt R3.vs H' ys (joinR rs) → Q (.ref q) H'
section
variable {P : Program} {w : World} {K : PySem.W.Frag} {mg : Str → Option Value} {base : Heap}
abbrev N_joined : List Str := ["rows", "found", "begin", "end", "line"]
theorem sc_joined : FnScope N_joined ["rows"] (defScope s_joined) := ⟨rfl, rfl, rfl, by decide +kernel, rfl, by decide +kernel, by decide +kernel⟩
theorem ok_joined {f : Addr} {fd : FuncData} (F : DefX K mg "joined" s_joined ["rows"] f fd) : CalX P w K mg base 1 "joined" (spJoined K) := by
  refine calx F sc_joined (fun vs H Q E h => ?_) (fun cdv A outer s H vs Q E hr h => ?_)
  · obtain ⟨a, xs, rs, rfl, _⟩ := h
    rfl
  · obtain ⟨a, xs, rs, rfl, hq, hR, hlen, k⟩ := h
    refine ⟨_, (pss_cons (ps_set (i := 1) sc_joined.nd rfl (.inl rfl) (pe_lst pa_nil))
    (pss_cons (ps_for PassesOwn.never rfl (pi_seq (pv 0)) (pg_tup (by rfl) (pgs_cons (pg_name (i := 2) sc_joined.nd rfl (.inl rfl)) (pgs_cons (pg_name (i := 3) sc_joined.nd rfl (.inl rfl)) (pgs_cons (pg_name (i := 4) sc_joined.nd rfl (.inl rfl)) pgs_nil))))
      (pss_one (ps_if (PW.pt (pw_and (pt_cmpR (op_neD hr.units) (pv 1) (pe_lst pa_nil) (nomark _)) (pw_and1 (pt_cmpR op_eq (pe_ix ix_tup (pe_ix ix_list (pv 1) (pe_un un_neg pe_int) (fun _ _ => rfl)) pe_int (fun _ _ => rfl)) (pv 4) (nomark _)))))
      (pss_one (ps_asg (pe_tup (pa_cons (pe_ix ix_tup (pe_ix ix_list (pv 1) (pe_un un_neg pe_int) (fun _ _ => rfl)) pe_int (fun _ _ => rfl)) (pa_cons (pv 3) (pa_cons (pv 4) pa_nil)))) (pg_sub (pv 1) (pe_un un_neg pe_int) set_list)))
      (pss_one (ps_expr (pe_bm PySem.F.plainAttrs_list PySem.F.slot_list_append PySem.F.type_list_append mt_append (pv 1) (pa_cons (pe_tup (pa_cons (pv 2) (pa_cons (pv 3) (pa_cons (pv 4) pa_nil)))) pa_nil)))))))
    (pss_one (ps_ret (pv 1))))), ?_⟩
    refine ⟨(by show 0 ≤ sizeLine; decide), ?_⟩
    intro f0 m0
    have s0 : Same H (upd H f0 (.lst [])) := Same.new m0
    have h0 : upd H f0 (.lst []) f0 = some (.lst []) := upd_same
    generalize upd H f0 (.lst []) = Hs at s0 h0 ⊢
    refine ⟨_, rfl, a, rfl, for_both (K := K) (xs := xs) hq
      (fun i σ H' => ∃ v2 v3 v4 ys, σ = [some (.ref a), some (.ref f0), v2, v3, v4] ∧ Same H H' ∧ H' f0 = some (.lst ys) ∧ TupsAt R3.vs H' ys (joinR (rs.take i)))
      ⟨_, _, _, [], rfl, s0, h0, trivial⟩ ?_ ?_ ?_⟩
    · rintro i σ H' hi ⟨v2, v3, v4, ys, rfl, s1, h1, t1⟩
      exact s1
    · rintro i x σ H' hi ⟨v2, v3, v4, ys, rfl, s1, h1, t1⟩
      obtain ⟨p, r, hri, rfl, hp⟩ := (hR.same s1).get hi
      rw [join_take hri]
      refine ⟨p, _, rfl, SqT.of hp, rfl, _, _, rfl, _, _, rfl, _, _, rfl, rfl, ?_⟩
      refine ⟨_, rfl, (by show 0 ≤ sizeLine; decide), ?_⟩
      intro p1 n1
      have s1' := Same.new (o := .lst []) n1
      have h1n : upd H' p1 (.lst []) p1 = some (.lst []) := upd_same
      generalize upd H' p1 (.lst []) = H1 at s1' h1n ⊢
      have h1' := s1' _ _ h1
      have t1' := t1.same s1'
      refine ⟨rowsD (joinR (rs.take i)), .list [], Dp.lst (SqL.of h1') (dp_tups dp_r3 t1'), Dp.lst (SqL.of h1n) .nil, shaped_rows _, rfl, _, rfl, ?_⟩
      have hl : (joinR (rs.take i)).length ≤ 100000 := by
        have h1 := join_len (rs.take i)
        have h2 : (rs.take i).length ≤ rs.length := by
          rw [List.length_take]
          exact Nat.min_le_right _ _
        omega
      have Sx := s1.trans s1'
      have add : ∀ {J : Hp}, Same H1 J → ∀ q, J q = none → (jstep (joinR (rs.take i)) r = joinR (rs.take i) ++ [r]) → ∃ ys', upd (upd J q (.tup [.int r.lo, .int r.hi, lnV r.ln])) f0 (.lst (ys ++ [.ref q])) f0 = some (.lst ys') ∧ Same H (upd (upd J q (.tup [.int r.lo, .int r.hi, lnV r.ln])) f0 (.lst (ys ++ [.ref q]))) ∧
          TupsAt R3.vs (upd (upd J q (.tup [.int r.lo, .int r.hi, lnV r.ln])) f0 (.lst (ys ++ [.ref q]))) ys' (jstep (joinR (rs.take i)) r) := by
        intro J sJ q nq e
        have sq : Same J (upd J q (.tup [.int r.lo, .int r.hi, lnV r.ln])) := Same.new nq
        have hJ := sq _ _ (sJ _ _ h1')
        refine ⟨ys ++ [.ref q], upd_same, Same.mut ((Sx.trans sJ).trans sq) m0, ?_⟩
        rw [e]
        refine TupsAt.snoc (p := q) ?_ (((t1'.same sJ).same sq).upd hJ)
        rw [upd_ne (by
          rintro rfl
          rw [sJ _ _ h1'] at nq
          cases nq)]
        exact upd_same
      rcases List.eq_nil_or_concat (joinR (rs.take i)) with e | ⟨qs, q, e⟩
      · rw [e]
        refine iteF ?_
        refine iteF ?_
        refine ⟨_, rfl, .inl ⟨rfl, _, SqL.of h1'⟩, _, rfl, _, rfl, _, rfl, (by show 3 ≤ sizeLine; decide), fun n nn => ?_⟩
        obtain ⟨ys', a1, a2, a3⟩ := add (Same.refl _) n nn (by rw [e]; rfl)
        rw [e] at a3
        refine ⟨f0, ys, _, rfl, rfl, (Same.new nn) _ _ h1', ?_, ⟨_, _, _, ys', rfl, a2, a1, a3⟩⟩
        rw [t1.len]
        exact Nat.lt_of_le_of_lt hl (by decide)
      · rw [List.concat_eq_append] at e
        have e3 : PyData.eqv (rowsD (joinR (rs.take i))) (.list []) = false := by
          rw [e]
          unfold rowsD
          rw [List.map_append]
          cases qs <;> simp [PyData.eqv, PyData.eqvAll]
        rw [e3]
        refine iteT ?_
        rw [e] at t1'
        obtain ⟨ys0, pq, eys, hpq, t0⟩ := t1'.unsnoc
        subst eys
        refine ⟨_, rfl, _, rfl, f0, _, _, _, rfl, rfl, SqL.of h1', atI_last _ _, pq, _, _, _, rfl, rfl, SqT.of hpq, (atI_nat (j := 2) rfl : atI q.vs 2 = some (lnV q.ln)), _, rfl, ln_scal _ _, _, rfl, ?_⟩
        rw [ln_eq]
        refine ite2 (fun c => ?_) (fun c => ?_)
        · have c' : q.ln = r.ln := of_decide_eq_true c
          rw [e, jstep_eq c']
          refine ⟨_, rfl, _, rfl, f0, _, _, _, rfl, rfl, SqL.of h1', atI_last _ _, pq, _, _, _, rfl, rfl, SqT.of hpq, (atI_nat (j := 0) rfl : atI q.vs 0 = some (.int q.lo)), _, rfl, _, rfl, (by show 3 ≤ sizeLine; decide), fun n nn => ?_⟩
          have sn : Same H1 (upd H1 n (.tup [.int q.lo, .int r.hi, lnV r.ln])) := Same.new nn
          refine ⟨_, rfl, _, rfl, f0, _, _, _, rfl, rfl, sn _ _ h1', ix_last, ?_⟩
          rw [set_last]
          refine ⟨_, _, _, ys0 ++ [.ref n], rfl, Same.mut (Sx.trans sn) m0, upd_same, ?_⟩
          refine TupsAt.snoc (p := n) ?_ ((t0.same sn).upd (sn _ _ h1'))
          rw [upd_ne (by
            rintro rfl
            rw [h1'] at nn
            cases nn)]
          exact upd_same
        · have c' : q.ln ≠ r.ln := fun z => c (decide_eq_true z)
          refine ⟨_, rfl, .inl ⟨rfl, _, SqL.of h1'⟩, _, rfl, _, rfl, _, rfl, (by show 3 ≤ sizeLine; decide), fun n nn => ?_⟩
          obtain ⟨ys', a1, a2, a3⟩ := add (Same.refl _) n nn (by rw [e]; exact jstep_ne c')
          refine ⟨f0, _, _, rfl, rfl, (Same.new nn) _ _ h1', ?_, ⟨_, _, _, ys', rfl, a2, a1, a3⟩⟩
          rw [t1.len]
          exact Nat.lt_of_le_of_lt hl (by decide)
    · rintro σ H' ⟨v2, v3, v4, ys, rfl, s1, h1, t1⟩
      rw [hR.len, List.take_length] at t1
      exact ⟨_, rfl, k f0 H' ys m0 s1 h1 t1⟩
abbrev N_law_joined : List Str := ["some", "found", "low", "high", "line"]
theorem sc_law_joined : FnScope N_law_joined ["some"] (defScope s_law_joined) := ⟨rfl, rfl, rfl, by decide +kernel, rfl, by decide +kernel, by decide +kernel⟩
theorem ok_law_joined {f : Addr} {fd : FuncData} (F : DefX K mg "_law_joined" s_law_joined ["some"] f fd) : CalX P w K mg base 1 "_law_joined" (spJoined K) := by
  refine calx F sc_law_joined (fun vs H Q E h => ?_) (fun cdv A outer s H vs Q E hr h => ?_)
  · obtain ⟨a, xs, rs, rfl, _⟩ := h
    rfl
  · obtain ⟨a, xs, rs, rfl, hq, hR, hlen, k⟩ := h
    refine ⟨_, (pss_cons (ps_set (i := 1) sc_law_joined.nd rfl (.inl rfl) (pe_lst pa_nil))
    (pss_cons (ps_for PassesOwn.never rfl (pi_seq (pv 0)) (pg_tup (by rfl) (pgs_cons (pg_name (i := 2) sc_law_joined.nd rfl (.inl rfl)) (pgs_cons (pg_name (i := 3) sc_law_joined.nd rfl (.inl rfl)) (pgs_cons (pg_name (i := 4) sc_law_joined.nd rfl (.inl rfl)) pgs_nil))))
      (pss_one (ps_if (PW.pt (pw_and (pt_cmpR (op_neD hr.units) (pv 1) (pe_lst pa_nil) (nomark _)) (pw_and1 (pt_cmpR op_eq (pe_ix ix_tup (pe_ix ix_list (pv 1) (pe_un un_neg pe_int) (fun _ _ => rfl)) pe_int (fun _ _ => rfl)) (pv 4) (nomark _)))))
      (pss_one (ps_asg (pe_tup (pa_cons (pe_ix ix_tup (pe_ix ix_list (pv 1) (pe_un un_neg pe_int) (fun _ _ => rfl)) pe_int (fun _ _ => rfl)) (pa_cons (pv 3) (pa_cons (pv 4) pa_nil)))) (pg_sub (pv 1) (pe_un un_neg pe_int) set_list)))
      (pss_one (ps_expr (pe_bm PySem.F.plainAttrs_list PySem.F.slot_list_append PySem.F.type_list_append mt_append (pv 1) (pa_cons (pe_tup (pa_cons (pv 2) (pa_cons (pv 3) (pa_cons (pv 4) pa_nil)))) pa_nil)))))))
    (pss_one (ps_ret (pv 1))))), ?_⟩
    refine ⟨(by show 0 ≤ sizeLine; decide), ?_⟩
    intro f0 m0
    have s0 : Same H (upd H f0 (.lst [])) := Same.new m0
    have h0 : upd H f0 (.lst []) f0 = some (.lst []) := upd_same
    generalize upd H f0 (.lst []) = Hs at s0 h0 ⊢
    refine ⟨_, rfl, a, rfl, for_both (K := K) (xs := xs) hq
      (fun i σ H' => ∃ v2 v3 v4 ys, σ = [some (.ref a), some (.ref f0), v2, v3, v4] ∧ Same H H' ∧ H' f0 = some (.lst ys) ∧ TupsAt R3.vs H' ys (joinR (rs.take i)))
      ⟨_, _, _, [], rfl, s0, h0, trivial⟩ ?_ ?_ ?_⟩
    · rintro i σ H' hi ⟨v2, v3, v4, ys, rfl, s1, h1, t1⟩
      exact s1
    · rintro i x σ H' hi ⟨v2, v3, v4, ys, rfl, s1, h1, t1⟩
      obtain ⟨p, r, hri, rfl, hp⟩ := (hR.same s1).get hi
      rw [join_take hri]
      refine ⟨p, _, rfl, SqT.of hp, rfl, _, _, rfl, _, _, rfl, _, _, rfl, rfl, ?_⟩
      refine ⟨_, rfl, (by show 0 ≤ sizeLine; decide), ?_⟩
      intro p1 n1
      have s1' := Same.new (o := .lst []) n1
      have h1n : upd H' p1 (.lst []) p1 = some (.lst []) := upd_same
      generalize upd H' p1 (.lst []) = H1 at s1' h1n ⊢
      have h1' := s1' _ _ h1
      have t1' := t1.same s1'
      refine ⟨rowsD (joinR (rs.take i)), .list [], Dp.lst (SqL.of h1') (dp_tups dp_r3 t1'), Dp.lst (SqL.of h1n) .nil, shaped_rows _, rfl, _, rfl, ?_⟩
      have hl : (joinR (rs.take i)).length ≤ 100000 := by
        have h1 := join_len (rs.take i)
        have h2 : (rs.take i).length ≤ rs.length := by
          rw [List.length_take]
          exact Nat.min_le_right _ _
        omega
      have Sx := s1.trans s1'
      have add : ∀ {J : Hp}, Same H1 J → ∀ q, J q = none → (jstep (joinR (rs.take i)) r = joinR (rs.take i) ++ [r]) → ∃ ys', upd (upd J q (.tup [.int r.lo, .int r.hi, lnV r.ln])) f0 (.lst (ys ++ [.ref q])) f0 = some (.lst ys') ∧ Same H (upd (upd J q (.tup [.int r.lo, .int r.hi, lnV r.ln])) f0 (.lst (ys ++ [.ref q]))) ∧
          TupsAt R3.vs (upd (upd J q (.tup [.int r.lo, .int r.hi, lnV r.ln])) f0 (.lst (ys ++ [.ref q]))) ys' (jstep (joinR (rs.take i)) r) := by
        intro J sJ q nq e
        have sq : Same J (upd J q (.tup [.int r.lo, .int r.hi, lnV r.ln])) := Same.new nq
        have hJ := sq _ _ (sJ _ _ h1')
        refine ⟨ys ++ [.ref q], upd_same, Same.mut ((Sx.trans sJ).trans sq) m0, ?_⟩
        rw [e]
        refine TupsAt.snoc (p := q) ?_ (((t1'.same sJ).same sq).upd hJ)
        rw [upd_ne (by
          rintro rfl
          rw [sJ _ _ h1'] at nq
          cases nq)]
        exact upd_same
      rcases List.eq_nil_or_concat (joinR (rs.take i)) with e | ⟨qs, q, e⟩
      · rw [e]
        refine iteF ?_
        refine iteF ?_
        refine ⟨_, rfl, .inl ⟨rfl, _, SqL.of h1'⟩, _, rfl, _, rfl, _, rfl, (by show 3 ≤ sizeLine; decide), fun n nn => ?_⟩
        obtain ⟨ys', a1, a2, a3⟩ := add (Same.refl _) n nn (by rw [e]; rfl)
        rw [e] at a3
        refine ⟨f0, ys, _, rfl, rfl, (Same.new nn) _ _ h1', ?_, ⟨_, _, _, ys', rfl, a2, a1, a3⟩⟩
        rw [t1.len]
        exact Nat.lt_of_le_of_lt hl (by decide)
      · rw [List.concat_eq_append] at e
        have e3 : PyData.eqv (rowsD (joinR (rs.take i))) (.list []) = false := by
          rw [e]
          unfold rowsD
          rw [List.map_append]
          cases qs <;> simp [PyData.eqv, PyData.eqvAll]
        rw [e3]
        refine iteT ?_
        rw [e] at t1'
        obtain ⟨ys0, pq, eys, hpq, t0⟩ := t1'.unsnoc
        subst eys
        refine ⟨_, rfl, _, rfl, f0, _, _, _, rfl, rfl, SqL.of h1', atI_last _ _, pq, _, _, _, rfl, rfl, SqT.of hpq, (atI_nat (j := 2) rfl : atI q.vs 2 = some (lnV q.ln)), _, rfl, ln_scal _ _, _, rfl, ?_⟩
        rw [ln_eq]
        refine ite2 (fun c => ?_) (fun c => ?_)
        · have c' : q.ln = r.ln := of_decide_eq_true c
          rw [e, jstep_eq c']
          refine ⟨_, rfl, _, rfl, f0, _, _, _, rfl, rfl, SqL.of h1', atI_last _ _, pq, _, _, _, rfl, rfl, SqT.of hpq, (atI_nat (j := 0) rfl : atI q.vs 0 = some (.int q.lo)), _, rfl, _, rfl, (by show 3 ≤ sizeLine; decide), fun n nn => ?_⟩
          have sn : Same H1 (upd H1 n (.tup [.int q.lo, .int r.hi, lnV r.ln])) := Same.new nn
          refine ⟨_, rfl, _, rfl, f0, _, _, _, rfl, rfl, sn _ _ h1', ix_last, ?_⟩
          rw [set_last]
          refine ⟨_, _, _, ys0 ++ [.ref n], rfl, Same.mut (Sx.trans sn) m0, upd_same, ?_⟩
          refine TupsAt.snoc (p := n) ?_ ((t0.same sn).upd (sn _ _ h1'))
          rw [upd_ne (by
            rintro rfl
            rw [h1'] at nn
            cases nn)]
          exact upd_same
        · have c' : q.ln ≠ r.ln := fun z => c (decide_eq_true z)
          refine ⟨_, rfl, .inl ⟨rfl, _, SqL.of h1'⟩, _, rfl, _, rfl, _, rfl, (by show 3 ≤ sizeLine; decide), fun n nn => ?_⟩
          obtain ⟨ys', a1, a2, a3⟩ := add (Same.refl _) n nn (by rw [e]; exact jstep_ne c')
          refine ⟨f0, _, _, rfl, rfl, (Same.new nn) _ _ h1', ?_, ⟨_, _, _, ys', rfl, a2, a1, a3⟩⟩
          rw [t1.len]
          exact Nat.lt_of_le_of_lt hl (by decide)
    · rintro σ H' ⟨v2, v3, v4, ys, rfl, s1, h1, t1⟩
      rw [hR.len, List.take_length] at t1
      exact ⟨_, rfl, k f0 H' ys m0 s1 h1 t1⟩
end
end K49
set_option maxHeartbeats 4000000
/-! ### entries of a table of lines, in plain words -/
namespace K49
open PySem PySem.Spec PyProof.Rows L2 Nd
abbrev En : Type := Nat × Option Int
/-- a number with its sign, as one of its own -/
def sg (n : Int) : Nat := if 0 ≤ n then (2 * n).toNat else (1 - 2 * n).toNat
theorem sg_pos {n : Int} (h : 0 ≤ n) : ((sg n : Nat) : Int) = 2 * n := by
  unfold sg
  rw [if_pos h]
  omega
theorem sg_neg {n : Int} (h : ¬ 0 ≤ n) : ((sg n : Nat) : Int) = 1 - 2 * n := by
  unfold sg
  rw [if_neg h]
  omega
theorem sg_one (n : Int) : sg n ≠ 1 := by
  unfold sg
  split <;> omega
theorem sg_lt {n : Int} {k : Nat} (h1 : -(k : Int) < n) (h2 : n < k) : sg n < 2 * k + 1 := by
  unfold sg
  split <;> omega
def ent (u : Nat) (m : Option Int) : List Int := match m with
  | none => [248 + (u : Int) - 1]
  | some n => (232 + (u : Int) - 1) :: mk (dig (sg n))
/-- the bytes of entries, behind the line last -/
def tb : List En → Int → List Int
  | [], _ => []
  | e :: r, last => ent e.1 (e.2.map (· - last)) ++ tb r (e.2.getD last)
def lastOf (es : List En) (last : Int) : Int := es.foldl (fun a e => e.2.getD a) last
theorem tb_app : ∀ (xs ys : List En) (l : Int), tb (xs ++ ys) l = tb xs l ++ tb ys (lastOf xs l)
  | [], ys, l => rfl
  | e :: r, ys, l => by
    show ent e.1 _ ++ tb (r ++ ys) _ = (ent e.1 _ ++ tb r _) ++ _
    rw [tb_app r ys, List.append_assoc]
    rfl
theorem tb_one (e : En) (l : Int) : tb [e] l = ent e.1 (e.2.map (· - l)) := by
  show ent e.1 _ ++ [] = _
  rw [List.append_nil]
theorem last_app (xs ys : List En) (l : Int) : lastOf (xs ++ ys) l = lastOf ys (lastOf xs l) := by
  unfold lastOf
  rw [List.foldl_append]
def rowsOf : List En → Int → List R3
  | [], _ => []
  | e :: r, b => ⟨b, b + 2 * (e.1 : Int), e.2⟩ :: rowsOf r (b + 2 * (e.1 : Int))
def endOf (es : List En) (b : Int) : Int := es.foldl (fun a e => a + 2 * (e.1 : Int)) b
theorem rows_app : ∀ (xs ys : List En) (b : Int), rowsOf (xs ++ ys) b = rowsOf xs b ++ rowsOf ys (endOf xs b)
  | [], ys, b => rfl
  | e :: r, ys, b => by
    show _ :: rowsOf (r ++ ys) _ = _ :: (rowsOf r _ ++ _)
    rw [rows_app r ys]
    rfl
theorem end_app (xs ys : List En) (b : Int) : endOf (xs ++ ys) b = endOf ys (endOf xs b) := by
  unfold endOf
  rw [List.foldl_append]
theorem rows_len : ∀ (es : List En) (b : Int), (rowsOf es b).length = es.length
  | [], _ => rfl
  | e :: r, b => congrArg (· + 1) (rows_len r _)
/-! joining -/
def jE (acc : List En) (e : En) : List En := match acc.getLast? with
  | some q => if q.2 = e.2 then acc.dropLast ++ [(q.1 + e.1, e.2)] else acc ++ [e]
  | none => [e]
def joinE (es : List En) : List En := es.foldl jE []
theorem jE_eq {qs : List En} {q e : En} (h : q.2 = e.2) : jE (qs ++ [q]) e = qs ++ [(q.1 + e.1, e.2)] := by
  unfold jE
  rw [List.getLast?_concat]
  show (if q.2 = e.2 then _ else _) = _
  rw [if_pos h, List.dropLast_concat]
theorem jE_ne {qs : List En} {q e : En} (h : q.2 ≠ e.2) : jE (qs ++ [q]) e = qs ++ [q] ++ [e] := by
  unfold jE
  rw [List.getLast?_concat]
  show (if q.2 = e.2 then _ else _) = _
  rw [if_neg h]
/-- rows of entries, joined -/
theorem fold_rows : ∀ (es acc : List En) (b : Int), (rowsOf es (endOf acc b)).foldl jstep (rowsOf acc b) = rowsOf (es.foldl jE acc) b
  | [], acc, b => rfl
  | e :: r, acc, b => by
    have step : jstep (rowsOf acc b) ⟨endOf acc b, endOf acc b + 2 * (e.1 : Int), e.2⟩ = rowsOf (jE acc e) b ∧ endOf (jE acc e) b = endOf acc b + 2 * (e.1 : Int) := by
      rcases List.eq_nil_or_concat acc with rfl | ⟨qs, q, rfl⟩
      · exact ⟨rfl, rfl⟩
      · rw [List.concat_eq_append, rows_app, end_app]
        show jstep (rowsOf qs b ++ [⟨endOf qs b, endOf qs b + 2 * (q.1 : Int), q.2⟩]) _ = _ ∧ _
        by_cases h : q.2 = e.2
        · rw [jstep_eq h, jE_eq h, rows_app, end_app]
          have e1 : endOf qs b + 2 * (q.1 : Int) + 2 * (e.1 : Int) = endOf qs b + 2 * ((q.1 + e.1 : Nat) : Int) := by omega
          refine ⟨?_, ?_⟩
          · show rowsOf qs b ++ [⟨endOf qs b, endOf qs b + 2 * (q.1 : Int) + 2 * (e.1 : Int), e.2⟩] = rowsOf qs b ++ [⟨endOf qs b, endOf qs b + 2 * ((q.1 + e.1 : Nat) : Int), e.2⟩]
            rw [e1]
          · exact e1.symm
        · rw [jstep_ne h, jE_ne h, rows_app (qs ++ [q]) [e], rows_app qs [q], end_app (qs ++ [q]) [e], end_app qs [q]]
          exact ⟨rfl, rfl⟩
    obtain ⟨h1, h2⟩ := step
    show (rowsOf r (endOf acc b + 2 * (e.1 : Int))).foldl jstep (jstep (rowsOf acc b) _) = rowsOf (r.foldl jE (jE acc e)) b
    rw [h1, ← h2]
    exact fold_rows r (jE acc e) b
theorem join_rows (es : List En) : joinR (rowsOf es 0) = rowsOf (joinE es) 0 := fold_rows es [] 0
/-- cut into pieces of one to eight units -/
inductive Cut : List En → List En → Prop
  | nil : Cut [] []
  | cons {u : Nat} {l : Option Int} {ps : List Nat} {cs es : List En} (hs : ps.sum = u) (hn : ps ≠ []) (hp : ∀ p ∈ ps, 1 ≤ p ∧ p ≤ 8) (t : Cut cs es) : Cut (ps.map (·, l) ++ cs) ((u, l) :: es)
theorem jE_more (l : Option Int) : ∀ (ps : List Nat) (qs : List En) (u : Nat), (ps.map ((·, l) : Nat → En)).foldl jE (qs ++ [(u, l)]) = qs ++ [(u + ps.sum, l)]
  | [], qs, u => by simp
  | p :: r, qs, u => by
    show (r.map ((·, l) : Nat → En)).foldl jE (jE (qs ++ [(u, l)]) (p, l)) = _
    rw [jE_eq (q := (u, l)) (e := (p, l)) rfl]
    show (r.map ((·, l) : Nat → En)).foldl jE (qs ++ [(u + p, l)]) = _
    rw [jE_more l r qs (u + p), List.sum_cons, Nat.add_assoc]
theorem jE_cut {l : Option Int} {ps : List Nat} (hn : ps ≠ []) (acc : List En) : (ps.map ((·, l) : Nat → En)).foldl jE acc = jE acc (ps.sum, l) := by
  cases ps with
  | nil => exact (hn rfl).elim
  | cons p r =>
    show (r.map ((·, l) : Nat → En)).foldl jE (jE acc (p, l)) = _
    rcases List.eq_nil_or_concat acc with rfl | ⟨qs, q, rfl⟩
    · have := jE_more l r [] p
      rw [List.sum_cons]
      exact this
    · rw [List.concat_eq_append]
      by_cases h : q.2 = l
      · rw [jE_eq (e := (p, l)) h, jE_eq (e := ((p :: r).sum, l)) h]
        show (r.map ((·, l) : Nat → En)).foldl jE (qs ++ [(q.1 + p, l)]) = qs ++ [(q.1 + (p :: r).sum, l)]
        rw [jE_more l r qs (q.1 + p), List.sum_cons, Nat.add_assoc]
      · rw [jE_ne (e := (p, l)) h, jE_ne (e := ((p :: r).sum, l)) h, jE_more l r (qs ++ [q]) p, List.sum_cons]
theorem cut_fold {cs es : List En} (h : Cut cs es) : ∀ acc, cs.foldl jE acc = es.foldl jE acc := by
  induction h with
  | nil => intro acc; rfl
  | @cons u l ps cs es hs hn hp t ih =>
    intro acc
    rw [List.foldl_append, jE_cut hn, hs]
    exact ih _
theorem cut_join {cs es : List En} (h : Cut cs es) : joinE cs = joinE es := cut_fold h []
/-- neighbours of unlike lines -/
def Sep (l : List En) : Prop := ∀ p q a b, l = p ++ a :: b :: q → a.2 ≠ b.2
theorem sep_nil : Sep [] := fun p q a b h => by simp at h
theorem sep_step {acc : List En} (h : Sep acc) (e : En) : Sep (jE acc e) := by
  rcases List.eq_nil_or_concat acc with rfl | ⟨qs, q, rfl⟩
  · intro p t a b z
    have z : [e] = p ++ a :: b :: t := z
    have := congrArg List.length z
    simp at this
    omega
  · rw [List.concat_eq_append] at h ⊢
    by_cases c : q.2 = e.2
    · rw [jE_eq c]
      intro p t a b z
      rcases List.eq_nil_or_concat t with rfl | ⟨t', x, rfl⟩
      · have z' : qs ++ [(q.1 + e.1, e.2)] = (p ++ [a]) ++ [b] := by rw [z]; simp
        obtain ⟨z1, z2⟩ := List.append_inj' z' rfl
        have z3 : (q.1 + e.1, e.2) = b := by injection z2
        rw [← z3]
        show a.2 ≠ e.2
        rw [← c]
        exact h p [] a q (by rw [z1]; simp)
      · rw [List.concat_eq_append] at z
        have z' : qs ++ [(q.1 + e.1, e.2)] = (p ++ a :: b :: t') ++ [x] := by rw [z]; simp
        obtain ⟨z1, _⟩ := List.append_inj' z' rfl
        exact h p (t' ++ [q]) a b (by rw [z1]; simp)
    · rw [jE_ne c]
      intro p t a b z
      rcases List.eq_nil_or_concat t with rfl | ⟨t', x, rfl⟩
      · have z' : qs ++ [q] ++ [e] = (p ++ [a]) ++ [b] := by rw [z]; simp
        obtain ⟨z1, z2⟩ := List.append_inj' z' rfl
        obtain ⟨_, z4⟩ := List.append_inj' z1 rfl
        have z3 : e = b := by injection z2
        have z5 : q = a := by injection z4
        rw [← z3, ← z5]
        exact c
      · rw [List.concat_eq_append] at z
        have z' : qs ++ [q] ++ [e] = (p ++ a :: b :: t') ++ [x] := by rw [z]; simp
        obtain ⟨z1, _⟩ := List.append_inj' z' rfl
        exact h p t' a b z1
theorem sep_fold : ∀ (es acc : List En), Sep acc → Sep (es.foldl jE acc)
  | [], _, h => h
  | e :: r, acc, h => sep_fold r _ (sep_step h e)
theorem sep_id : ∀ (es acc : List En), Sep (acc ++ es) → es.foldl jE acc = acc ++ es
  | [], acc, _ => by simp
  | e :: r, acc, h => by
    have s : jE acc e = acc ++ [e] := by
      rcases List.eq_nil_or_concat acc with rfl | ⟨qs, q, rfl⟩
      · rfl
      · rw [List.concat_eq_append] at h ⊢
        exact jE_ne (h qs r q e (by simp))
    show r.foldl jE (jE acc e) = _
    rw [s, sep_id r (acc ++ [e]) (by rw [List.append_assoc]; exact h), List.append_assoc]
    rfl
theorem join_join (es : List En) : joinE (joinE es) = joinE es := by
  have h := sep_fold es [] sep_nil
  exact sep_id (joinE es) [] h
/-- what holds of all units and lines -/
theorem fold_all {U : Nat → Prop} {L : Option Int → Prop} (hU : ∀ a b, U a → U b → U (a + b)) : ∀ (es acc : List En), (∀ e ∈ acc, U e.1 ∧ L e.2) → (∀ e ∈ es, U e.1 ∧ L e.2) → ∀ e ∈ es.foldl jE acc, U e.1 ∧ L e.2
  | [], _, h, _ => h
  | x :: r, acc, h, g => by
    refine fold_all hU r (jE acc x) (fun e he => ?_) fun e he => g e (by simp [he])
    have gx := g x (by simp)
    rcases List.eq_nil_or_concat acc with rfl | ⟨qs, q, rfl⟩
    · have : e = x := by simpa [jE] using he
      rw [this]
      exact gx
    · rw [List.concat_eq_append] at h he
      by_cases c : q.2 = x.2
      · rw [jE_eq c] at he
        rcases List.mem_append.mp he with z | z
        · exact h e (by simp [z])
        · have z : e = (q.1 + x.1, x.2) := by simpa using z
          rw [z]
          exact ⟨hU _ _ (h q (by simp)).1 gx.1, gx.2⟩
      · rw [jE_ne c] at he
        rcases List.mem_append.mp he with z | z
        · exact h e z
        · have z : e = x := by simpa using z
          rw [z]
          exact gx
/-! eight units at most -/
def chunks (u : Nat) : List Nat := (List.range ((u + 7) / 8)).map fun k => min 8 (u - 8 * k)
theorem chunks_sum (u : Nat) : (chunks u).sum = u := by
  have key : ∀ n, ((List.range n).map fun k => min 8 (u - 8 * k)).sum = min u (8 * n) := by
    intro n
    induction n with
    | zero => simp
    | succ n ih =>
      rw [List.range_succ, List.map_append, List.sum_append, ih]
      simp
      omega
  unfold chunks
  rw [key]
  omega
theorem chunks_mem {u : Nat} : ∀ p ∈ chunks u, 1 ≤ p ∧ p ≤ 8 := by
  intro p h
  unfold chunks at h
  obtain ⟨k, hk, rfl⟩ := List.mem_map.mp h
  have := List.mem_range.mp hk
  omega
theorem chunks_ne {u : Nat} (h : 1 ≤ u) : chunks u ≠ [] := by
  intro z
  have := chunks_sum u
  rw [z] at this
  simp at this
  omega
theorem chunks_at {u k : Nat} (h : k < (u + 7) / 8) : (chunks u)[k]? = some (min 8 (u - 8 * k)) := by
  unfold chunks
  rw [List.getElem?_map, List.getElem?_range h]
  rfl
def chE (es : List En) : List En := es.flatMap fun e => (chunks e.1).map (·, e.2)
theorem cut_ch : ∀ es : List En, (∀ e ∈ es, 1 ≤ e.1) → Cut (chE es) es
  | [], _ => .nil
  | (u, l) :: r, h => .cons (chunks_sum u) (chunks_ne (h (u, l) (by simp))) chunks_mem (cut_ch r fun e he => h e (by simp [he]))
end K49
set_option maxHeartbeats 4000000
namespace K49
open PySem PySem.Spec PyProof.Rows L2 Nd
abbrev s_law_entry : Stmt := top 38
def Mid (n : Int) : Prop := -(2 ^ 28) < n ∧ n < 2 ^ 28
theorem Mid.sg5 {n : Int} (h : Mid n) : sg n < 64 ^ 5 := by
  obtain ⟨a, b⟩ := h
  have := sg_lt (k := 2 ^ 28) (n := n) (by omega) (by omega)
  have e : (64 : Nat) ^ 5 = 2 ^ 30 := by decide
  omega
theorem Mid.sg {n : Int} (h : Mid n) : sg n < 64 ^ 20 := Nat.lt_of_lt_of_le h.sg5 (by decide)
theorem dig_len' {n : Int} (h : Mid n) : (dig (sg n)).length ≤ 2000 := Nat.le_trans (dig_len 20 _ h.sg) (by decide)
section
variable {P : Program} {w : World} {K : PySem.W.Frag} {mg : Str → Option Value} {base : Heap}
/-! ### _law_entry -/
def spEntry : Sp := fun vs H Q _ => ∃ (u : Nat) (m : Option Int), vs = [.int (u : Int), lnV m] ∧ (∀ n, m = some n → Mid n) ∧ ∀ p H', H p = none → Same H H' → H' p = some (.lst ((ent u m).map V.int)) → Q (.ref p) H'
abbrev N_law_entry : List Str := ["units", "more", "number"]
theorem sc_law_entry : FnScope N_law_entry ["units", "more"] (defScope s_law_entry) := ⟨rfl, rfl, rfl, by decide +kernel, rfl, by decide +kernel, by decide +kernel⟩
theorem ok_law_entry {f : Addr} {fd : FuncData} (c_law_pieces : CalX P w K mg base 1 "_law_pieces" spLPieces) (c_law_marked : CalX P w K mg base 1 "_law_marked" (spMarked K)) (F : DefX K mg "_law_entry" s_law_entry ["units", "more"] f fd) : CalX P w K mg base 2 "_law_entry" spEntry := by
  refine calx F sc_law_entry (fun vs H Q E h => ?_) (fun cdv A outer s H vs Q E hr h => ?_)
  · obtain ⟨u, m, rfl, _⟩ := h
    rfl
  · obtain ⟨u, m, rfl, hm, k⟩ := h
    refine ⟨_, (pss_cons (ps_if (pt_cmpR op_isN (pv 1) pe_non (nomark _))
      (pss_one (ps_ret (pe_lst (pa_cons (pe_op op_sub (pe_op op_add pe_int (pv 0)) pe_int) pa_nil))))
      pss_nil)
    (pss_cons (ps_set (i := 2) sc_law_entry.nd rfl (.inl rfl) (pe_ifExp (pt_cmpR op_ge (pv 1) pe_int (nomark _)) (pe_op op_mul pe_int (pv 1)) (pe_op op_sub pe_int (pe_op op_mul pe_int (pv 1)))))
    (pss_one (ps_ret (pe_op op_cat (pe_lst (pa_cons (pe_op op_sub (pe_op op_add pe_int (pv 0)) pe_int) pa_nil)) (pe_cx c_law_marked hr (by decide) rfl (pa_cons (pe_cx c_law_pieces hr (by decide) rfl (pa_cons (pv 2) pa_nil)) pa_nil))))))), ?_⟩
    cases m with
    | none =>
      refine ⟨_, rfl, rfl, _, rfl, iteT ?_⟩
      refine ⟨_, rfl, _, _, rfl, rfl, _, _, rfl, rfl, (by show 1 ≤ sizeLine; decide), fun p n1 => ?_⟩
      exact k p _ n1 (Same.new n1) upd_same
    | some n =>
      have hm := hm n rfl
      refine ⟨_, rfl, rfl, _, rfl, iteF ?_⟩
      refine ⟨_, rfl, _, _, rfl, rfl, _, rfl, ?_⟩
      refine ite2 (fun c => ?_) (fun c => ?_)
      · have hp : 0 ≤ n := of_decide_eq_true c
        refine ⟨_, rfl, _, _, rfl, rfl, .inl ⟨by decide, by decide⟩, ?_⟩
        refine ⟨_, rfl, _, _, rfl, rfl, _, _, rfl, rfl, (by show 1 ≤ sizeLine; decide), ?_⟩
        walk_at "new1"
        refine ⟨_, rfl, sg n, by rw [sg_pos hp]; rfl, lt60 hm.sg, fun p2 H2 n2 s2 h2 => ?_⟩
        refine ⟨p2, _, rfl, SqL.of h2, dig_ne _, dig_len' hm, fun p3 H3 n3 s3 h3 => ?_⟩
        refine ⟨p1, p3, _, _, rfl, rfl, (s2.trans s3) _ _ h1, h3, ?_, ?_⟩
        · rw [List.length_map, mk_len]
          exact Nat.le_trans (Nat.add_le_add_left (dig_len' hm) 1) (by decide)
        · walk_at "new4"
          exact k p4 H4 (s1.free (s2.free (s3.free n4))) (((s1.trans s2).trans s3).trans s4) (by rw [h4]; rfl)
      · have hp : ¬ 0 ≤ n := fun z => c (decide_eq_true z)
        refine ⟨_, rfl, _, _, rfl, rfl, .inl ⟨by decide, by decide⟩, _, _, rfl, rfl, ?_⟩
        refine ⟨_, rfl, _, _, rfl, rfl, _, _, rfl, rfl, (by show 1 ≤ sizeLine; decide), ?_⟩
        walk_at "new1"
        refine ⟨_, rfl, sg n, by rw [sg_neg hp]; rfl, lt60 hm.sg, fun p2 H2 n2 s2 h2 => ?_⟩
        refine ⟨p2, _, rfl, SqL.of h2, dig_ne _, dig_len' hm, fun p3 H3 n3 s3 h3 => ?_⟩
        refine ⟨p1, p3, _, _, rfl, rfl, (s2.trans s3) _ _ h1, h3, ?_, ?_⟩
        · rw [List.length_map, mk_len]
          exact Nat.le_trans (Nat.add_le_add_left (dig_len' hm) 1) (by decide)
        · walk_at "new4"
          exact k p4 H4 (s1.free (s2.free (s3.free n4))) (((s1.trans s2).trans s3).trans s4) (by rw [h4]; rfl)
end
end K49
set_option maxHeartbeats 4000000
/-! ### bounds of entries -/
namespace K49
open PySem PySem.Spec PyProof.Rows L2 Nd
def Lok (o : Option Int) : Prop := ∀ i, o = some i → 0 ≤ i ∧ i < 2 ^ 27
def tot (es : List En) : Nat := (es.map (·.1)).sum
structure EsOk (es : List En) : Prop where
  u : ∀ e ∈ es, 1 ≤ e.1
  l : ∀ e ∈ es, Lok e.2
  t : tot es ≤ 10000
def Bas (i : Int) : Prop := 0 ≤ i ∧ i < 2 ^ 27
theorem tot_app (xs ys : List En) : tot (xs ++ ys) = tot xs + tot ys := by
  unfold tot
  rw [List.map_append, List.sum_append]
theorem tot_jE (acc : List En) (e : En) : tot (jE acc e) = tot acc + e.1 := by
  rcases List.eq_nil_or_concat acc with rfl | ⟨qs, q, rfl⟩
  · simp [jE, tot]
  · rw [List.concat_eq_append]
    by_cases c : q.2 = e.2
    · rw [jE_eq c, tot_app, tot_app]
      simp [tot]
      omega
    · rw [jE_ne c, tot_app, tot_app]
      simp [tot]
theorem tot_fold : ∀ (es acc : List En), tot (es.foldl jE acc) = tot acc + tot es
  | [], acc => by simp [tot]
  | e :: r, acc => by
    rw [List.foldl_cons, tot_fold r, tot_jE]
    have : tot (e :: r) = e.1 + tot r := by simp [tot]
    omega
theorem len_tot : ∀ es : List En, (∀ e ∈ es, 1 ≤ e.1) → es.length ≤ tot es
  | [], _ => by simp [tot]
  | e :: r, h => by
    have h1 := len_tot r fun x hx => h x (by simp [hx])
    have h2 := h e (by simp)
    have e2 : tot (e :: r) = e.1 + tot r := by simp [tot]
    rw [List.length_cons]
    omega
theorem EsOk.len {es : List En} (h : EsOk es) : es.length ≤ 100000 := Nat.le_trans (len_tot es h.u) (Nat.le_trans h.t (by decide))
theorem EsOk.join {es : List En} (h : EsOk es) : EsOk (joinE es) := by
  have a := fold_all (U := fun u => 1 ≤ u) (L := Lok) (fun a b x y => Nat.le_trans x (Nat.le_add_right _ _)) es [] (by simp) fun e he => ⟨h.u e he, h.l e he⟩
  refine ⟨fun e he => (a e he).1, fun e he => (a e he).2, ?_⟩
  have := tot_fold es []
  have z : tot ([] : List En) = 0 := rfl
  have := h.t
  show tot (es.foldl jE []) ≤ 10000
  omega
theorem last_bas : ∀ (es : List En) (last : Int), (∀ e ∈ es, Lok e.2) → Bas last → Bas (lastOf es last)
  | [], _, _, h => h
  | (u, none) :: r, last, g, h => last_bas r last (fun e he => g e (by simp [he])) h
  | (u, some i) :: r, last, g, h => last_bas r i (fun e he => g e (by simp [he])) (g (u, some i) (by simp) i rfl)
theorem mid_of {a b : Int} (h : Bas a) (g : Bas b) : Mid (a - b) := by
  obtain ⟨h1, h2⟩ := h
  obtain ⟨g1, g2⟩ := g
  exact ⟨by omega, by omega⟩
theorem diff_mid {o : Option Int} {last n : Int} (h : Lok o) (g : Bas last) (e : o.map (· - last) = some n) : Mid n := by
  cases o with
  | none => cases e
  | some i =>
    have e : i - last = n := by injection e
    rw [← e]
    exact mid_of (h i rfl) g
theorem ent_len {u : Nat} {m : Option Int} (h : ∀ n, m = some n → Mid n) : (ent u m).length ≤ 7 := by
  cases m with
  | none => show 1 ≤ 7; decide
  | some n =>
    show (mk (dig (sg n))).length + 1 ≤ 7
    rw [mk_len]
    have := dig_len 5 _ (h n rfl).sg5
    omega
theorem tb_len : ∀ (es : List En) (last : Int), (∀ e ∈ es, Lok e.2) → Bas last → (tb es last).length ≤ 7 * es.length
  | [], _, _, _ => by simp [tb]
  | e :: r, last, h, g => by
    have h1 := ent_len (u := e.1) (m := e.2.map (· - last)) fun n z => diff_mid (h e (by simp)) g z
    have gl : Bas (e.2.getD last) := last_bas [e] last (by simpa using h e (by simp)) g
    have h2 := tb_len r (e.2.getD last) (fun x hx => h x (by simp [hx])) gl
    show (ent e.1 _ ++ tb r _).length ≤ _
    rw [List.length_append, List.length_cons]
    omega
theorem ch_len1 (u : Nat) : (chunks u).length ≤ u := by
  unfold chunks
  rw [List.length_map, List.length_range]
  omega
theorem chE_len : ∀ es : List En, (chE es).length ≤ tot es
  | [] => by simp [chE, tot]
  | e :: r => by
    have h1 := chE_len r
    have h2 := ch_len1 e.1
    have e1 : chE (e :: r) = (chunks e.1).map (·, e.2) ++ chE r := rfl
    have e2 : tot (e :: r) = e.1 + tot r := by simp [tot]
    rw [e1, List.length_append, List.length_map]
    omega
theorem tot_take (es : List En) (i : Nat) : tot (es.take i) ≤ tot es := by
  have : tot es = tot (es.take i) + tot (es.drop i) := by rw [← tot_app, List.take_append_drop]
  omega
theorem tot_mem {es : List En} {e : En} (h : e ∈ es) : e.1 ≤ tot es := by
  obtain ⟨a, b, rfl⟩ := List.append_of_mem h
  rw [tot_app]
  simp [tot]
  omega
theorem chE_mem {es : List En} {e : En} (h : e ∈ chE es) : ∃ x ∈ es, e.2 = x.2 ∧ 1 ≤ e.1 ∧ e.1 ≤ 8 := by
  unfold chE at h
  obtain ⟨x, hx, h⟩ := List.mem_flatMap.mp h
  obtain ⟨p, hp, rfl⟩ := List.mem_map.mp h
  exact ⟨x, hx, rfl, chunks_mem p hp⟩
theorem chE_take {es : List En} {i : Nat} {e : En} (h : es[i]? = some e) : chE (es.take (i + 1)) = chE (es.take i) ++ (chunks e.1).map (·, e.2) := by
  unfold chE
  rw [List.take_add_one, h, List.flatMap_append]
  simp
theorem rows_get : ∀ {es : List En} {b : Int} {i : Nat} {r : R3}, (rowsOf es b)[i]? = some r → ∃ e, es[i]? = some e ∧ r.hi - r.lo = 2 * (e.1 : Int) ∧ r.ln = e.2
  | [], b, i, r, h => by simp [rowsOf] at h
  | e :: t, b, 0, r, h => by
    have h' : (⟨b, b + 2 * (e.1 : Int), e.2⟩ : R3) = r := Option.some.inj h
    subst h'
    exact ⟨e, rfl, by show b + 2 * (e.1 : Int) - b = _; omega, rfl⟩
  | e :: t, b, i + 1, r, h => rows_get (es := t) h
/-- one entry more -/
theorem tb_more (done : List En) (p : Nat) (l : Option Int) (line : Int) : tb (done ++ [(p, l)]) line = tb done line ++ ent p (l.map (· - lastOf done line)) := by
  rw [tb_app, tb_one]
theorem last_more (done : List En) (p : Nat) (l : Option Int) (line : Int) : lastOf (done ++ [(p, l)]) line = l.getD (lastOf done line) := by
  rw [last_app]
  rfl
/-- what is done of a row: k chunks of it -/
def part (es : List En) (e : En) (k : Nat) : List En := chE es ++ ((chunks e.1).take k).map (·, e.2)
theorem part_zero (es : List En) (e : En) : part es e 0 = chE es := by simp [part]
theorem part_succ {es : List En} {e : En} {k : Nat} (h : k < (e.1 + 7) / 8) : part es e (k + 1) = part es e k ++ [(min 8 (e.1 - 8 * k), e.2)] := by
  unfold part
  rw [List.take_add_one, chunks_at h, List.map_append, List.append_assoc]
  rfl
theorem chunks_len (u : Nat) : (chunks u).length = (u + 7) / 8 := by
  unfold chunks
  rw [List.length_map, List.length_range]
theorem part_all (es : List En) (e : En) : part es e ((e.1 + 7) / 8) = chE es ++ (chunks e.1).map (·, e.2) := by
  unfold part
  rw [← chunks_len, List.take_length]
theorem part_ok {es : List En} (h : EsOk es) {i : Nat} {e : En} (hi : es[i]? = some e) (k : Nat) : (∀ x ∈ part (es.take i) e k, Lok x.2) ∧ (part (es.take i) e k).length ≤ 20000 := by
  have he := List.mem_of_getElem? hi
  refine ⟨fun x hx => ?_, ?_⟩
  · rcases List.mem_append.mp hx with z | z
    · obtain ⟨y, hy, e1, _⟩ := chE_mem z
      rw [e1]
      exact h.l y (List.mem_of_mem_take hy)
    · obtain ⟨p, _, rfl⟩ := List.mem_map.mp z
      exact h.l e he
  · have h1 := chE_len (es.take i)
    have h2 := tot_take es i
    have h3 := h.t
    have h4 := ch_len1 e.1
    have h5 := tot_mem he
    have h6 : ((chunks e.1).take k).length ≤ (chunks e.1).length := by
      rw [List.length_take]
      exact Nat.min_le_right _ _
    unfold part
    rw [List.length_append, List.length_map]
    omega
end K49
set_option maxHeartbeats 4000000
namespace K49
open PySem PySem.Spec PyProof.Rows L2 Nd
structure Gl4 (mg : Str → Option Value) : Prop where
  c_NO_LINE : ∃ u, mg "NO_LINE" = some u ∧ RelV (.int 15) u
  c_ONE_LINE : ∃ u, mg "ONE_LINE" = some u ∧ RelV (.int 13) u
  n_min : mg "min" = none
/-- the rows of es stand in the list or tuple at a -/
def RowsIn (K : PySem.W.Frag) (H : Hp) (a : Addr) (es : List En) : Prop := ∃ xs, SqB K H a xs ∧ TupsAt R3.vs H xs (rowsOf es 0)
theorem RowsIn.same {K : PySem.W.Frag} {H H' : Hp} {a : Addr} {es : List En} (h : RowsIn K H a es) (s : Same H H') : RowsIn K H' a es := by
  obtain ⟨xs, h1, h2⟩ := h
  exact ⟨xs, h1.same s, h2.same s⟩
theorem lo_none {o : Option Int} (h : lnV o = .non) : o = none := by
  cases o with
  | none => rfl
  | some i => cases h
section
variable {P : Program} {w : World} {K : PySem.W.Frag} {mg : Str → Option Value} {base : Heap}
end
end K49
set_option maxHeartbeats 4000000
namespace K49
open PySem PySem.Spec PyProof.Rows L2 Nd
abbrev s_law_line_bytes : Stmt := top 39
def spLLineBytes : Sp := fun vs H Q _ => ∃ (a : Addr) (xs : List V) (es : List En) (line : Int), vs = [.ref a, .int line] ∧ H a = some (.lst xs) ∧ TupsAt R3.vs H xs (rowsOf es 0) ∧ EsOk es ∧ Bas line ∧
  ∀ q H', H q = none → Same H H' → H' q = some (.lst ((tb (chE (joinE es)) line).map V.int)) → Q (.ref q) H'
theorem getD_if (o : Option Int) (x : Int) : (match o with | none => x | some i => i) = o.getD x := by
  cases o <;> rfl
section
variable {P : Program} {w : World} {K : PySem.W.Frag} {mg : Str → Option Value} {base : Heap}
abbrev N_law_line_bytes : List Str := ["some", "line", "found", "low", "high", "here", "many", "k"]
theorem sc_law_line_bytes : FnScope N_law_line_bytes ["some", "line"] (defScope s_law_line_bytes) := ⟨rfl, rfl, rfl, by decide +kernel, rfl, by decide +kernel, by decide +kernel⟩
theorem ok_law_line_bytes {f : Addr} {fd : FuncData} (T0 : Gl0 mg) (T : Gl4 mg) (c_law_joined : CalX P w K mg base 1 "_law_joined" (spJoined K)) (c_law_entry : CalX P w K mg base 2 "_law_entry" spEntry) (F : DefX K mg "_law_line_bytes" s_law_line_bytes ["some", "line"] f fd) : CalX P w K mg base 3 "_law_line_bytes" spLLineBytes := by
  refine calx F sc_law_line_bytes (fun vs H Q E h => ?_) (fun cdv A outer s H vs Q E hr h => ?_)
  · obtain ⟨a, xs, es, line, rfl, _⟩ := h
    rfl
  · obtain ⟨a, xs, es, line, rfl, ha, hR, ok, bl, k⟩ := h
    refine ⟨_, (pss_cons (ps_set (i := 2) sc_law_line_bytes.nd rfl (.inl rfl) (pe_lst pa_nil))
    (pss_cons (ps_for PassesOwn.never rfl (pi_list (pe_cx c_law_joined hr (by decide) rfl (pa_cons (pv 0) pa_nil))) (pg_tup (by rfl) (pgs_cons (pg_name (i := 3) sc_law_line_bytes.nd rfl (.inl rfl)) (pgs_cons (pg_name (i := 4) sc_law_line_bytes.nd rfl (.inl rfl)) (pgs_cons (pg_name (i := 5) sc_law_line_bytes.nd rfl (.inl rfl)) pgs_nil))))
      (pss_cons (ps_set (i := 6) sc_law_line_bytes.nd rfl (.inl rfl) (pe_op op_fdiv (pe_op op_sub (pv 4) (pv 3)) pe_int))
    (pss_one (ps_for PassesOwn.never rfl (pi_range1 (by rfl) T0.n_range (pa_cons (pe_op op_fdiv (pe_op op_add (pv 6) pe_int) pe_int) pa_nil)) (pg_name (i := 7) sc_law_line_bytes.nd rfl (.inl rfl))
      (pss_cons (ps_expr (pe_bm PySem.F.plainAttrs_list PySem.F.slot_list_extend PySem.F.type_list_extend mt_extend (pv 2) (pa_cons (pe_cx c_law_entry hr (by decide) rfl (pa_cons (pe_callB (call_min2 rfl) (by rfl) T.n_min Boot.«min» (pa_cons pe_int (pa_cons (pe_op op_sub (pv 6) (pe_op op_mul pe_int (pv 7))) pa_nil))) (pa_cons (pe_ifExp (pt_cmpR op_isN (pv 5) pe_non (nomark _)) pe_non (pe_op op_sub (pv 5) (pv 1))) pa_nil))) pa_nil)))
    (pss_one (ps_set (i := 1) sc_law_line_bytes.nd rfl (.inl rfl) (pe_ifExp (pt_cmpR op_isN (pv 5) pe_non (nomark _)) (pv 1) (pv 5)))))))))
    (pss_one (ps_ret (pv 2))))), ?_⟩
    refine ⟨(by show 0 ≤ sizeLine; decide), fun f0 m0 => ?_⟩
    have s0 : Same H (upd H f0 (.lst [])) := Same.new m0
    have h0 : upd H f0 (.lst []) f0 = some (.lst []) := upd_same
    generalize upd H f0 (.lst []) = H0 at s0 h0 ⊢
    refine ⟨_, rfl, a, xs, rowsOf es 0, rfl, .inl (SqL.of (s0 _ _ ha)), hR.same s0, ?_, fun q H1 ys nq s1 hy hT => ?_⟩
    · rw [rows_len]
      exact ok.len
    rw [join_rows] at hT
    have okj := ok.join
    generalize joinE es = js at okj hT k
    have hf1 := s1 _ _ h0
    have qf : q ≠ f0 := by
      rintro rfl
      rw [h0] at nq
      cases nq
    refine ⟨q, rfl, ⟨_, SqL.of hy⟩, for_list (K := K) (a := q) (xs := ys) (fun i σ H' => ∃ v3 v4 v5 v6 v7, σ = [some (.ref a), some (.int (lastOf (chE (js.take i)) line)), some (.ref f0), v3, v4, v5, v6, v7] ∧ But f0 H1 H' ∧ H' f0 = some (.lst ((tb (chE (js.take i)) line).map V.int)))
      ⟨none, none, none, none, none, rfl, But.refl, hf1⟩ (fun i σ H' _ p => by
        obtain ⟨_, _, _, _, _, _, bu, _⟩ := p
        exact SqL.of (bu _ _ qf hy)) ?_ ?_⟩
    · rintro i x σ H' hi ⟨v3, v4, v5, v6, v7, rfl, bu, hf⟩
      obtain ⟨p, r, hri, rfl, hp⟩ := hT.get hi
      obtain ⟨e, he, hu, hln⟩ := rows_get hri
      have hp' := bu p _ (by
        rintro rfl
        rw [hf1] at hp
        cases hp) hp
      refine ⟨p, _, rfl, SqT.of hp', rfl, _, _, rfl, _, _, rfl, _, _, rfl, rfl, ?_⟩
      refine ⟨_, rfl, _, rfl, _, _, rfl, rfl, _, _, rfl, rfl, ⟨by show (0 : Int) < 2; decide, by decide⟩, ?_⟩
      have eleft : (r.hi - r.lo) / 2 = (e.1 : Int) := by omega
      have he1 := tot_mem (List.mem_of_getElem? he)
      have ht := okj.t
      have en : ((e.1 : Int) + 7) / 8 = (((e.1 + 7) / 8 : Nat) : Int) := by omega
      dsimp (config := { proj := false }) only
      rw [eleft, hln]
      refine ⟨_, rfl, _, _, rfl, rfl, _, _, rfl, rfl, ⟨by show (0 : Int) < 8; decide, by decide⟩, ?_⟩
      dsimp (config := { proj := false }) only
      rw [en]
      have pe := part_ok okj he
      refine ⟨_, rfl, by omega, Int.lt_of_le_of_lt (by omega : _ ≤ (2000 : Int)) (by decide), for_range (lo := 0) (n := (e.1 + 7) / 8) (fun kk σ J => ∃ v7, σ = [some (.ref a), some (.int (lastOf (part (js.take i) e kk) line)), some (.ref f0), some (.int r.lo), some (.int r.hi), some (lnV e.2), some (.int (e.1 : Int)), v7] ∧ But f0 H1 J ∧
          J f0 = some (.lst ((tb (part (js.take i) e kk) line).map V.int)))
        ⟨v7, by rw [part_zero]; rfl, bu, by rw [part_zero]; exact hf⟩ ?_ ?_⟩
      · rintro kk σ J hk ⟨v7', rfl, bj, hfj⟩
        obtain ⟨pl, pn⟩ := pe kk
        have bL := last_bas _ line pl bl
        have tl := tb_len _ line pl bl
        have psucc := part_succ (es := js.take i) hk
        have tmore := tb_more (part (js.take i) e kk) (min 8 (e.1 - 8 * kk)) e.2 line
        rw [← psucc] at tmore
        have lmore := last_more (part (js.take i) e kk) (min 8 (e.1 - 8 * kk)) e.2 line
        rw [← psucc] at lmore
        have emin : (if ((e.1 : Int) - 8 * (0 + (kk : Int))) < 8 then ((e.1 : Int) - 8 * (0 + (kk : Int))) else 8) = ((min 8 (e.1 - 8 * kk) : Nat) : Int) := by
          split <;> omega
        refine ⟨_, rfl, .inl ⟨rfl, _, SqL.of hfj⟩, ?_⟩
        refine ⟨_, rfl, _, rfl, _, _, rfl, rfl, .inl ⟨by decide, by decide⟩, _, _, rfl, rfl, _, _, rfl, ?_⟩
        cases hl : e.2 with
        | none =>
          rw [hl] at tmore lmore
          refine ⟨_, rfl, rfl, _, rfl, iteT ?_⟩
          refine ⟨min 8 (e.1 - 8 * kk), none, congrArg (fun z => [V.int z, V.non]) emin, (fun n z => by cases z), fun p2 J2 n2 s2 h2 => ?_⟩
          refine ⟨f0, p2, _, _, rfl, rfl, s2 _ _ hfj, h2, ?_, ?_⟩
          · rw [List.length_map, List.length_map]
            have : (ent (min 8 (e.1 - 8 * kk)) none).length = 1 := rfl
            exact Nat.le_trans (by omega : _ ≤ 140010) (by decide)
          refine ⟨_, rfl, rfl, _, rfl, iteT ⟨_, rfl, ?_⟩⟩
          refine ⟨some (.int (0 + (kk : Int))), ?_, (bj.trans (But.of s2)).upd, ?_⟩
          · rw [lmore]
            rfl
          · rw [upd_same, tmore, List.map_append]
            rfl
        | some n =>
          rw [hl] at tmore lmore
          have hm : Mid (n - lastOf (part (js.take i) e kk) line) := mid_of (okj.l e (List.mem_of_getElem? he) n hl) bL
          refine ⟨_, rfl, rfl, _, rfl, iteF ?_⟩
          refine ⟨_, rfl, _, rfl, _, _, rfl, rfl, ?_⟩
          refine ⟨min 8 (e.1 - 8 * kk), some (n - lastOf (part (js.take i) e kk) line), congrArg (fun z => [V.int z, V.int (n - lastOf (part (js.take i) e kk) line)]) emin, (fun n' z => by cases z; exact hm), fun p2 J2 n2 s2 h2 => ?_⟩
          refine ⟨f0, p2, _, _, rfl, rfl, s2 _ _ hfj, h2, ?_, ?_⟩
          · rw [List.length_map, List.length_map]
            have := ent_len (u := min 8 (e.1 - 8 * kk)) (m := some (n - lastOf (part (js.take i) e kk) line)) fun n' z => by cases z; exact hm
            exact Nat.le_trans (by omega : _ ≤ 140010) (by decide)
          refine ⟨_, rfl, rfl, _, rfl, iteF ⟨_, rfl, ?_⟩⟩
          refine ⟨some (.int (0 + (kk : Int))), ?_, (bj.trans (But.of s2)).upd, ?_⟩
          · rw [lmore]
            rfl
          · rw [upd_same, tmore, List.map_append]
            rfl
      · rintro σ J ⟨v7', rfl, bj, hfj⟩
        rw [part_all, ← chE_take he] at hfj
        refine ⟨some (.int r.lo), some (.int r.hi), some (lnV e.2), some (.int (e.1 : Int)), v7', ?_, bj, hfj⟩
        rw [part_all, ← chE_take he]
    · rintro σ H' ⟨v3, v4, v5, v6, v7, rfl, bu, hf⟩
      have el : ys.length = js.length := by rw [hT.len, rows_len]
      rw [el, List.take_length] at hf
      have S : Same H H' := fun b o e => bu b o (ne_of_none e m0) (s1 _ _ (s0 _ _ e))
      exact ⟨_, rfl, k f0 H' m0 S hf⟩
end
end K49
set_option maxHeartbeats 4000000
set_option pp.maxSteps 600
namespace K49
open PySem PySem.Spec PyProof.Rows L2 Nd
abbrev s_law_row_bytes : Stmt := top 36
/-- a row: half of begin, half of size, half of target, depth, wanted -/
structure Row where
  b : Nat
  s : Nat
  t : Nat
  d : Nat
  w : Bool
def Row.vs (r : Row) : List V := [.int ((2 * r.b : Nat) : Int), .int ((2 * (r.b + r.s) : Nat) : Int), .int ((2 * r.t : Nat) : Int), .int (r.d : Int), .bl r.w]
def Row.last (r : Row) : Nat := 2 * r.d + (if r.w then 1 else 0)
structure Row.Ok (r : Row) : Prop where
  b : r.b < 64 ^ 20
  s : r.s < 64 ^ 20
  t : r.t < 64 ^ 20
  d : r.d < 64 ^ 19
theorem Row.Ok.last {r : Row} (h : r.Ok) : r.last < 64 ^ 20 := by
  have := h.d
  unfold Row.last
  have e : 64 ^ 20 = 64 ^ 19 * 64 := rfl
  split <;> omega
/-- the bytes of a number -/
def up (k : Int) : List Int → List Int
  | [] => []
  | x :: r => (x + k) :: r
theorem up_len {k : Int} : ∀ l, (up k l).length = l.length
  | [] => rfl
  | _ :: _ => rfl
def Row.nums (r : Row) : List Nat := [r.s, r.t, r.last]
def Row.bytes (r : Row) : List Int := up 128 (enc r.b) ++ r.nums.flatMap enc
theorem flat_len : ∀ ns : List Nat, (∀ n ∈ ns, n < 64 ^ 20) → (ns.flatMap enc).length ≤ 21 * ns.length
  | [], _ => by simp
  | n :: r, h => by
    have h1 := flat_len r fun m q => h m (by simp [q])
    have h2 := enc_len (h n (by simp))
    rw [List.flatMap_cons, List.length_append, List.length_cons]
    omega
theorem Row.Ok.nums {r : Row} (h : r.Ok) : ∀ n ∈ r.nums, n < 64 ^ 20 := by
  intro n q
  simp [Row.nums] at q
  rcases q with rfl | rfl | rfl
  · exact h.s
  · exact h.t
  · exact h.last
theorem Row.bytes_len {r : Row} (h : r.Ok) : r.bytes.length ≤ 84 := by
  have h1 := flat_len r.nums h.nums
  have h2 := enc_len h.b
  unfold Row.bytes
  rw [List.length_append, up_len]
  have : r.nums.length = 3 := rfl
  omega
def spRow : Sp := fun vs H Q _ => ∃ (p : Addr) (r : Row), vs = [.ref p] ∧ H p = some (.tup r.vs) ∧ r.Ok ∧ ∀ q H', H q = none → Same H H' → H' q = some (.lst (r.bytes.map V.int)) → Q (.ref q) H'
section
variable {P : Program} {w : World} {K : PySem.W.Frag} {mg : Str → Option Value} {base : Heap}
/-! ### _law_row_bytes -/
abbrev N_law_row_bytes : List Str := ["row", "low", "high", "target", "depth", "is_wanted", "found", "number"]
theorem sc_law_row_bytes : FnScope N_law_row_bytes ["row"] (defScope s_law_row_bytes) := ⟨rfl, rfl, rfl, by decide +kernel, rfl, by decide +kernel, by decide +kernel⟩
theorem ok_law_row_bytes {f : Addr} {fd : FuncData} (T : Gl0 mg) (c_law_pieces : CalX P w K mg base 1 "_law_pieces" spLPieces) (c_law_marked : CalX P w K mg base 1 "_law_marked" (spMarked K))
    (F : DefX K mg "_law_row_bytes" s_law_row_bytes ["row"] f fd) : CalX P w K mg base 2 "_law_row_bytes" spRow := by
  refine calx F sc_law_row_bytes (fun vs H Q E h => ?_) (fun cdv A outer s H vs Q E hr h => ?_)
  · obtain ⟨p, r, rfl, _⟩ := h
    rfl
  · obtain ⟨p, r, rfl, hp, ok, k⟩ := h
    refine ⟨_, (pss_cons (ps_asg (pv 0) (pg_tup (by rfl) (pgs_cons (pg_name (i := 1) sc_law_row_bytes.nd rfl (.inl rfl)) (pgs_cons (pg_name (i := 2) sc_law_row_bytes.nd rfl (.inl rfl)) (pgs_cons (pg_name (i := 3) sc_law_row_bytes.nd rfl (.inl rfl)) (pgs_cons (pg_name (i := 4) sc_law_row_bytes.nd rfl (.inl rfl)) (pgs_cons (pg_name (i := 5) sc_law_row_bytes.nd rfl (.inl rfl)) pgs_nil)))))))
    (pss_cons (ps_set (i := 6) sc_law_row_bytes.nd rfl (.inl rfl) (pe_cx c_law_marked hr (by decide) rfl (pa_cons (pe_revL (pe_cx c_law_pieces hr (by decide) rfl (pa_cons (pe_op op_fdiv (pv 1) pe_int) pa_nil))) pa_nil)))
    (pss_cons (ps_asg (pe_op op_add (pe_ix ix_list (pv 6) pe_int (fun _ _ => rfl)) pe_int) (pg_sub (pv 6) pe_int set_list))
    (pss_cons (ps_for PassesOwn.never rfl (pi_tup (pe_tup (pa_cons (pe_op op_fdiv (pe_op op_sub (pv 2) (pv 1)) pe_int) (pa_cons (pe_op op_fdiv (pv 3) pe_int) (pa_cons (pe_op op_add (pe_op op_mul pe_int (pv 4)) (pe_callTy call_int1 (by rfl) T.n_int Boot.«int» (pa_cons (pv 5) pa_nil))) pa_nil))))) (pg_name (i := 7) sc_law_row_bytes.nd rfl (.inl rfl))
      (pss_one (ps_expr (pe_bm PySem.F.plainAttrs_list PySem.F.slot_list_extend PySem.F.type_list_extend mt_extend (pv 6) (pa_cons (pe_cx c_law_marked hr (by decide) rfl (pa_cons (pe_revL (pe_cx c_law_pieces hr (by decide) rfl (pa_cons (pv 7) pa_nil))) pa_nil)) pa_nil)))))
    (pss_one (ps_ret (pv 6))))))), ?_⟩
    refine ⟨_, rfl, p, _, rfl, SqT.of hp, rfl, _, _, rfl, _, _, rfl, _, _, rfl, _, _, rfl, _, _, rfl, rfl, ?_⟩
    refine ⟨_, rfl, _, _, rfl, rfl, ⟨by show (0 : Int) < 2; decide, by decide⟩, r.b, ?_, lt60 ok.b, ?_⟩
    · show [V.int (((2 * r.b : Nat) : Int) / 2)] = _
      rw [half]
    intro p1 H1 n1 s1 h1
    refine ⟨p1, _, rfl, SqL.of h1, ?_⟩
    walk_at "new2"
    rw [rev_map] at h2
    refine ⟨p2, _, rfl, SqL.of h2, ?_, ?_, ?_⟩
    · intro e
      exact dig_ne r.b (List.reverse_eq_nil_iff.mp e)
    · rw [List.length_reverse]
      exact Nat.le_trans (dig_len 20 _ ok.b) (by decide)
    intro p3 H3 n3 s3 h3
    replace h3 : H3 p3 = some (.lst ((enc r.b).map V.int)) := h3
    obtain ⟨x, y, exy⟩ := head_up (enc_pos r.b)
    rw [exy] at h3
    have n3' : H p3 = none := (s1.trans s2).free n3
    rw [List.map_cons] at h3
    refine ⟨_, rfl, p3, _, _, _, rfl, rfl, SqL.of h3, atC _ _, _, _, rfl, rfl, ?_⟩
    refine ⟨_, rfl, p3, _, _, 0, rfl, rfl, h3, ixC _ _, ?_⟩
    have h4 : upd H3 p3 (.lst ((V.int x :: y.map V.int).set 0 (V.int (x + 128)))) p3 = some (.lst ((up 128 (enc r.b)).map V.int)) := by
      rw [upd_same, exy]
      rfl
    have s4 : Same H (upd H3 p3 (.lst ((V.int x :: y.map V.int).set 0 (V.int (x + 128))))) := Same.mut ((s1.trans s2).trans s3) n3'
    dsimp only
    generalize upd H3 p3 (.lst ((V.int x :: y.map V.int).set 0 (V.int (x + 128)))) = H4 at h4 s4 ⊢
    refine ⟨_, rfl, _, rfl, _, _, rfl, rfl, _, _, rfl, rfl, ⟨by show (0 : Int) < 2; decide, by decide⟩, ?_⟩
    refine ⟨_, rfl, _, _, rfl, rfl, ⟨by show (0 : Int) < 2; decide, by decide⟩, ?_⟩
    refine ⟨_, rfl, _, _, rfl, rfl, .inl ⟨by decide, by decide⟩, _, rfl, .inr ⟨_, rfl, _, _, rfl, rfl, (by show 3 ≤ sizeLine; decide), ?_⟩⟩
    walk_at "new5"
    have e5 : ([V.int ((((2 * (r.b + r.s) : Nat) : Int) - ((2 * r.b : Nat) : Int)) / 2), V.int (((2 * r.t : Nat) : Int) / 2), V.int (2 * (r.d : Int) + if r.w = true then 1 else 0)] : List V) = r.nums.map (fun n : Nat => V.int (n : Int)) := by
      have a1 : (((2 * (r.b + r.s) : Nat) : Int) - ((2 * r.b : Nat) : Int)) / 2 = (r.s : Int) := by omega
      have a2 : (2 * (r.d : Int) + if r.w = true then 1 else 0) = (r.last : Int) := by
        unfold Row.last
        split <;> omega
      rw [a1, a2, half]
      rfl
    replace h5 : H5 p5 = some (.tup (r.nums.map (fun n : Nat => V.int (n : Int)))) := by
      rw [← e5]
      exact h5
    have ne35 : p3 ≠ p5 := ne_of_none h4 n5
    refine ⟨p5, rfl, ⟨_, SqT.of h5⟩, for_tup (K := K) (xs := r.nums.map (fun n : Nat => V.int (n : Int)))
      (fun i σ H' => ∃ v, σ = [some (.ref p), some (.int ((2 * r.b : Nat) : Int)), some (.int ((2 * (r.b + r.s) : Nat) : Int)), some (.int ((2 * r.t : Nat) : Int)), some (.int (r.d : Int)), some (.bl r.w), some (.ref p3), v] ∧ But p3 H5 H' ∧
        H' p3 = some (.lst ((up 128 (enc r.b) ++ (r.nums.take i).flatMap enc).map V.int)))
      ⟨none, rfl, But.refl, by rw [s5 _ _ h4]; simp⟩ ?_ ?_ ?_⟩
    · rintro i σ H' hi ⟨v, rfl, bu, h⟩
      exact SqT.of (bu _ _ (Ne.symm ne35) h5)
    · rintro i v σ H' hi ⟨v0, rfl, bu, h⟩
      rw [List.getElem?_map] at hi
      obtain ⟨n, hn, rfl⟩ : ∃ n, r.nums[i]? = some n ∧ v = V.int (n : Int) := by
        cases e : r.nums[i]? with
        | none => rw [e] at hi; cases hi
        | some z => rw [e] at hi; exact ⟨z, rfl, (Option.some.inj hi).symm⟩
      have hn' := ok.nums n (List.mem_of_getElem? hn)
      refine ⟨_, rfl, .inl ⟨rfl, _, SqL.of h⟩, _, rfl, n, rfl, lt60 hn', ?_⟩
      intro q1 J1 m1 t1 g1
      refine ⟨q1, _, rfl, SqL.of g1, ?_⟩
      intro q2 m2
      have t2 : Same J1 (upd J1 q2 (.lst ((dig n).map V.int).reverse)) := Same.new m2
      have g2 : upd J1 q2 (.lst ((dig n).map V.int).reverse) q2 = some (.lst ((dig n).reverse.map V.int)) := by
        rw [upd_same, rev_map]
      generalize upd J1 q2 (.lst ((dig n).map V.int).reverse) = J2 at t2 g2 ⊢
      refine ⟨q2, _, rfl, SqL.of g2, ?_, ?_, ?_⟩
      · intro e
        exact dig_ne n (List.reverse_eq_nil_iff.mp e)
      · rw [List.length_reverse]
        exact Nat.le_trans (dig_len 20 _ hn') (by decide)
      intro q3 J3 m3 t3 g3
      replace g3 : J3 q3 = some (.lst ((enc n).map V.int)) := g3
      have hJ := ((t1.trans t2).trans t3) _ _ h
      refine ⟨p3, q3, _, _, rfl, rfl, hJ, g3, ?_, ?_⟩
      · rw [List.length_map, List.length_map, List.length_append, up_len]
        have l1 := enc_len ok.b
        have l2 := enc_len hn'
        have l3 := flat_len (r.nums.take i) fun m q => ok.nums m (List.mem_of_mem_take q)
        have l4 : (r.nums.take i).length ≤ 3 := by
          rw [List.length_take]
          exact Nat.min_le_right _ _
        exact Nat.le_trans (by omega : _ ≤ 1000) (by decide)
      · refine ⟨_, rfl, (bu.trans (But.of ((t1.trans t2).trans t3))).upd, ?_⟩
        rw [upd_same, List.take_add_one, hn]
        simp
    · rintro σ H' ⟨v, rfl, bu, h⟩
      rw [List.length_map, List.take_length] at h
      refine ⟨_, rfl, k p3 H' n3' ?_ h⟩
      exact fun b o e => bu b o (ne_of_none e n3') (s5 _ _ (s4 _ _ e))
end
end K49
set_option maxHeartbeats 4000000
set_option pp.maxSteps 600
namespace K49
open PySem PySem.Spec PyProof.Rows L2 Nd
/-! ### any bytes read, in plain words -/
theorem pw_le {a b : Nat} (h : a ≤ b) : (64 : Int) ^ a ≤ 64 ^ b := by
  have := Nat.pow_le_pow_right (n := 64) (by decide) h
  exact_mod_cast this
def Byts (d : List Int) : Prop := (∀ x ∈ d, 0 ≤ x ∧ x < 256) ∧ d.length ≤ 1000
def g (d : List Int) (i : Nat) : Int := d.getD i 0
theorem g_get {d : List Int} {i : Nat} (h : i < d.length) : d[i]? = some (g d i) := by
  unfold g
  rw [List.getD_eq_getElem?_getD, List.getElem?_eq_getElem h]
  rfl
theorem Byts.g {d : List Int} (b : Byts d) {i : Nat} (h : i < d.length) : 0 ≤ g d i ∧ g d i < 256 := b.1 _ (List.mem_of_getElem? (g_get h))
def numGo (d : List Int) : Nat → Nat → Int → Option Int × Nat
  | 0, i, _ => (none, i)
  | f + 1, i, n => if g d i / 64 % 2 = 0 then (some n, i + 1) else if i + 1 = d.length ∨ 128 ≤ g d (i + 1) then (none, i + 1) else numGo d f (i + 1) (64 * n + g d (i + 1) % 64)
def numAt (d : List Int) (i : Nat) (first : Bool) : Option Int × Nat :=
  if i = d.length ∨ (decide (128 ≤ g d i) ≠ first) ∨ g d i % 128 = 64 then (none, i) else numGo d d.length i (g d i % 64)
theorem numGo_le (d : List Int) : ∀ (f i : Nat) (n : Int), i < d.length → (numGo d f i n).2 ≤ d.length ∧ i ≤ (numGo d f i n).2 ∧ ∀ m, (numGo d f i n).1 = some m → i < (numGo d f i n).2
  | 0, i, n, h => ⟨Nat.le_of_lt h, Nat.le_refl _, fun m z => by cases z⟩
  | f + 1, i, n, h => by
    unfold numGo
    split
    · exact ⟨h, Nat.le_succ _, fun _ _ => Nat.lt_succ_self _⟩
    · split
      · exact ⟨h, Nat.le_succ _, fun m z => by cases z⟩
      · rename_i c2
        have h2 : i + 1 < d.length := by
          have : i + 1 ≠ d.length := fun z => c2 (.inl z)
          omega
        obtain ⟨a, b, c⟩ := numGo_le d f (i + 1) (64 * n + g d (i + 1) % 64) h2
        exact ⟨a, by omega, fun m z => by have := c m z; omega⟩
theorem numAt_le {d : List Int} {i : Nat} {first : Bool} (h : i ≤ d.length) : (numAt d i first).2 ≤ d.length ∧ i ≤ (numAt d i first).2 ∧ ∀ m, (numAt d i first).1 = some m → i < (numAt d i first).2 := by
  unfold numAt
  split
  · exact ⟨h, Nat.le_refl _, fun m z => by cases z⟩
  · rename_i c
    exact numGo_le d _ i _ (by
      have : i ≠ d.length := fun z => c (.inl z)
      omega)
/-- bounds of numbers: 64 ^ (bytes) -/
theorem numGo_lt {d : List Int} (b : Byts d) : ∀ (f i : Nat) (n : Int) (k : Nat), i < d.length → 0 ≤ n → n < 64 ^ k → ∀ m, (numGo d f i n).1 = some m → 0 ≤ m ∧ m < 64 ^ (k + f)
  | 0, i, n, k, h, h0, h1, m, z => by cases z
  | f + 1, i, n, k, h, h0, h1, m, z => by
    unfold numGo at z
    split at z
    · cases z
      refine ⟨h0, Int.lt_of_lt_of_le h1 ?_⟩
      exact pw_le (by omega)
    · split at z
      · cases z
      · rename_i c2
        have h2 : i + 1 < d.length := by
          have : i + 1 ≠ d.length := fun z => c2 (.inl z)
          omega
        have r0 : 0 ≤ g d (i + 1) % 64 ∧ g d (i + 1) % 64 < 64 := ⟨by omega, by omega⟩
        have := numGo_lt b f (i + 1) (64 * n + g d (i + 1) % 64) (k + 1) h2 (by omega) (by
          rw [Int.pow_succ]
          omega) m z
        rw [show k + 1 + f = k + (f + 1) by omega] at this
        exact this
theorem numAt_lt {d : List Int} (b : Byts d) {i : Nat} {first : Bool} (h : i ≤ d.length) {m : Int} (z : (numAt d i first).1 = some m) : 0 ≤ m ∧ m < 64 ^ (1 + d.length) := by
  unfold numAt at z
  split at z
  · cases z
  · rename_i c
    have h2 : i < d.length := by
      have : i ≠ d.length := fun z => c (.inl z)
      omega
    exact numGo_lt b d.length i (g d i % 64) 1 h2 (by omega) (by
      show g d i % 64 < 64
      omega) m z
structure R5 where
  lo : Int
  hi : Int
  tg : Int
  dp : Int
  wt : Bool
def R5.vs (r : R5) : List V := [.int r.lo, .int r.hi, .int r.tg, .int r.dp, .bl r.wt]
def R5.ds (r : R5) : List PyData := [.int r.lo, .int r.hi, .int r.tg, .int r.dp, .bool r.wt]
def mkR (a b c e : Int) : R5 := ⟨2 * a, 2 * (a + b), 2 * c, e / 2, decide (e % 2 = 1)⟩
/-- the k-th number on, from a row's place on -/
def four (d : List Int) (i : Nat) : Option R5 × Nat := match numAt d i true with
  | (none, j) => (none, j)
  | (some a, j) => match numAt d j false with
    | (none, j) => (none, j)
    | (some b, j) => match numAt d j false with
      | (none, j) => (none, j)
      | (some c, j) => match numAt d j false with
        | (none, j) => (none, j)
        | (some e, j) => (some (mkR a b c e), j)
def hGo (d : List Int) : Nat → Nat → List R5 → List R5 ⊕ Nat
  | 0, _, acc => .inl acc
  | f + 1, i, acc => if i = d.length then .inl acc else match four d i with
    | (none, j) => .inr j
    | (some r, j) => hGo d f j (acc ++ [r])
theorem hGo_end (d : List Int) (f : Nat) (acc : List R5) : hGo d f d.length acc = .inl acc := by
  cases f with
  | zero => rfl
  | succ f =>
    unfold hGo
    rw [if_pos rfl]
/-- a number, its lowest piece first -/
def half2 (n : Int) : Int := if n % 2 = 0 then n / 2 else -(n / 2)
def sgGo (d : List Int) : Nat → Nat → Nat → Int → Option Int × Nat
  | 0, i, _, _ => (none, i)
  | f + 1, i, k, n => if i = d.length ∨ 128 ≤ g d i then (none, i) else
    if g d i < 64 then (if (g d i = 0 ∧ 0 < k) ∨ n + 64 ^ k * (g d i % 64) = 1 then (none, i) else (some (half2 (n + 64 ^ k * (g d i % 64))), i + 1))
    else sgGo d f (i + 1) (k + 1) (n + 64 ^ k * (g d i % 64))
theorem sgGo_le (d : List Int) : ∀ (f i k : Nat) (n : Int), i ≤ d.length → (sgGo d f i k n).2 ≤ d.length ∧ i ≤ (sgGo d f i k n).2
  | 0, i, k, n, h => ⟨h, Nat.le_refl _⟩
  | f + 1, i, k, n, h => by
    unfold sgGo
    split
    · exact ⟨h, Nat.le_refl _⟩
    · rename_i c
      have h2 : i < d.length := by
        have : i ≠ d.length := fun z => c (.inl z)
        omega
      split
      · split
        · exact ⟨h, Nat.le_refl _⟩
        · exact ⟨h2, Nat.le_succ _⟩
      · obtain ⟨a, b⟩ := sgGo_le d f (i + 1) (k + 1) (n + 64 ^ k * (g d i % 64)) h2
        exact ⟨a, by omega⟩
theorem sgGo_lt (d : List Int) : ∀ (f i k : Nat) (n : Int), 0 ≤ n → n < 64 ^ k → ∀ m, (sgGo d f i k n).1 = some m → -(64 ^ (k + f)) < m ∧ m < 64 ^ (k + f)
  | 0, i, k, n, h0, h1, m, z => by cases z
  | f + 1, i, k, n, h0, h1, m, z => by
    have r0 : 0 ≤ g d i % 64 ∧ g d i % 64 < 64 := ⟨by omega, by omega⟩
    have q : n + 64 ^ k * (g d i % 64) < 64 ^ (k + 1) := by
      have : (64 : Int) ^ k * (g d i % 64) ≤ 64 ^ k * 63 := Int.mul_le_mul_of_nonneg_left (by omega) (Int.le_of_lt (Int.pow_pos (by decide)))
      rw [Int.pow_succ]
      omega
    have q0 : 0 ≤ n + 64 ^ k * (g d i % 64) := by
      have : (0 : Int) ≤ 64 ^ k * (g d i % 64) := Int.mul_nonneg (Int.le_of_lt (Int.pow_pos (by decide))) r0.1
      omega
    have qq : (64 : Int) ^ (k + 1) ≤ 64 ^ (k + (f + 1)) := pw_le (by omega)
    unfold sgGo at z
    generalize n + 64 ^ k * (g d i % 64) = n' at q q0 z
    split at z
    · cases z
    · split at z
      · split at z
        · cases z
        · cases z
          unfold half2
          split <;> omega
      · have := sgGo_lt d f (i + 1) (k + 1) n' q0 q m z
        rw [show k + 1 + f = k + (f + 1) by omega] at this
        exact this
def sgAt (d : List Int) (i : Nat) : Option Int × Nat := sgGo d (d.length + 1) i 0 0
def lGo (d : List Int) : Nat → Nat → Int → Int → List R3 → List R3 ⊕ Nat
  | 0, _, _, _, acc => .inl acc
  | f + 1, i, lo, line, acc => if i = d.length then .inl acc else
    if g d i < 232 ∨ (240 ≤ g d i ∧ g d i < 248) then .inr i else
    if g d i < 240 then (match sgAt d (i + 1) with
      | (none, j) => .inr j
      | (some m, j) => lGo d f j (lo + 2 * (g d i % 8 + 1)) (line + m) (acc ++ [⟨lo, lo + 2 * (g d i % 8 + 1), some (line + m)⟩]))
    else lGo d f (i + 1) (lo + 2 * (g d i % 8 + 1)) line (acc ++ [⟨lo, lo + 2 * (g d i % 8 + 1), none⟩])
theorem lGo_end (d : List Int) (f : Nat) (lo line : Int) (acc : List R3) : lGo d f d.length lo line acc = .inl acc := by
  cases f with
  | zero => rfl
  | succ f =>
    unfold lGo
    rw [if_pos rfl]
end K49
set_option maxHeartbeats 4000000
set_option pp.maxSteps 600
namespace K49
open PySem PySem.Spec PyProof.Rows L2 Nd
abbrev s_number_at : Stmt := top 24
structure GTb (P : Program) (K : PySem.W.Frag) (mg : Str → Option Value) (Ct fT : Addr) : Prop where
  nx : PySem.NxA.Txt P K mg Ct fT
  gT : mg "NoTable" = some (.ref Ct)
/-- NoTable(n) is wished for -/
def errT (Ct : Addr) (H : Hp) (n : Int) (E : XK) : Prop := ∀ d H', Same H H' → H' d = none → E (.ref Ct) (some d) (upd H' d (.xd [("at", .int n)]))
def spNumAt (K : PySem.W.Frag) (Ct : Addr) : Sp := fun vs H Q E => ∃ (h : Addr) (d : List Int) (at0 : Nat) (first : Bool), vs = [.ref h, .int (at0 : Int), .bl first] ∧ SqT K H h (d.map V.int) ∧ Byts d ∧ at0 ≤ d.length ∧
  (∀ n j, numAt d at0 first = (some n, j) → ∀ q H', H q = none → Same H H' → H' q = some (.tup [.int n, .int (j : Nat)]) → Q (.ref q) H') ∧ (∀ j, numAt d at0 first = (none, j) → errT Ct H (j : Nat) E)
theorem g_at {d : List Int} {i : Nat} (h : i < d.length) : atI (d.map V.int) ((i : Nat) : Int) = some (V.int (g d i)) := map_at (g_get h)
theorem len_eq {d : List Int} {i : Nat} : decide (V.int ((i : Nat) : Int) = V.int (((d.map V.int).length : Nat) : Int)) = decide (i = d.length) := by
  rw [List.length_map]
  refine decide_eq_decide.mpr ⟨fun z => ?_, fun z => by rw [z]⟩
  have q : ((i : Nat) : Int) = ((d.length : Nat) : Int) := by injection z
  omega
section
variable {P : Program} {w : World} {K : PySem.W.Frag} {mg : Str → Option Value} {base : Heap} {Ct fT : Addr}
abbrev N_number_at : List Str := ["data", "at", "is_first", "number"]
theorem sc_number_at : FnScope N_number_at ["data", "at", "is_first"] (defScope s_number_at) := ⟨rfl, rfl, rfl, by decide +kernel, rfl, by decide +kernel, by decide +kernel⟩
theorem ok_number_at {f : Addr} {fd : FuncData} (T0 : Gl0 mg) (T : Gl1 mg) (TT : GTb P K mg Ct fT) (F : DefX K mg "number_at" s_number_at ["data", "at", "is_first"] f fd) : FnOk P w K mg base (L2.CX P w) 2 f fd ["data", "at", "is_first"] (spNumAt K Ct) := by
  refine F.fn.ok sc_number_at (fun vs H Q E h => ?_) (fun cdv A outer s H vs Q E hr h => ?_)
  · obtain ⟨h, d, at0, first, rfl, _⟩ := h
    rfl
  · obtain ⟨h, d, at0, first, rfl, hB, by1, hle, k, kE⟩ := h
    refine ⟨_, (pss_cons (ps_if (pt_cmpR op_eq (pv 1) (pe_callB call_len_seq (by rfl) T0.n_len Boot.«len» (pa_cons (pv 0) pa_nil)) (nomark _))
      (pss_one (ps_raise rfl (takes_of rfl rfl rfl rfl) (pmk_nxA TT.nx hr (pa_cons (pv 1) pa_nil) rfl TT.gT)))
      pss_nil)
    (pss_cons (ps_if (PW.pt (pw_or (pt_cmpR op_ne (pe_cmpR op_ge (pe_ix ix_tup (pv 0) (pv 1) (fun _ _ => rfl)) (C8.pe_gc rfl T.c_MARK) (nomark _)) (pv 2) (nomark _)) (pw_or1 (pt_cmpR op_eq (pe_op op_and (pe_ix ix_tup (pv 0) (pv 1) (fun _ _ => rfl)) pe_int) (C8.pe_gc rfl T.c_FURTHER) (nomark _)))))
      (pss_one (ps_raise rfl (takes_of rfl rfl rfl rfl) (pmk_nxA TT.nx hr (pa_cons (pv 1) pa_nil) rfl TT.gT)))
      pss_nil)
    (pss_cons (ps_set (i := 3) sc_number_at.nd rfl (.inl rfl) (pe_op op_and (pe_ix ix_tup (pv 0) (pv 1) (fun _ _ => rfl)) pe_int))
    (pss_cons (ps_while (passes_of rfl) (pt_cmpR op_gt (pe_op op_and (pe_ix ix_tup (pv 0) (pv 1) (fun _ _ => rfl)) (C8.pe_gc rfl T.c_FURTHER)) pe_int (nomark _))
      (pss_cons (ps_set (i := 1) sc_number_at.nd rfl (.inl rfl) (pe_op op_add (pv 1) pe_int))
    (pss_cons (ps_if (PW.pt (pw_or (pt_cmpR op_eq (pv 1) (pe_callB call_len_seq (by rfl) T0.n_len Boot.«len» (pa_cons (pv 0) pa_nil)) (nomark _)) (pw_or1 (pt_cmpR op_ge (pe_ix ix_tup (pv 0) (pv 1) (fun _ _ => rfl)) (C8.pe_gc rfl T.c_MARK) (nomark _)))))
      (pss_one (ps_raise rfl (takes_of rfl rfl rfl rfl) (pmk_nxA TT.nx hr (pa_cons (pv 1) pa_nil) rfl TT.gT)))
      pss_nil)
    (pss_one (ps_set (i := 3) sc_number_at.nd rfl (.inl rfl) (pe_op op_add (pe_op op_mul (pv 3) pe_int) (pe_op op_and (pe_ix ix_tup (pv 0) (pv 1) (fun _ _ => rfl)) pe_int)))))))
    (pss_one (ps_ret (pe_tup (pa_cons (pv 3) (pa_cons (pe_op op_add (pv 1) pe_int) pa_nil))))))))), ?_⟩
    refine ⟨_, rfl, _, rfl, h, _, rfl, .inr hB, rfl, _, rfl, ?_⟩
    rw [len_eq]
    refine ite2 (fun c => ?_) (fun c => ?_)
    · have c := of_decide_eq_true c
      refine ⟨_, rfl, _, rfl, fun dd hd => kE at0 ?_ dd H (Same.refl _) hd⟩
      unfold numAt
      rw [if_pos (.inl c)]
    have c1 : ¬ at0 = d.length := fun z => c (decide_eq_true z)
    have hlt : at0 < d.length := by omega
    have g0 := g_at hlt
    obtain ⟨r0, r1⟩ := by1.g hlt
    refine ⟨_, rfl, _, rfl, h, _, _, _, rfl, rfl, hB, g0, _, _, rfl, rfl, _, rfl, rfl, _, rfl, ?_⟩
    refine ite2 (fun c => ?_) (fun c => ?_)
    · refine ⟨_, rfl, _, rfl, fun dd hd => kE at0 ?_ dd H (Same.refl _) hd⟩
      have c2 : decide (128 ≤ g d at0) ≠ first := by simpa using c
      unfold numAt
      rw [if_pos (.inr (.inl c2))]
    have c2 : ¬ decide (128 ≤ g d at0) ≠ first := by simpa using c
    refine ⟨_, rfl, _, rfl, h, _, _, _, rfl, rfl, hB, g0, _, _, rfl, rfl, rfl, _, rfl, ?_⟩
    refine ite2 (fun c => ?_) (fun c => ?_)
    · refine ⟨_, rfl, _, rfl, fun dd hd => kE at0 ?_ dd H (Same.refl _) hd⟩
      have z := of_decide_eq_true c
      have z' : Builtin.bitAnd (g d at0) 127 = 64 := by injection z
      rw [bitAnd_m7] at z'
      unfold numAt
      rw [if_pos (.inr (.inr z'))]
    have c3 : ¬ g d at0 % 128 = 64 := fun z => c (decide_eq_true (congrArg V.int ((bitAnd_m7 _).trans z)))
    have e0 : numAt d at0 first = numGo d d.length at0 (g d at0 % 64) := by
      unfold numAt
      rw [if_neg (fun z => z.elim c1 fun z => z.elim c2 c3)]
    refine ⟨_, rfl, _, rfl, h, _, _, _, rfl, rfl, hB, g0, _, _, rfl, rfl, ?_⟩
    dsimp (config := { proj := false }) only
    rw [bitAnd_m6]
    refine while_by (fun σ H' => H' = H ∧ ∃ (i f : Nat) (n : Int), σ = [some (.ref h), some (.int (i : Int)), some (.bl first), some (.int n)] ∧ i < d.length ∧ d.length ≤ i + f ∧ numGo d f i n = numAt d at0 first) (fun σ _ => match σ with | _ :: some (.int m) :: _ => d.length - m.toNat | _ => 0)
      ⟨rfl, at0, d.length, _, rfl, hlt, by omega, e0.symm⟩ ?_ ?_
    · rintro σ H' ⟨rfl, i, f, n, rfl, hi, hf, he⟩
      obtain ⟨q0, q1⟩ := by1.g hi
      obtain ⟨f, rfl⟩ : ∃ f', f = f' + 1 := ⟨f - 1, by omega⟩
      unfold numGo at he
      refine ⟨_, rfl, _, rfl, h, _, _, _, rfl, rfl, hB, g_at hi, _, _, rfl, rfl, _, _, rfl, rfl, _, rfl, ?_⟩
      have ev : Builtin.bitAnd (g d i) 64 = 64 * (g d i / 64 % 2) := and64 q0 q1
      refine ite2 (fun c => ?_) (fun c => ?_)
      · have z : (0 : Int) < Builtin.bitAnd (g d i) 64 := of_decide_eq_true c
        rw [if_neg (by rw [ev] at z; omega)] at he
        have ea : ((i : Nat) : Int) + 1 = ((i + 1 : Nat) : Int) := by omega
        refine ⟨_, rfl, _, _, rfl, rfl, ?_⟩
        dsimp (config := { proj := false }) only
        rw [ea]
        refine ⟨_, rfl, _, rfl, h, _, rfl, .inr hB, rfl, _, rfl, ?_⟩
        rw [len_eq]
        refine ite2 (fun c => ?_) (fun c => ?_)
        · have c := of_decide_eq_true c
          rw [if_pos (.inl c)] at he
          exact ⟨_, rfl, _, rfl, fun dd hd => kE (i + 1) he.symm dd H' (Same.refl _) hd⟩
        have c1 : ¬ i + 1 = d.length := fun z => c (decide_eq_true z)
        have hi2 : i + 1 < d.length := by omega
        refine ⟨_, rfl, _, rfl, h, _, _, _, rfl, rfl, hB, g_at hi2, _, _, rfl, rfl, _, rfl, ?_⟩
        refine ite2 (fun c => ?_) (fun c => ?_)
        · have c : (128 : Int) ≤ g d (i + 1) := of_decide_eq_true c
          rw [if_pos (.inr c)] at he
          exact ⟨_, rfl, _, rfl, fun dd hd => kE (i + 1) he.symm dd H' (Same.refl _) hd⟩
        have c2 : ¬ (128 : Int) ≤ g d (i + 1) := fun z => c (decide_eq_true z)
        rw [if_neg (fun z => z.elim c1 c2)] at he
        refine ⟨_, rfl, _, _, rfl, rfl, .inr ⟨by decide, by decide⟩, _, rfl, _, rfl, h, _, _, _, rfl, rfl, hB, g_at hi2, _, _, rfl, rfl, _, _, rfl, rfl, ?_, ?_⟩
        · refine ⟨rfl, i + 1, f, 64 * n + g d (i + 1) % 64, ?_, hi2, by omega, he⟩
          dsimp (config := { proj := false }) only
          rw [bitAnd_m6, Int.mul_comm]
          rfl
        · show d.length - (((i + 1 : Nat) : Int)).toNat < d.length - (((i : Nat) : Int)).toNat
          omega
      · have z : ¬ (0 : Int) < Builtin.bitAnd (g d i) 64 := fun z => c (decide_eq_true z)
        rw [if_pos (by rw [ev] at z; omega)] at he
        refine ⟨_, rfl, _, rfl, _, _, rfl, rfl, (by show 2 ≤ sizeLine; decide), ?_⟩
        walk_at "new1"
        exact k n (i + 1) he.symm p1 H1 n1 s1 h1
    · rintro σ H' Q1 Q2 hq ⟨v, e, v2, e', p, a, b, c, z1, z2, z3, z4, i, j, y1, y2, i', j', y3, y4, b2, y5, q⟩
      exact ⟨v, e, v2, e', p, a, b, c, z1, z2, z3, z4, i, j, y1, y2, i', j', y3, y4, b2, y5, hq _ _ q⟩
end
end K49
set_option maxHeartbeats 4000000
set_option pp.maxSteps 600
namespace K49
open PySem PySem.Spec PyProof.Rows L2 Nd
abbrev s_exception_rows : Stmt := top 25
def hRead (d : List Int) : List R5 ⊕ Nat := hGo d d.length 0 []
theorem errT.same {Ct : Addr} {H H' : Hp} {n : Int} {E : XK} (h : errT Ct H n E) (s : Same H H') : errT Ct H' n E := fun d H2 s2 hd => h d H2 (s.trans s2) hd
def spExc (K : PySem.W.Frag) (Cc Ct : Addr) : Sp := fun vs H Q E => ∃ (a dx : Addr) (fs : List (Str × V)) (h : Addr) (d : List Int), vs = [.ref a] ∧ H a = some (.ins Cc dx fs) ∧ fs.lookup ("handlers" : Str) = some (V.ref h) ∧ SqT K H h (d.map V.int) ∧ Byts d ∧
  (∀ rs, hRead d = .inl rs → ∀ q H' xs, H q = none → Same H H' → H' q = some (.lst xs) → TupsAt R5.vs H' xs rs → Q (.ref q) H') ∧ (∀ j, hRead d = .inr j → errT Ct H (j : Nat) E)
section
variable {P : Program} {w : World} {K : PySem.W.Frag} {mg : Str → Option Value} {base : Heap} {Cc Cn fI Ct : Addr}
abbrev N_exception_rows : List Str := ["code", "found", "at", "begin", "size", "target", "last"]
theorem sc_exception_rows : FnScope N_exception_rows ["code"] (defScope s_exception_rows) := ⟨rfl, rfl, rfl, by decide +kernel, rfl, by decide +kernel, by decide +kernel⟩
theorem ok_exception_rows {f : Addr} {fd : FuncData} (T0 : Gl0 mg) (G : GlK P K mg Cc Cn fI) (c_want_code : CalX P w K mg base 2 "want_code" (spWant K Cc Cn)) (c_number_at : CalX P w K mg base 2 "number_at" (spNumAt K Ct))
    (F : DefX K mg "exception_rows" s_exception_rows ["code"] f fd) : FnOk P w K mg base (L2.CX P w) 3 f fd ["code"] (spExc K Cc Ct) := by
  refine F.fn.ok sc_exception_rows (fun vs H Q E h => ?_) (fun cdv A outer s H vs Q E hr h => ?_)
  · obtain ⟨a, dx, fs, h, d, rfl, _⟩ := h
    rfl
  · obtain ⟨a, dx, fs, h, d, rfl, ha, hl, hB, by1, k, kE⟩ := h
    refine ⟨_, (pss_cons (ps_expr (pe_cr c_want_code hr (by decide) rfl (passE (E := E) (takes_of rfl rfl rfl rfl)) (pa_cons (pv 0) pa_nil)))
    (pss_cons (ps_set (i := 1) sc_exception_rows.nd rfl (.inl rfl) (pe_lst pa_nil))
    (pss_cons (ps_set (i := 2) sc_exception_rows.nd rfl (.inl rfl) pe_int)
    (pss_cons (ps_while (passes_of rfl) (pt_cmpR op_lt (pv 2) (pe_callB call_len_seq (by rfl) T0.n_len Boot.«len» (pa_cons (pe_fld (pv 0) rfl) pa_nil)) (nomark _))
      (pss_cons (ps_asg (pe_cr c_number_at hr (by decide) rfl (passE (E := E) (takes_of rfl rfl rfl rfl)) (pa_cons (pe_fld (pv 0) rfl) (pa_cons (pv 2) (pa_cons pe_bl pa_nil)))) (pg_tup (by rfl) (pgs_cons (pg_name (i := 3) sc_exception_rows.nd rfl (.inl rfl)) (pgs_cons (pg_name (i := 2) sc_exception_rows.nd rfl (.inl rfl)) pgs_nil))))
    (pss_cons (ps_asg (pe_cr c_number_at hr (by decide) rfl (passE (E := E) (takes_of rfl rfl rfl rfl)) (pa_cons (pe_fld (pv 0) rfl) (pa_cons (pv 2) (pa_cons pe_bl pa_nil)))) (pg_tup (by rfl) (pgs_cons (pg_name (i := 4) sc_exception_rows.nd rfl (.inl rfl)) (pgs_cons (pg_name (i := 2) sc_exception_rows.nd rfl (.inl rfl)) pgs_nil))))
    (pss_cons (ps_asg (pe_cr c_number_at hr (by decide) rfl (passE (E := E) (takes_of rfl rfl rfl rfl)) (pa_cons (pe_fld (pv 0) rfl) (pa_cons (pv 2) (pa_cons pe_bl pa_nil)))) (pg_tup (by rfl) (pgs_cons (pg_name (i := 5) sc_exception_rows.nd rfl (.inl rfl)) (pgs_cons (pg_name (i := 2) sc_exception_rows.nd rfl (.inl rfl)) pgs_nil))))
    (pss_cons (ps_asg (pe_cr c_number_at hr (by decide) rfl (passE (E := E) (takes_of rfl rfl rfl rfl)) (pa_cons (pe_fld (pv 0) rfl) (pa_cons (pv 2) (pa_cons pe_bl pa_nil)))) (pg_tup (by rfl) (pgs_cons (pg_name (i := 6) sc_exception_rows.nd rfl (.inl rfl)) (pgs_cons (pg_name (i := 2) sc_exception_rows.nd rfl (.inl rfl)) pgs_nil))))
    (pss_one (ps_expr (pe_bm PySem.F.plainAttrs_list PySem.F.slot_list_append PySem.F.type_list_append mt_append (pv 1) (pa_cons (pe_tup (pa_cons (pe_op op_mul pe_int (pv 3)) (pa_cons (pe_op op_mul pe_int (pe_op op_add (pv 3) (pv 4))) (pa_cons (pe_op op_mul pe_int (pv 5)) (pa_cons (pe_op op_fdiv (pv 6) pe_int) (pa_cons (pe_cmpR op_eq (pe_op op_and (pv 6) pe_int) pe_int (nomark _)) pa_nil)))))) pa_nil)))))))))
    (pss_one (ps_ret (pv 1))))))), ?_⟩
    refine ⟨_, rfl, _, rfl, .inl ⟨a, dx, fs, rfl, ha, ?_⟩⟩
    refine ⟨(by show 0 ≤ sizeLine; decide), ?_⟩
    walk_at "new1"
    have cl := G.ins.cl
    have na := G.na "handlers" (by decide)
    refine while_by (fun σ H' => ∃ (i f : Nat) (xs : List V) (acc : List R5) (v3 v4 v5 v6 : Option V), σ = [some (.ref a), some (.ref p1), some (.int (i : Int)), v3, v4, v5, v6] ∧ i ≤ d.length ∧ d.length ≤ i + f ∧ Same H H' ∧ H' p1 = some (.lst xs) ∧ TupsAt R5.vs H' xs acc ∧ acc.length ≤ i ∧ hGo d f i acc = hRead d)
      (fun σ _ => match σ with | _ :: _ :: some (.int m) :: _ => d.length - m.toNat | _ => 0)
      ⟨0, d.length, [], [], none, none, none, none, rfl, Nat.zero_le _, by omega, s1, h1, trivial, Nat.le_refl _, rfl⟩ ?_ ?_
    · rintro σ H' ⟨i, f, xs, acc, v3, v4, v5, v6, rfl, hi, hf, s2, h2, hR, hal, he⟩
      have hB2 := seqT s2 hB
      have ha2 := s2 _ _ ha
      refine ⟨_, rfl, _, rfl, a, Cc, dx, fs, _, rfl, ha2, cl, na, hl, h, _, rfl, .inr hB2, _, _, rfl, rfl, _, rfl, ?_⟩
      rw [List.length_map]
      refine ite2 (fun c => ?_) (fun c => ?_)
      · have c' : i < d.length := by
          have z := of_decide_eq_true c
          omega
        obtain ⟨f, rfl⟩ : ∃ f', f = f' + 1 := ⟨f - 1, by omega⟩
        unfold hGo at he
        rw [if_neg (by omega)] at he
        unfold four at he
        refine ⟨_, rfl, a, Cc, dx, fs, _, rfl, ha2, cl, na, hl, _, rfl, h, d, i, true, rfl, hB2, by1, hi, fun n1' j1 e1 => ?_, fun j1 e1 => ?_⟩
        rotate_left
        · rw [e1] at he
          exact (kE j1 he.symm).same s2
        rw [e1] at he
        have l1 := numAt_le (d := d) (first := true) hi
        rw [e1] at l1
        obtain ⟨l1, _, l1'⟩ := l1
        have l1' := l1' _ rfl
        intro q1 J1 m1 t1 g1
        refine ⟨q1, _, rfl, SqT.of g1, rfl, _, _, rfl, _, _, rfl, rfl, ?_⟩
        have u1 := s2.trans t1
        refine ⟨_, rfl, a, Cc, dx, fs, _, rfl, t1 _ _ ha2, cl, na, hl, _, rfl, h, d, j1, false, rfl, seqT t1 hB2, by1, l1, fun n2' j2 e2 => ?_, fun j2 e2 => ?_⟩
        rotate_left
        · dsimp only at he
          rw [e2] at he
          exact (kE j2 he.symm).same u1
        dsimp only at he
        rw [e2] at he
        have l2 := numAt_le (d := d) (first := false) l1
        rw [e2] at l2
        obtain ⟨l2, _, l2'⟩ := l2
        have l2' := l2' _ rfl
        intro q2 J2 m2 t2 g2
        refine ⟨q2, _, rfl, SqT.of g2, rfl, _, _, rfl, _, _, rfl, rfl, ?_⟩
        have w2 := t1.trans t2
        have u2 := s2.trans w2
        refine ⟨_, rfl, a, Cc, dx, fs, _, rfl, w2 _ _ ha2, cl, na, hl, _, rfl, h, d, j2, false, rfl, seqT w2 hB2, by1, l2, fun n3' j3 e3 => ?_, fun j3 e3 => ?_⟩
        rotate_left
        · dsimp only at he
          rw [e3] at he
          exact (kE j3 he.symm).same u2
        dsimp only at he
        rw [e3] at he
        have l3 := numAt_le (d := d) (first := false) l2
        rw [e3] at l3
        obtain ⟨l3, _, l3'⟩ := l3
        have l3' := l3' _ rfl
        intro q3 J3 m3 t3 g3
        refine ⟨q3, _, rfl, SqT.of g3, rfl, _, _, rfl, _, _, rfl, rfl, ?_⟩
        have w3 := w2.trans t3
        have u3 := s2.trans w3
        refine ⟨_, rfl, a, Cc, dx, fs, _, rfl, w3 _ _ ha2, cl, na, hl, _, rfl, h, d, j3, false, rfl, seqT w3 hB2, by1, l3, fun n4' j4 e4 => ?_, fun j4 e4 => ?_⟩
        rotate_left
        · dsimp only at he
          rw [e4] at he
          exact (kE j4 he.symm).same u3
        dsimp only at he
        rw [e4] at he
        have l4 := numAt_le (d := d) (first := false) l3
        rw [e4] at l4
        obtain ⟨l4, _, l4'⟩ := l4
        have l4' := l4' _ rfl
        intro q4 J4 m4 t4 g4
        refine ⟨q4, _, rfl, SqT.of g4, rfl, _, _, rfl, _, _, rfl, rfl, ?_⟩
        have w4 := w3.trans t4
        have h4 := w4 _ _ h2
        refine ⟨_, rfl, .inl ⟨rfl, _, SqL.of h4⟩, ?_⟩
        refine ⟨_, rfl, _, _, rfl, rfl, .inl ⟨by decide, by decide⟩, _, rfl, _, rfl, _, _, rfl, rfl, _, _, rfl, rfl, .inl ⟨by decide, by decide⟩, _, rfl, _, _, rfl, rfl, .inl ⟨by decide, by decide⟩, _, rfl, _, _, rfl, rfl, ⟨by show (0 : Int) < 2; decide, by decide⟩, _, rfl, _, _, rfl, rfl, rfl, (by show 5 ≤ sizeLine; decide), ?_⟩
        have er : ([V.int (2 * n1'), V.int (2 * (n1' + n2')), V.int (2 * n3'), V.int (n4' / 2), V.bl (decide (V.int (Builtin.bitAnd n4' 1) = V.int 1))] : List V) = (mkR n1' n2' n3' n4').vs := by
          have ed : decide (V.int (n4' % 2) = V.int 1) = decide (n4' % 2 = 1) := decide_eq_decide.mpr ⟨fun z => by injection z, fun z => by rw [z]⟩
          rw [bitAnd_m1, ed]
          rfl
        intro q mq
        dsimp (config := { proj := false }) only at mq ⊢
        rw [er]
        have hq : upd J4 q (.tup (mkR n1' n2' n3' n4').vs) q = some (.tup (mkR n1' n2' n3' n4').vs) := upd_same
        have sq : Same J4 (upd J4 q (.tup (mkR n1' n2' n3' n4').vs)) := Same.new mq
        refine ⟨p1, xs, _, rfl, rfl, sq _ _ h4, ?_, ?_, ?_⟩
        · rw [hR.len]
          exact Nat.lt_of_le_of_lt (Nat.le_trans hal (Nat.le_trans hi by1.2)) (by decide)
        · generalize upd J4 q (.tup (mkR n1' n2' n3' n4').vs) = J5 at hq sq ⊢
          have w5 := w4.trans sq
          have h5 := w5 _ _ h2
          have nqp : q ≠ p1 := by
            rintro rfl
            rw [h4] at mq
            cases mq
          refine ⟨j4, f, xs ++ [.ref q], acc ++ [mkR n1' n2' n3' n4'], some (.int n1'), some (.int n2'), some (.int n3'), some (.int n4'), rfl, l4, by omega, Same.mut (s2.trans w5) n1, upd_same, TupsAt.snoc (p := q) (by rw [upd_ne nqp]; exact hq) ((hR.same w5).upd h5), ?_, he⟩
          rw [List.length_append]
          show acc.length + 1 ≤ j4
          omega
        · show d.length - (((j4 : Nat) : Int)).toNat < d.length - (((i : Nat) : Int)).toNat
          omega
      · have c' : i = d.length := by
          have : ¬ i < d.length := fun z => c (decide_eq_true (by omega))
          omega
        subst c'
        rw [hGo_end] at he
        exact ⟨_, rfl, k acc he.symm p1 H' xs n1 s2 h2 hR⟩
    · rintro σ H' Q1 Q2 hq ⟨v, e, v2, e', a1, C1, dx1, fs1, v1, x1, x2, x3, x4, x5, l1, l2, l3, l4, i, j, y1, y2, b2, y5, q⟩
      exact ⟨v, e, v2, e', a1, C1, dx1, fs1, v1, x1, x2, x3, x4, x5, l1, l2, l3, l4, i, j, y1, y2, b2, y5, hq _ _ q⟩
end
end K49
set_option maxHeartbeats 4000000
set_option pp.maxSteps 600
namespace K49
open PySem PySem.Spec PyProof.Rows L2 Nd
abbrev s_law_number_read : Stmt := top 40
abbrev s_law_handlers_read : Stmt := top 41
def spNumRead (K : PySem.W.Frag) : Sp := fun vs H Q _ => ∃ (h : Addr) (d : List Int) (at0 : Nat) (first : Bool), vs = [.ref h, .int (at0 : Int), .bl first] ∧ SqL K H h (d.map V.int) ∧ Byts d ∧ at0 ≤ d.length ∧
  ∀ q H', H q = none → Same H H' → H' q = some (.tup [lnV (numAt d at0 first).1, .int ((numAt d at0 first).2 : Nat)]) → Q (.ref q) H'
/-- the numbers of a row read so far, the last one first -/
def Pre (d : List Int) (i : Nat) : List Int → Nat → Prop
  | [], j => j = i
  | a :: ns, j => ∃ j0, Pre d i ns j0 ∧ numAt d j0 (decide (ns.length = 0)) = (some a, j)
theorem Pre.le {d : List Int} {i : Nat} (h : i ≤ d.length) : ∀ {ns : List Int} {j : Nat}, Pre d i ns j → j ≤ d.length ∧ i + ns.length ≤ j
  | [], j, e => by
    have e : j = i := e
    rw [e]
    exact ⟨h, Nat.le_refl _⟩
  | a :: ns, j, ⟨j0, p, e⟩ => by
    obtain ⟨x, y⟩ := Pre.le h p
    have l := numAt_le (d := d) (first := decide (ns.length = 0)) x
    rw [e] at l
    obtain ⟨l1, l2, l3⟩ := l
    have l3 := l3 a rfl
    refine ⟨l1, ?_⟩
    rw [List.length_cons]
    have l3 : j0 < j := l3
    omega
theorem four_bad {d : List Int} {i : Nat} : ∀ {ns : List Int} {j j' : Nat}, Pre d i ns j → ns.length < 4 → numAt d j (decide (ns.length = 0)) = (none, j') → four d i = (none, j')
  | [], j, j', p, _, e => by
    have p : j = i := p
    subst p
    have e : numAt d j true = (none, j') := e
    unfold four
    rw [e]
  | [a], j, j', ⟨j0, p, e1⟩, _, e => by
    have p : j0 = i := p
    subst p
    have e1 : numAt d j0 true = (some a, j) := e1
    have e : numAt d j false = (none, j') := e
    unfold four
    rw [e1]
    dsimp only
    rw [e]
  | [b, a], j, j', ⟨j1, ⟨j0, p, e1⟩, e2⟩, _, e => by
    have p : j0 = i := p
    subst p
    have e1 : numAt d j0 true = (some a, j1) := e1
    have e2 : numAt d j1 false = (some b, j) := e2
    have e : numAt d j false = (none, j') := e
    unfold four
    rw [e1]
    dsimp only
    rw [e2]
    dsimp only
    rw [e]
  | [c, b, a], j, j', ⟨j2, ⟨j1, ⟨j0, p, e1⟩, e2⟩, e3⟩, _, e => by
    have p : j0 = i := p
    subst p
    have e1 : numAt d j0 true = (some a, j1) := e1
    have e2 : numAt d j1 false = (some b, j2) := e2
    have e3 : numAt d j2 false = (some c, j) := e3
    have e : numAt d j false = (none, j') := e
    unfold four
    rw [e1]
    dsimp only
    rw [e2]
    dsimp only
    rw [e3]
    dsimp only
    rw [e]
  | _ :: _ :: _ :: _ :: ns, _, _, _, h, _ => by
    simp at h
    omega
theorem four_good {d : List Int} {i j : Nat} {a b c e : Int} : Pre d i [e, c, b, a] j → four d i = (some (mkR a b c e), j)
  | ⟨j3, ⟨j2, ⟨j1, ⟨j0, p, e1⟩, e2⟩, e3⟩, e4⟩ => by
    have p : j0 = i := p
    subst p
    have e1 : numAt d j0 true = (some a, j1) := e1
    have e2 : numAt d j1 false = (some b, j2) := e2
    have e3 : numAt d j2 false = (some c, j3) := e3
    have e4 : numAt d j3 false = (some e, j) := e4
    unfold four
    rw [e1]
    dsimp only
    rw [e2]
    dsimp only
    rw [e3]
    dsimp only
    rw [e4]
def spHRead (K : PySem.W.Frag) : Sp := fun vs H Q _ => ∃ (h : Addr) (d : List Int), vs = [.ref h] ∧ SqL K H h (d.map V.int) ∧ Byts d ∧
  (∀ rs, hRead d = .inl rs → ∀ q H' xs, H q = none → Same H H' → H' q = some (.lst xs) → TupsAt R5.vs H' xs rs → Q (.ref q) H') ∧ (∀ j, hRead d = .inr j → ∀ H', Same H H' → Q (.int (j : Nat)) H')
section
variable {P : Program} {w : World} {K : PySem.W.Frag} {mg : Str → Option Value} {base : Heap}
abbrev N_law_number_read : List Str := ["data", "at", "is_first", "number", "k"]
theorem sc_law_number_read : FnScope N_law_number_read ["data", "at", "is_first"] (defScope s_law_number_read) := ⟨rfl, rfl, rfl, by decide +kernel, rfl, by decide +kernel, by decide +kernel⟩
theorem ok_law_number_read {f : Addr} {fd : FuncData} (T : Gl0 mg) (F : DefX K mg "_law_number_read" s_law_number_read ["data", "at", "is_first"] f fd) : CalX P w K mg base 1 "_law_number_read" (spNumRead K) := by
  refine calx F sc_law_number_read (fun vs H Q E h => ?_) (fun cdv A outer s H vs Q E hr h => ?_)
  · obtain ⟨h, d, at0, first, rfl, _⟩ := h
    rfl
  · obtain ⟨h, d, at0, first, rfl, hB, by1, hle, k⟩ := h
    refine ⟨_, (pss_cons (ps_if (PW.pt (pw_or (pt_cmpR op_eq (pv 1) (pe_callB call_len_seq (by rfl) T.n_len Boot.«len» (pa_cons (pv 0) pa_nil)) (nomark _)) (pw_or (pt_cmpR op_ne (pe_cmpR op_ge (pe_ix ix_list (pv 0) (pv 1) (fun _ _ => rfl)) pe_int (nomark _)) (pv 2) (nomark _)) (pw_or1 (pt_cmpR op_eq (pe_op op_mod (pe_callTy call_int1 (by rfl) T.n_int Boot.«int» (pa_cons (pe_ix ix_list (pv 0) (pv 1) (fun _ _ => rfl)) pa_nil)) pe_int) pe_int (nomark _))))))
      (pss_one (ps_ret (pe_tup (pa_cons pe_non (pa_cons (pv 1) pa_nil)))))
      pss_nil)
    (pss_cons (ps_set (i := 3) sc_law_number_read.nd rfl (.inl rfl) (pe_op op_mod (pe_callTy call_int1 (by rfl) T.n_int Boot.«int» (pa_cons (pe_ix ix_list (pv 0) (pv 1) (fun _ _ => rfl)) pa_nil)) pe_int))
    (pss_cons (ps_for PassesOwn.never rfl (pi_range1 (by rfl) T.n_range (pa_cons (pe_callB call_len_seq (by rfl) T.n_len Boot.«len» (pa_cons (pv 0) pa_nil)) pa_nil)) (pg_name (i := 4) sc_law_number_read.nd rfl (.inl rfl))
      (pss_cons (ps_if (pt_cmpR op_eq (pe_op op_mod (pe_callTy call_int1 (by rfl) T.n_int Boot.«int» (pa_cons (pe_op op_fdiv (pe_ix ix_list (pv 0) (pv 1) (fun _ _ => rfl)) pe_int) pa_nil)) pe_int) pe_int (nomark _))
      (pss_one (ps_ret (pe_tup (pa_cons (pv 3) (pa_cons (pe_op op_add (pv 1) pe_int) pa_nil)))))
      pss_nil)
    (pss_cons (ps_set (i := 1) sc_law_number_read.nd rfl (.inl rfl) (pe_op op_add (pv 1) pe_int))
    (pss_cons (ps_if (PW.pt (pw_or (pt_cmpR op_eq (pv 1) (pe_callB call_len_seq (by rfl) T.n_len Boot.«len» (pa_cons (pv 0) pa_nil)) (nomark _)) (pw_or1 (pt_cmpR op_ge (pe_ix ix_list (pv 0) (pv 1) (fun _ _ => rfl)) pe_int (nomark _)))))
      (pss_one (ps_ret (pe_tup (pa_cons pe_non (pa_cons (pv 1) pa_nil)))))
      pss_nil)
    (pss_one (ps_set (i := 3) sc_law_number_read.nd rfl (.inl rfl) (pe_op op_add (pe_op op_mul pe_int (pv 3)) (pe_op op_mod (pe_callTy call_int1 (by rfl) T.n_int Boot.«int» (pa_cons (pe_ix ix_list (pv 0) (pv 1) (fun _ _ => rfl)) pa_nil)) pe_int))))))))
    (pss_one (ps_ret (pe_tup (pa_cons pe_non (pa_cons (pv 1) pa_nil)))))))), ?_⟩
    refine ⟨_, rfl, _, rfl, h, _, rfl, .inl hB, rfl, _, rfl, ?_⟩
    rw [len_eq]
    refine ite2 (fun c => ?_) (fun c => ?_)
    · have c := of_decide_eq_true c
      refine ⟨_, rfl, (by show 2 ≤ sizeLine; decide), ?_⟩
      walk_at "new1"
      refine k p1 H1 n1 s1 ?_
      rw [h1]
      unfold numAt
      rw [if_pos (.inl c)]
      rfl
    have c1 : ¬ at0 = d.length := fun z => c (decide_eq_true z)
    have hlt : at0 < d.length := by omega
    have g0 := g_at hlt
    obtain ⟨r0, r1⟩ := by1.g hlt
    refine ⟨_, rfl, _, rfl, h, _, _, _, rfl, rfl, hB, g0, _, _, rfl, rfl, _, rfl, rfl, _, rfl, ?_⟩
    refine ite2 (fun c => ?_) (fun c => ?_)
    · have c2 : decide (128 ≤ g d at0) ≠ first := by simpa using c
      refine ⟨_, rfl, (by show 2 ≤ sizeLine; decide), ?_⟩
      walk_at "new1"
      refine k p1 H1 n1 s1 ?_
      rw [h1]
      unfold numAt
      rw [if_pos (.inr (.inl c2))]
      rfl
    have c2 : ¬ decide (128 ≤ g d at0) ≠ first := by simpa using c
    refine ⟨_, rfl, _, rfl, h, _, _, _, rfl, rfl, hB, g0, .inl ⟨_, rfl, _, _, rfl, rfl, (by show (0 : Int) < 128; decide), rfl, _, rfl, ?_⟩⟩
    refine ite2 (fun c => ?_) (fun c => ?_)
    · have c := of_decide_eq_true c
      have c3 : g d at0 % 128 = 64 := by injection c
      refine ⟨_, rfl, (by show 2 ≤ sizeLine; decide), ?_⟩
      walk_at "new1"
      refine k p1 H1 n1 s1 ?_
      rw [h1]
      unfold numAt
      rw [if_pos (.inr (.inr c3))]
      rfl
    have c3 : ¬ g d at0 % 128 = 64 := fun z => c (decide_eq_true (congrArg V.int z))
    have e0 : numAt d at0 first = numGo d d.length at0 (g d at0 % 64) := by
      unfold numAt
      rw [if_neg (fun z => z.elim c1 fun z => z.elim c2 c3)]
    refine ⟨_, rfl, _, rfl, h, _, _, _, rfl, rfl, hB, g0, .inl ⟨_, rfl, _, _, rfl, rfl, (by show (0 : Int) < 64; decide), ?_⟩⟩
    refine ⟨_, rfl, h, _, rfl, .inl hB, ?_⟩
    rw [List.length_map]
    refine ⟨_, rfl, by omega, Int.lt_of_le_of_lt (b := 1000) (by have := by1.2; omega) (by decide), ?_⟩
    refine for_range (lo := 0) (n := d.length) (fun j σ H' => H' = H ∧ ∃ (i : Nat) (n : Int) (v4 : Option V), σ = [some (.ref h), some (.int (i : Int)), some (.bl first), some (.int n), v4] ∧ i < d.length ∧ numGo d (d.length - j) i n = numAt d at0 first)
      ⟨rfl, at0, _, none, rfl, hlt, e0.symm⟩ ?_ ?_
    · rintro j σ H' hj ⟨rfl, i, n, v4, rfl, hi, he⟩
      obtain ⟨q0, q1⟩ := by1.g hi
      rw [show d.length - j = (d.length - (j + 1)) + 1 by omega] at he
      unfold numGo at he
      refine ⟨_, rfl, _, rfl, h, _, _, _, rfl, rfl, hB, g_at hi, _, _, rfl, rfl, ⟨by show (0 : Int) < 64; decide, by decide⟩, .inl ⟨_, rfl, _, _, rfl, rfl, (by show (0 : Int) < 2; decide), rfl, _, rfl, ?_⟩⟩
      refine ite2 (fun c => ?_) (fun c => ?_)
      · have c := of_decide_eq_true c
        have c : g d i / 64 % 2 = 0 := by injection c
        rw [if_pos c] at he
        refine ⟨_, rfl, _, rfl, _, _, rfl, rfl, (by show 2 ≤ sizeLine; decide), ?_⟩
        walk_at "new1"
        refine k p1 H1 n1 s1 ?_
        rw [h1, ← he]
        rfl
      · have c : ¬ g d i / 64 % 2 = 0 := fun z => c (decide_eq_true (congrArg V.int z))
        rw [if_neg c] at he
        have ea : ((i : Nat) : Int) + 1 = ((i + 1 : Nat) : Int) := by omega
        refine ⟨_, rfl, _, _, rfl, rfl, ?_⟩
        dsimp (config := { proj := false }) only
        rw [ea]
        refine ⟨_, rfl, _, rfl, h, _, rfl, .inl hB, rfl, _, rfl, ?_⟩
        rw [len_eq]
        refine ite2 (fun c => ?_) (fun c => ?_)
        · have c := of_decide_eq_true c
          rw [if_pos (.inl c)] at he
          refine ⟨_, rfl, (by show 2 ≤ sizeLine; decide), ?_⟩
          walk_at "new1"
          refine k p1 H1 n1 s1 ?_
          rw [h1, ← he]
          rfl
        have c1 : ¬ i + 1 = d.length := fun z => c (decide_eq_true z)
        have hi2 : i + 1 < d.length := by omega
        refine ⟨_, rfl, _, rfl, h, _, _, _, rfl, rfl, hB, g_at hi2, _, _, rfl, rfl, _, rfl, ?_⟩
        refine ite2 (fun c => ?_) (fun c => ?_)
        · have c : (128 : Int) ≤ g d (i + 1) := of_decide_eq_true c
          rw [if_pos (.inr c)] at he
          refine ⟨_, rfl, (by show 2 ≤ sizeLine; decide), ?_⟩
          walk_at "new1"
          refine k p1 H1 n1 s1 ?_
          rw [h1, ← he]
          rfl
        have c2 : ¬ (128 : Int) ≤ g d (i + 1) := fun z => c (decide_eq_true z)
        rw [if_neg (fun z => z.elim c1 c2)] at he
        refine ⟨_, rfl, _, _, rfl, rfl, .inl ⟨by decide, by decide⟩, _, rfl, _, rfl, h, _, _, _, rfl, rfl, hB, g_at hi2, .inl ⟨_, rfl, _, _, rfl, rfl, (by show (0 : Int) < 64; decide), _, _, rfl, rfl, ?_⟩⟩
        exact ⟨rfl, i + 1, _, _, rfl, hi2, he⟩
    · rintro σ H' ⟨rfl, i, n, v4, rfl, hi, he⟩
      rw [Nat.sub_self] at he
      refine ⟨_, rfl, (by show 2 ≤ sizeLine; decide), ?_⟩
      walk_at "new1"
      refine k p1 H1 n1 s1 ?_
      rw [h1, ← he]
      rfl
end
end K49
set_option maxHeartbeats 4000000
set_option pp.maxSteps 600
namespace K49
open PySem PySem.Spec PyProof.Rows L2 Nd
theorem hGo_step {d : List Int} {f i : Nat} {acc : List R5} (h : i ≠ d.length) : hGo d (f + 1) i acc = match four d i with
    | (none, j) => .inr j
    | (some r, j) => hGo d f j (acc ++ [r]) := by
  show (if i = d.length then _ else _) = _
  rw [if_neg h] <;> rfl
section
variable {P : Program} {w : World} {K : PySem.W.Frag} {mg : Str → Option Value} {base : Heap}
abbrev N_law_handlers_read : List Str := ["data", "found", "at", "turn", "numbers", "k", "number", "low", "size", "target", "last"]
theorem sc_law_handlers_read : FnScope N_law_handlers_read ["data"] (defScope s_law_handlers_read) := ⟨rfl, rfl, rfl, by decide +kernel, rfl, by decide +kernel, by decide +kernel⟩
theorem ok_law_handlers_read {f : Addr} {fd : FuncData} (T : Gl0 mg) (c_law_number_read : CalX P w K mg base 1 "_law_number_read" (spNumRead K)) (F : DefX K mg "_law_handlers_read" s_law_handlers_read ["data"] f fd) : CalX P w K mg base 2 "_law_handlers_read" (spHRead K) := by
  refine calx F sc_law_handlers_read (fun vs H Q E h => ?_) (fun cdv A outer s H vs Q E hr h => ?_)
  · obtain ⟨h, d, rfl, _⟩ := h
    rfl
  · obtain ⟨h, d, rfl, hB, by1, kI, kJ⟩ := h
    refine ⟨_, (pss_cons (ps_par (i := 1) (j := 2) (by rfl) sc_law_handlers_read.nd rfl rfl (by decide) rfl rfl (pa_cons (pe_lst pa_nil) (pa_cons pe_int pa_nil)) (by rfl))
    (pss_cons (ps_for PassesOwn.never rfl (pi_range1 (by rfl) T.n_range (pa_cons (pe_callB call_len_seq (by rfl) T.n_len Boot.«len» (pa_cons (pv 0) pa_nil)) pa_nil)) (pg_name (i := 3) sc_law_handlers_read.nd rfl (.inl rfl))
      (pss_cons (ps_if (pt_cmpR op_eq (pv 2) (pe_callB call_len_seq (by rfl) T.n_len Boot.«len» (pa_cons (pv 0) pa_nil)) (nomark _))
      (pss_one (ps_ret (pv 1)))
      pss_nil)
    (pss_cons (ps_set (i := 4) sc_law_handlers_read.nd rfl (.inl rfl) (pe_lst pa_nil))
    (pss_cons (ps_for PassesOwn.never rfl (pi_range1 (by rfl) T.n_range (pa_cons pe_int pa_nil)) (pg_name (i := 5) sc_law_handlers_read.nd rfl (.inl rfl))
      (pss_cons (ps_asg (pe_cx c_law_number_read hr (by decide) rfl (pa_cons (pv 0) (pa_cons (pv 2) (pa_cons (pe_cmpR op_eq (pv 5) pe_int (nomark _)) pa_nil)))) (pg_tup (by rfl) (pgs_cons (pg_name (i := 6) sc_law_handlers_read.nd rfl (.inl rfl)) (pgs_cons (pg_name (i := 2) sc_law_handlers_read.nd rfl (.inl rfl)) pgs_nil))))
    (pss_cons (ps_if (pt_cmpR op_isN (pv 6) pe_non (nomark _))
      (pss_one (ps_ret (pv 2)))
      pss_nil)
    (pss_one (ps_expr (pe_bm PySem.F.plainAttrs_list PySem.F.slot_list_append PySem.F.type_list_append mt_append (pv 4) (pa_cons (pv 6) pa_nil)))))))
    (pss_cons (ps_asg (pv 4) (pg_unl (by rfl) (pgs_cons (pg_name (i := 7) sc_law_handlers_read.nd rfl (.inl rfl)) (pgs_cons (pg_name (i := 8) sc_law_handlers_read.nd rfl (.inl rfl)) (pgs_cons (pg_name (i := 9) sc_law_handlers_read.nd rfl (.inl rfl)) (pgs_cons (pg_name (i := 10) sc_law_handlers_read.nd rfl (.inl rfl)) pgs_nil))))))
    (pss_one (ps_expr (pe_bm PySem.F.plainAttrs_list PySem.F.slot_list_append PySem.F.type_list_append mt_append (pv 1) (pa_cons (pe_tup (pa_cons (pe_op op_mul pe_int (pv 7)) (pa_cons (pe_op op_add (pe_op op_mul pe_int (pv 7)) (pe_op op_mul pe_int (pv 8))) (pa_cons (pe_op op_mul pe_int (pv 9)) (pa_cons (pe_op op_fdiv (pv 10) pe_int) (pa_cons (pe_cmpR op_eq (pe_op op_mod (pe_callTy call_int1 (by rfl) T.n_int Boot.«int» (pa_cons (pv 10) pa_nil)) pe_int) pe_int (nomark _)) pa_nil)))))) pa_nil)))))))))
    (pss_one (ps_ret (pv 1))))), ?_⟩
    refine ⟨(by show 0 ≤ sizeLine; decide), ?_⟩
    walk_at "new1"
    refine ⟨_, _, rfl, ?_⟩
    have hB1 := s1.seq hB
    refine ⟨_, rfl, h, _, rfl, .inl hB1, ?_⟩
    rw [List.length_map]
    refine ⟨_, rfl, by omega, Int.lt_of_le_of_lt (b := 1000) (by have := by1.2; omega) (by decide), ?_⟩
    refine for_range (lo := 0) (n := d.length) (fun t σ H' => ∃ (i : Nat) (xs : List V) (acc : List R5) (v3 v4 v5 v6 v7 v8 v9 v10 : Option V), σ = [some (.ref h), some (.ref p1), some (.int (i : Int)), v3, v4, v5, v6, v7, v8, v9, v10] ∧ i ≤ d.length ∧ Same H H' ∧ H' p1 = some (.lst xs) ∧ TupsAt R5.vs H' xs acc ∧ acc.length ≤ i ∧ hGo d (d.length - t) i acc = hRead d)
      ⟨0, [], [], none, none, none, none, none, none, none, none, rfl, Nat.zero_le _, s1, h1, trivial, Nat.le_refl _, rfl⟩ ?_ ?_
    · rintro t σ H' ht ⟨i, xs, acc, v3, v4, v5, v6, v7, v8, v9, v10, rfl, hi, s2, h2, hR, hal, he⟩
      have hB2 := s2.seq hB
      refine ⟨_, rfl, _, rfl, h, _, rfl, .inl hB2, rfl, _, rfl, ?_⟩
      rw [len_eq]
      refine ite2 (fun c => ?_) (fun c => ?_)
      · have c := of_decide_eq_true c
        subst c
        rw [hGo_end] at he
        exact ⟨_, rfl, kI acc he.symm p1 H' xs n1 s2 h2 hR⟩
      have c1 : ¬ i = d.length := fun z => c (decide_eq_true z)
      rw [show d.length - t = (d.length - (t + 1)) + 1 by omega, hGo_step c1] at he
      refine ⟨(by show 0 ≤ sizeLine; decide), ?_⟩
      have s2o := s2
      have h2o := h2
      clear s2 h2
      walk_at "new2"
      have s2' := s2
      have h2' := h2
      have s2 := s2o
      have h2 := h2o
      refine ⟨4, rfl, by decide, by decide, for_range (lo := 0) (n := 4) (fun k σ H'' => ∃ (ns : List Int) (j : Nat) (v5 v6 : Option V), σ = [some (.ref h), some (.ref p1), some (.int (j : Int)), some (.int (0 + (t : Int))), some (.ref p2), v5, v6, v7, v8, v9, v10] ∧ ns.length = k ∧ Pre d i ns j ∧ Same H' H'' ∧ H'' p2 = some (.lst (ns.reverse.map V.int)))
        ⟨[], i, _, _, rfl, rfl, rfl, s2', h2'⟩ ?_ ?_⟩
      · rintro k σ H'' hk ⟨ns, j, v5, v6, rfl, hl, hp, u, hn⟩
        obtain ⟨hj, hij⟩ := hp.le hi
        have ef : decide (V.int (0 + (k : Int)) = V.int 0) = decide (ns.length = 0) := decide_eq_decide.mpr ⟨fun z => by
          have z : 0 + (k : Int) = 0 := by injection z
          omega, fun z => by
          have : (0 + (k : Int)) = 0 := by omega
          rw [this]⟩
        refine ⟨_, rfl, _, rfl, _, rfl, rfl, h, d, j, _, rfl, u.seq hB2, by1, hj, fun q1 J1 m1 t1 g1 => ?_⟩
        rw [ef] at g1
        have w1 := u.trans t1
        refine ⟨q1, _, rfl, SqT.of g1, rfl, _, _, rfl, _, _, rfl, rfl, ?_⟩
        cases er : numAt d j (decide (ns.length = 0)) with
        | mk o j' =>
          rw [er] at g1
          cases o with
          | none =>
            refine ⟨_, rfl, rfl, _, rfl, iteT ⟨_, rfl, ?_⟩⟩
            rw [four_bad hp (by omega) er] at he
            exact kJ j' he.symm J1 (s2.trans w1)
          | some a =>
            have hn1 := t1 _ _ hn
            refine ⟨_, rfl, rfl, _, rfl, iteF ⟨_, rfl, .inl ⟨rfl, _, SqL.of hn1⟩, _, rfl, p2, _, _, rfl, rfl, hn1, ?_, ?_⟩⟩
            · rw [List.length_map, List.length_reverse]
              exact Nat.lt_of_le_of_lt (by omega : ns.length ≤ 4) (by decide)
            · refine ⟨a :: ns, j', _, _, rfl, by rw [List.length_cons, hl], ⟨j, hp, er⟩, Same.mut w1 n2, ?_⟩
              rw [upd_same]
              simp
              rfl
      · rintro σ H'' ⟨ns, j, v5, v6, rfl, hl, hp, u, hn⟩
        obtain ⟨e, c, b, a, rfl⟩ : ∃ e c b a, ns = [e, c, b, a] := by
          match ns, hl with
          | [e, c, b, a], _ => exact ⟨e, c, b, a, rfl⟩
        obtain ⟨hj, hij⟩ := hp.le hi
        rw [four_good hp] at he
        have h4 := u _ _ h2
        refine ⟨_, rfl, p2, _, rfl, SqL.of hn, rfl, _, _, rfl, _, _, rfl, _, _, rfl, _, _, rfl, rfl, ?_⟩
        refine ⟨_, rfl, .inl ⟨rfl, _, SqL.of h4⟩, ?_⟩
        refine ⟨_, rfl, _, _, rfl, rfl, .inl ⟨by decide, by decide⟩, _, rfl, _, _, rfl, rfl, .inl ⟨by decide, by decide⟩, _, rfl, _, _, rfl, rfl, .inl ⟨by decide, by decide⟩, _, _, rfl, rfl, _, rfl, _, _, rfl, rfl, .inl ⟨by decide, by decide⟩, _, rfl, _, _, rfl, rfl, ⟨by show (0 : Int) < 2; decide, by decide⟩, _, rfl, .inl ⟨_, rfl, _, _, rfl, rfl, (by show (0 : Int) < 2; decide), rfl, (by show 5 ≤ sizeLine; decide), ?_⟩⟩
        have er : ([V.int (2 * a), V.int (2 * a + 2 * b), V.int (2 * c), V.int (e / 2), V.bl (decide (V.int (e % 2) = V.int 1))] : List V) = (mkR a b c e).vs := by
          have ed : decide (V.int (e % 2) = V.int 1) = decide (e % 2 = 1) := decide_eq_decide.mpr ⟨fun z => by injection z, fun z => by rw [z]⟩
          rw [ed, ← Int.mul_add]
          rfl
        intro q mq
        dsimp (config := { proj := false }) only at mq ⊢
        rw [er]
        have hq : upd H'' q (.tup (mkR a b c e).vs) q = some (.tup (mkR a b c e).vs) := upd_same
        have sq : Same H'' (upd H'' q (.tup (mkR a b c e).vs)) := Same.new mq
        refine ⟨p1, xs, _, rfl, rfl, sq _ _ h4, ?_, ?_⟩
        · rw [hR.len]
          exact Nat.lt_of_le_of_lt (Nat.le_trans hal (Nat.le_trans hi by1.2)) (by decide)
        generalize upd H'' q (.tup (mkR a b c e).vs) = J5 at hq sq ⊢
        have w5 := u.trans sq
        have h5 := w5 _ _ h2
        have nqp : q ≠ p1 := by
          rintro rfl
          rw [h4] at mq
          cases mq
        refine ⟨j, xs ++ [.ref q], acc ++ [mkR a b c e], _, _, _, _, _, _, _, _, rfl, hj, Same.mut (s2.trans w5) n1, upd_same, TupsAt.snoc (p := q) (by rw [upd_ne nqp]; exact hq) ((hR.same w5).upd h5), ?_, he⟩
        rw [List.length_append]
        show acc.length + 1 ≤ j
        simp at hij
        omega
    · rintro σ H' ⟨i, xs, acc, v3, v4, v5, v6, v7, v8, v9, v10, rfl, hi, s2, h2, hR, hal, he⟩
      rw [Nat.sub_self] at he
      exact ⟨_, rfl, kI acc he.symm p1 H' xs n1 s2 h2 hR⟩
end
end K49
set_option maxHeartbeats 4000000
set_option pp.maxSteps 600
namespace K49
open PySem PySem.Spec PyProof.Rows L2 Nd
abbrev s_signed_at : Stmt := top 27
abbrev s_law_signed_read : Stmt := top 42
def spSgAt (K : PySem.W.Frag) (Ct : Addr) : Sp := fun vs H Q E => ∃ (h : Addr) (d : List Int) (at0 : Nat), vs = [.ref h, .int (at0 : Int)] ∧ SqT K H h (d.map V.int) ∧ Byts d ∧ at0 ≤ d.length ∧
  (∀ n j, sgAt d at0 = (some n, j) → ∀ q H', H q = none → Same H H' → H' q = some (.tup [.int n, .int (j : Nat)]) → Q (.ref q) H') ∧ (∀ j, sgAt d at0 = (none, j) → errT Ct H (j : Nat) E)
def spSgRead (K : PySem.W.Frag) : Sp := fun vs H Q _ => ∃ (h : Addr) (d : List Int) (at0 : Nat), vs = [.ref h, .int (at0 : Int)] ∧ SqL K H h (d.map V.int) ∧ Byts d ∧ at0 ≤ d.length ∧
  ∀ q H', H q = none → Same H H' → H' q = some (.tup [lnV (sgAt d at0).1, .int ((sgAt d at0).2 : Nat)]) → Q (.ref q) H'
theorem two_six (j : Nat) : (2 : Int) ^ (6 * j) = 64 ^ j := by
  induction j with
  | zero => rfl
  | succ j ih =>
    have e : 6 * (j + 1) = 6 * j + 1 + 1 + 1 + 1 + 1 + 1 := by omega
    rw [e]
    simp only [Int.pow_succ, ih]
    omega
theorem sgGo_step {d : List Int} {f i k : Nat} {n : Int} (c1 : i ≠ d.length) (c2 : ¬ 128 ≤ g d i) : sgGo d (f + 1) i k n =
    if g d i < 64 then (if (g d i = 0 ∧ 0 < k) ∨ n + 64 ^ k * (g d i % 64) = 1 then (none, i) else (some (half2 (n + 64 ^ k * (g d i % 64))), i + 1)) else sgGo d f (i + 1) (k + 1) (n + 64 ^ k * (g d i % 64)) := by
  show (if i = d.length ∨ 128 ≤ g d i then _ else _) = _
  rw [if_neg (fun z => z.elim c1 c2)]
theorem sgGo_bad {d : List Int} {f i k : Nat} {n : Int} (c : i = d.length ∨ 128 ≤ g d i) : sgGo d (f + 1) i k n = (none, i) := by
  show (if i = d.length ∨ 128 ≤ g d i then _ else _) = _
  rw [if_pos c]
section
variable {P : Program} {w : World} {K : PySem.W.Frag} {mg : Str → Option Value} {base : Heap} {Ct fT : Addr}
abbrev N_signed_at : List Str := ["data", "at", "number", "shift"]
theorem sc_signed_at : FnScope N_signed_at ["data", "at"] (defScope s_signed_at) := ⟨rfl, rfl, rfl, by decide +kernel, rfl, by decide +kernel, by decide +kernel⟩
theorem ok_signed_at {f : Addr} {fd : FuncData} (T0 : Gl0 mg) (T : Gl1 mg) (TT : GTb P K mg Ct fT) (F : DefX K mg "signed_at" s_signed_at ["data", "at"] f fd) : FnOk P w K mg base (L2.CX P w) 2 f fd ["data", "at"] (spSgAt K Ct) := by
  refine F.fn.ok sc_signed_at (fun vs H Q E h => ?_) (fun cdv A outer s H vs Q E hr h => ?_)
  · obtain ⟨h, d, at0, rfl, _⟩ := h
    rfl
  · obtain ⟨h, d, at0, rfl, hB, by1, hle, k, kE⟩ := h
    refine ⟨_, (pss_cons (ps_asg (pe_tup (pa_cons pe_int (pa_cons pe_int pa_nil))) (pg_tup (by rfl) (pgs_cons (pg_name (i := 2) sc_signed_at.nd rfl (.inl rfl)) (pgs_cons (pg_name (i := 3) sc_signed_at.nd rfl (.inl rfl)) pgs_nil))))
    (pss_cons (ps_while (passes_of rfl) (pt_val pe_bl)
      (pss_cons (ps_if (PW.pt (pw_or (pt_cmpR op_eq (pv 1) (pe_callB call_len_seq (by rfl) T0.n_len Boot.«len» (pa_cons (pv 0) pa_nil)) (nomark _)) (pw_or1 (pt_cmpR op_ge (pe_ix ix_tup (pv 0) (pv 1) (fun _ _ => rfl)) (C8.pe_gc rfl T.c_MARK) (nomark _)))))
      (pss_one (ps_raise rfl (takes_of rfl rfl rfl rfl) (pmk_nxA TT.nx hr (pa_cons (pv 1) pa_nil) rfl TT.gT)))
      pss_nil)
    (pss_cons (ps_set (i := 2) sc_signed_at.nd rfl (.inl rfl) (pe_op op_add (pv 2) (pe_op op_shl (pe_op op_and (pe_ix ix_tup (pv 0) (pv 1) (fun _ _ => rfl)) pe_int) (pv 3))))
    (pss_cons (ps_set (i := 1) sc_signed_at.nd rfl (.inl rfl) (pe_op op_add (pv 1) pe_int))
    (pss_cons (ps_if (pt_cmpR op_eq (pe_op op_and (pe_ix ix_tup (pv 0) (pe_op op_sub (pv 1) pe_int) (fun _ _ => rfl)) (C8.pe_gc rfl T.c_FURTHER)) pe_int (nomark _))
      (pss_one ps_break)
      pss_nil)
    (pss_one (ps_set (i := 3) sc_signed_at.nd rfl (.inl rfl) (pe_op op_add (pv 3) pe_int))))))))
    (pss_cons (ps_if (PW.pt (pw_or (PW.pt (pw_and (pt_cmpR op_eq (pe_ix ix_tup (pv 0) (pe_op op_sub (pv 1) pe_int) (fun _ _ => rfl)) pe_int (nomark _)) (pw_and1 (pt_cmpR op_gt (pv 3) pe_int (nomark _))))) (pw_or1 (pt_cmpR op_eq (pv 2) pe_int (nomark _)))))
      (pss_one (ps_raise rfl (takes_of rfl rfl rfl rfl) (pmk_nxA TT.nx hr (pa_cons (pe_op op_sub (pv 1) pe_int) pa_nil) rfl TT.gT)))
      pss_nil)
    (pss_one (ps_ret (pe_tup (pa_cons (pe_ifExp (pt_cmpR op_eq (pe_op op_and (pv 2) pe_int) pe_int (nomark _)) (pe_op op_fdiv (pv 2) pe_int) (pe_un un_neg (pe_op op_fdiv (pv 2) pe_int))) (pa_cons (pv 1) pa_nil)))))))), ?_⟩
    refine ⟨(by show 2 ≤ sizeLine; decide), ?_⟩
    walk_at "new1"
    refine ⟨p1, _, rfl, SqT.of h1, rfl, _, _, rfl, _, _, rfl, rfl, ?_⟩
    have hB := seqT s1 hB
    refine while_by (fun σ H' => H' = H1 ∧ ∃ (i f k : Nat) (n : Int), σ = [some (.ref h), some (.int (i : Int)), some (.int n), some (.int ((6 * k : Nat) : Int))] ∧ i ≤ d.length ∧ d.length + 1 ≤ i + f ∧ k ≤ i ∧ sgGo d f i k n = sgAt d at0) (fun σ _ => match σ with | _ :: some (.int m) :: _ => d.length + 1 - m.toNat | _ => 0)
      ⟨rfl, at0, d.length + 1, 0, 0, rfl, hle, by omega, Nat.zero_le _, rfl⟩ ?_ ?_
    · rintro σ H' ⟨rfl, i, f, kk, n, rfl, hi, hf, hk, he⟩
      obtain ⟨f, rfl⟩ : ∃ f', f = f' + 1 := ⟨f - 1, by omega⟩
      refine ⟨_, rfl, iteT ?_⟩
      refine ⟨_, rfl, _, rfl, h, _, rfl, .inr hB, rfl, _, rfl, ?_⟩
      rw [len_eq]
      refine ite2 (fun c => ?_) (fun c => ?_)
      · have c := of_decide_eq_true c
        rw [sgGo_bad (.inl c)] at he
        exact ⟨_, rfl, _, rfl, fun dd hd => kE i he.symm dd H' s1 hd⟩
      have c1 : ¬ i = d.length := fun z => c (decide_eq_true z)
      have hlt : i < d.length := by omega
      obtain ⟨r0, r1⟩ := by1.g hlt
      have mj := g_at hlt
      refine ⟨_, rfl, _, rfl, h, _, _, _, rfl, rfl, hB, mj, _, _, rfl, rfl, _, rfl, ?_⟩
      refine ite2 (fun c => ?_) (fun c => ?_)
      · have c : (128 : Int) ≤ g d i := of_decide_eq_true c
        rw [sgGo_bad (.inr c)] at he
        exact ⟨_, rfl, _, rfl, fun dd hd => kE i he.symm dd H' s1 hd⟩
      have c2 : ¬ (128 : Int) ≤ g d i := fun z => c (decide_eq_true z)
      rw [sgGo_step c1 c2] at he
      refine ⟨_, rfl, _, rfl, _, rfl, h, _, _, _, rfl, rfl, hB, mj, _, _, rfl, rfl, _, rfl, _, _, rfl, rfl, ⟨by omega, by have := by1.2; omega, ?_⟩, _, _, rfl, rfl, ?_⟩
      · show (Builtin.bitAnd (g d i) 63).natAbs < 2 ^ 64
        rw [bitAnd_m6]
        omega
      have ea : ((i : Nat) : Int) + 1 = ((i + 1 : Nat) : Int) := by omega
      have es : ((i + 1 : Nat) : Int) - 1 = ((i : Nat) : Int) := by omega
      have en : n + Builtin.bitAnd (g d i) 63 * 2 ^ (((6 * kk : Nat) : Int)).toNat = n + 64 ^ kk * (g d i % 64) := by
        show n + Builtin.bitAnd (g d i) 63 * 2 ^ (6 * kk) = _
        rw [bitAnd_m6, two_six, Int.mul_comm]
      dsimp (config := { proj := false }) only
      rw [en]
      generalize n + 64 ^ kk * (g d i % 64) = n' at he ⊢
      refine ⟨_, rfl, _, _, rfl, rfl, ?_⟩
      dsimp (config := { proj := false }) only
      rw [ea]
      refine ⟨_, rfl, _, rfl, _, _, rfl, rfl, ?_⟩
      dsimp (config := { proj := false }) only
      rw [es]
      refine ⟨h, _, _, _, rfl, rfl, hB, mj, _, _, rfl, rfl, rfl, _, rfl, ?_⟩
      have ev : Builtin.bitAnd (g d i) 64 = 64 * (g d i / 64 % 2) := and64 r0 r1
      refine ite2 (fun c => ?_) (fun c => ?_)
      · have z := of_decide_eq_true c
        have z : Builtin.bitAnd (g d i) 64 = 0 := by injection z
        rw [if_pos (by omega)] at he
        refine ⟨_, rfl, _, rfl, _, _, rfl, rfl, ?_⟩
        dsimp (config := { proj := false }) only
        rw [es]
        refine ⟨h, _, _, _, rfl, rfl, hB, mj, rfl, _, rfl, ?_⟩
        have bad : ((g d i = 0 ∧ 0 < kk) ∨ n' = 1) → ∀ dd, H' dd = none → E (.ref Ct) (some dd) (upd H' dd (.xd [("at", .int (i : Int))])) := fun z dd hd => by
          rw [if_pos z] at he
          exact kE i he.symm dd H' s1 hd
        have good : ¬ ((g d i = 0 ∧ 0 < kk) ∨ n' = 1) → sgAt d at0 = (some (half2 n'), i + 1) := fun z => by
          rw [if_neg z] at he
          exact he.symm
        have fin : ¬ n' = 1 → ¬ (g d i = 0 ∧ 0 < kk) → ∀ m : Int, m = half2 n' → ∀ q, H' q = none → Q (.ref q) (upd H' q (.tup [.int m, .int ((i + 1 : Nat) : Int)])) := fun z1 z2 m em q nq => by
          subst em
          exact k _ _ (good fun z => z.elim z2 z1) q _ (s1.free nq) (s1.trans (Same.new nq)) upd_same
        refine ite2 (fun c => ?_) (fun c => ?_)
        · have g0 : g d i = 0 := by
            have q := of_decide_eq_true c
            injection q
          refine ⟨_, rfl, _, _, rfl, rfl, _, rfl, ite2 (fun c2 => ?_) (fun c2 => ?_)⟩
          · have c2 : (0 : Int) < ((6 * kk : Nat) : Int) := of_decide_eq_true c2
            refine ⟨_, rfl, _, _, rfl, rfl, _, rfl, fun dd hd => ?_⟩
            show E (.ref Ct) (some dd) (upd H' dd (.xd [("at", .int (((i + 1 : Nat) : Int) - 1))]))
            rw [es]
            exact bad (.inl ⟨g0, by omega⟩) dd hd
          · have c2 : ¬ (0 : Int) < ((6 * kk : Nat) : Int) := fun z => c2 (decide_eq_true z)
            have nk : ¬ (g d i = 0 ∧ 0 < kk) := fun z => by omega
            refine ⟨_, rfl, rfl, _, rfl, ite2 (fun c3 => ?_) (fun c3 => ?_)⟩
            · have z1 := of_decide_eq_true c3
              have z1 : n' = 1 := by injection z1
              refine ⟨_, rfl, _, _, rfl, rfl, _, rfl, fun dd hd => ?_⟩
              show E (.ref Ct) (some dd) (upd H' dd (.xd [("at", .int (((i + 1 : Nat) : Int) - 1))]))
              rw [es]
              exact bad (.inr z1) dd hd
            have z1 : ¬ n' = 1 := fun z => c3 (decide_eq_true (congrArg V.int z))
            refine ⟨_, rfl, _, _, rfl, rfl, rfl, _, rfl, ?_⟩
            refine ite2 (fun c => ?_) (fun c => ?_)
            · have q := of_decide_eq_true c
              have q : Builtin.bitAnd n' 1 = 0 := by injection q
              rw [bitAnd_m1] at q
              refine ⟨_, rfl, _, _, rfl, rfl, ⟨by show (0 : Int) < 2; decide, by decide⟩, _, rfl, (by show 2 ≤ sizeLine; decide), fun p np => fin z1 nk _ ?_ p np⟩
              unfold half2
              rw [if_pos q]
            · have q : ¬ Builtin.bitAnd n' 1 = 0 := fun z => c (decide_eq_true (congrArg V.int z))
              rw [bitAnd_m1] at q
              refine ⟨_, rfl, _, _, rfl, rfl, ⟨by show (0 : Int) < 2; decide, by decide⟩, _, rfl, _, rfl, (by show 2 ≤ sizeLine; decide), fun p np => fin z1 nk _ ?_ p np⟩
              unfold half2
              rw [if_neg q]
        · have g0 : ¬ g d i = 0 := fun z => c (decide_eq_true (congrArg V.int z))
          have nk : ¬ (g d i = 0 ∧ 0 < kk) := fun z => g0 z.1
          refine iteF ?_
          refine ⟨_, rfl, rfl, _, rfl, ite2 (fun c3 => ?_) (fun c3 => ?_)⟩
          · have z1 := of_decide_eq_true c3
            have z1 : n' = 1 := by injection z1
            refine ⟨_, rfl, _, _, rfl, rfl, _, rfl, fun dd hd => ?_⟩
            show E (.ref Ct) (some dd) (upd H' dd (.xd [("at", .int (((i + 1 : Nat) : Int) - 1))]))
            rw [es]
            exact bad (.inr z1) dd hd
          have z1 : ¬ n' = 1 := fun z => c3 (decide_eq_true (congrArg V.int z))
          refine ⟨_, rfl, _, _, rfl, rfl, rfl, _, rfl, ?_⟩
          refine ite2 (fun c => ?_) (fun c => ?_)
          · have q := of_decide_eq_true c
            have q : Builtin.bitAnd n' 1 = 0 := by injection q
            rw [bitAnd_m1] at q
            refine ⟨_, rfl, _, _, rfl, rfl, ⟨by show (0 : Int) < 2; decide, by decide⟩, _, rfl, (by show 2 ≤ sizeLine; decide), fun p np => fin z1 nk _ ?_ p np⟩
            unfold half2
            rw [if_pos q]
          · have q : ¬ Builtin.bitAnd n' 1 = 0 := fun z => c (decide_eq_true (congrArg V.int z))
            rw [bitAnd_m1] at q
            refine ⟨_, rfl, _, _, rfl, rfl, ⟨by show (0 : Int) < 2; decide, by decide⟩, _, rfl, _, rfl, (by show 2 ≤ sizeLine; decide), fun p np => fin z1 nk _ ?_ p np⟩
            unfold half2
            rw [if_neg q]
      · have z : ¬ Builtin.bitAnd (g d i) 64 = 0 := fun z => c (decide_eq_true (congrArg V.int z))
        rw [if_neg (by omega)] at he
        refine ⟨_, rfl, _, _, rfl, rfl, ⟨rfl, i + 1, f, kk + 1, n', ?_, by omega, by omega, by omega, he⟩, ?_⟩
        · have e6 : ((6 * kk : Nat) : Int) + 6 = ((6 * (kk + 1) : Nat) : Int) := by omega
          dsimp (config := { proj := false }) only
          rw [e6]
          rfl
        · show d.length + 1 - (((i + 1 : Nat) : Int)).toNat < d.length + 1 - (((i : Nat) : Int)).toNat
          omega
    · rintro σ H' Q1 Q2 hq ⟨b, e, q⟩
      exact ⟨b, e, hq _ _ q⟩
end
end K49
set_option maxHeartbeats 4000000
set_option pp.maxSteps 600
namespace K49
open PySem PySem.Spec PyProof.Rows L2 Nd
section
variable {P : Program} {w : World} {K : PySem.W.Frag} {mg : Str → Option Value} {base : Heap} {Ct fT : Addr}
abbrev N_law_signed_read : List Str := ["data", "at", "number", "value", "k"]
theorem sc_law_signed_read : FnScope N_law_signed_read ["data", "at"] (defScope s_law_signed_read) := ⟨rfl, rfl, rfl, by decide +kernel, rfl, by decide +kernel, by decide +kernel⟩
theorem ok_law_signed_read {f : Addr} {fd : FuncData} (T : Gl0 mg) (F : DefX K mg "_law_signed_read" s_law_signed_read ["data", "at"] f fd) : CalX P w K mg base 1 "_law_signed_read" (spSgRead K) := by
  refine calx F sc_law_signed_read (fun vs H Q E h => ?_) (fun cdv A outer s H vs Q E hr h => ?_)
  · obtain ⟨h, d, at0, rfl, _⟩ := h
    rfl
  · obtain ⟨h, d, at0, rfl, hB, by1, hle, k⟩ := h
    refine ⟨_, (pss_cons (ps_asg (pe_tup (pa_cons pe_int (pa_cons pe_int pa_nil))) (pg_tup (by rfl) (pgs_cons (pg_name (i := 2) sc_law_signed_read.nd rfl (.inl rfl)) (pgs_cons (pg_name (i := 3) sc_law_signed_read.nd rfl (.inl rfl)) pgs_nil))))
    (pss_cons (ps_for PassesOwn.never rfl (pi_range1 (by rfl) T.n_range (pa_cons (pe_op op_add (pe_callB call_len_seq (by rfl) T.n_len Boot.«len» (pa_cons (pv 0) pa_nil)) pe_int) pa_nil)) (pg_name (i := 4) sc_law_signed_read.nd rfl (.inl rfl))
      (pss_cons (ps_if (PW.pt (pw_or (pt_cmpR op_eq (pv 1) (pe_callB call_len_seq (by rfl) T.n_len Boot.«len» (pa_cons (pv 0) pa_nil)) (nomark _)) (pw_or1 (pt_cmpR op_ge (pe_ix ix_list (pv 0) (pv 1) (fun _ _ => rfl)) pe_int (nomark _)))))
      (pss_one (ps_ret (pe_tup (pa_cons pe_non (pa_cons (pv 1) pa_nil)))))
      pss_nil)
    (pss_cons (ps_set (i := 2) sc_law_signed_read.nd rfl (.inl rfl) (pe_op op_add (pv 2) (pe_op op_mul (pv 3) (pe_op op_mod (pe_callTy call_int1 (by rfl) T.n_int Boot.«int» (pa_cons (pe_ix ix_list (pv 0) (pv 1) (fun _ _ => rfl)) pa_nil)) pe_int))))
    (pss_cons (ps_if (pt_cmpR op_lt (pe_ix ix_list (pv 0) (pv 1) (fun _ _ => rfl)) pe_int (nomark _))
      (pss_cons (ps_if (PW.pt (pw_or (PW.pt (pw_and (pt_cmpR op_eq (pe_ix ix_list (pv 0) (pv 1) (fun _ _ => rfl)) pe_int (nomark _)) (pw_and1 (pt_cmpR op_gt (pv 4) pe_int (nomark _))))) (pw_or1 (pt_cmpR op_eq (pv 2) pe_int (nomark _)))))
      (pss_one (ps_ret (pe_tup (pa_cons pe_non (pa_cons (pv 1) pa_nil)))))
      pss_nil)
    (pss_one (ps_ret (pe_tup (pa_cons (pe_ifExp (pt_cmpR op_eq (pe_op op_mod (pe_callTy call_int1 (by rfl) T.n_int Boot.«int» (pa_cons (pv 2) pa_nil)) pe_int) pe_int (nomark _)) (pe_op op_fdiv (pv 2) pe_int) (pe_op op_sub pe_int (pe_op op_fdiv (pv 2) pe_int))) (pa_cons (pe_op op_add (pv 1) pe_int) pa_nil))))))
      pss_nil)
    (pss_one (ps_par (i := 1) (j := 3) (by rfl) sc_law_signed_read.nd rfl rfl (by decide) rfl rfl (pa_cons (pe_op op_add (pv 1) pe_int) (pa_cons (pe_op op_mul pe_int (pv 3)) pa_nil)) (by rfl)))))))
    (pss_one (ps_ret (pe_tup (pa_cons pe_non (pa_cons (pv 1) pa_nil))))))), ?_⟩
    refine ⟨(by show 2 ≤ sizeLine; decide), ?_⟩
    walk_at "new1"
    refine ⟨p1, _, rfl, SqT.of h1, rfl, _, _, rfl, _, _, rfl, rfl, ?_⟩
    have hB := s1.seq hB
    refine ⟨_, rfl, h, _, rfl, .inl hB, ?_⟩
    rw [List.length_map]
    refine ⟨_, _, rfl, rfl, _, rfl, by omega, Int.lt_of_le_of_lt (b := 1001) (by have := by1.2; omega) (by decide), ?_⟩
    have bad : ∀ {i : Nat}, sgAt d at0 = (none, i) → ∀ p, H1 p = none → Q (.ref p) (upd H1 p (.tup [.non, .int (i : Int)])) := fun {i} e p np => k p _ (s1.free np) (s1.trans (Same.new np)) (by
      rw [upd_same, e]
      rfl)
    have good : ∀ {i : Nat} {n m : Int}, sgAt d at0 = (some n, i) → m = n → ∀ p, H1 p = none → Q (.ref p) (upd H1 p (.tup [.int m, .int (i : Int)])) := fun {i n m} e em p np => k p _ (s1.free np) (s1.trans (Same.new np)) (by
      rw [upd_same, e, em]
      rfl)
    refine for_range (lo := 0) (n := d.length + 1) (fun j σ H' => H' = H1 ∧ ∃ (n : Int) (v4 : Option V), σ = [some (.ref h), some (.int ((at0 + j : Nat) : Int)), some (.int n), some (.int (64 ^ j)), v4] ∧ at0 + j ≤ d.length + 1 ∧ (at0 + j ≤ d.length ∨ j = d.length + 1) ∧ sgGo d (d.length + 1 - j) (at0 + j) j n = sgAt d at0)
      ⟨rfl, 0, none, rfl, by omega, .inl hle, rfl⟩ ?_ ?_
    · rintro j σ H' hj ⟨rfl, n, v4, rfl, hi0, hi, he⟩
      have hi : at0 + j ≤ d.length := by omega
      rw [show d.length + 1 - j = (d.length + 1 - (j + 1)) + 1 by omega] at he
      refine ⟨_, rfl, _, rfl, h, _, rfl, .inl hB, rfl, _, rfl, ?_⟩
      rw [len_eq]
      refine ite2 (fun c => ?_) (fun c => ?_)
      · have c := of_decide_eq_true c
        rw [sgGo_bad (.inl c)] at he
        exact ⟨_, rfl, (by show 2 ≤ sizeLine; decide), bad he.symm⟩
      have c1 : ¬ at0 + j = d.length := fun z => c (decide_eq_true z)
      have hlt : at0 + j < d.length := by omega
      obtain ⟨r0, r1⟩ := by1.g hlt
      have mj := g_at hlt
      refine ⟨_, rfl, _, rfl, h, _, _, _, rfl, rfl, hB, mj, _, _, rfl, rfl, _, rfl, ?_⟩
      refine ite2 (fun c => ?_) (fun c => ?_)
      · have c : (128 : Int) ≤ g d (at0 + j) := of_decide_eq_true c
        rw [sgGo_bad (.inr c)] at he
        exact ⟨_, rfl, (by show 2 ≤ sizeLine; decide), bad he.symm⟩
      have c2 : ¬ (128 : Int) ≤ g d (at0 + j) := fun z => c (decide_eq_true z)
      rw [sgGo_step c1 c2] at he
      refine ⟨_, rfl, _, rfl, _, rfl, _, rfl, h, _, _, _, rfl, rfl, hB, mj, .inl ⟨_, rfl, _, _, rfl, rfl, (by show (0 : Int) < 64; decide), _, _, rfl, rfl, .inr ⟨by omega, by omega⟩, _, _, rfl, rfl, ?_⟩⟩
      dsimp (config := { proj := false }) only
      generalize n + 64 ^ j * (g d (at0 + j) % 64) = n' at he ⊢
      refine ⟨_, rfl, _, rfl, h, _, _, _, rfl, rfl, hB, mj, _, _, rfl, rfl, _, rfl, ?_⟩
      refine ite2 (fun c => ?_) (fun c => ?_)
      · have c : g d (at0 + j) < 64 := of_decide_eq_true c
        rw [if_pos c] at he
        have ea : ((at0 + j : Nat) : Int) + 1 = ((at0 + j + 1 : Nat) : Int) := by omega
        refine ⟨_, rfl, _, rfl, h, _, _, _, rfl, rfl, hB, mj, rfl, _, rfl, ?_⟩
        refine ite2 (fun c => ?_) (fun c => ?_)
        · have g0 : g d (at0 + j) = 0 := by
            have q := of_decide_eq_true c
            injection q
          refine ⟨_, rfl, _, _, rfl, rfl, _, rfl, ite2 (fun c2 => ?_) (fun c2 => ?_)⟩
          · have c2 : (0 : Int) < 0 + (j : Int) := of_decide_eq_true c2
            rw [if_pos (.inl ⟨g0, by omega⟩)] at he
            exact ⟨_, rfl, (by show 2 ≤ sizeLine; decide), bad he.symm⟩
          · have c2 : ¬ (0 : Int) < 0 + (j : Int) := fun z => c2 (decide_eq_true z)
            have nk : ¬ (g d (at0 + j) = 0 ∧ 0 < j) := fun z => by omega
            refine ⟨_, rfl, rfl, _, rfl, ite2 (fun c3 => ?_) (fun c3 => ?_)⟩
            · have z1 := of_decide_eq_true c3
              have z1 : n' = 1 := by injection z1
              rw [if_pos (.inr z1)] at he
              exact ⟨_, rfl, (by show 2 ≤ sizeLine; decide), bad he.symm⟩
            have z1 : ¬ n' = 1 := fun z => c3 (decide_eq_true (congrArg V.int z))
            rw [if_neg (fun z => z.elim nk z1)] at he
            refine ⟨_, rfl, .inl ⟨_, rfl, _, _, rfl, rfl, (by show (0 : Int) < 2; decide), rfl, _, rfl, ?_⟩⟩
            refine ite2 (fun c => ?_) (fun c => ?_)
            · have q := of_decide_eq_true c
              have q : n' % 2 = 0 := by injection q
              refine ⟨_, rfl, _, _, rfl, rfl, ⟨by show (0 : Int) < 2; decide, by decide⟩, _, rfl, _, _, rfl, rfl, (by show 2 ≤ sizeLine; decide), ?_⟩
              dsimp (config := { proj := false }) only
              rw [ea]
              refine good he.symm ?_
              unfold half2
              rw [if_pos q]
            · have q : ¬ n' % 2 = 0 := fun z => c (decide_eq_true (congrArg V.int z))
              refine ⟨_, rfl, _, _, rfl, rfl, ⟨by show (0 : Int) < 2; decide, by decide⟩, _, _, rfl, rfl, _, rfl, _, _, rfl, rfl, (by show 2 ≤ sizeLine; decide), ?_⟩
              dsimp (config := { proj := false }) only
              rw [ea]
              refine good he.symm ?_
              unfold half2
              rw [if_neg q, Int.zero_sub]
        · have g0 : ¬ g d (at0 + j) = 0 := fun z => c (decide_eq_true (congrArg V.int z))
          have nk : ¬ (g d (at0 + j) = 0 ∧ 0 < j) := fun z => g0 z.1
          refine iteF ?_
          refine ⟨_, rfl, rfl, _, rfl, ite2 (fun c3 => ?_) (fun c3 => ?_)⟩
          · have z1 := of_decide_eq_true c3
            have z1 : n' = 1 := by injection z1
            rw [if_pos (.inr z1)] at he
            exact ⟨_, rfl, (by show 2 ≤ sizeLine; decide), bad he.symm⟩
          have z1 : ¬ n' = 1 := fun z => c3 (decide_eq_true (congrArg V.int z))
          rw [if_neg (fun z => z.elim nk z1)] at he
          refine ⟨_, rfl, .inl ⟨_, rfl, _, _, rfl, rfl, (by show (0 : Int) < 2; decide), rfl, _, rfl, ?_⟩⟩
          refine ite2 (fun c => ?_) (fun c => ?_)
          · have q := of_decide_eq_true c
            have q : n' % 2 = 0 := by injection q
            refine ⟨_, rfl, _, _, rfl, rfl, ⟨by show (0 : Int) < 2; decide, by decide⟩, _, rfl, _, _, rfl, rfl, (by show 2 ≤ sizeLine; decide), ?_⟩
            dsimp (config := { proj := false }) only
            rw [ea]
            refine good he.symm ?_
            unfold half2
            rw [if_pos q]
          · have q : ¬ n' % 2 = 0 := fun z => c (decide_eq_true (congrArg V.int z))
            refine ⟨_, rfl, _, _, rfl, rfl, ⟨by show (0 : Int) < 2; decide, by decide⟩, _, _, rfl, rfl, _, rfl, _, _, rfl, rfl, (by show 2 ≤ sizeLine; decide), ?_⟩
            dsimp (config := { proj := false }) only
            rw [ea]
            refine good he.symm ?_
            unfold half2
            rw [if_neg q, Int.zero_sub]
      · have c : ¬ g d (at0 + j) < 64 := fun z => c (decide_eq_true z)
        rw [if_neg c] at he
        refine ⟨_, rfl, _, _, rfl, rfl, _, rfl, _, _, rfl, rfl, .inl ⟨by decide, by decide⟩, _, _, rfl, rfl, n', some (.int (0 + (j : Int))), ?_, by omega, by omega, he⟩
        have e64 : (64 : Int) * 64 ^ j = 64 ^ (j + 1) := by rw [Int.pow_succ, Int.mul_comm]
        have ea : ((at0 + j : Nat) : Int) + 1 = ((at0 + (j + 1) : Nat) : Int) := by omega
        dsimp (config := { proj := false }) only
        rw [e64, ea]
        rfl
    · rintro σ H' ⟨rfl, n, v4, rfl, hi0, hi, he⟩
      rw [Nat.sub_self] at he
      exact ⟨_, rfl, (by show 2 ≤ sizeLine; decide), bad he.symm⟩
end
end K49
set_option maxHeartbeats 4000000
set_option pp.maxSteps 600
namespace K49
open PySem PySem.Spec PyProof.Rows L2 Nd
abbrev s_line_rows : Stmt := top 28
def lRead (d : List Int) (line : Int) : List R3 ⊕ Nat := lGo d d.length 0 0 line []
theorem lGo_step {d : List Int} {f i : Nat} {lo line : Int} {acc : List R3} (c : i ≠ d.length) : lGo d (f + 1) i lo line acc = if g d i < 232 ∨ (240 ≤ g d i ∧ g d i < 248) then .inr i else
    if g d i < 240 then (match sgAt d (i + 1) with
      | (none, j) => .inr j
      | (some m, j) => lGo d f j (lo + 2 * (g d i % 8 + 1)) (line + m) (acc ++ [⟨lo, lo + 2 * (g d i % 8 + 1), some (line + m)⟩]))
    else lGo d f (i + 1) (lo + 2 * (g d i % 8 + 1)) line (acc ++ [⟨lo, lo + 2 * (g d i % 8 + 1), none⟩]) := by
  show (if i = d.length then _ else _) = _
  rw [if_neg c] <;> rfl
theorem sgAt_le {d : List Int} {i : Nat} (h : i ≤ d.length) : (sgAt d i).2 ≤ d.length ∧ i ≤ (sgAt d i).2 := sgGo_le d _ i 0 0 h
def spLin (K : PySem.W.Frag) (Cc Ct : Addr) : Sp := fun vs H Q E => ∃ (a dx : Addr) (fs : List (Str × V)) (line : Int) (h : Addr) (d : List Int), vs = [.ref a] ∧ H a = some (.ins Cc dx fs) ∧ fs.lookup ("line" : Str) = some (.int line) ∧ fs.lookup ("lines" : Str) = some (V.ref h) ∧ SqT K H h (d.map V.int) ∧ Byts d ∧
  (∀ rs, lRead d line = .inl rs → ∀ q H' xs, H q = none → Same H H' → H' q = some (.lst xs) → TupsAt R3.vs H' xs (joinR rs) → Q (.ref q) H') ∧ (∀ j, lRead d line = .inr j → errT Ct H (j : Nat) E)
theorem in2 (s : Int) (h1 : s ≠ 15) (h2 : s ≠ 13) : inV (.int s) [.int 15, .int 13] = false := by
  have a1 : ¬ (15 : Int) = s := fun z => h1 z.symm
  have a2 : ¬ (13 : Int) = s := fun z => h2 z.symm
  simp [inV, eqV, a1, a2]
section
variable {P : Program} {w : World} {K : PySem.W.Frag} {mg : Str → Option Value} {base : Heap} {Cc Cn fI Ct fT : Addr}
abbrev N_line_rows : List Str := ["code", "found", "at", "begin", "line", "first", "sort", "end", "here", "more"]
theorem sc_line_rows : FnScope N_line_rows ["code"] (defScope s_line_rows) := ⟨rfl, rfl, rfl, by decide +kernel, rfl, by decide +kernel, by decide +kernel⟩
structure Gl5 (mg : Str → Option Value) : Prop where
  c_NO_LINE : ∃ u, mg "NO_LINE" = some u ∧ RelV (.int 15) u
  c_ONE_LINE : ∃ u, mg "ONE_LINE" = some u ∧ RelV (.int 13) u
theorem ok_line_rows {f : Addr} {fd : FuncData} (T0 : Gl0 mg) (T1 : Gl1 mg) (T : Gl5 mg) (TT : GTb P K mg Ct fT) (G : GlK P K mg Cc Cn fI) (c_want_code : CalX P w K mg base 2 "want_code" (spWant K Cc Cn)) (c_joined : CalX P w K mg base 1 "joined" (spJoined K)) (c_signed_at : CalX P w K mg base 2 "signed_at" (spSgAt K Ct))
    (F : DefX K mg "line_rows" s_line_rows ["code"] f fd) : FnOk P w K mg base (L2.CX P w) 3 f fd ["code"] (spLin K Cc Ct) := by
  refine F.fn.ok sc_line_rows (fun vs H Q E h => ?_) (fun cdv A outer s H vs Q E hr h => ?_)
  · obtain ⟨a, dx, fs, line, h, d, rfl, _⟩ := h
    rfl
  · obtain ⟨a, dx, fs, line0, h, d, rfl, ha, hl1, hl2, hB, by1, k, kE⟩ := h
    refine ⟨_, (pss_cons (ps_expr (pe_cr c_want_code hr (by decide) rfl (passE (E := E) (takes_of rfl rfl rfl rfl)) (pa_cons (pv 0) pa_nil)))
    (pss_cons (ps_set (i := 1) sc_line_rows.nd rfl (.inl rfl) (pe_lst pa_nil))
    (pss_cons (ps_par3 (i := 2) (j := 3) (l := 4) (by rfl) sc_line_rows.nd rfl rfl rfl (by decide) (by decide) (by decide) rfl rfl rfl (pa_cons pe_int (pa_cons pe_int (pa_cons (pe_fld (pv 0) rfl) pa_nil))) (by rfl))
    (pss_cons (ps_while (passes_of rfl) (pt_cmpR op_lt (pv 2) (pe_callB call_len_seq (by rfl) T0.n_len Boot.«len» (pa_cons (pe_fld (pv 0) rfl) pa_nil)) (nomark _))
      (pss_cons (ps_set (i := 5) sc_line_rows.nd rfl (.inl rfl) (pe_ix ix_tup (pe_fld (pv 0) rfl) (pv 2) (fun _ _ => rfl)))
    (pss_cons (ps_set (i := 6) sc_line_rows.nd rfl (.inl rfl) (pe_op op_shr (pe_op op_sub (pv 5) (C8.pe_gc rfl T1.c_MARK)) pe_int))
    (pss_cons (ps_if (PW.pt (pw_or (pt_cmpR op_lt (pv 5) (C8.pe_gc rfl T1.c_MARK) (nomark _)) (pw_or1 (pt_cmpR op_notIn_seq (pv 6) (pe_tup (pa_cons (C8.pe_gc rfl T.c_NO_LINE) (pa_cons (C8.pe_gc rfl T.c_ONE_LINE) pa_nil))) (by rfl)))))
      (pss_one (ps_raise rfl (takes_of rfl rfl rfl rfl) (pmk_nxA TT.nx hr (pa_cons (pv 2) pa_nil) rfl TT.gT)))
      pss_nil)
    (pss_cons (ps_set (i := 2) sc_line_rows.nd rfl (.inl rfl) (pe_op op_add (pv 2) pe_int))
    (pss_cons (ps_set (i := 7) sc_line_rows.nd rfl (.inl rfl) (pe_op op_add (pv 3) (pe_op op_mul pe_int (pe_op op_add (pe_op op_and (pv 5) pe_int) pe_int))))
    (pss_cons (ps_set (i := 8) sc_line_rows.nd rfl (.inl rfl) pe_non)
    (pss_cons (ps_if (pt_cmpR op_eq (pv 6) (C8.pe_gc rfl T.c_ONE_LINE) (nomark _))
      (pss_cons (ps_asg (pe_cr c_signed_at hr (by decide) rfl (passE (E := E) (takes_of rfl rfl rfl rfl)) (pa_cons (pe_fld (pv 0) rfl) (pa_cons (pv 2) pa_nil))) (pg_tup (by rfl) (pgs_cons (pg_name (i := 9) sc_line_rows.nd rfl (.inl rfl)) (pgs_cons (pg_name (i := 2) sc_line_rows.nd rfl (.inl rfl)) pgs_nil))))
    (pss_cons (ps_set (i := 4) sc_line_rows.nd rfl (.inl rfl) (pe_op op_add (pv 4) (pv 9)))
    (pss_one (ps_set (i := 8) sc_line_rows.nd rfl (.inl rfl) (pv 4)))))
      pss_nil)
    (pss_cons (ps_expr (pe_bm PySem.F.plainAttrs_list PySem.F.slot_list_append PySem.F.type_list_append mt_append (pv 1) (pa_cons (pe_tup (pa_cons (pv 3) (pa_cons (pv 7) (pa_cons (pv 8) pa_nil)))) pa_nil)))
    (pss_one (ps_set (i := 3) sc_line_rows.nd rfl (.inl rfl) (pv 7))))))))))))
    (pss_one (ps_ret (pe_cx c_joined hr (by decide) rfl (pa_cons (pv 1) pa_nil)))))))), ?_⟩
    have cl := G.ins.cl
    have na1 := G.na "line" (by decide)
    have na2 := G.na "lines" (by decide)
    refine ⟨_, rfl, _, rfl, .inl ⟨a, dx, fs, rfl, ha, ?_⟩⟩
    refine ⟨(by show 0 ≤ sizeLine; decide), ?_⟩
    intro f0 m0
    have s0 : Same H (upd H f0 (.lst [])) := Same.new m0
    have h0 : upd H f0 (.lst []) f0 = some (.lst []) := upd_same
    generalize upd H f0 (.lst []) = H0 at s0 h0 ⊢
    refine ⟨_, rfl, a, Cc, dx, fs, _, rfl, s0 _ _ ha, cl, na1, hl1, _, _, _, rfl, ?_⟩
    refine while_by (fun σ H' => ∃ (i f : Nat) (lo line : Int) (xs : List V) (acc : List R3) (v5 v6 v7 v8 v9 : Option V), σ = [some (.ref a), some (.ref f0), some (.int (i : Int)), some (.int lo), some (.int line), v5, v6, v7, v8, v9] ∧ i ≤ d.length ∧ d.length ≤ i + f ∧ Same H H' ∧
        H' f0 = some (.lst xs) ∧ TupsAt R3.vs H' xs acc ∧ acc.length ≤ i ∧ lGo d f i lo line acc = lRead d line0)
      (fun σ _ => match σ with | _ :: _ :: some (.int m) :: _ => d.length - m.toNat | _ => 0)
      ⟨0, d.length, 0, line0, [], [], none, none, none, none, none, rfl, Nat.zero_le _, by omega, s0, h0, trivial, Nat.le_refl _, rfl⟩ ?_ ?_
    · rintro σ H' ⟨i, f, lo, line, xs, acc, v5, v6, v7, v8, v9, rfl, hi, hf, s2, h2, hR, hal, he⟩
      have hB2 := seqT s2 hB
      have ha2 := s2 _ _ ha
      refine ⟨_, rfl, _, rfl, a, Cc, dx, fs, _, rfl, ha2, cl, na2, hl2, h, _, rfl, .inr hB2, _, _, rfl, rfl, _, rfl, ?_⟩
      rw [List.length_map]
      refine ite2 (fun c => ?_) (fun c => ?_)
      · have hlt : i < d.length := by
          have z := of_decide_eq_true c
          omega
        obtain ⟨f, rfl⟩ : ∃ f', f = f' + 1 := ⟨f - 1, by omega⟩
        obtain ⟨r0, r1⟩ := by1.g hlt
        have mj := g_at hlt
        rw [lGo_step (by omega)] at he
        have hx0 : xs.length < sizeLine := by
          rw [hR.len]
          exact Nat.lt_of_le_of_lt (Nat.le_trans hal (Nat.le_trans hi by1.2)) (by decide)
        generalize eb : g d i = b at r0 r1 mj he
        have esh : (b - 128) / 2 ^ (3 : Int).toNat = (b - 128) / 8 := rfl
        have eand : lo + 2 * (Builtin.bitAnd b 7 + 1) = lo + 2 * (b % 8 + 1) := by rw [bitAnd_m3]
        refine ⟨_, rfl, a, Cc, dx, fs, _, rfl, ha2, cl, na2, hl2, _, rfl, h, _, _, _, rfl, rfl, hB2, mj, ?_⟩
        refine ⟨_, rfl, _, _, rfl, rfl, _, _, rfl, rfl, (by show (0 : Int) ≤ 3; decide), ?_⟩
        dsimp (config := { proj := false }) only
        rw [esh]
        refine ⟨_, rfl, _, _, rfl, rfl, _, rfl, ite2 (fun c => ?_) (fun c => ?_)⟩
        · have q : b < 128 := of_decide_eq_true c
          rw [if_pos (.inl (by omega))] at he
          exact ⟨_, rfl, _, rfl, fun dd hd => kE i he.symm dd H' s2 hd⟩
        have q128 : ¬ b < 128 := fun z => c (decide_eq_true z)
        refine ⟨_, rfl, (by show 2 ≤ sizeLine; decide), ?_⟩
        walk_at "new1"
        -- what is laid behind the row
        have lay : ∀ {J : Hp} (sJ : Same H' J) (q : Addr) (nq : J q = none) (o : Option Int), Same H (upd (upd J q (.tup [.int lo, .int (lo + 2 * (b % 8 + 1)), lnV o])) f0 (.lst (xs ++ [.ref q]))) ∧ upd (upd J q (.tup [.int lo, .int (lo + 2 * (b % 8 + 1)), lnV o])) f0 (.lst (xs ++ [.ref q])) f0 = some (.lst (xs ++ [.ref q])) ∧
            TupsAt R3.vs (upd (upd J q (.tup [.int lo, .int (lo + 2 * (b % 8 + 1)), lnV o])) f0 (.lst (xs ++ [.ref q]))) (xs ++ [.ref q]) (acc ++ [⟨lo, lo + 2 * (b % 8 + 1), o⟩]) := by
          intro J sJ q nq o
          have sq : Same J (upd J q (.tup [.int lo, .int (lo + 2 * (b % 8 + 1)), lnV o])) := Same.new nq
          have hJ := sq _ _ (sJ _ _ h2)
          refine ⟨Same.mut ((s2.trans sJ).trans sq) m0, upd_same, ?_⟩
          refine TupsAt.snoc (p := q) ?_ (((hR.same sJ).same sq).upd hJ)
          rw [upd_ne (by
            rintro rfl
            rw [sJ _ _ h2] at nq
            cases nq)]
          exact upd_same
        have ea : ((i : Nat) : Int) + 1 = ((i + 1 : Nat) : Int) := by omega
        by_cases cB : b < 232 ∨ (240 ≤ b ∧ b < 248)
        · rw [if_pos cB] at he
          have t := in2 ((b - 128) / 8) (by omega) (by omega)
          refine ⟨p1, _, rfl, .inr (SqT.of h1), rfl, rfl, _, rfl, ite2 (fun _ => ?_) (fun c => ?_)⟩
          · exact ⟨_, rfl, _, rfl, fun dd hd => kE i he.symm dd H1 (s2.trans s1) hd⟩
          · exfalso
            refine c ?_
            show (!_) = true
            rw [t]
            rfl
        · rw [if_neg cB] at he
          by_cases cD : b < 240
          · have e13 : (b - 128) / 8 = 13 := by omega
            rw [if_pos cD] at he
            rw [e13]
            refine ⟨p1, _, rfl, .inr (SqT.of h1), rfl, rfl, _, rfl, ite2 (fun c => absurd c (by decide +kernel)) (fun _ => ?_)⟩
            refine ⟨_, rfl, _, _, rfl, rfl, ?_⟩
            dsimp (config := { proj := false }) only
            rw [ea]
            refine ⟨_, rfl, _, rfl, _, _, rfl, rfl, _, _, rfl, rfl, _, _, rfl, rfl, .inl ⟨by decide, by decide⟩, _, _, rfl, rfl, ?_⟩
            dsimp (config := { proj := false }) only
            rw [eand]
            refine ⟨_, rfl, rfl, _, rfl, ite2 (fun _ => ?_) (fun c => absurd rfl c)⟩
            have l1 := sgAt_le (d := d) (i := i + 1) (by omega)
            refine ⟨_, rfl, a, Cc, dx, fs, _, rfl, s1 _ _ ha2, cl, na2, hl2, _, rfl, h, d, i + 1, rfl, seqT s1 hB2, by1, by omega, fun m j es => ?_, fun j es => ?_⟩
            rotate_left
            · rw [es] at he
              exact (kE j he.symm).same (s2.trans s1)
            rw [es] at he l1
            obtain ⟨l1, l2⟩ := l1
            have l1 : j ≤ d.length := l1
            have l2 : i + 1 ≤ j := l2
            intro q2 J2 m2 t2 g2
            have u2 := s1.trans t2
            refine ⟨q2, _, rfl, SqT.of g2, rfl, _, _, rfl, _, _, rfl, rfl, ?_⟩
            refine ⟨_, rfl, _, rfl, _, _, rfl, rfl, ?_⟩
            dsimp (config := { proj := false }) only
            refine ⟨_, rfl, ?_⟩
            refine ⟨_, rfl, .inl ⟨rfl, _, SqL.of (u2 _ _ h2)⟩, _, rfl, _, rfl, _, rfl, (by show 3 ≤ sizeLine; decide), fun q nq => ?_⟩
            obtain ⟨a2, a1, a3⟩ := lay u2 q nq (some (line + m))
            dsimp only [lnV] at a1 a2 a3
            refine ⟨f0, xs, _, rfl, rfl, (Same.new nq) _ _ (u2 _ _ h2), hx0, ?_⟩
            refine ⟨_, rfl, ⟨j, f, lo + 2 * (b % 8 + 1), line + m, xs ++ [.ref q], acc ++ [⟨lo, lo + 2 * (b % 8 + 1), some (line + m)⟩], some (.int b), some (.int 13), some (.int (lo + 2 * (b % 8 + 1))), some (.int (line + m)), some (.int m), rfl, l1, by omega, a2, a1, a3, ?_, he⟩, ?_⟩
            · rw [List.length_append]
              show acc.length + 1 ≤ j
              omega
            · show d.length - (((j : Nat) : Int)).toNat < d.length - (((i : Nat) : Int)).toNat
              omega
          · have e15 : (b - 128) / 8 = 15 := by omega
            rw [if_neg cD] at he
            rw [e15]
            refine ⟨p1, _, rfl, .inr (SqT.of h1), rfl, rfl, _, rfl, ite2 (fun c => absurd c (by decide +kernel)) (fun _ => ?_)⟩
            refine ⟨_, rfl, _, _, rfl, rfl, ?_⟩
            dsimp (config := { proj := false }) only
            rw [ea]
            refine ⟨_, rfl, _, rfl, _, _, rfl, rfl, _, _, rfl, rfl, _, _, rfl, rfl, .inl ⟨by decide, by decide⟩, _, _, rfl, rfl, ?_⟩
            dsimp (config := { proj := false }) only
            rw [eand]
            refine ⟨_, rfl, rfl, _, rfl, ite2 (fun c => absurd c (by decide)) (fun _ => ?_)⟩
            refine ⟨_, rfl, .inl ⟨rfl, _, SqL.of (s1 _ _ h2)⟩, _, rfl, _, rfl, _, rfl, (by show 3 ≤ sizeLine; decide), fun q nq => ?_⟩
            obtain ⟨a2, a1, a3⟩ := lay s1 q nq none
            dsimp only [lnV] at a1 a2 a3
            refine ⟨f0, xs, _, rfl, rfl, (Same.new nq) _ _ (s1 _ _ h2), hx0, ?_⟩
            refine ⟨_, rfl, ⟨i + 1, f, lo + 2 * (b % 8 + 1), line, xs ++ [.ref q], acc ++ [⟨lo, lo + 2 * (b % 8 + 1), none⟩], some (.int b), some (.int 15), some (.int (lo + 2 * (b % 8 + 1))), some .non, v9, rfl, by omega, by omega, a2, a1, a3, ?_, he⟩, ?_⟩
            · rw [List.length_append]
              show acc.length + 1 ≤ i + 1
              omega
            · show d.length - (((i + 1 : Nat) : Int)).toNat < d.length - (((i : Nat) : Int)).toNat
              omega
      · have c' : i = d.length := by
          have : ¬ i < d.length := fun z => c (decide_eq_true (by omega))
          omega
        subst c'
        rw [lGo_end] at he
        refine ⟨_, rfl, f0, xs, acc, rfl, .inl (SqL.of h2), hR, ?_, fun q H2 ys nq s3 hq hJ => ?_⟩
        · exact Nat.le_trans hal (Nat.le_trans by1.2 (by decide))
        exact k acc he.symm q H2 ys (s2.free nq) (s2.trans s3) hq hJ
    · rintro σ H' Q1 Q2 hq ⟨v, e, v2, e', a1, C1, dx1, fs1, v1, x1, x2, x3, x4, x5, l1, l2, l3, l4, i, j, y1, y2, b2, y5, q⟩
      exact ⟨v, e, v2, e', a1, C1, dx1, fs1, v1, x1, x2, x3, x4, x5, l1, l2, l3, l4, i, j, y1, y2, b2, y5, hq _ _ q⟩
end
end K49
set_option maxHeartbeats 4000000
set_option pp.maxSteps 600
namespace K49
open PySem PySem.Spec PyProof.Rows L2 Nd
abbrev s_law_lines_read : Stmt := top 43
def spLRead (K : PySem.W.Frag) : Sp := fun vs H Q _ => ∃ (h : Addr) (d : List Int) (line : Int), vs = [.ref h, .int line] ∧ SqL K H h (d.map V.int) ∧ Byts d ∧
  (∀ rs, lRead d line = .inl rs → ∀ q H' xs, H q = none → Same H H' → H' q = some (.lst xs) → TupsAt R3.vs H' xs (joinR rs) → Q (.ref q) H') ∧ (∀ j, lRead d line = .inr j → ∀ H', Same H H' → Q (.int (j : Nat)) H')
section
variable {P : Program} {w : World} {K : PySem.W.Frag} {mg : Str → Option Value} {base : Heap}
abbrev N_law_lines_read : List Str := ["data", "line", "found", "at", "low", "turn", "first", "high", "here", "more"]
theorem sc_law_lines_read : FnScope N_law_lines_read ["data", "line"] (defScope s_law_lines_read) := ⟨rfl, rfl, rfl, by decide +kernel, rfl, by decide +kernel, by decide +kernel⟩
theorem ok_law_lines_read {f : Addr} {fd : FuncData} (T : Gl0 mg) (c_law_joined : CalX P w K mg base 1 "_law_joined" (spJoined K)) (c_law_signed_read : CalX P w K mg base 1 "_law_signed_read" (spSgRead K)) (F : DefX K mg "_law_lines_read" s_law_lines_read ["data", "line"] f fd) : CalX P w K mg base 2 "_law_lines_read" (spLRead K) := by
  refine calx F sc_law_lines_read (fun vs H Q E h => ?_) (fun cdv A outer s H vs Q E hr h => ?_)
  · obtain ⟨h, d, line, rfl, _⟩ := h
    rfl
  · obtain ⟨h, d, line0, rfl, hB, by1, kI, kJ⟩ := h
    refine ⟨_, (pss_cons (ps_par3 (i := 2) (j := 3) (l := 4) (by rfl) sc_law_lines_read.nd rfl rfl rfl (by decide) (by decide) (by decide) rfl rfl rfl (pa_cons (pe_lst pa_nil) (pa_cons pe_int (pa_cons pe_int pa_nil))) (by rfl))
    (pss_cons (ps_for PassesOwn.never rfl (pi_range1 (by rfl) T.n_range (pa_cons (pe_callB call_len_seq (by rfl) T.n_len Boot.«len» (pa_cons (pv 0) pa_nil)) pa_nil)) (pg_name (i := 5) sc_law_lines_read.nd rfl (.inl rfl))
      (pss_cons (ps_if (pt_cmpR op_eq (pv 3) (pe_callB call_len_seq (by rfl) T.n_len Boot.«len» (pa_cons (pv 0) pa_nil)) (nomark _))
      (pss_one (ps_ret (pe_cx c_law_joined hr (by decide) rfl (pa_cons (pv 2) pa_nil))))
      pss_nil)
    (pss_cons (ps_set (i := 6) sc_law_lines_read.nd rfl (.inl rfl) (pe_ix ix_list (pv 0) (pv 3) (fun _ _ => rfl)))
    (pss_cons (ps_if (PW.pt (pw_and (pt_not (pt_chain op_le op_lt pe_int (pv 6) pe_int)) (pw_and1 (pt_not (pt_cmpR op_le pe_int (pv 6) (nomark _))))))
      (pss_one (ps_ret (pv 3)))
      pss_nil)
    (pss_cons (ps_par3 (i := 7) (j := 8) (l := 3) (by rfl) sc_law_lines_read.nd rfl rfl rfl (by decide) (by decide) (by decide) rfl rfl rfl (pa_cons (pe_op op_add (pv 4) (pe_op op_mul pe_int (pe_op op_add (pe_op op_mod (pe_callTy call_int1 (by rfl) T.n_int Boot.«int» (pa_cons (pv 6) pa_nil)) pe_int) pe_int))) (pa_cons pe_non (pa_cons (pe_op op_add (pv 3) pe_int) pa_nil))) (by rfl))
    (pss_cons (ps_if (pt_cmpR op_lt (pv 6) pe_int (nomark _))
      (pss_cons (ps_asg (pe_cx c_law_signed_read hr (by decide) rfl (pa_cons (pv 0) (pa_cons (pv 3) pa_nil))) (pg_tup (by rfl) (pgs_cons (pg_name (i := 9) sc_law_lines_read.nd rfl (.inl rfl)) (pgs_cons (pg_name (i := 3) sc_law_lines_read.nd rfl (.inl rfl)) pgs_nil))))
    (pss_cons (ps_if (pt_cmpR op_isN (pv 9) pe_non (nomark _))
      (pss_one (ps_ret (pv 3)))
      pss_nil)
    (pss_cons (ps_set (i := 1) sc_law_lines_read.nd rfl (.inl rfl) (pe_op op_add (pv 1) (pv 9)))
    (pss_one (ps_set (i := 8) sc_law_lines_read.nd rfl (.inl rfl) (pv 1))))))
      pss_nil)
    (pss_cons (ps_expr (pe_bm PySem.F.plainAttrs_list PySem.F.slot_list_append PySem.F.type_list_append mt_append (pv 2) (pa_cons (pe_tup (pa_cons (pv 4) (pa_cons (pv 7) (pa_cons (pv 8) pa_nil)))) pa_nil)))
    (pss_one (ps_set (i := 4) sc_law_lines_read.nd rfl (.inl rfl) (pv 7))))))))))
    (pss_one (ps_ret (pe_cx c_law_joined hr (by decide) rfl (pa_cons (pv 2) pa_nil)))))), ?_⟩
    refine ⟨(by show 0 ≤ sizeLine; decide), ?_⟩
    intro f0 m0
    have s0 : Same H (upd H f0 (.lst [])) := Same.new m0
    have h0 : upd H f0 (.lst []) f0 = some (.lst []) := upd_same
    generalize upd H f0 (.lst []) = H0 at s0 h0 ⊢
    refine ⟨_, _, _, rfl, ?_⟩
    have hB0 := s0.seq hB
    refine ⟨_, rfl, h, _, rfl, .inl hB0, ?_⟩
    rw [List.length_map]
    refine ⟨_, rfl, by omega, Int.lt_of_le_of_lt (b := 1000) (by have := by1.2; omega) (by decide), ?_⟩
    refine for_range (lo := 0) (n := d.length) (fun t σ H' => ∃ (i : Nat) (lo line : Int) (xs : List V) (acc : List R3) (v5 v6 v7 v8 v9 : Option V), σ = [some (.ref h), some (.int line), some (.ref f0), some (.int (i : Int)), some (.int lo), v5, v6, v7, v8, v9] ∧ i ≤ d.length ∧ Same H H' ∧ H' f0 = some (.lst xs) ∧ TupsAt R3.vs H' xs acc ∧ acc.length ≤ i ∧ lGo d (d.length - t) i lo line acc = lRead d line0)
      ⟨0, 0, line0, [], [], none, none, none, none, none, rfl, Nat.zero_le _, s0, h0, trivial, Nat.le_refl _, rfl⟩ ?_ ?_
    · rintro t σ H' ht ⟨i, lo, line, xs, acc, v5, v6, v7, v8, v9, rfl, hi, s2, h2, hR, hal, he⟩
      have hB2 := s2.seq hB
      refine ⟨_, rfl, _, rfl, h, _, rfl, .inl hB2, rfl, _, rfl, ?_⟩
      rw [len_eq]
      refine ite2 (fun c => ?_) (fun c => ?_)
      · have c := of_decide_eq_true c
        subst c
        rw [lGo_end] at he
        refine ⟨_, rfl, f0, xs, acc, rfl, .inl (SqL.of h2), hR, ?_, fun q H2 ys nq s3 hq hJ => ?_⟩
        · exact Nat.le_trans hal (Nat.le_trans by1.2 (by decide))
        exact kI acc he.symm q H2 ys (s2.free nq) (s2.trans s3) hq hJ
      have c1 : ¬ i = d.length := fun z => c (decide_eq_true z)
      have hlt : i < d.length := by omega
      rw [show d.length - t = (d.length - (t + 1)) + 1 by omega, lGo_step c1] at he
      obtain ⟨r0, r1⟩ := by1.g hlt
      have mj := g_at hlt
      have hx0 : xs.length < sizeLine := by
        rw [hR.len]
        exact Nat.lt_of_le_of_lt (Nat.le_trans hal (Nat.le_trans hi by1.2)) (by decide)
      generalize eb : g d i = b at r0 r1 mj he
      refine ⟨_, rfl, _, rfl, h, _, _, _, rfl, rfl, hB2, mj, ?_⟩
      have ea : ((i : Nat) : Int) + 1 = ((i + 1 : Nat) : Int) := by omega
      have lay : ∀ {J : Hp} (sJ : Same H' J) (q : Addr) (nq : J q = none) (o : Option Int), Same H (upd (upd J q (.tup [.int lo, .int (lo + 2 * (b % 8 + 1)), lnV o])) f0 (.lst (xs ++ [.ref q]))) ∧ upd (upd J q (.tup [.int lo, .int (lo + 2 * (b % 8 + 1)), lnV o])) f0 (.lst (xs ++ [.ref q])) f0 = some (.lst (xs ++ [.ref q])) ∧
          TupsAt R3.vs (upd (upd J q (.tup [.int lo, .int (lo + 2 * (b % 8 + 1)), lnV o])) f0 (.lst (xs ++ [.ref q]))) (xs ++ [.ref q]) (acc ++ [⟨lo, lo + 2 * (b % 8 + 1), o⟩]) := by
        intro J sJ q nq o
        have sq : Same J (upd J q (.tup [.int lo, .int (lo + 2 * (b % 8 + 1)), lnV o])) := Same.new nq
        have hJ := sq _ _ (sJ _ _ h2)
        refine ⟨Same.mut ((s2.trans sJ).trans sq) m0, upd_same, ?_⟩
        refine TupsAt.snoc (p := q) ?_ (((hR.same sJ).same sq).upd hJ)
        rw [upd_ne (by
          rintro rfl
          rw [sJ _ _ h2] at nq
          cases nq)]
        exact upd_same
      by_cases cB : b < 232 ∨ (240 ≤ b ∧ b < 248)
      · rw [if_pos cB] at he
        refine ⟨_, rfl, _, _, rfl, rfl, _, rfl, ite2 (fun c => ?_) (fun c => ?_)⟩
        · refine ⟨_, _, rfl, rfl, _, rfl, ite2 (fun c2 => ?_) (fun c2 => ?_)⟩
          · refine ⟨_, rfl, _, _, rfl, rfl, _, rfl, ite2 (fun c3 => ?_) (fun c3 => ?_)⟩
            · exact ⟨_, rfl, kJ i he.symm H' s2⟩
            · exfalso
              simp at c c2 c3
              omega
          · exfalso
            simp at c c2
            omega
        · refine ⟨_, rfl, ite2 (fun c2 => ?_) (fun c2 => absurd rfl c2)⟩
          refine ⟨_, rfl, _, _, rfl, rfl, _, rfl, ite2 (fun c3 => ?_) (fun c3 => ?_)⟩
          · exact ⟨_, rfl, kJ i he.symm H' s2⟩
          · exfalso
            simp at c c3
            omega
      · rw [if_neg cB] at he
        by_cases cD : b < 240
        · rw [if_pos cD] at he
          refine ⟨_, rfl, _, _, rfl, rfl, _, rfl, ite2 (fun c => ?_) (fun c => ?_)⟩
          rotate_left
          · exfalso
            simp at c
            omega
          refine ⟨_, _, rfl, rfl, _, rfl, ite2 (fun c2 => ?_) (fun c2 => ?_)⟩
          · exfalso
            simp at c2
            omega
          refine iteF ?_
          refine ⟨_, rfl, _, rfl, .inl ⟨_, rfl, _, _, rfl, rfl, (by show (0 : Int) < 8; decide), _, _, rfl, rfl, _, _, rfl, rfl, .inl ⟨by decide, by decide⟩, _, _, rfl, rfl, _, rfl, _, _, rfl, rfl, _, _, _, rfl, ?_⟩⟩
          dsimp (config := { proj := false }) only
          rw [ea]
          refine ⟨_, rfl, _, _, rfl, rfl, _, rfl, ite2 (fun _ => ?_) (fun c => absurd (decide_eq_true cD) c)⟩
          have l1 := sgAt_le (d := d) (i := i + 1) (by omega)
          refine ⟨_, rfl, _, rfl, h, d, i + 1, rfl, hB2, by1, by omega, fun q2 J2 m2 t2 g2 => ?_⟩
          refine ⟨q2, _, rfl, SqT.of g2, rfl, _, _, rfl, _, _, rfl, rfl, ?_⟩
          cases es : sgAt d (i + 1) with
          | mk o j =>
            rw [es] at he l1 g2
            cases o with
            | none => exact ⟨_, rfl, rfl, _, rfl, iteT ⟨_, rfl, kJ j he.symm J2 (s2.trans t2)⟩⟩
            | some m =>
              obtain ⟨l1, l2⟩ := l1
              have l1 : j ≤ d.length := l1
              have l2 : i + 1 ≤ j := l2
              refine ⟨_, rfl, rfl, _, rfl, iteF ?_⟩
              refine ⟨_, rfl, _, rfl, _, _, rfl, rfl, ?_⟩
              refine ⟨_, rfl, ?_⟩
              refine ⟨_, rfl, .inl ⟨rfl, _, SqL.of (t2 _ _ h2)⟩, _, rfl, _, rfl, _, rfl, (by show 3 ≤ sizeLine; decide), fun q nq => ?_⟩
              obtain ⟨a2, a1, a3⟩ := lay t2 q nq (some (line + m))
              dsimp only [lnV] at a1 a2 a3
              refine ⟨f0, xs, _, rfl, rfl, (Same.new nq) _ _ (t2 _ _ h2), hx0, ?_⟩
              refine ⟨_, rfl, j, lo + 2 * (b % 8 + 1), line + m, xs ++ [.ref q], acc ++ [⟨lo, lo + 2 * (b % 8 + 1), some (line + m)⟩], _, _, _, _, _, rfl, l1, a2, a1, a3, ?_, he⟩
              rw [List.length_append]
              show acc.length + 1 ≤ j
              omega
        · rw [if_neg cD] at he
          refine ⟨_, rfl, _, _, rfl, rfl, _, rfl, ite2 (fun c => ?_) (fun c => ?_)⟩
          rotate_left
          · exfalso
            simp at c
            omega
          refine ⟨_, _, rfl, rfl, _, rfl, ite2 (fun c2 => ?_) (fun c2 => ?_)⟩
          rotate_left
          · exfalso
            simp at c2
            omega
          refine ⟨_, rfl, _, _, rfl, rfl, _, rfl, ite2 (fun c3 => ?_) (fun c3 => ?_)⟩
          · exfalso
            simp at c3
            omega
          refine ⟨_, rfl, _, rfl, .inl ⟨_, rfl, _, _, rfl, rfl, (by show (0 : Int) < 8; decide), _, _, rfl, rfl, _, _, rfl, rfl, .inl ⟨by decide, by decide⟩, _, _, rfl, rfl, _, rfl, _, _, rfl, rfl, _, _, _, rfl, ?_⟩⟩
          dsimp (config := { proj := false }) only
          rw [ea]
          refine ⟨_, rfl, _, _, rfl, rfl, _, rfl, ite2 (fun c => absurd (of_decide_eq_true c) cD) (fun _ => ?_)⟩
          refine ⟨_, rfl, .inl ⟨rfl, _, SqL.of h2⟩, _, rfl, _, rfl, _, rfl, (by show 3 ≤ sizeLine; decide), fun q nq => ?_⟩
          obtain ⟨a2, a1, a3⟩ := lay (Same.refl H') q nq none
          dsimp only [lnV] at a1 a2 a3
          refine ⟨f0, xs, _, rfl, rfl, (Same.new nq) _ _ h2, hx0, ?_⟩
          refine ⟨_, rfl, i + 1, lo + 2 * (b % 8 + 1), line, xs ++ [.ref q], acc ++ [⟨lo, lo + 2 * (b % 8 + 1), none⟩], _, _, _, _, _, rfl, by omega, a2, a1, a3, ?_, he⟩
          rw [List.length_append]
          show acc.length + 1 ≤ i + 1
          omega
    · rintro σ H' ⟨i, lo, line, xs, acc, v5, v6, v7, v8, v9, rfl, hi, s2, h2, hR, hal, he⟩
      rw [Nat.sub_self] at he
      refine ⟨_, rfl, f0, xs, acc, rfl, .inl (SqL.of h2), hR, ?_, fun q H2 ys nq s3 hq hJ => ?_⟩
      · exact Nat.le_trans hal (Nat.le_trans hi (Nat.le_trans by1.2 (by decide)))
      exact kI acc he.symm q H2 ys (s2.free nq) (s2.trans s3) hq hJ
end
end K49
set_option maxHeartbeats 4000000
set_option pp.maxSteps 600
namespace K49
open PySem PySem.Spec PyProof.Rows L2 Nd
abbrev s_law_bent : Stmt := top 44
abbrev s_law_good : Stmt := top 46
theorem mk_byte {l : List Int} (h : ∀ d ∈ l, 0 ≤ d ∧ d < 64) : ∀ x ∈ mk l, 0 ≤ x ∧ x < 128 := by
  intro x hx
  obtain ⟨j, hj⟩ := List.mem_iff_getElem?.mp hx
  have hl : (mk l).length = l.length := mk_len _
  have hj2 : j < l.length := by
    rw [← hl]
    exact (List.getElem?_eq_some_iff.mp hj).1
  have g := mk_get l j _ (List.getElem?_eq_getElem hj2)
  have e' := Option.some.inj (hj.symm.trans g)
  have hm := h (l[j]) (List.getElem_mem hj2)
  split at e' <;> omega
theorem ent_byte {u : Nat} {m : Option Int} (h : 1 ≤ u ∧ u ≤ 8) : ∀ x ∈ ent u m, 0 ≤ x ∧ x ≤ 255 := by
  intro x hx
  cases m with
  | none =>
    have : x = 248 + (u : Int) - 1 := by simpa [ent] using hx
    omega
  | some n =>
    rcases List.mem_cons.mp hx with z | z
    · omega
    · have := mk_byte (dig_dig (sg n)) x z
      omega
theorem tb_byte : ∀ (cs : List En) (last : Int), (∀ e ∈ cs, 1 ≤ e.1 ∧ e.1 ≤ 8) → ∀ x ∈ tb cs last, 0 ≤ x ∧ x ≤ 255
  | [], _, _, x, hx => by simp [tb] at hx
  | e :: r, last, h, x, hx => by
    rcases List.mem_append.mp hx with z | z
    · exact ent_byte (h e (by simp)) x z
    · exact tb_byte r _ (fun y hy => h y (by simp [hy])) x z

def By (d : List Int) : Prop := ∀ x ∈ d, 0 ≤ x ∧ x < 256
theorem By.app {a b : List Int} (h : By a) (k : By b) : By (a ++ b) := fun x hx => (List.mem_append.mp hx).elim (h x) (k x)
theorem cut_by (d : List Int) (lo hi : Option Int) : ∃ e : List Int, cutV (d.map V.int) lo hi = e.map V.int ∧ (By d → By e) ∧ e.length ≤ d.length := by
  unfold cutV
  rw [List.length_map, ← List.map_drop, ← List.map_take]
  exact ⟨_, rfl, fun h x hx => h x (List.mem_of_mem_drop (List.mem_of_mem_take hx)), by rw [List.length_take, List.length_drop]; omega⟩
theorem enc_by (n : Nat) : ∀ x ∈ enc n, 0 ≤ x ∧ x < 128 := mk_byte fun d hd => dig_dig n d (List.mem_reverse.mp hd)
theorem Row.by (r : Row) : By r.bytes := by
  have h1 : ∀ x ∈ up 128 (enc r.b), 0 ≤ x ∧ x < 256 := by
    have h := enc_by r.b
    cases e : enc r.b with
    | nil => simp [up]
    | cons y ys =>
      rw [e] at h
      intro x hx
      rcases List.mem_cons.mp hx with z | z
      · have := h y (by simp)
        omega
      · have := h x (by simp [z])
        omega
  refine By.app h1 fun x hx => ?_
  obtain ⟨n, _, hn⟩ := List.mem_flatMap.mp hx
  have := enc_by n x hn
  omega
theorem tb_by {es : List En} (h : EsOk es) {line : Int} : By (tb (chE (joinE es)) line) := fun x hx => by
  have := tb_byte (chE (joinE es)) line (fun e he => by
    obtain ⟨_, _, _, h1, h2⟩ := chE_mem he
    exact ⟨h1, h2⟩) x hx
  omega
theorem ch_cnt (u : Nat) : (chunks u).length ≤ (u + 7) / 8 := Nat.le_of_eq (chunks_len u)
def spBent : Sp := fun vs H Q _ => ∃ (a h b : Addr) (d so : List Int), vs = [.ref a, .ref h, .ref b] ∧ Src H a ∧ H h = some (.lst (d.map V.int)) ∧ By d ∧ d.length ≤ 80 ∧ H b = some (.lst (so.map V.int)) ∧ By so ∧ so.length ≤ 100 ∧ h ≠ a ∧ b ≠ a ∧
  ∀ p H' d', H p = none → But a H H' → Src H' a → H' p = some (.lst (d'.map V.int)) → By d' → d'.length ≤ 161 → Q (.ref p) H'
section
variable {P : Program} {w : World} {K : PySem.W.Frag} {mg : Str → Option Value} {base : Heap}
abbrev COne (P : Program) (w : World) (K : PySem.W.Frag) (mg : Str → Option Value) (base : Heap) : Prop := CalX P w K mg base 2 "_law_one" (fun vs H Q E => spOne K vs H Q E ∧ ∀ a b, vs = [.ref a, .ref b] → b ≠ a)
abbrev N_law_bent : List Str := ["source", "data", "some", "at", "way", "byte"]
theorem sc_law_bent : FnScope N_law_bent ["source", "data", "some"] (defScope s_law_bent) := ⟨rfl, rfl, rfl, by decide +kernel, rfl, by decide +kernel, by decide +kernel⟩
theorem ok_law_bent {f : Addr} {fd : FuncData} (T : Gl0 mg) (c_law_next : CalX P w K mg base 1 "_law_next" spNext) (c_law_one : COne P w K mg base) (F : DefX K mg "_law_bent" s_law_bent ["source", "data", "some"] f fd) : CalX P w K mg base 3 "_law_bent" spBent := by
  refine calx F sc_law_bent (fun vs H Q E h => ?_) (fun cdv A outer s H vs Q E hr h => ?_)
  · obtain ⟨a, h, b, d, so, rfl, _⟩ := h
    rfl
  · obtain ⟨a, h, b, d, so, rfl, src, hh, bd, ld, hb, bs, lso, ha, hba, k⟩ := h
    refine ⟨_, (pss_cons (ps_par (i := 3) (j := 4) (by rfl) sc_law_bent.nd rfl rfl (by decide) rfl rfl (pa_cons (pe_cx c_law_next hr (by decide) rfl (pa_cons (pv 0) (pa_cons (pe_op op_add (pe_callB call_len_seq (by rfl) T.n_len Boot.«len» (pa_cons (pv 1) pa_nil)) pe_int) pa_nil))) (pa_cons (pe_cx c_law_next hr (by decide) rfl (pa_cons (pv 0) (pa_cons pe_int pa_nil))) pa_nil)) (by rfl))
    (pss_cons (ps_set (i := 5) sc_law_bent.nd rfl (.inl rfl) (pe_cx c_law_one hr (by decide) rfl (pa_cons (pv 0) (pa_cons (pe_op op_cat (pv 2) (pe_lst (pa_cons (pe_cx c_law_next hr (by decide) rfl (pa_cons (pv 0) (pa_cons pe_int pa_nil))) (pa_cons (pe_cx c_law_next hr (by decide) rfl (pa_cons (pv 0) (pa_cons pe_int pa_nil))) pa_nil)))) pa_nil))))
    (pss_cons (ps_if (pt_cmpR op_eq (pv 4) pe_int (nomark _))
      (pss_one (ps_ret (pe_slice sl_list (pv 1) po_none (po_some (pv 3)))))
      pss_nil)
    (pss_cons (ps_if (pt_cmpR op_eq (pv 4) pe_int (nomark _))
      (pss_one (ps_ret (pe_op op_cat (pe_slice sl_list (pv 1) po_none (po_some (pv 3))) (pe_slice sl_list (pv 1) (po_some (pe_op op_add (pv 3) pe_int)) po_none))))
      pss_nil)
    (pss_one (ps_ret (pe_op op_cat (pe_op op_cat (pe_slice sl_list (pv 1) po_none (po_some (pv 3))) (pe_lst (pa_cons (pv 5) pa_nil))) (pe_slice sl_list (pv 1) (po_some (pe_op op_add (pv 3) (pe_callTy call_int1 (by rfl) T.n_int Boot.«int» (pa_cons (pe_cmpR op_gt (pv 4) pe_int (nomark _)) pa_nil)))) po_none)))))))), ?_⟩
    refine ⟨_, rfl, _, rfl, h, _, rfl, .inl (SqL.of hh), _, _, rfl, rfl, a, _, rfl, src, ?_, ?_, fun av J1 a0 a1 b1 t1 => ?_⟩
    · rw [List.length_map]
      omega
    · rw [List.length_map]
      exact Nat.lt_of_le_of_lt (m := 401) (by omega) (by decide)
    refine ⟨_, rfl, a, _, rfl, t1, (by decide), (by decide), fun wv J2 w0 w1 b2 t2 => ?_⟩
    refine ⟨_, _, rfl, ?_⟩
    have B2 := b1.trans b2
    refine ⟨_, rfl, _, rfl, _, rfl, a, _, rfl, t2, (by decide), (by decide), fun x1 J3 x10 x11 b3 t3 => ?_⟩
    refine ⟨_, rfl, a, _, rfl, t3, (by decide), (by decide), fun x2 J4 x20 x21 b4 t4 => ?_⟩
    refine ⟨(by show 2 ≤ sizeLine; decide), ?_⟩
    walk_at "new1"
    have B4 := (B2.trans b3).trans b4
    have B5 := B4.trans (But.of s1)
    refine ⟨b, p1, _, _, rfl, rfl, B5 _ _ hba hb, h1, ?_, ?_⟩
    · rw [List.length_map]
      exact Nat.le_trans (by show so.length + 2 ≤ 102; omega) (by decide)
    walk_at "new2"
    have t6 := (t4.same s1).same s2
    have B6 := B5.trans (But.of s2)
    refine ⟨⟨a, p2, _, rfl, t6, h2, by simp, ?_, fun v J5 hv b5 t5 => ?_⟩, fun b c e => by cases e; exact (t4.same s1).ne0 n2⟩
    · rw [List.length_append, List.length_map]
      show so.length + 2 ≤ 1000
      omega
    obtain ⟨y, rfl, y0, y1⟩ : ∃ y : Int, v = .int y ∧ 0 ≤ y ∧ y < 256 := by
      rcases List.mem_append.mp hv with z | z
      · obtain ⟨y, hy, rfl⟩ := List.mem_map.mp z
        exact ⟨y, rfl, bs y hy⟩
      · simp at z
        rcases z with rfl | rfl
        · exact ⟨_, rfl, x10, x11⟩
        · exact ⟨_, rfl, x20, x21⟩
    have B := B6.trans b5
    have hd := B _ _ ha hh
    have fin : ∀ {p : Addr} {H' : Hp} {d' : List Int}, J5 p = none → Same J5 H' → H' p = some (.lst (d'.map V.int)) → By d' → d'.length ≤ 161 → Q (.ref p) H' := fun {p H' d'} np s3 h3 b3 l3 => by
      refine k p H' d' ?_ (B.trans (But.of s3)) (t5.same s3) h3 b3 l3
      cases e : H p with
      | none => rfl
      | some o =>
        have z := B p o (t5.ne0 np) e
        rw [np] at z
        cases z
    refine ⟨_, rfl, rfl, _, rfl, ite2 (fun c => ?_) (fun c => ?_)⟩
    · refine ⟨_, rfl, _, rfl, _, rfl, h, _, rfl, SqL.of hd, ?_⟩
      walk_at "new3"
      try dsimp only at h3
      obtain ⟨e, ee, eb, el⟩ := cut_by d none (some av)
      rw [ee] at h3
      exact fin n3 s3 h3 (eb bd) (by omega)
    refine ⟨_, rfl, rfl, _, rfl, ite2 (fun c => ?_) (fun c => ?_)⟩
    · refine ⟨_, rfl, _, rfl, _, rfl, h, _, rfl, SqL.of hd, ?_⟩
      walk_at "new3"
      try dsimp only at h3
      obtain ⟨e, ee, eb, el⟩ := cut_by d none (some av)
      rw [ee] at h3
      refine ⟨_, rfl, _, rfl, _, _, rfl, rfl, _, rfl, h, _, rfl, SqL.of (s3 _ _ hd), ?_⟩
      walk_at "new4"
      try dsimp only at h4
      obtain ⟨e2, ee2, eb2, el2⟩ := cut_by d (some (av + 1)) none
      rw [ee2] at h4
      refine ⟨p3, p4, _, _, rfl, rfl, s4 _ _ h3, h4, ?_, ?_⟩
      · rw [List.length_map, List.length_map]
        exact Nat.le_trans (by omega : _ ≤ 801) (by decide)
      walk_at "new5"
      rw [← List.map_append] at h5
      exact fin (s3.free (s4.free n5)) ((s3.trans s4).trans s5) h5 ((eb bd).app (eb2 bd)) (by rw [List.length_append]; omega)
    · refine ⟨_, rfl, _, rfl, _, rfl, h, _, rfl, SqL.of hd, ?_⟩
      walk_at "new3"
      try dsimp only at h3
      obtain ⟨e, ee, eb, el⟩ := cut_by d none (some av)
      rw [ee] at h3
      refine ⟨_, rfl, (by show 1 ≤ sizeLine; decide), ?_⟩
      walk_at "new4"
      refine ⟨p3, p4, _, _, rfl, rfl, s4 _ _ h3, h4, ?_, ?_⟩
      · rw [List.length_map]
        exact Nat.le_trans (by show e.length + 1 ≤ 801; omega) (by decide)
      walk_at "new5"
      refine ⟨_, rfl, _, rfl, _, rfl, _, _, rfl, rfl, .inr ⟨_, rfl, _, _, rfl, rfl, _, rfl, h, _, rfl, SqL.of (((s3.trans s4).trans s5) _ _ hd), ?_⟩⟩
      walk_at "new6"
      try dsimp only at h6
      obtain ⟨e2, ee2, eb2, el2⟩ := cut_by d (some (av + (if decide (2 < wv) = true then 1 else 0))) none
      replace h6 : H6 p6 = some (.lst (e2.map V.int)) := by
        rw [← ee2]
        exact h6
      have e5 : e.map V.int ++ [V.int y] = (e ++ [y]).map V.int := by simp
      rw [e5] at h5
      refine ⟨p5, p6, _, _, rfl, rfl, s6 _ _ h5, h6, ?_, ?_⟩
      · rw [List.length_map, List.length_map, List.length_append]
        exact Nat.le_trans (by show e.length + 1 + _ ≤ 801; omega) (by decide)
      walk_at "new7"
      rw [← List.map_append] at h7
      refine fin (s3.free (s4.free (s5.free (s6.free n7)))) ((((s3.trans s4).trans s5).trans s6).trans s7) h7 (((eb bd).app fun x hx => ?_).app (eb2 bd)) ?_
      · have : x = y := by simpa using hx
        omega
      · rw [List.length_append, List.length_append]
        show e.length + 1 + e2.length ≤ 161
        omega
end
end K49
set_option maxHeartbeats 4000000
set_option pp.maxSteps 600
namespace K49
open PySem PySem.Spec PyProof.Rows L2 Nd
theorem end_more (done : List En) (e : En) (b : Int) : endOf (done ++ [e]) b = endOf done b + 2 * (e.1 : Int) := by
  rw [end_app]
  rfl
theorem rows_more (done : List En) (e : En) (b : Int) : rowsOf (done ++ [e]) b = rowsOf done b ++ [⟨endOf done b, endOf done b + 2 * (e.1 : Int), e.2⟩] := by
  rw [rows_app]
  rfl
theorem chE_len8 : ∀ es : List En, 8 * (chE es).length ≤ tot es + 7 * es.length
  | [] => Nat.le_refl _
  | e :: r => by
    have h1 := chE_len8 r
    have h2 := chunks_len e.1
    have h3 : (chE (e :: r)).length = (chunks e.1).length + (chE r).length := by
      unfold chE
      rw [List.flatMap_cons, List.length_append, List.length_map]
    have h4 : tot (e :: r) = e.1 + tot r := by simp [tot]
    rw [h3, h4, h2, List.length_cons]
    omega
theorem join_llen (es : List En) : (joinE es).length ≤ es.length := by
  have h := join_len (rowsOf es 0)
  rw [join_rows, rows_len, rows_len] at h
  exact h
theorem lines_len {es : List En} (h : EsOk es) (t : tot es ≤ 52) (l : es.length ≤ 4) : (tb (chE (joinE es)) 7).length ≤ 80 := by
  have h1 := tb_len (chE (joinE es)) 7 (fun e he => by
    obtain ⟨x, hx, e1, _⟩ := chE_mem he
    rw [e1]
    exact h.join.l x hx) ⟨by decide, by decide⟩
  have h2 := chE_len8 (joinE es)
  have h3 : tot (joinE es) = tot [] + tot es := tot_fold es []
  have h4 : tot ([] : List En) = 0 := rfl
  have h5 := join_llen es
  omega
theorem enc_len3 {n : Nat} (h : n < 64 ^ 3) : (enc n).length ≤ 4 := by
  unfold enc
  rw [mk_len, List.length_reverse]
  exact dig_len 3 n h
theorem Row.short {r : Row} (h1 : r.b < 64 ^ 3) (h2 : r.s < 64 ^ 3) (h3 : r.t < 64 ^ 3) (h4 : r.d < 1000) : r.bytes.length ≤ 16 := by
  have a1 := enc_len3 h1
  have a2 := enc_len3 h2
  have a3 := enc_len3 h3
  have a4 : (enc r.last).length ≤ 4 := enc_len3 (by
    unfold Row.last
    split <;> omega)
  unfold Row.bytes
  rw [List.length_append, up_len]
  show _ + ([r.s, r.t, r.last].flatMap enc).length ≤ 16
  simp only [List.flatMap_cons, List.flatMap_nil, List.length_append, List.length_nil]
  omega
def spGood : Sp := fun vs H Q _ => ∃ a : Addr, vs = [.ref a] ∧ Src H a ∧ ∀ (p gq lq : Addr) (gd ld : List Int) H', H p = none → But a H H' → Src H' a → H' p = some (.tup [.ref gq, .ref lq]) → H gq = none → H lq = none → H' gq = some (.lst (gd.map V.int)) → H' lq = some (.lst (ld.map V.int)) → By gd → gd.length ≤ 64 → By ld → ld.length ≤ 80 → Q (.ref p) H'
theorem but_free {a : Addr} {H H' : Hp} (b : But a H H') (s : Src H' a) {p : Addr} (n : H' p = none) : H p = none := by
  cases e : H p with
  | none => rfl
  | some o =>
    have z := b p o (s.ne0 n) e
    rw [n] at z
    cases z
section
variable {P : Program} {w : World} {K : PySem.W.Frag} {mg : Str → Option Value} {base : Heap}
abbrev N_law_good : List Str := ["source", "guards", "some", "at", "last", "k", "low", "row", "later"]
theorem sc_law_good : FnScope N_law_good ["source"] (defScope s_law_good) := ⟨rfl, rfl, rfl, by decide +kernel, rfl, by decide +kernel, by decide +kernel⟩
theorem ok_law_good {f : Addr} {fd : FuncData} (T : Gl0 mg) (c_law_next : CalX P w K mg base 1 "_law_next" spNext) (c_law_one : COne P w K mg base) (c_law_row_bytes : CalX P w K mg base 2 "_law_row_bytes" spRow) (c_law_line_bytes : CalX P w K mg base 3 "_law_line_bytes" spLLineBytes) (F : DefX K mg "_law_good" s_law_good ["source"] f fd) : CalX P w K mg base 4 "_law_good" spGood := by
  refine calx F sc_law_good (fun vs H Q E h => ?_) (fun cdv A outer s H vs Q E hr h => ?_)
  · obtain ⟨a, rfl, _⟩ := h
    rfl
  · obtain ⟨a, rfl, src, k⟩ := h
    refine ⟨_, (pss_cons (ps_asg (pe_tup (pa_cons (pe_lst pa_nil) (pa_cons (pe_lst pa_nil) (pa_cons pe_int (pa_cons pe_int pa_nil))))) (pg_tup (by rfl) (pgs_cons (pg_name (i := 1) sc_law_good.nd rfl (.inl rfl)) (pgs_cons (pg_name (i := 2) sc_law_good.nd rfl (.inl rfl)) (pgs_cons (pg_name (i := 3) sc_law_good.nd rfl (.inl rfl)) (pgs_cons (pg_name (i := 4) sc_law_good.nd rfl (.inl rfl)) pgs_nil))))))
    (pss_cons (ps_for PassesOwn.never rfl (pi_range1 (by rfl) T.n_range (pa_cons (pe_op op_add pe_int (pe_cx c_law_next hr (by decide) rfl (pa_cons (pv 0) (pa_cons pe_int pa_nil)))) pa_nil)) (pg_name (i := 5) sc_law_good.nd rfl (.inl rfl))
      (pss_cons (ps_set (i := 6) sc_law_good.nd rfl (.inl rfl) (pe_op op_add (pv 3) (pe_op op_mul pe_int (pe_cx c_law_next hr (by decide) rfl (pa_cons (pv 0) (pa_cons pe_int pa_nil))))))
    (pss_cons (ps_set (i := 3) sc_law_good.nd rfl (.inl rfl) (pe_op op_add (pe_op op_add (pv 6) pe_int) (pe_op op_mul pe_int (pe_cx c_law_next hr (by decide) rfl (pa_cons (pv 0) (pa_cons pe_int pa_nil))))))
    (pss_cons (ps_set (i := 7) sc_law_good.nd rfl (.inl rfl) (pe_tup (pa_cons (pv 6) (pa_cons (pv 3) (pa_cons (pe_op op_mul pe_int (pe_cx c_law_next hr (by decide) rfl (pa_cons (pv 0) (pa_cons pe_int pa_nil)))) (pa_cons (pe_cx c_law_next hr (by decide) rfl (pa_cons (pv 0) (pa_cons pe_int pa_nil))) (pa_cons (pe_cmpR op_eq (pe_cx c_law_next hr (by decide) rfl (pa_cons (pv 0) (pa_cons pe_int pa_nil))) pe_int (nomark _)) pa_nil)))))))
    (pss_cons (ps_expr (pe_bm PySem.F.plainAttrs_list PySem.F.slot_list_extend PySem.F.type_list_extend mt_extend (pv 1) (pa_cons (pe_cx c_law_row_bytes hr (by decide) rfl (pa_cons (pv 7) pa_nil)) pa_nil)))
    (pss_cons (ps_set (i := 8) sc_law_good.nd rfl (.inl rfl) (pe_op op_add (pe_op op_add (pv 4) pe_int) (pe_op op_mul pe_int (pe_cx c_law_next hr (by decide) rfl (pa_cons (pv 0) (pa_cons pe_int pa_nil))))))
    (pss_cons (ps_expr (pe_bm PySem.F.plainAttrs_list PySem.F.slot_list_append PySem.F.type_list_append mt_append (pv 2) (pa_cons (pe_tup (pa_cons (pv 4) (pa_cons (pv 8) (pa_cons (pe_cx c_law_one hr (by decide) rfl (pa_cons (pv 0) (pa_cons (pe_lst (pa_cons pe_non (pa_cons pe_int (pa_cons pe_int (pa_cons pe_int (pa_cons pe_int pa_nil)))))) pa_nil))) pa_nil)))) pa_nil)))
    (pss_one (ps_set (i := 4) sc_law_good.nd rfl (.inl rfl) (pv 8))))))))))
    (pss_one (ps_ret (pe_tup (pa_cons (pv 1) (pa_cons (pe_cx c_law_line_bytes hr (by decide) rfl (pa_cons (pv 2) (pa_cons pe_int pa_nil))) pa_nil))))))), ?_⟩
    refine ⟨(by show 0 ≤ sizeLine; decide), ?_⟩
    walk_at "new1"
    have n1F := n1
    have h1F := h1
    refine ⟨(by show 0 ≤ sizeLine; decide), ?_⟩
    walk_at "new2"
    have n2F := s1.free n2
    have p12 : p2 ≠ p1 := by
      rintro rfl
      rw [h1F] at n2
      cases n2
    refine ⟨(by show 4 ≤ sizeLine; decide), ?_⟩
    walk_at "new3"
    refine ⟨p3, _, rfl, SqT.of h3, rfl, _, _, rfl, _, _, rfl, _, _, rfl, _, _, rfl, rfl, ?_⟩
    have u3 := (s1.trans s2).trans s3
    have src3 := src.same u3
    have n2' := s1.free n2
    have a1 := src.ne0 n1
    have a2 := src.ne0 n2'
    have h1 := (s2.trans s3) _ _ h1
    have h2 := s3 _ _ h2
    refine ⟨_, rfl, a, _, rfl, src3, (by decide), (by decide), fun m J0 m0 m1 b0 t0 => ?_⟩
    have m4 : m < 4 := m1
    refine ⟨_, _, rfl, rfl, _, rfl, by omega, Int.lt_of_le_of_lt (b := 4) (by omega) (by decide), ?_⟩
    have B0 : But a H J0 := (But.of u3).trans b0
    refine for_range (lo := 0) (n := (1 + m).toNat) (fun i σ H' => ∃ (A : Nat) (es : List En) (xs : List V) (gd : List Int) (v5 v6 v7 v8 : Option V), σ = [some (.ref a), some (.ref p1), some (.ref p2), some (.int ((2 * A : Nat) : Int)), some (.int (endOf es 0)), v5, v6, v7, v8] ∧ But a H H' ∧ Src H' a ∧ H' p1 = some (.lst (gd.map V.int)) ∧ By gd ∧ gd.length ≤ 16 * i ∧
        H' p2 = some (.lst xs) ∧ TupsAt R3.vs H' xs (rowsOf es 0) ∧ (∀ e ∈ es, 1 ≤ e.1 ∧ Lok e.2) ∧ tot es ≤ 13 * i ∧ es.length = i ∧ A ≤ 200 * i)
      ⟨0, [], [], [], none, none, none, none, rfl, B0, t0, b0 _ _ a1 h1, (fun x hx => by simp at hx), by simp, b0 _ _ a2 h2, trivial, by simp, by simp [tot], rfl, by omega⟩ ?_ ?_
    · rintro i σ H' hi ⟨A, es, xs, gd, v5, v6, v7, v8, rfl, bu, sb, hg, hgb, hgl, hx, hR, hes, ht, hl, hA⟩
      have hi4 : i < 4 := by omega
      refine ⟨_, rfl, _, rfl, a, _, rfl, sb, (by decide), (by decide), fun n1 J1 x10 x11 b1 t1 => ?_⟩
      obtain ⟨n1, rfl⟩ : ∃ z : Nat, n1 = (z : Int) := ⟨n1.toNat, by omega⟩
      have x11 : (n1 : Int) < 90 := x11
      refine ⟨_, _, rfl, rfl, .inl ⟨by decide, by decide⟩, _, _, rfl, rfl, ?_⟩
      refine ⟨_, rfl, _, _, rfl, rfl, _, rfl, a, _, rfl, t1, (by decide), (by decide), fun n2' J2 x20 x21 b2 t2 => ?_⟩
      obtain ⟨n2', rfl⟩ : ∃ z : Nat, n2' = (z : Int) := ⟨n2'.toNat, by omega⟩
      have x21 : (n2' : Int) < 90 := x21
      refine ⟨_, _, rfl, rfl, .inl ⟨by decide, by decide⟩, _, _, rfl, rfl, ?_⟩
      refine ⟨_, rfl, _, rfl, _, rfl, a, _, rfl, t2, (by decide), (by decide), fun n3' J3 x30 x31 b3 t3 => ?_⟩
      obtain ⟨n3', rfl⟩ : ∃ z : Nat, n3' = (z : Int) := ⟨n3'.toNat, by omega⟩
      have x31 : (n3' : Int) < 5000 := x31
      refine ⟨_, _, rfl, rfl, .inl ⟨by decide, by decide⟩, _, rfl, a, _, rfl, t3, (by decide), (by decide), fun y4 J4 x40 x41 b4 t4 => ?_⟩
      obtain ⟨y4, rfl⟩ : ∃ z : Nat, y4 = (z : Int) := ⟨y4.toNat, by omega⟩
      have x41 : (y4 : Int) < 5 := x41
      refine ⟨_, rfl, a, _, rfl, t4, (by decide), (by decide), fun y5 J5 x50 x51 b5 t5 => ?_⟩
      refine ⟨rfl, (by show 5 ≤ sizeLine; decide), ?_⟩
      have B5 := (((b1.trans b2).trans b3).trans b4).trans b5
      walk_at "new4"
      have er : ([V.int (((2 * A : Nat) : Int) + 2 * (n1 : Int)), V.int (((2 * A : Nat) : Int) + 2 * (n1 : Int) + 2 + 2 * (n2' : Int)), V.int (2 * (n3' : Int)), V.int (y4 : Int), V.bl (decide (V.int y5 = V.int 1))] : List V) = Row.vs ⟨A + n1, 1 + n2', n3', y4, decide (V.int y5 = V.int 1)⟩ := by
        have a1 : ((2 * A : Nat) : Int) + 2 * (n1 : Int) = ((2 * (A + n1) : Nat) : Int) := by omega
        have a2 : ((2 * A : Nat) : Int) + 2 * (n1 : Int) + 2 + 2 * (n2' : Int) = ((2 * ((A + n1) + (1 + n2')) : Nat) : Int) := by omega
        have a3 : 2 * (n3' : Int) = ((2 * n3' : Nat) : Int) := by omega
        rw [a2, a1, a3]
        rfl
      replace h4 : H4 p4 = some (.tup (Row.vs ⟨A + n1, 1 + n2', n3', y4, decide (V.int y5 = V.int 1)⟩)) := by
        rw [← er]
        exact h4
      have ok : Row.Ok ⟨A + n1, 1 + n2', n3', y4, decide (V.int y5 = V.int 1)⟩ := ⟨Nat.lt_of_lt_of_le (by omega : A + n1 < 1000) (by decide), Nat.lt_of_lt_of_le (by omega : 1 + n2' < 1000) (by decide), Nat.lt_of_lt_of_le (by omega : n3' < 5000) (by decide), Nat.lt_of_lt_of_le (by omega : y4 < 1000) (by decide)⟩
      have short : (Row.bytes ⟨A + n1, 1 + n2', n3', y4, decide (V.int y5 = V.int 1)⟩).length ≤ 16 := Row.short (Nat.lt_of_lt_of_le (by show A + n1 < 1000; omega) (by decide)) (Nat.lt_of_lt_of_le (by show 1 + n2' < 1000; omega) (by decide)) (Nat.lt_of_lt_of_le (by show n3' < 5000; omega) (by decide)) (by show y4 < 1000; omega)
      generalize eR : (⟨A + n1, 1 + n2', n3', y4, decide (V.int y5 = V.int 1)⟩ : Row) = r at h4 ok short
      have hg4 := s4 _ _ (B5 _ _ a1 hg)
      refine ⟨_, rfl, .inl ⟨rfl, _, SqL.of hg4⟩, _, rfl, p4, r, rfl, h4, ok, fun q5 J6 m6 s6 g6 => ?_⟩
      have hg6 := s6 _ _ hg4
      refine ⟨p1, q5, _, _, rfl, rfl, hg6, g6, ?_, ?_⟩
      · have := Row.bytes_len ok
        rw [List.length_map, List.length_map]
        exact Nat.le_trans (by omega : _ ≤ 1000) (by decide)
      have t6 := (t5.same s4).same s6
      have hx6 := s6 _ _ (s4 _ _ (B5 _ _ a2 hx))
      have hR6 : TupsAt R3.vs J6 xs (rowsOf es 0) := by
        obtain ⟨x, y, z, e, _⟩ := id sb
        exact ((hR.but B5 e).same s4).same s6
      have bu6 : But a H J6 := ((bu.trans B5).trans (But.of s4)).trans (But.of s6)
      have eg : gd.map V.int ++ r.bytes.map V.int = (gd ++ r.bytes).map V.int := by rw [List.map_append]
      dsimp (config := { proj := false }) only
      rw [eg]
      have hg7 : upd J6 p1 (.lst ((gd ++ r.bytes).map V.int)) p1 = some (.lst ((gd ++ r.bytes).map V.int)) := upd_same
      have hx7 : upd J6 p1 (.lst ((gd ++ r.bytes).map V.int)) p2 = some (.lst xs) := by
        rw [upd_ne p12]
        exact hx6
      have hR7 : TupsAt R3.vs (upd J6 p1 (.lst ((gd ++ r.bytes).map V.int))) xs (rowsOf es 0) := hR6.upd hg6
      have bu7 : But a H (upd J6 p1 (.lst ((gd ++ r.bytes).map V.int))) := fun b o nb e => by
        rw [upd_ne (ne_of_none e n1F)]
        exact bu6 b o nb e
      have t7 : Src (upd J6 p1 (.lst ((gd ++ r.bytes).map V.int))) a := by
        obtain ⟨x, y, z, e, q⟩ := t6
        exact ⟨x, y, z, by rw [upd_ne (Ne.symm a1)]; exact e, q⟩
      generalize upd J6 p1 (.lst ((gd ++ r.bytes).map V.int)) = J7 at hg7 hx7 hR7 bu7 t7 ⊢
      refine ⟨_, rfl, _, _, rfl, rfl, _, rfl, a, _, rfl, t7, (by decide), (by decide), fun n6 J8 x60 x61 b8 t8 => ?_⟩
      obtain ⟨n6, rfl⟩ : ∃ z : Nat, n6 = (z : Int) := ⟨n6.toNat, by omega⟩
      have x61 : (n6 : Int) < 12 := x61
      refine ⟨_, _, rfl, rfl, .inl ⟨by decide, by decide⟩, _, _, rfl, rfl, ?_⟩
      have el : endOf es 0 + 2 + 2 * (n6 : Int) = endOf es 0 + 2 * ((1 + n6 : Nat) : Int) := by omega
      dsimp (config := { proj := false }) only
      rw [el]
      refine ⟨_, rfl, .inl ⟨rfl, _, SqL.of (b8 _ _ a2 hx7)⟩, _, rfl, _, rfl, _, rfl, (by show 5 ≤ sizeLine; decide), ?_⟩
      walk_at "new5"
      have n5F := n5
      refine ⟨⟨a, p5, _, rfl, t8.same s5, h5, by simp, (by show 5 ≤ 1000; decide), fun v J9 hv b9 t9 => ?_⟩, fun b c e => by cases e; exact t8.ne0 n5F⟩
      obtain ⟨l, rfl, hl'⟩ : ∃ l, v = lnV l ∧ Lok l := by
        simp at hv
        rcases hv with rfl | rfl | rfl | rfl | rfl
        · exact ⟨none, rfl, fun x e => by cases e⟩
        · exact ⟨some 7, rfl, fun x e => by cases e; exact ⟨by decide, by decide⟩⟩
        · exact ⟨some 8, rfl, fun x e => by cases e; exact ⟨by decide, by decide⟩⟩
        · exact ⟨some 3000, rfl, fun x e => by cases e; exact ⟨by decide, by decide⟩⟩
        · exact ⟨some 1, rfl, fun x e => by cases e; exact ⟨by decide, by decide⟩⟩
      have B9 : But a J7 J9 := (b8.trans (But.of s5)).trans b9
      have hx9 := B9 _ _ a2 hx7
      have hg9 := B9 _ _ a1 hg7
      have hR9 : TupsAt R3.vs J9 xs (rowsOf es 0) := by
        obtain ⟨x, y, z, e, _⟩ := id t7
        exact hR7.but B9 e
      refine ⟨(by show 3 ≤ sizeLine; decide), fun q nq => ?_⟩
      have sq : Same J9 (upd J9 q (.tup [.int (endOf es 0), .int (endOf es 0 + 2 * ((1 + n6 : Nat) : Int)), lnV l])) := Same.new nq
      have hq : upd J9 q (.tup [.int (endOf es 0), .int (endOf es 0 + 2 * ((1 + n6 : Nat) : Int)), lnV l]) q = some (.tup (R3.vs ⟨endOf es 0, endOf es 0 + 2 * ((1 + n6 : Nat) : Int), l⟩)) := upd_same
      generalize upd J9 q (.tup [.int (endOf es 0), .int (endOf es 0 + 2 * ((1 + n6 : Nat) : Int)), lnV l]) = Ja at sq hq ⊢
      have hf := sq _ _ hx9
      have qf : q ≠ p2 := by
        rintro rfl
        rw [hx9] at nq
        cases nq
      have lx : xs.length = i := by rw [hR.len, rows_len, hl]
      refine ⟨p2, xs, _, rfl, rfl, hf, ?_, ?_⟩
      · rw [lx]
        exact Nat.lt_trans hi4 (by decide)
      refine ⟨_, rfl, (A + n1) + (1 + n2'), es ++ [(1 + n6, l)], xs ++ [.ref q], gd ++ r.bytes, some (.int (0 + (i : Int))), some (.int (((2 * A : Nat) : Int) + 2 * (n1 : Int))), some (.ref p4), some (.int (endOf es 0 + 2 * ((1 + n6 : Nat) : Int))), ?_, ?_, ?_, ?_, hgb.app r.by, ?_, upd_same, ?_, ?_, ?_, ?_, ?_⟩
      · have e1 : ((2 * A : Nat) : Int) + 2 * (n1 : Int) + 2 + 2 * (n2' : Int) = ((2 * ((A + n1) + (1 + n2')) : Nat) : Int) := by omega
        rw [end_more, ← e1]
        rfl
      · intro b o nb e
        rw [upd_ne (ne_of_none e n2F)]
        exact sq _ _ (B9 b o nb (bu7 b o nb e))
      · obtain ⟨x, y, z, e, q⟩ := t9
        exact ⟨x, y, z, by rw [upd_ne (Ne.symm a2)]; exact sq _ _ e, q⟩
      · rw [upd_ne (Ne.symm p12)]
        exact sq _ _ hg9
      · rw [List.length_append]
        omega
      · rw [rows_more]
        exact TupsAt.snoc (p := q) (by rw [upd_ne qf]; exact hq) ((hR9.same sq).upd hf)
      · intro e he
        rcases List.mem_append.mp he with z | z
        · exact hes e z
        · rw [List.mem_singleton.mp z]
          exact ⟨by show 1 ≤ 1 + n6; omega, hl'⟩
      · rw [tot_app]
        have : tot [((1 + n6, l) : En)] = 1 + n6 := by simp [tot]
        omega
      · rw [List.length_append, hl]
        rfl
      · omega
    · rintro σ H' ⟨A, es, xs, gd, v5, v6, v7, v8, rfl, bu, sb, hg, hgb, hgl, hx, hR, hes, ht, hl, hA⟩
      have hm : (1 + m).toNat ≤ 4 := by omega
      have ok : EsOk es := ⟨fun e he => (hes e he).1, fun e he => (hes e he).2, by omega⟩
      refine ⟨_, rfl, _, rfl, p2, xs, es, 7, rfl, hx, hR, ok, ⟨by decide, by decide⟩, fun lq H2 nlq sl hlq => ?_⟩
      refine ⟨(by show 2 ≤ sizeLine; decide), ?_⟩
      walk_at "new7"
      refine k p7 p1 lq gd _ H7 (but_free bu sb (sl.free n7)) ((bu.trans (But.of sl)).trans (But.of s7)) ((sb.same sl).same s7) h7 n1F (but_free bu sb nlq) ((sl.trans s7) _ _ hg) (s7 _ _ hlq) hgb ?_ (tb_by ok) (lines_len ok (by omega) (by omega))
      omega
end
end K49
set_option maxHeartbeats 4000000
set_option pp.maxSteps 600
namespace K49
open PySem PySem.Spec PyProof.Rows L2 Nd
abbrev s_law_same : Stmt := top 47
structure GlTab (K : PySem.W.Frag) (mg : Str → Option Value) (Ct : Addr) : Prop where
  exc : ExcC K Ct
  xf : XfC K Ct
  noN : PySem.W.findIn K (.ref Ct) "at" = some none
  ce : ∃ CE : Addr, mg "CodeError" = some (.ref CE) ∧ PySem.W.kitOne K (.ref Ct) (.ref CE) = some true
  n_isinstance : mg "isinstance" = none
  gT : mg "NoTable" = some (.ref Ct)
  exm : PySem.W.exmOne K (.ref Ct) (.ref Ct) = some true
  gC : ∃ c : Addr, mg "NoCode" = some (.ref c) ∧ PySem.W.exmOne K (.ref Ct) (.ref c) = some false
  gR : ∃ c : Addr, mg "NoRows" = some (.ref c)
  gB : ∃ c : Addr, mg "NoBytes" = some (.ref c)
/-- told of «table» -/
def errToldT (Ct : Addr) (Q : VK) : XK := fun cls d H' => cls = .ref Ct ∧ ∃ (dd : Addr) (n : Int), d = some dd ∧ H' dd = some (.xd [("at", .int n)]) ∧ ∀ p, H' p = none → Q (.ref p) (upd H' p (.tup [.str "table", .int n]))
def TTt (Ct : Addr) : (XK → Hp → VK → Prop) → Hp → VK → Prop := fun tl H Q => tl (errToldT Ct Q) H (fun _ H' => Q .non H')
theorem caughtT_gives {X : Cx} {g : Addr} {cdg : Value} {q : Str} {Ct : Addr} (GE : GlTab X.K X.mg Ct) :
    LamX.GivesTo X N_law_caught "_law_caught" (defScope s_law_caught) g cdg (defBody s_law_caught) "ask" q (TTt Ct) := by
  obtain ⟨CE, gCE, kCE⟩ := GE.ce
  obtain ⟨cC, gC, xC⟩ := GE.gC
  obtain ⟨cR, gR⟩ := GE.gR
  obtain ⟨cB, gB⟩ := GE.gB
  intro f c' s H Q tl act hc h
  refine ⟨_, pss_cons (ps_try_all (X := (cxOf C8.CX0 X.prog X.w X.K X.mg X.base N_law_caught "_law_caught" (defScope s_law_caught) g cdg X.A X.stack s H C8.E0).nox) (i := 1) (n := "e") (Wout := fun _ _ _ _ => False)
      (tb := fun W D σ H => ∃ Ech : XK, (∀ cls d σ' H', Ech cls d H' → W cls d σ' H') ∧ σ[0]? = some (some (.ref f)) ∧ H c' = some (LamX.CodeO c' q) ∧ tl Ech H (fun _ H' => D.nx σ H'))
      rfl rfl sc_law_caught.nd rfl rfl LamX.takes0 (fun W pn xe tk _ => ?_)
      (HdAs.cons (c := .ref cC) ⟨rfl, by decide, .inl gC⟩ (fun a oe cls d pn hz hf => pss_never)
      (HdAs.cons (c := .ref Ct) ⟨rfl, by decide, .inl GE.gT⟩ (fun a oe cls d pn hz hf => pss_one (ps_ret (pe_ifExp (pt_val (pe_callB (call_isX hz hf) (by rfl) GE.n_isinstance Boot.«isinstance» (pa_cons (pv 1) (pa_cons (C8.pe_gc (v := .ref CE) rfl ⟨_, gCE, rfl⟩) pa_nil))))
          (pe_tup (pa_cons pe_str (pa_cons (pe_xf GE.xf GE.noN hz hf (pv 1)) pa_nil))) pe_non)))
      (HdAs.cons (c := .ref cR) ⟨rfl, by decide, .inl gR⟩ (fun a oe cls d pn hz hf => pss_never)
      (HdAs.cons (c := .ref cB) ⟨rfl, by decide, .inl gB⟩ (fun a oe cls d pn hz hf => pss_never) .nil)))))
      (pss_one (ps_ret pe_non)), ?_⟩
  · refine ⟨fun pins s' σ H' D I h' => ?_⟩
    obtain ⟨Ech, hW, h1, h2, h3⟩ := h'
    exact (pss_one (ps_expr (act W pn xe Ech _ _ tk hW))).run pins s' σ H' D I ⟨h1, h2, h3⟩
  · refine ⟨errToldT Ct Q, fun cls d σ' H' ⟨e1, dd, n, e2, e3, e4⟩ => ?_, rfl, hc, h⟩
    subst e1
    refine ⟨false, xC, (fun z => by cases z), fun _ => ⟨true, GE.exm, fun _ a na hlen => ?_, fun z => by cases z⟩⟩
    obtain ⟨y0, y1, rfl⟩ : ∃ y0 y1, σ' = [y0, y1] := by
      match σ', hlen with
      | [y0, y1], _ => exact ⟨y0, y1, rfl⟩
    refine ⟨_, rfl, Ct, dd, _, V.ref CE, .ref CE, true, rfl, GE.exc, e2, e3, rfl, fun u r => r, kCE, _, rfl, iteT ?_⟩
    exact ⟨_, rfl, rfl, rfl, dd, _, _, e2, e3, rfl, (by show 2 ≤ sizeLine; decide), fun p np => e4 p np⟩
/-! ### _law_same -/
def MonoT (tl : XK → Hp → VK → Prop) : Prop := ∀ (E E' : XK) (H : Hp) (Q Q' : VK), (∀ c d H, E c d H → E' c d H) → (∀ v H, Q v H → Q' v H) → tl E H Q → tl E' H Q'
theorem TTt.mono {Ct : Addr} {tl : XK → Hp → VK → Prop} {H : Hp} {Q Q' : VK} (m : MonoT tl) (h : TTt Ct tl H Q) (hQ : ∀ v H, Q v H → Q' v H) : TTt Ct tl H Q' :=
  m _ _ _ _ _ (fun c d H1 ⟨e1, dd, n, e2, e3, e4⟩ => ⟨e1, dd, n, e2, e3, fun p np => hQ _ _ (e4 p np)⟩) (fun _ H1 z => hQ _ _ z) h
def TTs (K : PySem.W.Frag) (Ct : Addr) (tl : XK → Hp → VK → Prop) (v : V) (H : Hp) (Q : VK) : Prop := MonoT tl ∧
  ((∃ n : Int, v = .int n ∧ TTt Ct tl H (fun r H1 => ∃ p, r = .ref p ∧ H1 p = some (.tup [.str "table", .int n]) ∧ ∀ H2, Same H1 H2 → Q (.bl true) H2)) ∨
  (∃ (lq : Addr) (d : PyData), v = .ref lq ∧ TyX K H v (.type "list") ∧ TTt Ct tl H (fun r H1 => r = .non ∧ Same H H1 ∧ tl (fun _ _ _ => False) H1 (fun r2 H2 => ∃ q2, r2 = .ref q2 ∧ Dp K H2 (.ref q2) d ∧ Dp K H2 (.ref lq) d ∧ d.showable = true ∧ d.hasDict = false ∧ d.depth ≤ 20 ∧ shB d ≤ 1000000 ∧ Q (.bl true) H2))))
theorem lay_tab (n : Int) : PyData.canLay0 (.tuple [.str "table", .int n]) = true := by
  simp only [PyData.canLay0, PyData.canLayAll0]
  decide +kernel
theorem eqv_tab (n : Int) : PyData.eqv (.tuple [.str "table", .int n]) (.tuple [.str "table", .int n]) = true := PySem.SeqAt.eqv_refl _ (lay_tab n)
theorem shaped_tab (n : Int) : SeqAt.shaped (.tuple [.str "table", .int n]) = true := by
  show (PyData.canLay0 (.tuple [.str "table", .int n]) && decide (PyData.depth (.tuple [.str "table", .int n]) ≤ 64)) = true
  rw [lay_tab]
  simp only [PyData.depth, PyData.depthAll]
  rfl
theorem kiI {K : PySem.W.Frag} : PySem.W.kitOne K (.type "int") (.type "int") = some true := kit_ty (by decide +kernel)
theorem kiL {K : PySem.W.Frag} : PySem.W.kitOne K (.type "list") (.type "int") = some false := kit_ty (by decide +kernel)
abbrev N_law_same : List Str := ["ask", "due"]
theorem sc_law_same : FnScope N_law_same ["ask", "due"] (defScope s_law_same) := ⟨rfl, rfl, rfl, by decide +kernel, rfl, by decide +kernel, by decide +kernel⟩
theorem same_gives {X : Cx} {g gc : Addr} {cdg : Value} {q : Str} {Ct : Addr} {fdc : FuncData} {k : Nat} (GE : GlTab X.K X.mg Ct) (n_int : X.mg "int" = none) (n_repr : X.mg "repr" = none) (hgu : X.A.guards = some [])
    (Fc : DefX X.K X.mg "_law_caught" s_law_caught ["ask"] gc fdc) : Gives2 X N_law_same "_law_same" (defScope s_law_same) g cdg (defBody s_law_same) q k (TTs X.K Ct) := by
  obtain ⟨ocg, odg, dVg, kVg, docg, pmg, ang, cdc, ctg, oslg, rfl, lkg, hcg, _, _⟩ := Fc.fn.ex
  intro f c' s H Q v tl act hr hc h
  obtain ⟨hm, h⟩ := h
  have hstk : ∀ b ∈ frs ((cxOf C8.CX0 X.prog X.w X.K X.mg X.base N_law_same "_law_same" (defScope s_law_same) g cdg X.A X.stack s H C8.E0).nox.stack), b ∈ frs X.stack ∨ s.heap.objs.size ≤ b := fun b hb => by
    rcases List.mem_filterMap.mp hb with ⟨e, he, hf⟩
    rcases List.mem_cons.mp he with z | z
    · subst z
      right
      have hf : some (envOfC "_law_same" (defScope s_law_same) s.heap.objs.size g cdg).locals = some b := hf
      have hb2 := Option.some.inj hf
      rw [← hb2]
      exact Nat.le_refl _
    · exact .inl (List.mem_filterMap.mpr ⟨e, z, hf⟩)
  have hgu' : (cxOf C8.CX0 X.prog X.w X.K X.mg X.base N_law_same "_law_same" (defScope s_law_same) g cdg X.A X.stack s H C8.E0).nox.A.guards = some [] := hgu
  have ask := fun p1 p2 => act N_law_same "_law_same" (defScope s_law_same) g cdg X.A X.stack s H 0 "ask" [] (fun _ _ => False) (fun _ _ _ _ => False) (fun _ _ _ => False) p1 p2 Un.refl (fun b hb => .inl hb) (hr.mono (Nat.le_succ _)) rfl (.inl rfl) rfl rfl LamX.takes0 (fun _ _ _ _ z => z)
  refine ⟨_, (pss_cons (ps_if (pt_val (pe_callB call_isi (by rfl) GE.n_isinstance Boot.«isinstance» (pa_cons (pv 1) (pa_cons (pe_bltn (v := .ty "int") (by rfl) n_int Boot.«int» rfl) pa_nil))))
      (pss_one (ps_ret (pe_cmpR (op_eqD hr.units) (pe_hand (q := q) rfl Fc.mgf Fc.fn.kp lkg hcg Fc.bi sc_law_caught (caughtT_gives GE) hr (pa_cons (pv 0) pa_nil)) (pe_tup (pa_cons pe_str (pa_cons (pv 1) pa_nil))) (nomark _))))
      pss_nil)
    (pss_one (ps_ret (pe_and (pe_cmpR op_isN (pe_hand (q := q) rfl Fc.mgf Fc.fn.kp lkg hcg Fc.bi sc_law_caught (caughtT_gives GE) hr (pa_cons (pv 0) pa_nil)) pe_non (nomark _)) (pe_one (pe_cmpR op_eq (pe_callB (call_repr hgu' hr.units) (by rfl) n_repr Boot.«repr» (pa_cons (ask _ _) pa_nil)) (pe_callB (call_repr hgu' hr.units) (by rfl) n_repr Boot.«repr» (pa_cons (pv 1) pa_nil)) (nomark _))))))), ?_⟩
  have ACT : ∀ (s1 : Shared), Un (frs X.stack) [] H H s.heap s1.heap → Room (k + 1) ((X.A.deeper (envOfC "_law_same" (defScope s_law_same) s.heap.objs.size g cdg)).deeper (envOfC "_law_caught" (defScope s_law_caught) s1.heap.objs.size gc cdc)) → _ := fun s1 u hr2 W pn xe E p1 p2 tk hW => act N_law_caught "_law_caught" (defScope s_law_caught) gc cdc _ _ s1 H 0 "ask" pn xe W E p1 p2 u hstk hr2 rfl (.inl rfl) rfl rfl tk hW
  rcases h with ⟨n, rfl, h⟩ | ⟨lq, d, rfl, ty, h⟩
  · refine ⟨_, rfl, V.int n, V.ty "int", _, .type "int", true, rfl, .ty "int", .base (.int n), kiI, _, rfl, iteT ?_⟩
    refine ⟨_, rfl, f, c', tl, rfl, hc, ACT, TTt.mono hm h ?_⟩
    rintro r H1 ⟨p, rfl, hp, hq⟩
    refine ⟨_, rfl, (by show 2 ≤ sizeLine; decide), ?_⟩
    walk_at "new2"
    refine ⟨_, _, Dp.tup (SqT.of (s2 _ _ hp)) (.cons (.str _) (.cons (.int _) .nil)), Dp.tup (SqT.of h2) (.cons (.str _) (.cons (.int _) .nil)), shaped_tab _, shaped_tab _, ?_⟩
    rw [eqv_tab]
    exact hq _ s2
  · refine ⟨_, rfl, V.ref lq, V.ty "int", _, .type "int", false, rfl, .ty "int", ty, kiL, _, rfl, iteF ?_⟩
    refine ⟨_, rfl, f, c', tl, rfl, hc, ACT, TTt.mono hm h ?_⟩
    rintro r H1 ⟨rfl, sm, htl⟩
    refine ⟨rfl, _, rfl, iteT ?_⟩
    refine ⟨rfl, sm _ _ hc, hm _ _ _ _ _ (fun _ _ _ z => z) ?_ htl⟩
    rintro r2 H2 ⟨q2, rfl, D1, D2, w1, w2, w3, w4, hq⟩
    refine ⟨q2, d, rfl, D1, w1, w2, w3, w4, _, rfl, lq, d, rfl, D2, w1, w2, w3, w4, rfl, ?_⟩
    have e : decide (V.str d.shown = V.str d.shown) = true := decide_eq_true rfl
    rw [e]
    exact hq
end K49
set_option maxHeartbeats 4000000
set_option pp.maxSteps 600
namespace K49
open PySem PySem.Spec PyProof.Rows L2 Nd
/-! ### how great the told numbers are -/
def Big (i : Int) : Prop := i.natAbs < 10 ^ 300
theorem big_of {i : Int} (h1 : -(8 * 64 ^ 163) ≤ i) (h2 : i ≤ 8 * 64 ^ 163) : Big i := by
  have e : (8 * 64 ^ 163 : Nat) < 10 ^ 300 := by decide +kernel
  have e2 : ((8 * 64 ^ 163 : Nat) : Int) = 8 * 64 ^ 163 := by decide +kernel
  unfold Big
  rw [← e2] at h1 h2
  refine Nat.lt_of_le_of_lt ?_ e
  omega
theorem pw162 {d : List Int} (h : d.length ≤ 161) : (64 : Int) ^ (1 + d.length) ≤ 64 ^ 162 := pw_le (by omega)
def R5.Ok (r : R5) : Prop := Big r.lo ∧ Big r.hi ∧ Big r.tg ∧ Big r.dp
theorem four_ok {d : List Int} (b : Byts d) (hd : d.length ≤ 161) {i j : Nat} {r : R5} (hi : i ≤ d.length) (h : four d i = (some r, j)) : r.Ok ∧ j ≤ d.length ∧ i < j := by
  have pw := pw162 hd
  have e64 : (64 : Int) ^ 163 = 64 ^ 162 * 64 := Int.pow_succ ..
  have key : ∀ {i : Nat} {f : Bool} {m : Int} {j : Nat}, i ≤ d.length → numAt d i f = (some m, j) → 0 ≤ m ∧ m < 64 ^ 162 ∧ j ≤ d.length ∧ i < j := fun {i f m j} hi e => by
    obtain ⟨a1, a2⟩ := numAt_lt b hi (m := m) (first := f) (by rw [e])
    obtain ⟨l1, l2, l3⟩ := numAt_le (d := d) (first := f) hi
    rw [e] at l1 l3
    exact ⟨a1, Int.lt_of_lt_of_le a2 pw, l1, l3 m rfl⟩
  unfold four at h
  split at h
  · cases h
  · rename_i a j1 e1
    obtain ⟨a0, a1, a2, a3⟩ := key hi e1
    split at h
    · cases h
    · rename_i b' j2 e2
      obtain ⟨b0, b1, b2, b3⟩ := key a2 e2
      split at h
      · cases h
      · rename_i c j3 e3
        obtain ⟨c0, c1, c2, c3⟩ := key b2 e3
        split at h
        · cases h
        · rename_i e j4 e4
          obtain ⟨f0, f1, f2, f3⟩ := key c2 e4
          cases h
          generalize (64 : Int) ^ 162 = B at a1 b1 c1 f1 e64
          generalize eB : (64 : Int) ^ 163 = B' at e64
          refine ⟨⟨big_of ?_ ?_, big_of ?_ ?_, big_of ?_ ?_, big_of ?_ ?_⟩, f2, by omega⟩ <;> rw [eB] <;> simp only [mkR] <;> omega
theorem hGo_ok {d : List Int} (b : Byts d) (hd : d.length ≤ 161) : ∀ (f i : Nat) (acc rs : List R5), i ≤ d.length → (∀ r ∈ acc, r.Ok) → acc.length ≤ i → hGo d f i acc = .inl rs → (∀ r ∈ rs, r.Ok) ∧ rs.length ≤ d.length
  | 0, i, acc, rs, hi, ha, hl, h => by
    cases h
    exact ⟨ha, Nat.le_trans hl hi⟩
  | f + 1, i, acc, rs, hi, ha, hl, h => by
    unfold hGo at h
    split at h
    · cases h
      exact ⟨ha, Nat.le_trans hl hi⟩
    · split at h
      · cases h
      · rename_i r j e
        obtain ⟨o1, o2, o3⟩ := four_ok b hd hi e
        refine hGo_ok b hd f j (acc ++ [r]) rs o2 (fun x hx => ?_) ?_ h
        · rcases List.mem_append.mp hx with z | z
          · exact ha x z
          · rw [List.mem_singleton.mp z]
            exact o1
        · rw [List.length_append]
          show acc.length + 1 ≤ j
          omega
theorem hRead_ok {d : List Int} (b : Byts d) (hd : d.length ≤ 161) {rs : List R5} (h : hRead d = .inl rs) : (∀ r ∈ rs, r.Ok) ∧ rs.length ≤ d.length := hGo_ok b hd d.length 0 [] rs (Nat.zero_le _) (fun r h => by simp at h) (Nat.le_refl _) h
def R3.Ok (r : R3) : Prop := Big r.lo ∧ Big r.hi ∧ ∀ i, r.ln = some i → Big i
theorem lGo_ok {d : List Int} {B : Int} (b : Byts d) (hd : d.length ≤ 161) (pos : 0 < B) (pw : (64 : Int) ^ (0 + (d.length + 1)) ≤ B) (hb : ∀ x : Int, -((162 + 1) * B) ≤ x → x ≤ (162 + 1) * B → Big x) (sm : ∀ x : Int, 0 ≤ x → x ≤ 16 * 162 → Big x) : ∀ (f i : Nat) (lo line : Int) (acc rs : List R3), i ≤ d.length → 0 ≤ lo → lo ≤ 16 * i → -((i : Int) + 1) * B ≤ line → line ≤ ((i : Int) + 1) * B → (∀ r ∈ acc, r.Ok) → acc.length ≤ i → lGo d f i lo line acc = .inl rs → (∀ r ∈ rs, r.Ok) ∧ rs.length ≤ d.length
  | 0, i, lo, line, acc, rs, hi, _, _, _, _, ha, hl, h => by
    cases h
    exact ⟨ha, Nat.le_trans hl hi⟩
  | f + 1, i, lo, line, acc, rs, hi, l0, l1, n0, n1, ha, hl, h => by
    unfold lGo at h
    split at h
    · cases h
      exact ⟨ha, Nat.le_trans hl hi⟩
    · rename_i c
      have hlt : i < d.length := by omega
      obtain ⟨g0, g1⟩ := b.g hlt
      have r8 : 0 ≤ g d i % 8 ∧ g d i % 8 < 8 := ⟨by omega, by omega⟩
      split at h
      · cases h
      · split at h
        · split at h
          · cases h
          · rename_i m j es
            obtain ⟨j1, j2⟩ := sgAt_le (d := d) (i := i + 1) (by omega)
            rw [es] at j1 j2
            have j1 : j ≤ d.length := j1
            have j2 : i + 1 ≤ j := j2
            obtain ⟨m1, m2⟩ := sgGo_lt d (d.length + 1) (i + 1) 0 0 (Int.le_refl _) (by decide) m (by
              show (sgAt d (i + 1)).1 = some m
              rw [es])
            have pw0 := pw
            generalize (64 : Int) ^ (0 + (d.length + 1)) = B0 at m1 m2 pw0
            have q1 : line + m ≤ ((i : Int) + 1 + 1) * B := by
              rw [Int.add_mul _ 1, Int.one_mul]
              omega
            have q0 : -(((i : Int) + 1 + 1) * B) ≤ line + m := by
              have n0' : -(((i : Int) + 1) * B) ≤ line := by rw [← Int.neg_mul]; exact n0
              rw [Int.add_mul _ 1, Int.one_mul]
              omega
            have up : ((i : Int) + 1 + 1) * B ≤ ((j : Int) + 1) * B := Int.mul_le_mul_of_nonneg_right (by omega) (Int.le_of_lt pos)
            have up2 : ((i : Int) + 1 + 1) * B ≤ (162 + 1) * B := Int.mul_le_mul_of_nonneg_right (by omega) (Int.le_of_lt pos)
            refine lGo_ok b hd pos pw hb sm f j _ _ _ rs j1 (by omega) (by omega) ?_ (Int.le_trans q1 up) (fun x hx => ?_) ?_ h
            · rw [Int.neg_mul]
              exact Int.le_trans (Int.neg_le_neg up) q0
            · rcases List.mem_append.mp hx with z | z
              · exact ha x z
              · rw [List.mem_singleton.mp z]
                refine ⟨sm _ l0 (by show lo ≤ _; omega), sm _ (by show 0 ≤ lo + 2 * (g d i % 8 + 1); omega) (by show lo + 2 * (g d i % 8 + 1) ≤ _; omega), fun y ey => ?_⟩
                cases ey
                exact hb _ (Int.le_trans (Int.neg_le_neg up2) q0) (Int.le_trans q1 up2)
            · rw [List.length_append]
              show acc.length + 1 ≤ j
              omega
        · have up : ((i : Int) + 1) * B ≤ (((i + 1 : Nat) : Int) + 1) * B := Int.mul_le_mul_of_nonneg_right (by omega) (Int.le_of_lt pos)
          refine lGo_ok b hd pos pw hb sm f (i + 1) _ _ _ rs hlt (by omega) (by omega) ?_ (Int.le_trans n1 up) (fun x hx => ?_) ?_ h
          · rw [Int.neg_mul] at n0 ⊢
            exact Int.le_trans (Int.neg_le_neg up) n0
          · rcases List.mem_append.mp hx with z | z
            · exact ha x z
            · rw [List.mem_singleton.mp z]
              exact ⟨sm _ l0 (by show lo ≤ _; omega), sm _ (by show 0 ≤ lo + 2 * (g d i % 8 + 1); omega) (by show lo + 2 * (g d i % 8 + 1) ≤ _; omega), fun y ey => by cases ey⟩
          · rw [List.length_append]
            show acc.length + 1 ≤ i + 1
            omega
theorem lRead_ok {d : List Int} (b : Byts d) (hd : d.length ≤ 161) {rs : List R3} (h : lRead d 7 = .inl rs) : (∀ r ∈ rs, r.Ok) ∧ rs.length ≤ d.length := by
  have pos : (0 : Int) < 64 ^ 162 := by decide +kernel
  have ebig : (162 + 1) * (64 : Int) ^ 162 ≤ 8 * 64 ^ 163 := by decide +kernel
  have e7 : (7 : Int) ≤ 64 ^ 162 := by decide +kernel
  have es : (16 * 162 : Int) ≤ 8 * 64 ^ 163 := by decide +kernel
  have ez : -(8 * 64 ^ 163 : Int) ≤ 0 := by decide +kernel
  have pw : (64 : Int) ^ (0 + (d.length + 1)) ≤ 64 ^ 162 := pw_le (by omega)
  have hb : ∀ x : Int, -((162 + 1) * 64 ^ 162) ≤ x → x ≤ (162 + 1) * 64 ^ 162 → Big x := fun x h1 h2 => big_of (Int.le_trans (Int.neg_le_neg ebig) h1) (Int.le_trans h2 ebig)
  have sm : ∀ x : Int, 0 ≤ x → x ≤ 16 * 162 → Big x := fun x h1 h2 => big_of (Int.le_trans ez h1) (Int.le_trans h2 es)
  generalize (64 : Int) ^ 162 = B at pos e7 pw hb
  refine lGo_ok (B := B) b hd pos pw hb sm d.length 0 0 7 [] rs (Nat.zero_le _) (Int.le_refl _) (Int.le_refl _) ?_ ?_ (fun r h => by simp at h) (Nat.le_refl _) h
  · show -((0 : Int) + 1) * B ≤ 7
    omega
  · show (7 : Int) ≤ ((0 : Int) + 1) * B
    omega
theorem jstep_ok {acc : List R3} {r : R3} (h : ∀ x ∈ acc, x.Ok) (hr : r.Ok) : ∀ x ∈ jstep acc r, x.Ok := by
  rcases List.eq_nil_or_concat acc with rfl | ⟨qs, q, rfl⟩
  · intro x hx
    rw [jstep_nil] at hx
    rw [List.mem_singleton.mp hx]
    exact hr
  · rw [List.concat_eq_append] at h ⊢
    by_cases c : q.ln = r.ln
    · rw [jstep_eq c]
      intro x hx
      rcases List.mem_append.mp hx with z | z
      · exact h x (by simp [z])
      · rw [List.mem_singleton.mp z]
        exact ⟨(h q (by simp)).1, hr.2.1, hr.2.2⟩
    · rw [jstep_ne c]
      intro x hx
      rcases List.mem_append.mp hx with z | z
      · exact h x z
      · rw [List.mem_singleton.mp z]
        exact hr
theorem fold_ok : ∀ (rs acc : List R3), (∀ x ∈ acc, x.Ok) → (∀ x ∈ rs, x.Ok) → ∀ x ∈ rs.foldl jstep acc, x.Ok
  | [], acc, h, _ => h
  | r :: t, acc, h, hr => fold_ok t (jstep acc r) (jstep_ok h (hr r (by simp))) fun x hx => hr x (by simp [hx])
theorem join_ok {rs : List R3} (h : ∀ x ∈ rs, x.Ok) : ∀ x ∈ joinR rs, x.Ok := fold_ok rs [] (fun x hx => by simp at hx) h
/-! shown -/
theorem int_shown {i : Int} (h : Big i) : (PyData.int i).showable = true ∧ shB (.int i) ≤ 301 := by
  refine ⟨?_, ?_⟩
  · show decide (i.natAbs.log2 < 1920) = true
    refine decide_eq_true ?_
    by_cases z : i.natAbs = 0
    · rw [z]
      decide
    · refine Nat.lt_trans ((Nat.log2_lt z).mpr (Nat.lt_of_lt_of_le h (by decide +kernel : 10 ^ 300 ≤ 2 ^ 1900))) (by decide)
  · show (Str.ofString (toString (i : Int))).length ≤ 301
    have e := PySem.int_text_length_le10 (a := i) (k := 300) (by decide) h
    rw [PySem.ofString_length]
    omega
theorem r5_shown {r : R5} (h : r.Ok) : (PyData.tuple r.ds).showable = true ∧ (PyData.tuple r.ds).hasDict = false ∧ (PyData.tuple r.ds).depth = 1 ∧ shB (.tuple r.ds) ≤ 1300 := by
  obtain ⟨a1, a2⟩ := int_shown h.1
  obtain ⟨b1, b2⟩ := int_shown h.2.1
  obtain ⟨c1, c2⟩ := int_shown h.2.2.1
  obtain ⟨d1, d2⟩ := int_shown h.2.2.2
  have w : (PyData.bool r.wt).showable = true := rfl
  have w2 : shB (.bool r.wt) ≤ 5 := by
    cases r.wt <;> decide
  refine ⟨?_, ?_, ?_, ?_⟩
  · show PyData.showableAll _ = true
    simp only [R5.ds, PyData.showableAll, a1, b1, c1, d1, w]
    rfl
  · rfl
  · show PyData.depthAll _ + 1 = 1
    rfl
  · show shBs _ + 3 ≤ 1300
    simp only [R5.ds, shBs]
    omega
theorem rows5_shown : ∀ rs : List R5, (∀ r ∈ rs, r.Ok) → PyData.showableAll (rs.map fun r => .tuple r.ds) = true ∧ PyData.hasDictAll (rs.map fun r => .tuple r.ds) = false ∧ PyData.depthAll (rs.map fun r => .tuple r.ds) ≤ 1 ∧ shBs (rs.map fun r => .tuple r.ds) ≤ 1302 * rs.length
  | [], _ => by simp [PyData.showableAll, PyData.hasDictAll, PyData.depthAll, shBs]
  | r :: t, h => by
    obtain ⟨h1, h2, h3, h4⟩ := rows5_shown t fun m q => h m (by simp [q])
    obtain ⟨g1, g2, g3, g4⟩ := r5_shown (h r (by simp))
    refine ⟨?_, ?_, ?_, ?_⟩
    · simp only [List.map_cons, PyData.showableAll, h1, g1]
      rfl
    · simp only [List.map_cons, PyData.hasDictAll, h2, g2]
      rfl
    · simp only [List.map_cons, PyData.depthAll, g3]
      omega
    · simp only [List.map_cons, shBs, List.length_cons]
      omega
def rows5D (rs : List R5) : PyData := .list (rs.map fun r => .tuple r.ds)
theorem rows5D_shown {rs : List R5} (h : ∀ r ∈ rs, r.Ok) (hl : rs.length ≤ 161) : (rows5D rs).showable = true ∧ (rows5D rs).hasDict = false ∧ (rows5D rs).depth ≤ 20 ∧ shB (rows5D rs) ≤ 1000000 := by
  obtain ⟨h1, h2, h3, h4⟩ := rows5_shown rs h
  refine ⟨?_, ?_, ?_, ?_⟩
  · show PyData.showable (.list _) = true
    simp only [PyData.showable, h1]
  · show PyData.hasDict (.list _) = false
    simp only [PyData.hasDict, h2]
  · show PyData.depth (.list _) ≤ 20
    simp only [PyData.depth]
    omega
  · show shBs _ + 2 ≤ 1000000
    omega
theorem dp_r5 {K : PySem.W.Frag} {H : Hp} (r : R5) : DpAll K H r.vs r.ds := .cons (.int _) (.cons (.int _) (.cons (.int _) (.cons (.int _) (.cons (.bl _) .nil))))
theorem ln_shown {o : Option Int} (h : ∀ i, o = some i → Big i) : (lnD o).showable = true ∧ (lnD o).hasDict = false ∧ (lnD o).depth = 0 ∧ shB (lnD o) ≤ 301 := by
  cases o with
  | none => exact ⟨rfl, rfl, rfl, by show 4 ≤ 301; decide⟩
  | some i =>
    obtain ⟨a, b⟩ := int_shown (h i rfl)
    exact ⟨a, rfl, rfl, b⟩
theorem r3_shown {r : R3} (h : r.Ok) : (PyData.tuple r.ds).showable = true ∧ (PyData.tuple r.ds).hasDict = false ∧ (PyData.tuple r.ds).depth = 1 ∧ shB (.tuple r.ds) ≤ 1000 := by
  obtain ⟨a1, a2⟩ := int_shown h.1
  obtain ⟨b1, b2⟩ := int_shown h.2.1
  obtain ⟨c1, c2, c3, c4⟩ := ln_shown h.2.2
  refine ⟨?_, ?_, ?_, ?_⟩
  · show PyData.showableAll _ = true
    simp only [R3.ds, PyData.showableAll, a1, b1, c1]
    rfl
  · show PyData.hasDictAll _ = false
    simp only [R3.ds, PyData.hasDictAll, c2]
    rfl
  · show PyData.depthAll _ + 1 = 1
    simp only [R3.ds, PyData.depthAll, c3]
    rfl
  · show shBs _ + 3 ≤ 1000
    simp only [R3.ds, shBs]
    omega
theorem rows3_shown : ∀ rs : List R3, (∀ r ∈ rs, r.Ok) → PyData.showableAll (rs.map fun r => .tuple r.ds) = true ∧ PyData.hasDictAll (rs.map fun r => .tuple r.ds) = false ∧ PyData.depthAll (rs.map fun r => .tuple r.ds) ≤ 1 ∧ shBs (rs.map fun r => .tuple r.ds) ≤ 1002 * rs.length
  | [], _ => by simp [PyData.showableAll, PyData.hasDictAll, PyData.depthAll, shBs]
  | r :: t, h => by
    obtain ⟨h1, h2, h3, h4⟩ := rows3_shown t fun m q => h m (by simp [q])
    obtain ⟨g1, g2, g3, g4⟩ := r3_shown (h r (by simp))
    refine ⟨?_, ?_, ?_, ?_⟩
    · simp only [List.map_cons, PyData.showableAll, h1, g1]
      rfl
    · simp only [List.map_cons, PyData.hasDictAll, h2, g2]
      rfl
    · simp only [List.map_cons, PyData.depthAll, g3]
      omega
    · simp only [List.map_cons, shBs, List.length_cons]
      omega
theorem rows3D_shown {rs : List R3} (h : ∀ r ∈ rs, r.Ok) (hl : rs.length ≤ 161) : (rowsD rs).showable = true ∧ (rowsD rs).hasDict = false ∧ (rowsD rs).depth ≤ 20 ∧ shB (rowsD rs) ≤ 1000000 := by
  obtain ⟨h1, h2, h3, h4⟩ := rows3_shown rs h
  refine ⟨?_, ?_, ?_, ?_⟩
  · show PyData.showable (.list _) = true
    simp only [PyData.showable, h1]
  · show PyData.hasDict (.list _) = false
    simp only [PyData.hasDict, h2]
  · show PyData.depth (.list _) ≤ 20
    simp only [PyData.depth]
    omega
  · show shBs _ + 2 ≤ 1000000
    omega
end K49
set_option maxHeartbeats 4000000
set_option pp.maxSteps 600
namespace K49
open PySem PySem.Spec PyProof.Rows L2 Nd
abbrev s_law : Stmt := top 48
theorem spExc.mono {K : PySem.W.Frag} {Cc Ct : Addr} {vs : List V} {H : Hp} {Q Q' : VK} {E E' : XK} (hE : ∀ c d H, E c d H → E' c d H) (hQ : ∀ v H, Q v H → Q' v H) (h : spExc K Cc Ct vs H Q E) : spExc K Cc Ct vs H Q' E' := by
  obtain ⟨a, dx, fs, hh, d, e1, e2, e3, e4, e5, k, kE⟩ := h
  exact ⟨a, dx, fs, hh, d, e1, e2, e3, e4, e5, fun rs er q H' xs n s h1 h2 => hQ _ _ (k rs er q H' xs n s h1 h2), fun j ej dd H' s n => hE _ _ _ (kE j ej dd H' s n)⟩
theorem spLin.mono {K : PySem.W.Frag} {Cc Ct : Addr} {vs : List V} {H : Hp} {Q Q' : VK} {E E' : XK} (hE : ∀ c d H, E c d H → E' c d H) (hQ : ∀ v H, Q v H → Q' v H) (h : spLin K Cc Ct vs H Q E) : spLin K Cc Ct vs H Q' E' := by
  obtain ⟨a, dx, fs, line, hh, d, e1, e2, e3, e0, e4, e5, k, kE⟩ := h
  exact ⟨a, dx, fs, line, hh, d, e1, e2, e3, e0, e4, e5, fun rs er q H' xs n s h1 h2 => hQ _ _ (k rs er q H' xs n s h1 h2), fun j ej dd H' s n => hE _ _ _ (kE j ej dd H' s n)⟩
def lamQ : Str := (envOfC "law" (defScope s_law) 0 0 .none).qual ++ "<lambda>"
/-- what the law keeps -/
structure Zs (Pt pl ps : Addr) (cells : List V) (H : Hp) : Prop where
  np : pl ≠ ps
  L : H pl = some (.lst cells)
  S : Src H ps
  B : LamX.Tabs [(Pt, lamQ)] H
section
variable {Pt pl ps : Addr} {cells : List V} {H H' : Hp}
theorem Zs.ext (h : Zs Pt pl ps cells H) (s : LamX.ExtN H H') (B' : LamX.Tabs [(Pt, lamQ)] H') : Zs Pt pl ps cells H' := by
  obtain ⟨np, L, ⟨x, y, z, e, q⟩, B⟩ := h
  exact ⟨np, s _ _ L (fun _ z => by cases z), ⟨x, y, z, s _ _ e (fun _ z => by cases z), q⟩, B'⟩
theorem Zs.same (h : Zs Pt pl ps cells H) (s : Same H H') : Zs Pt pl ps cells H' := h.ext (LamX.ExtN.of s) (h.B.ext s)
theorem Tabs_but {T : List (Addr × Str)} {a : Addr} {ys : List V} (h : LamX.Tabs T H) (b : But a H H') (ha : H a = some (.lst ys)) : LamX.Tabs T H' := fun p hp => by
  obtain ⟨ps, h1, h2, h3⟩ := h p hp
  refine ⟨ps, b _ _ (fun z => by rw [z, ha] at h1; cases h1) h1, h2, fun pos cv hc => ?_⟩
  obtain ⟨c, e1, e2⟩ := h3 pos cv hc
  exact ⟨c, e1, b _ _ (fun z => by rw [z, ha] at e2; cases e2) e2⟩
theorem Zs.but (h : Zs Pt pl ps cells H) (b : But ps H H') (s : Src H' ps) : Zs Pt pl ps cells H' := by
  obtain ⟨np, L, S, B⟩ := h
  obtain ⟨x, y, z, e, _⟩ := id S
  exact ⟨np, b _ _ np L, s, Tabs_but B b e⟩
theorem Zs.put {D : Addr} {xs ys : List V} (h : Zs Pt pl ps cells H) (hD : H D = some (.lst xs)) (d1 : D ≠ ps) (d2 : D ≠ pl) : Zs Pt pl ps cells (upd H D (.lst ys)) := by
  obtain ⟨np, L, ⟨x, y, z, e, q⟩, B⟩ := h
  have b : But D H (upd H D (.lst ys)) := fun q o n e => by rw [upd_ne n]; exact e
  exact ⟨np, b _ _ d2.symm L, ⟨x, y, z, b _ _ d1.symm e, q⟩, Tabs_but B b hD⟩
end
structure Cals (P : Program) (w : World) (K : PySem.W.Frag) (mg : Str → Option Value) (base : Heap) (Cc Ct : Addr) : Prop where
  source_of : CalX P w K mg base 1 "_law_source_of" spSource
  next : CalX P w K mg base 1 "_law_next" spNext
  good : CalX P w K mg base 4 "_law_good" spGood
  bent : CalX P w K mg base 3 "_law_bent" spBent
  made : CalX P w K mg base 6 "_law_made" (spMade Cc)
  hread : CalX P w K mg base 2 "_law_handlers_read" (spHRead K)
  lread : CalX P w K mg base 2 "_law_lines_read" (spLRead K)
  exc : CalX P w K mg base 3 "exception_rows" (spExc K Cc Ct)
  lin : CalX P w K mg base 3 "line_rows" (spLin K Cc Ct)
def spLaw (K : PySem.W.Frag) (Pt : Addr) : Sp := fun vs H Q _ => ∃ (a : Addr) (ns : List Int), vs = [.ref a] ∧ ScrL K H a (ns.map V.int) ∧ ns.length ≤ 100000 ∧ LamX.Tabs [(Pt, lamQ)] H ∧ ∀ H', Q (.bl true) H'
abbrev N_law : List Str := ["script", "cell", "source", "turn", "guards", "lines", "made", "k"]
theorem sc_law : FnScope N_law ["script"] (defScope s_law) := ⟨rfl, rfl, rfl, by decide +kernel, rfl, by decide +kernel, by decide +kernel⟩
theorem room8 : Room 8 callerA := ⟨rfl, by decide, by decide⟩
section
variable {P : Program} {w : World} {K : PySem.W.Frag} {mg : Str → Option Value} {base : Heap} {Cc Ct fa c Pt : Addr}
theorem ok_law {gs gc : Addr} {fds fdc : FuncData} {dV kV doc pm ct oc : Value} {an od : Option Addr} {osl : Array (Option Value)} (T : Gl0 mg) (n_repr : mg "repr" = none) (GE : GlTab K mg Ct) (C : Cals P w K mg base Cc Ct)
    (Fs : DefX K mg "_law_same" s_law_same ["ask", "due"] gs fds) (Fc : DefX K mg "_law_caught" s_law_caught ["ask"] gc fdc)
    (lk : K.lookup fa = some ⟨oc, od, .func (PySem.W.fnOf "law" "law" (defArgs s_law) (defBody s_law) (defScope s_law) dV kV doc pm an (.ref c) ct), osl⟩) (hcd : PySem.W.codeIn K (.ref c) "law" = true)
    (hb : ∀ (s : Shared) (us : List Value), us.length = 1 → BindsTo s (PySem.W.fnOf "law" "law" (defArgs s_law) (defBody s_law) (defScope s_law) dV kV doc pm an (.ref c) ct) ⟨us, []⟩ ((["script"] : List Str).zip us))
    (TB : LamX.TabB base mg c Pt) : RunsAt P w K mg base fa (spLaw K Pt) := by
  obtain ⟨ocg, odg, dVg, kVg, docg, pmg, ang, cdg, ctg, oslg, rfl, lkg, hcg, _, _⟩ := Fs.fn.ex
  intro a s H e0 h
  refine LamX.run_ofS (CX := CX0) (N := N_law) (ps := ["script"]) (us := [.ref a]) (vs := [.ref a]) lk hcd sc_law (A := callerA) (outer := []) room8 e0 (hb s [.ref a] rfl) (.cons rfl .nil) rfl fun hr => ?_
  obtain ⟨a', ns, ea, hs, hlen, hT, k⟩ := h
  cases ea
  refine ⟨_, PSs.nox (pss_cons (ps_for PassesOwn.never rfl (pi_list (pe_slice sl_list (pe_op op_catS (pv 0) (pe_lst (pa_cons pe_int pa_nil))) po_none (po_some pe_int))) (pg_name (i := 1) sc_law.nd rfl (.inl rfl))
      (pss_cons (ps_set (i := 2) sc_law.nd rfl (.inr rfl) (pe_cx C.source_of hr (by decide) rfl (pa_cons (pv 1) pa_nil)))
    (pss_one (ps_for PassesOwn.never rfl (pi_range1 (by rfl) T.n_range (pa_cons pe_int pa_nil)) (pg_name (i := 3) sc_law.nd rfl (.inl rfl))
      (pss_cons (ps_asg (pe_cx C.good hr (by decide) rfl (pa_cons (pv 2) pa_nil)) (pg_tup (by rfl) (pgs_cons (pg_name (i := 4) sc_law.nd rfl (.inl rfl)) (pgs_cons (pg_name (i := 5) sc_law.nd rfl (.inl rfl)) pgs_nil))))
    (pss_cons (ps_if (pt_cmpR op_gt (pv 3) pe_int (nomark _))
      (pss_cons (ps_set (i := 4) sc_law.nd rfl (.inl rfl) (pe_cx C.bent hr (by decide) rfl (pa_cons (pv 2) (pa_cons (pv 4) (pa_cons (pe_lst (pa_cons pe_int (pa_cons pe_int (pa_cons pe_int (pa_cons pe_int (pa_cons pe_int (pa_cons pe_int (pa_cons pe_int (pa_cons pe_int (pa_cons pe_int pa_nil)))))))))) pa_nil)))))
    (pss_one (ps_set (i := 5) sc_law.nd rfl (.inl rfl) (pe_cx C.bent hr (by decide) rfl (pa_cons (pv 2) (pa_cons (pv 5) (pa_cons (pe_lst (pa_cons pe_int (pa_cons pe_int (pa_cons pe_int (pa_cons pe_int (pa_cons pe_int (pa_cons pe_int (pa_cons pe_int (pa_cons pe_int (pa_cons pe_int (pa_cons pe_int (pa_cons pe_int (pa_cons pe_int pa_nil))))))))))))) pa_nil)))))))
      pss_nil)
    (pss_cons (ps_if (pt_cmpR op_eq (pv 3) pe_int (nomark _))
      (pss_cons (ps_setLc (i := 4) (y := "guards") (own := [("k", 7)]) (g := gName 7) (tt := tYes) rfl sc_law.nd rfl rfl (sw_true rfl rfl rfl (by decide +kernel)) (pi_range1 (by rfl) T.n_range (pa_cons (pe_cx C.next hr (by decide) rfl (pa_cons (pv 2) (pa_cons pe_int pa_nil))) pa_nil)) (blkOk_by (own := [("k", 7)]) (N := N_law) (sc := defScope s_law) (by decide +kernel)) (fun _ _ _ _ _ => (pg_name (i := 7) sc_law.nd rfl (Or.inl rfl))) (fun _ _ _ _ _ => pts_nil) (fun _ _ _ _ _ => (pe_cx C.next hr (by decide) rfl (pa_cons (pv 2) (pa_cons pe_int pa_nil)))))
    (pss_one (ps_setLc (i := 5) (y := "lines") (own := [("k", 7)]) (g := gName 7) (tt := tYes) rfl sc_law.nd rfl rfl (sw_true rfl rfl rfl (by decide +kernel)) (pi_range1 (by rfl) T.n_range (pa_cons (pe_cx C.next hr (by decide) rfl (pa_cons (pv 2) (pa_cons pe_int pa_nil))) pa_nil)) (blkOk_by (own := [("k", 7)]) (N := N_law) (sc := defScope s_law) (by decide +kernel)) (fun _ _ _ _ _ => (pg_name (i := 7) sc_law.nd rfl (Or.inl rfl))) (fun _ _ _ _ _ => pts_nil) (fun _ _ _ _ _ => (pe_cx C.next hr (by decide) rfl (pa_cons (pv 2) (pa_cons pe_int pa_nil)))))))
      pss_nil)
    (pss_cons (ps_set (i := 6) sc_law.nd rfl (.inr rfl) (pe_cx C.made hr (by decide) rfl (pa_cons (pe_lst (pa_cons pe_int (pa_cons pe_int pa_nil))) (pa_cons (pv 5) (pa_cons (pv 4) (pa_cons pe_int pa_nil))))))
    (pss_cons (ps_if (pt_not (pt_val (pe_lam2 (k := 4) (T := [(Pt, lamQ)]) (TT := TTs K Ct) (Ng := N_law_same) rfl Fs.mgf Fs.fn.kp lkg hcg Fs.bi sc_law_same (same_gives GE T.n_int n_repr rfl Fc) TB rfl (List.mem_singleton.mpr rfl) (fun p hp _ => by rw [List.mem_singleton.mp hp]; rfl) hr (LamX.lamS_by (sc := defScope s_law) (by decide +kernel)) rfl (fun _ _ _ _ _ => rfl)
        (fun A outer s H E f c' hr' => pe_cr (E := E) C.exc hr' (by decide) rfl (passE (takes_of rfl rfl rfl rfl)) (pa_cons (pv 6) pa_nil)) (pe_cx C.hread hr (by decide) rfl (pa_cons (pv 4) pa_nil)))))
      (pss_one (ps_ret pe_bl))
      pss_nil)
    (pss_one (ps_if (pt_not (pt_val (pe_lam2 (k := 4) (T := [(Pt, lamQ)]) (TT := TTs K Ct) (Ng := N_law_same) rfl Fs.mgf Fs.fn.kp lkg hcg Fs.bi sc_law_same (same_gives GE T.n_int n_repr rfl Fc) TB rfl (List.mem_singleton.mpr rfl) (fun p hp _ => by rw [List.mem_singleton.mp hp]; rfl) hr (LamX.lamS_by (sc := defScope s_law) (by decide +kernel)) rfl (fun _ _ _ _ _ => rfl)
        (fun A outer s H E f c' hr' => pe_cr (E := E) C.lin hr' (by decide) rfl (passE (takes_of rfl rfl rfl rfl)) (pa_cons (pv 6) pa_nil)) (pe_cx C.lread hr (by decide) rfl (pa_cons (pv 5) (pa_cons pe_int pa_nil))))))
      (pss_one (ps_ret pe_bl))
      pss_nil)))))))))))
    (pss_one (ps_ret pe_bl))), ?_⟩
  refine ⟨_, rfl, (by show 1 ≤ sizeLine; decide), ?_⟩
  walk_at "new1"
  refine ⟨a, p1, _, _, rfl, rfl, ScrL.same s1 hs, h1, (by rw [List.length_map]; exact Nat.le_trans (Nat.add_le_add_right hlen 1) (by decide)), ?_⟩
  walk_at "new2"
  refine ⟨_, rfl, p2, _, rfl, SqL.of h2, ?_⟩
  intro pl nl
  have s3 : Same H2 (upd H2 pl (.lst (cutV (ns.map V.int ++ [V.int 0]) none (some 6)))) := Same.new nl
  have h3 : upd H2 pl (.lst (cutV (ns.map V.int ++ [V.int 0]) none (some 6))) pl = some (.lst (cutV (ns.map V.int ++ [V.int 0]) none (some 6))) := upd_same
  generalize upd H2 pl (.lst (cutV (ns.map V.int ++ [V.int 0]) none (some 6))) = H3 at s3 h3 ⊢
  have hcell : ∀ x ∈ cutV (ns.map V.int ++ [V.int 0]) none (some 6), ∃ i : Int, x = .int i := by
    intro x hx
    have hx := cut_mem hx
    rcases List.mem_append.mp hx with z | z
    · obtain ⟨i, _, e⟩ := List.mem_map.mp z
      exact ⟨i, e.symm⟩
    · exact ⟨0, by simpa using z⟩
  have hT3 : LamX.Tabs [(Pt, lamQ)] H3 := hT.ext fun b o e => s3 _ _ (s2 _ _ (s1 _ _ e))
  clear s1 s2 s3 h1 h2 n1 n2 nl hT hs
  generalize cutV (ns.map V.int ++ [V.int 0]) none (some 6) = cells at h3 hcell ⊢
  refine ⟨pl, rfl, ⟨_, SqL.of h3⟩, for_list (K := K) (a := pl) (xs := cells) (fun i σ H' => (∃ v1 v2 v3 v4 v5 v6 v7, σ = [some (.ref a), v1, v2, v3, v4, v5, v6, v7]) ∧ H' pl = some (.lst cells) ∧ LamX.Tabs [(Pt, lamQ)] H')
    ⟨⟨none, none, none, none, none, none, none, rfl⟩, h3, hT3⟩ (fun i σ H' _ p => SqL.of p.2.1) ?_ ?_⟩
  · rintro i x σ H0 hi ⟨⟨v1, v2, v3, v4, v5, v6, v7, rfl⟩, hL, hT⟩
    clear h3 hT3
    obtain ⟨cv, rfl⟩ := hcell x (List.mem_of_getElem? hi)
    refine ⟨_, rfl, cv, rfl, fun ps H1 n1 s1 src1 => ?_⟩
    have hZ1 : Zs Pt pl ps cells H1 := ⟨ne_of_none hL n1, s1 _ _ hL, src1, hT.ext s1⟩
    clear hL hT src1 s1 n1
    refine ⟨8, rfl, by decide, by decide, for_range (lo := 0) (n := 8) (fun t σ H' => (∃ v3 v4 v5 v6 v7, σ = [some (.ref a), some (.int cv), some (.ref ps), v3, v4, v5, v6, v7]) ∧ Zs Pt pl ps cells H')
      ⟨⟨_, _, _, _, _, rfl⟩, hZ1⟩ ?_ ?_⟩
    · rintro t σ H0' ht ⟨⟨v3, v4, v5, v6, v7, rfl⟩, hZ0⟩
      refine ⟨_, rfl, ps, rfl, hZ0.S, fun p gq lq gd ld H2 np b2 t2 hp ngq nlq hg hl bg lg bl ll => ?_⟩
      refine ⟨p, _, rfl, SqT.of hp, rfl, _, _, rfl, _, _, rfl, rfl, ?_⟩
      have hZ := hZ0.but b2 t2
      have gps : gq ≠ ps := hZ0.S.ne0 ngq
      have lps : lq ≠ ps := hZ0.S.ne0 nlq
      clear hZ0 b2 t2 hp np ngq nlq
      refine ⟨_, rfl, _, _, rfl, rfl, _, rfl, ite2 (fun c => ?_) (fun c => ?_)⟩
      · have c : (0 : Int) < 0 + (t : Int) := of_decide_eq_true c
        refine ⟨_, rfl, _, rfl, (by show 9 ≤ sizeLine; decide), ?_⟩
        walk_at "new3"
        have Z3 := hZ.same s3
        refine ⟨ps, gq, p3, gd, [0, 1, 64, 65, 128, 192, 193, 255, 127], rfl, Z3.S, s3 _ _ hg, bg, by omega, h3, (by intro x hx; simp at hx; omega), by decide, gps, hZ.S.ne0 n3, fun gq' H4 gd' n4 b4 t4 h4 bg' lg' => ?_⟩
        have Z4 := Z3.but b4 t4
        have hl4 := b4 _ _ lps (s3 _ _ hl)
        have gps' : gq' ≠ ps := Z3.S.ne0 n4
        refine ⟨_, rfl, _, rfl, (by show 12 ≤ sizeLine; decide), ?_⟩
        walk_at "new5"
        have Z5 := Z4.same s5
        refine ⟨ps, lq, p5, ld, [0, 1, 2, 64, 65, 127, 128, 231, 232, 240, 248, 255], rfl, Z5.S, s5 _ _ hl4, bl, ll, h5, (by intro x hx; simp at hx; omega), by decide, lps, Z4.S.ne0 n5, fun lq' H6 ld' n6 b6 t6 h6 bl' ll' => ?_⟩
        have Z6 := Z5.but b6 t6
        have hg6 := b6 _ _ gps' (s5 _ _ h4)
        have lps' : lq' ≠ ps := Z5.S.ne0 n6
        clear hg hl hZ Z3 Z4 Z5 s3 h3 n3 b4 t4 n4 s5 h5 n5 b6 t6 n6 h4 hl4 bg lg bl ll gps lps
        refine ⟨_, rfl, rfl, _, rfl, ite2 (fun c7 => ?_) (fun c7 => ?_)⟩
        · -- the seventh turn: any bytes
          refine ⟨_, rfl, ps, _, rfl, Z6.S, (by decide), (by decide), fun m J1 m0 m1 b1 t1 => ?_⟩
          have m9 : m < 9 := m1
          have Y1 := Z6.but b1 t1
          refine ⟨m, rfl, by omega, Int.lt_trans m1 (by decide), fun D nD => ?_⟩
          have dps : D ≠ ps := Y1.S.ne0 nD
          have dpl : D ≠ pl := fun z => by rw [z, Y1.L] at nD; cases nD
          refine lc_range (lo := 0) (n := m.toNat) (fun i H' => ∃ e : List Int, H' D = some (.lst (e.map V.int)) ∧ By e ∧ e.length = i ∧ Zs Pt pl ps cells H') ?_ ?_ ?_
          · exact ⟨[], upd_same, (fun x hx => by simp at hx), rfl, Y1.same (Same.new nD)⟩
          · rintro i H' hi ⟨e, hD, be, hle, hz⟩
            refine ⟨rfl, ?_⟩
            refine ⟨_, rfl, ps, _, rfl, hz.S, (by decide), (by decide), fun y J y0 y1 bj tj => ?_⟩
            have hz2 := hz.but bj tj
            have hD2 := bj _ _ dps hD
            refine ⟨_, hD2, ?_, e ++ [y], ?_, ?_, ?_, ?_⟩
            · rw [List.length_map, hle]
              exact Nat.lt_of_lt_of_le (by omega : i < 9) (by decide)
            · rw [upd_same]
              simp
            · refine be.app fun x hx => ?_
              rw [List.mem_singleton.mp hx]
              exact ⟨y0, y1⟩
            · rw [List.length_append, hle]
              rfl
            · exact hz2.put hD2 dps dpl
          rintro J2 ⟨gd, hg, bg, lg', hz⟩
          refine ⟨_, rfl, ps, _, rfl, hz.S, (by decide), (by decide), fun m' J3 m0' m1' b3 t3 => ?_⟩
          have m9' : m' < 9 := m1'
          have Y3 := hz.but b3 t3
          have hg3 := b3 _ _ dps hg
          refine ⟨m', rfl, by omega, Int.lt_trans m1' (by decide), fun D2 nD2 => ?_⟩
          have dps2 : D2 ≠ ps := Y3.S.ne0 nD2
          have dpl2 : D2 ≠ pl := fun z => by rw [z, Y3.L] at nD2; cases nD2
          have dd : D2 ≠ D := fun z => by rw [z, hg3] at nD2; cases nD2
          refine lc_range (lo := 0) (n := m'.toNat) (fun i H' => ∃ e : List Int, H' D2 = some (.lst (e.map V.int)) ∧ By e ∧ e.length = i ∧ H' D = some (.lst (gd.map V.int)) ∧ Zs Pt pl ps cells H') ?_ ?_ ?_
          · exact ⟨[], upd_same, (fun x hx => by simp at hx), rfl, (Same.new nD2) _ _ hg3, Y3.same (Same.new nD2)⟩
          · rintro i H' hi ⟨e, hD, be, hle, hgg, hz⟩
            refine ⟨rfl, ?_⟩
            refine ⟨_, rfl, ps, _, rfl, hz.S, (by decide), (by decide), fun y J y0 y1 bj tj => ?_⟩
            have hz2 := hz.but bj tj
            have hD2 := bj _ _ dps2 hD
            refine ⟨_, hD2, ?_, e ++ [y], ?_, ?_, ?_, ?_, ?_⟩
            · rw [List.length_map, hle]
              exact Nat.lt_of_lt_of_le (by omega : i < 9) (by decide)
            · rw [upd_same]
              simp
            · refine be.app fun x hx => ?_
              rw [List.mem_singleton.mp hx]
              exact ⟨y0, y1⟩
            · rw [List.length_append, hle]
              rfl
            · rw [upd_ne (Ne.symm dd)]
              exact bj _ _ dps hgg
            · exact hz2.put hD2 dps2 dpl2
          rintro J4 ⟨ld, hl, bl, ll', hg, hZ⟩
          have lg : gd.length ≤ 161 := by omega
          have ll : ld.length ≤ 161 := by omega
          generalize D = gq at hg ⊢
          generalize D2 = lq at hl ⊢
          clear Z6 Y1 Y3 b1 t1 b3 t3 hg3 hg6
          refine ⟨(by show 2 ≤ sizeLine; decide), ?_⟩
          walk_at "new11"
          have byg : Byts gd := ⟨bg, by omega⟩
          have byl : Byts ld := ⟨bl, by omega⟩
          refine ⟨_, rfl, _, rfl, p11, lq, gq, 7, ld, gd, rfl, ⟨p11, [30, 0], rfl, h11, by decide, by decide⟩, ⟨7, rfl, by decide, by decide⟩, s11 _ _ hl, (fun x hx => ⟨(bl x hx).1, by have := (bl x hx).2; omega⟩), by omega, s11 _ _ hg, (fun x hx => ⟨(bg x hx).1, by have := (bg x hx).2; omega⟩), by omega, fun m M s12 hm => ?_⟩
          obtain ⟨dx, fs, tl, th, c1, c2, c3, c4, c5, c6⟩ := hm
          have Z2 := (hZ.same s11).same s12
          refine ⟨Z2.B, fun K1 ext hT1 => ?_⟩
          have Z3 := Z2.ext ext hT1
          have c1 := ext _ _ c1 (fun _ z => by cases z)
          have c4 := ext _ _ c4 (fun _ z => by cases z)
          have c6 := ext _ _ c6 (fun _ z => by cases z)
          have hg3 := ext _ _ (s12 _ _ (s11 _ _ hg)) (fun _ z => by cases z)
          have hl3 := ext _ _ (s12 _ _ (s11 _ _ hl)) (fun _ z => by cases z)
          refine ⟨_, rfl, gq, gd, rfl, SqL.of hg3, byg, fun rs er q N xs nq sN hq hR => ?_, fun j er N sN => ?_⟩
          · refine ⟨fun c' hc' => sN _ _ hc', (fun E1 E2 Ha Qa Qb hE hQ hh => by obtain ⟨v, e, hh⟩ := hh; exact ⟨v, e, spExc.mono hE hQ hh⟩), .inr ⟨q, rows5D rs, rfl, .base (.lst hq), ?_⟩⟩
            refine ⟨_, rfl, m, dx, fs, th, gd, rfl, sN _ _ c1, c5, SqT.of (sN _ _ c6), byg, fun rs1 er1 q1 J1 xs1 nq1 sJ1 hq1 hR1 => ?_, fun j ej => absurd (er.symm.trans ej) (by simp)⟩
            refine ⟨rfl, sJ1, ?_⟩
            refine ⟨_, rfl, m, dx, fs, th, gd, rfl, sJ1 _ _ (sN _ _ c1), c5, SqT.of (sJ1 _ _ (sN _ _ c6)), byg, fun rs2 er2 q2 J2 xs2 nq2 sJ2 hq2 hR2 => ?_, fun j ej => absurd (er.symm.trans ej) (by simp)⟩
            obtain rfl : rs = rs2 := by injection er.symm.trans er2
            obtain ⟨o1, o2⟩ := hRead_ok byg lg er
            obtain ⟨w1, w2, w3, w4⟩ := rows5D_shown o1 (Nat.le_trans o2 lg)
            have u := sJ1.trans sJ2
            refine ⟨q2, rfl, Dp.lst (SqL.of hq2) (dp_tups dp_r5 hR2), Dp.lst (SqL.of (u _ _ hq)) (dp_tups dp_r5 (hR.same u)), w1, w2, w3, w4, ?_⟩
            refine ⟨_, rfl, iteF ?_⟩
            have v := sN.trans u
            clear w1 w2 w3 w4 o1 o2 hR hR1 hR2 hq hq1 hq2 er er1 er2
            have Z4 := Z3.same v
            have d1 := v _ _ c1
            have d4 := v _ _ c4
            have l4 := v _ _ hl3
            refine ⟨Z4.B, fun K2 ext2 hT2 => ?_⟩
            have Z5 := Z4.ext ext2 hT2
            have d1 := ext2 _ _ d1 (fun _ z => by cases z)
            have d4 := ext2 _ _ d4 (fun _ z => by cases z)
            have l4 := ext2 _ _ l4 (fun _ z => by cases z)
            refine ⟨_, rfl, lq, ld, 7, rfl, SqL.of l4, byl, fun rs er q N xs nq sN hq hR => ?_, fun j er N sN => ?_⟩
            · refine ⟨fun c' hc' => sN _ _ hc', (fun E1 E2 Ha Qa Qb hE hQ hh => by obtain ⟨v, e, hh⟩ := hh; exact ⟨v, e, spLin.mono hE hQ hh⟩), .inr ⟨q, rowsD (joinR rs), rfl, .base (.lst hq), ?_⟩⟩
              refine ⟨_, rfl, m, dx, fs, 7, tl, ld, rfl, sN _ _ d1, c2, c3, SqT.of (sN _ _ d4), byl, fun rs1 er1 q1 J1 xs1 nq1 sJ1 hq1 hR1 => ?_, fun j ej => absurd (er.symm.trans ej) (by simp)⟩
              refine ⟨rfl, sJ1, ?_⟩
              refine ⟨_, rfl, m, dx, fs, 7, tl, ld, rfl, sJ1 _ _ (sN _ _ d1), c2, c3, SqT.of (sJ1 _ _ (sN _ _ d4)), byl, fun rs2 er2 q2 J2 xs2 nq2 sJ2 hq2 hR2 => ?_, fun j ej => absurd (er.symm.trans ej) (by simp)⟩
              obtain rfl : rs = rs2 := by injection er.symm.trans er2
              obtain ⟨o1, o2⟩ := lRead_ok byl ll er
              obtain ⟨w1, w2, w3, w4⟩ := rows3D_shown (join_ok o1) (Nat.le_trans (join_len rs) (Nat.le_trans o2 ll))
              have u := sJ1.trans sJ2
              refine ⟨q2, rfl, Dp.lst (SqL.of hq2) (dp_tups dp_r3 hR2), Dp.lst (SqL.of (u _ _ hq)) (dp_tups dp_r3 (hR.same u)), w1, w2, w3, w4, ?_⟩
              exact ⟨_, rfl, iteF ⟨⟨_, _, _, _, _, rfl⟩, Z5.same (sN.trans u)⟩⟩
            · refine ⟨fun c' hc' => sN _ _ hc', (fun E1 E2 Ha Qa Qb hE hQ hh => by obtain ⟨v, e, hh⟩ := hh; exact ⟨v, e, spLin.mono hE hQ hh⟩), .inl ⟨(j : Int), rfl, ?_⟩⟩
              refine ⟨_, rfl, m, dx, fs, 7, tl, ld, rfl, sN _ _ d1, c2, c3, SqT.of (sN _ _ d4), byl, fun rs1 er1 => absurd (er.symm.trans er1) (by simp), fun j1 ej => ?_⟩
              obtain rfl : j = j1 := by injection er.symm.trans ej
              intro dd He se nde
              refine ⟨rfl, dd, _, rfl, upd_same, fun p np => ?_⟩
              refine ⟨p, rfl, upd_same, fun J2 sJ => ?_⟩
              have u : Same N J2 := ((se.trans (Same.new nde)).trans (Same.new np)).trans sJ
              exact ⟨_, rfl, iteF ⟨⟨_, _, _, _, _, rfl⟩, Z5.same (sN.trans u)⟩⟩
          · refine ⟨fun c' hc' => sN _ _ hc', (fun E1 E2 Ha Qa Qb hE hQ hh => by obtain ⟨v, e, hh⟩ := hh; exact ⟨v, e, spExc.mono hE hQ hh⟩), .inl ⟨(j : Int), rfl, ?_⟩⟩
            refine ⟨_, rfl, m, dx, fs, th, gd, rfl, sN _ _ c1, c5, SqT.of (sN _ _ c6), byg, fun rs1 er1 => absurd (er.symm.trans er1) (by simp), fun j1 ej => ?_⟩
            obtain rfl : j = j1 := by injection er.symm.trans ej
            intro dd He se nde
            refine ⟨rfl, dd, _, rfl, upd_same, fun p np => ?_⟩
            refine ⟨p, rfl, upd_same, fun J2 sJ => ?_⟩
            have u : Same N J2 := ((se.trans (Same.new nde)).trans (Same.new np)).trans sJ
            refine ⟨_, rfl, iteF ?_⟩
            have v := sN.trans u
            clear er ej
            have Z4 := Z3.same v
            have d1 := v _ _ c1
            have d4 := v _ _ c4
            have l4 := v _ _ hl3
            refine ⟨Z4.B, fun K2 ext2 hT2 => ?_⟩
            have Z5 := Z4.ext ext2 hT2
            have d1 := ext2 _ _ d1 (fun _ z => by cases z)
            have d4 := ext2 _ _ d4 (fun _ z => by cases z)
            have l4 := ext2 _ _ l4 (fun _ z => by cases z)
            refine ⟨_, rfl, lq, ld, 7, rfl, SqL.of l4, byl, fun rs er q N xs nq sN hq hR => ?_, fun j er N sN => ?_⟩
            · refine ⟨fun c' hc' => sN _ _ hc', (fun E1 E2 Ha Qa Qb hE hQ hh => by obtain ⟨v, e, hh⟩ := hh; exact ⟨v, e, spLin.mono hE hQ hh⟩), .inr ⟨q, rowsD (joinR rs), rfl, .base (.lst hq), ?_⟩⟩
              refine ⟨_, rfl, m, dx, fs, 7, tl, ld, rfl, sN _ _ d1, c2, c3, SqT.of (sN _ _ d4), byl, fun rs1 er1 q1 J1 xs1 nq1 sJ1 hq1 hR1 => ?_, fun j ej => absurd (er.symm.trans ej) (by simp)⟩
              refine ⟨rfl, sJ1, ?_⟩
              refine ⟨_, rfl, m, dx, fs, 7, tl, ld, rfl, sJ1 _ _ (sN _ _ d1), c2, c3, SqT.of (sJ1 _ _ (sN _ _ d4)), byl, fun rs2 er2 q2 J2 xs2 nq2 sJ2 hq2 hR2 => ?_, fun j ej => absurd (er.symm.trans ej) (by simp)⟩
              obtain rfl : rs = rs2 := by injection er.symm.trans er2
              obtain ⟨o1, o2⟩ := lRead_ok byl ll er
              obtain ⟨w1, w2, w3, w4⟩ := rows3D_shown (join_ok o1) (Nat.le_trans (join_len rs) (Nat.le_trans o2 ll))
              have u := sJ1.trans sJ2
              refine ⟨q2, rfl, Dp.lst (SqL.of hq2) (dp_tups dp_r3 hR2), Dp.lst (SqL.of (u _ _ hq)) (dp_tups dp_r3 (hR.same u)), w1, w2, w3, w4, ?_⟩
              exact ⟨_, rfl, iteF ⟨⟨_, _, _, _, _, rfl⟩, Z5.same (sN.trans u)⟩⟩
            · refine ⟨fun c' hc' => sN _ _ hc', (fun E1 E2 Ha Qa Qb hE hQ hh => by obtain ⟨v, e, hh⟩ := hh; exact ⟨v, e, spLin.mono hE hQ hh⟩), .inl ⟨(j : Int), rfl, ?_⟩⟩
              refine ⟨_, rfl, m, dx, fs, 7, tl, ld, rfl, sN _ _ d1, c2, c3, SqT.of (sN _ _ d4), byl, fun rs1 er1 => absurd (er.symm.trans er1) (by simp), fun j1 ej => ?_⟩
              obtain rfl : j = j1 := by injection er.symm.trans ej
              intro dd He se nde
              refine ⟨rfl, dd, _, rfl, upd_same, fun p np => ?_⟩
              refine ⟨p, rfl, upd_same, fun J2 sJ => ?_⟩
              have u : Same N J2 := ((se.trans (Same.new nde)).trans (Same.new np)).trans sJ
              exact ⟨_, rfl, iteF ⟨⟨_, _, _, _, _, rfl⟩, Z5.same (sN.trans u)⟩⟩
        · have hZ := Z6
          have hg := hg6
          have hl := h6
          have bg := bg'
          have bl := bl'
          have lg := lg'
          have ll := ll'
          generalize gq' = gq at hg ⊢
          generalize lq' = lq at hl ⊢
          generalize gd' = gd at hg bg lg ⊢
          generalize ld' = ld at hl bl ll ⊢
          clear Z6
          refine ⟨(by show 2 ≤ sizeLine; decide), ?_⟩
          walk_at "new11"
          have byg : Byts gd := ⟨bg, by omega⟩
          have byl : Byts ld := ⟨bl, by omega⟩
          refine ⟨_, rfl, _, rfl, p11, lq, gq, 7, ld, gd, rfl, ⟨p11, [30, 0], rfl, h11, by decide, by decide⟩, ⟨7, rfl, by decide, by decide⟩, s11 _ _ hl, (fun x hx => ⟨(bl x hx).1, by have := (bl x hx).2; omega⟩), by omega, s11 _ _ hg, (fun x hx => ⟨(bg x hx).1, by have := (bg x hx).2; omega⟩), by omega, fun m M s12 hm => ?_⟩
          obtain ⟨dx, fs, tl, th, c1, c2, c3, c4, c5, c6⟩ := hm
          have Z2 := (hZ.same s11).same s12
          refine ⟨Z2.B, fun K1 ext hT1 => ?_⟩
          have Z3 := Z2.ext ext hT1
          have c1 := ext _ _ c1 (fun _ z => by cases z)
          have c4 := ext _ _ c4 (fun _ z => by cases z)
          have c6 := ext _ _ c6 (fun _ z => by cases z)
          have hg3 := ext _ _ (s12 _ _ (s11 _ _ hg)) (fun _ z => by cases z)
          have hl3 := ext _ _ (s12 _ _ (s11 _ _ hl)) (fun _ z => by cases z)
          refine ⟨_, rfl, gq, gd, rfl, SqL.of hg3, byg, fun rs er q N xs nq sN hq hR => ?_, fun j er N sN => ?_⟩
          · refine ⟨fun c' hc' => sN _ _ hc', (fun E1 E2 Ha Qa Qb hE hQ hh => by obtain ⟨v, e, hh⟩ := hh; exact ⟨v, e, spExc.mono hE hQ hh⟩), .inr ⟨q, rows5D rs, rfl, .base (.lst hq), ?_⟩⟩
            refine ⟨_, rfl, m, dx, fs, th, gd, rfl, sN _ _ c1, c5, SqT.of (sN _ _ c6), byg, fun rs1 er1 q1 J1 xs1 nq1 sJ1 hq1 hR1 => ?_, fun j ej => absurd (er.symm.trans ej) (by simp)⟩
            refine ⟨rfl, sJ1, ?_⟩
            refine ⟨_, rfl, m, dx, fs, th, gd, rfl, sJ1 _ _ (sN _ _ c1), c5, SqT.of (sJ1 _ _ (sN _ _ c6)), byg, fun rs2 er2 q2 J2 xs2 nq2 sJ2 hq2 hR2 => ?_, fun j ej => absurd (er.symm.trans ej) (by simp)⟩
            obtain rfl : rs = rs2 := by injection er.symm.trans er2
            obtain ⟨o1, o2⟩ := hRead_ok byg lg er
            obtain ⟨w1, w2, w3, w4⟩ := rows5D_shown o1 (Nat.le_trans o2 lg)
            have u := sJ1.trans sJ2
            refine ⟨q2, rfl, Dp.lst (SqL.of hq2) (dp_tups dp_r5 hR2), Dp.lst (SqL.of (u _ _ hq)) (dp_tups dp_r5 (hR.same u)), w1, w2, w3, w4, ?_⟩
            refine ⟨_, rfl, iteF ?_⟩
            have v := sN.trans u
            clear w1 w2 w3 w4 o1 o2 hR hR1 hR2 hq hq1 hq2 er er1 er2
            have Z4 := Z3.same v
            have d1 := v _ _ c1
            have d4 := v _ _ c4
            have l4 := v _ _ hl3
            refine ⟨Z4.B, fun K2 ext2 hT2 => ?_⟩
            have Z5 := Z4.ext ext2 hT2
            have d1 := ext2 _ _ d1 (fun _ z => by cases z)
            have d4 := ext2 _ _ d4 (fun _ z => by cases z)
            have l4 := ext2 _ _ l4 (fun _ z => by cases z)
            refine ⟨_, rfl, lq, ld, 7, rfl, SqL.of l4, byl, fun rs er q N xs nq sN hq hR => ?_, fun j er N sN => ?_⟩
            · refine ⟨fun c' hc' => sN _ _ hc', (fun E1 E2 Ha Qa Qb hE hQ hh => by obtain ⟨v, e, hh⟩ := hh; exact ⟨v, e, spLin.mono hE hQ hh⟩), .inr ⟨q, rowsD (joinR rs), rfl, .base (.lst hq), ?_⟩⟩
              refine ⟨_, rfl, m, dx, fs, 7, tl, ld, rfl, sN _ _ d1, c2, c3, SqT.of (sN _ _ d4), byl, fun rs1 er1 q1 J1 xs1 nq1 sJ1 hq1 hR1 => ?_, fun j ej => absurd (er.symm.trans ej) (by simp)⟩
              refine ⟨rfl, sJ1, ?_⟩
              refine ⟨_, rfl, m, dx, fs, 7, tl, ld, rfl, sJ1 _ _ (sN _ _ d1), c2, c3, SqT.of (sJ1 _ _ (sN _ _ d4)), byl, fun rs2 er2 q2 J2 xs2 nq2 sJ2 hq2 hR2 => ?_, fun j ej => absurd (er.symm.trans ej) (by simp)⟩
              obtain rfl : rs = rs2 := by injection er.symm.trans er2
              obtain ⟨o1, o2⟩ := lRead_ok byl ll er
              obtain ⟨w1, w2, w3, w4⟩ := rows3D_shown (join_ok o1) (Nat.le_trans (join_len rs) (Nat.le_trans o2 ll))
              have u := sJ1.trans sJ2
              refine ⟨q2, rfl, Dp.lst (SqL.of hq2) (dp_tups dp_r3 hR2), Dp.lst (SqL.of (u _ _ hq)) (dp_tups dp_r3 (hR.same u)), w1, w2, w3, w4, ?_⟩
              exact ⟨_, rfl, iteF ⟨⟨_, _, _, _, _, rfl⟩, Z5.same (sN.trans u)⟩⟩
            · refine ⟨fun c' hc' => sN _ _ hc', (fun E1 E2 Ha Qa Qb hE hQ hh => by obtain ⟨v, e, hh⟩ := hh; exact ⟨v, e, spLin.mono hE hQ hh⟩), .inl ⟨(j : Int), rfl, ?_⟩⟩
              refine ⟨_, rfl, m, dx, fs, 7, tl, ld, rfl, sN _ _ d1, c2, c3, SqT.of (sN _ _ d4), byl, fun rs1 er1 => absurd (er.symm.trans er1) (by simp), fun j1 ej => ?_⟩
              obtain rfl : j = j1 := by injection er.symm.trans ej
              intro dd He se nde
              refine ⟨rfl, dd, _, rfl, upd_same, fun p np => ?_⟩
              refine ⟨p, rfl, upd_same, fun J2 sJ => ?_⟩
              have u : Same N J2 := ((se.trans (Same.new nde)).trans (Same.new np)).trans sJ
              exact ⟨_, rfl, iteF ⟨⟨_, _, _, _, _, rfl⟩, Z5.same (sN.trans u)⟩⟩
          · refine ⟨fun c' hc' => sN _ _ hc', (fun E1 E2 Ha Qa Qb hE hQ hh => by obtain ⟨v, e, hh⟩ := hh; exact ⟨v, e, spExc.mono hE hQ hh⟩), .inl ⟨(j : Int), rfl, ?_⟩⟩
            refine ⟨_, rfl, m, dx, fs, th, gd, rfl, sN _ _ c1, c5, SqT.of (sN _ _ c6), byg, fun rs1 er1 => absurd (er.symm.trans er1) (by simp), fun j1 ej => ?_⟩
            obtain rfl : j = j1 := by injection er.symm.trans ej
            intro dd He se nde
            refine ⟨rfl, dd, _, rfl, upd_same, fun p np => ?_⟩
            refine ⟨p, rfl, upd_same, fun J2 sJ => ?_⟩
            have u : Same N J2 := ((se.trans (Same.new nde)).trans (Same.new np)).trans sJ
            refine ⟨_, rfl, iteF ?_⟩
            have v := sN.trans u
            clear er ej
            have Z4 := Z3.same v
            have d1 := v _ _ c1
            have d4 := v _ _ c4
            have l4 := v _ _ hl3
            refine ⟨Z4.B, fun K2 ext2 hT2 => ?_⟩
            have Z5 := Z4.ext ext2 hT2
            have d1 := ext2 _ _ d1 (fun _ z => by cases z)
            have d4 := ext2 _ _ d4 (fun _ z => by cases z)
            have l4 := ext2 _ _ l4 (fun _ z => by cases z)
            refine ⟨_, rfl, lq, ld, 7, rfl, SqL.of l4, byl, fun rs er q N xs nq sN hq hR => ?_, fun j er N sN => ?_⟩
            · refine ⟨fun c' hc' => sN _ _ hc', (fun E1 E2 Ha Qa Qb hE hQ hh => by obtain ⟨v, e, hh⟩ := hh; exact ⟨v, e, spLin.mono hE hQ hh⟩), .inr ⟨q, rowsD (joinR rs), rfl, .base (.lst hq), ?_⟩⟩
              refine ⟨_, rfl, m, dx, fs, 7, tl, ld, rfl, sN _ _ d1, c2, c3, SqT.of (sN _ _ d4), byl, fun rs1 er1 q1 J1 xs1 nq1 sJ1 hq1 hR1 => ?_, fun j ej => absurd (er.symm.trans ej) (by simp)⟩
              refine ⟨rfl, sJ1, ?_⟩
              refine ⟨_, rfl, m, dx, fs, 7, tl, ld, rfl, sJ1 _ _ (sN _ _ d1), c2, c3, SqT.of (sJ1 _ _ (sN _ _ d4)), byl, fun rs2 er2 q2 J2 xs2 nq2 sJ2 hq2 hR2 => ?_, fun j ej => absurd (er.symm.trans ej) (by simp)⟩
              obtain rfl : rs = rs2 := by injection er.symm.trans er2
              obtain ⟨o1, o2⟩ := lRead_ok byl ll er
              obtain ⟨w1, w2, w3, w4⟩ := rows3D_shown (join_ok o1) (Nat.le_trans (join_len rs) (Nat.le_trans o2 ll))
              have u := sJ1.trans sJ2
              refine ⟨q2, rfl, Dp.lst (SqL.of hq2) (dp_tups dp_r3 hR2), Dp.lst (SqL.of (u _ _ hq)) (dp_tups dp_r3 (hR.same u)), w1, w2, w3, w4, ?_⟩
              exact ⟨_, rfl, iteF ⟨⟨_, _, _, _, _, rfl⟩, Z5.same (sN.trans u)⟩⟩
            · refine ⟨fun c' hc' => sN _ _ hc', (fun E1 E2 Ha Qa Qb hE hQ hh => by obtain ⟨v, e, hh⟩ := hh; exact ⟨v, e, spLin.mono hE hQ hh⟩), .inl ⟨(j : Int), rfl, ?_⟩⟩
              refine ⟨_, rfl, m, dx, fs, 7, tl, ld, rfl, sN _ _ d1, c2, c3, SqT.of (sN _ _ d4), byl, fun rs1 er1 => absurd (er.symm.trans er1) (by simp), fun j1 ej => ?_⟩
              obtain rfl : j = j1 := by injection er.symm.trans ej
              intro dd He se nde
              refine ⟨rfl, dd, _, rfl, upd_same, fun p np => ?_⟩
              refine ⟨p, rfl, upd_same, fun J2 sJ => ?_⟩
              have u : Same N J2 := ((se.trans (Same.new nde)).trans (Same.new np)).trans sJ
              exact ⟨_, rfl, iteF ⟨⟨_, _, _, _, _, rfl⟩, Z5.same (sN.trans u)⟩⟩
      · have c : ¬ (0 : Int) < 0 + (t : Int) := fun z => c (decide_eq_true z)
        refine ⟨_, rfl, rfl, _, rfl, ite2 (fun c7 => ?_) (fun _ => ?_)⟩
        · exfalso
          have q := of_decide_eq_true c7
          have q : 0 + (t : Int) = 7 := by injection q
          omega
        have lg : gd.length ≤ 161 := by omega
        have ll : ld.length ≤ 161 := by omega
        refine ⟨(by show 2 ≤ sizeLine; decide), ?_⟩
        walk_at "new11"
        have byg : Byts gd := ⟨bg, by omega⟩
        have byl : Byts ld := ⟨bl, by omega⟩
        refine ⟨_, rfl, _, rfl, p11, lq, gq, 7, ld, gd, rfl, ⟨p11, [30, 0], rfl, h11, by decide, by decide⟩, ⟨7, rfl, by decide, by decide⟩, s11 _ _ hl, (fun x hx => ⟨(bl x hx).1, by have := (bl x hx).2; omega⟩), by omega, s11 _ _ hg, (fun x hx => ⟨(bg x hx).1, by have := (bg x hx).2; omega⟩), by omega, fun m M s12 hm => ?_⟩
        obtain ⟨dx, fs, tl, th, c1, c2, c3, c4, c5, c6⟩ := hm
        have Z2 := (hZ.same s11).same s12
        refine ⟨Z2.B, fun K1 ext hT1 => ?_⟩
        have Z3 := Z2.ext ext hT1
        have c1 := ext _ _ c1 (fun _ z => by cases z)
        have c4 := ext _ _ c4 (fun _ z => by cases z)
        have c6 := ext _ _ c6 (fun _ z => by cases z)
        have hg3 := ext _ _ (s12 _ _ (s11 _ _ hg)) (fun _ z => by cases z)
        have hl3 := ext _ _ (s12 _ _ (s11 _ _ hl)) (fun _ z => by cases z)
        refine ⟨_, rfl, gq, gd, rfl, SqL.of hg3, byg, fun rs er q N xs nq sN hq hR => ?_, fun j er N sN => ?_⟩
        · refine ⟨fun c' hc' => sN _ _ hc', (fun E1 E2 Ha Qa Qb hE hQ hh => by obtain ⟨v, e, hh⟩ := hh; exact ⟨v, e, spExc.mono hE hQ hh⟩), .inr ⟨q, rows5D rs, rfl, .base (.lst hq), ?_⟩⟩
          refine ⟨_, rfl, m, dx, fs, th, gd, rfl, sN _ _ c1, c5, SqT.of (sN _ _ c6), byg, fun rs1 er1 q1 J1 xs1 nq1 sJ1 hq1 hR1 => ?_, fun j ej => absurd (er.symm.trans ej) (by simp)⟩
          refine ⟨rfl, sJ1, ?_⟩
          refine ⟨_, rfl, m, dx, fs, th, gd, rfl, sJ1 _ _ (sN _ _ c1), c5, SqT.of (sJ1 _ _ (sN _ _ c6)), byg, fun rs2 er2 q2 J2 xs2 nq2 sJ2 hq2 hR2 => ?_, fun j ej => absurd (er.symm.trans ej) (by simp)⟩
          obtain rfl : rs = rs2 := by injection er.symm.trans er2
          obtain ⟨o1, o2⟩ := hRead_ok byg lg er
          obtain ⟨w1, w2, w3, w4⟩ := rows5D_shown o1 (Nat.le_trans o2 lg)
          have u := sJ1.trans sJ2
          refine ⟨q2, rfl, Dp.lst (SqL.of hq2) (dp_tups dp_r5 hR2), Dp.lst (SqL.of (u _ _ hq)) (dp_tups dp_r5 (hR.same u)), w1, w2, w3, w4, ?_⟩
          refine ⟨_, rfl, iteF ?_⟩
          have v := sN.trans u
          clear w1 w2 w3 w4 o1 o2 hR hR1 hR2 hq hq1 hq2 er er1 er2
          have Z4 := Z3.same v
          have d1 := v _ _ c1
          have d4 := v _ _ c4
          have l4 := v _ _ hl3
          refine ⟨Z4.B, fun K2 ext2 hT2 => ?_⟩
          have Z5 := Z4.ext ext2 hT2
          have d1 := ext2 _ _ d1 (fun _ z => by cases z)
          have d4 := ext2 _ _ d4 (fun _ z => by cases z)
          have l4 := ext2 _ _ l4 (fun _ z => by cases z)
          refine ⟨_, rfl, lq, ld, 7, rfl, SqL.of l4, byl, fun rs er q N xs nq sN hq hR => ?_, fun j er N sN => ?_⟩
          · refine ⟨fun c' hc' => sN _ _ hc', (fun E1 E2 Ha Qa Qb hE hQ hh => by obtain ⟨v, e, hh⟩ := hh; exact ⟨v, e, spLin.mono hE hQ hh⟩), .inr ⟨q, rowsD (joinR rs), rfl, .base (.lst hq), ?_⟩⟩
            refine ⟨_, rfl, m, dx, fs, 7, tl, ld, rfl, sN _ _ d1, c2, c3, SqT.of (sN _ _ d4), byl, fun rs1 er1 q1 J1 xs1 nq1 sJ1 hq1 hR1 => ?_, fun j ej => absurd (er.symm.trans ej) (by simp)⟩
            refine ⟨rfl, sJ1, ?_⟩
            refine ⟨_, rfl, m, dx, fs, 7, tl, ld, rfl, sJ1 _ _ (sN _ _ d1), c2, c3, SqT.of (sJ1 _ _ (sN _ _ d4)), byl, fun rs2 er2 q2 J2 xs2 nq2 sJ2 hq2 hR2 => ?_, fun j ej => absurd (er.symm.trans ej) (by simp)⟩
            obtain rfl : rs = rs2 := by injection er.symm.trans er2
            obtain ⟨o1, o2⟩ := lRead_ok byl ll er
            obtain ⟨w1, w2, w3, w4⟩ := rows3D_shown (join_ok o1) (Nat.le_trans (join_len rs) (Nat.le_trans o2 ll))
            have u := sJ1.trans sJ2
            refine ⟨q2, rfl, Dp.lst (SqL.of hq2) (dp_tups dp_r3 hR2), Dp.lst (SqL.of (u _ _ hq)) (dp_tups dp_r3 (hR.same u)), w1, w2, w3, w4, ?_⟩
            exact ⟨_, rfl, iteF ⟨⟨_, _, _, _, _, rfl⟩, Z5.same (sN.trans u)⟩⟩
          · refine ⟨fun c' hc' => sN _ _ hc', (fun E1 E2 Ha Qa Qb hE hQ hh => by obtain ⟨v, e, hh⟩ := hh; exact ⟨v, e, spLin.mono hE hQ hh⟩), .inl ⟨(j : Int), rfl, ?_⟩⟩
            refine ⟨_, rfl, m, dx, fs, 7, tl, ld, rfl, sN _ _ d1, c2, c3, SqT.of (sN _ _ d4), byl, fun rs1 er1 => absurd (er.symm.trans er1) (by simp), fun j1 ej => ?_⟩
            obtain rfl : j = j1 := by injection er.symm.trans ej
            intro dd He se nde
            refine ⟨rfl, dd, _, rfl, upd_same, fun p np => ?_⟩
            refine ⟨p, rfl, upd_same, fun J2 sJ => ?_⟩
            have u : Same N J2 := ((se.trans (Same.new nde)).trans (Same.new np)).trans sJ
            exact ⟨_, rfl, iteF ⟨⟨_, _, _, _, _, rfl⟩, Z5.same (sN.trans u)⟩⟩
        · refine ⟨fun c' hc' => sN _ _ hc', (fun E1 E2 Ha Qa Qb hE hQ hh => by obtain ⟨v, e, hh⟩ := hh; exact ⟨v, e, spExc.mono hE hQ hh⟩), .inl ⟨(j : Int), rfl, ?_⟩⟩
          refine ⟨_, rfl, m, dx, fs, th, gd, rfl, sN _ _ c1, c5, SqT.of (sN _ _ c6), byg, fun rs1 er1 => absurd (er.symm.trans er1) (by simp), fun j1 ej => ?_⟩
          obtain rfl : j = j1 := by injection er.symm.trans ej
          intro dd He se nde
          refine ⟨rfl, dd, _, rfl, upd_same, fun p np => ?_⟩
          refine ⟨p, rfl, upd_same, fun J2 sJ => ?_⟩
          have u : Same N J2 := ((se.trans (Same.new nde)).trans (Same.new np)).trans sJ
          refine ⟨_, rfl, iteF ?_⟩
          have v := sN.trans u
          clear er ej
          have Z4 := Z3.same v
          have d1 := v _ _ c1
          have d4 := v _ _ c4
          have l4 := v _ _ hl3
          refine ⟨Z4.B, fun K2 ext2 hT2 => ?_⟩
          have Z5 := Z4.ext ext2 hT2
          have d1 := ext2 _ _ d1 (fun _ z => by cases z)
          have d4 := ext2 _ _ d4 (fun _ z => by cases z)
          have l4 := ext2 _ _ l4 (fun _ z => by cases z)
          refine ⟨_, rfl, lq, ld, 7, rfl, SqL.of l4, byl, fun rs er q N xs nq sN hq hR => ?_, fun j er N sN => ?_⟩
          · refine ⟨fun c' hc' => sN _ _ hc', (fun E1 E2 Ha Qa Qb hE hQ hh => by obtain ⟨v, e, hh⟩ := hh; exact ⟨v, e, spLin.mono hE hQ hh⟩), .inr ⟨q, rowsD (joinR rs), rfl, .base (.lst hq), ?_⟩⟩
            refine ⟨_, rfl, m, dx, fs, 7, tl, ld, rfl, sN _ _ d1, c2, c3, SqT.of (sN _ _ d4), byl, fun rs1 er1 q1 J1 xs1 nq1 sJ1 hq1 hR1 => ?_, fun j ej => absurd (er.symm.trans ej) (by simp)⟩
            refine ⟨rfl, sJ1, ?_⟩
            refine ⟨_, rfl, m, dx, fs, 7, tl, ld, rfl, sJ1 _ _ (sN _ _ d1), c2, c3, SqT.of (sJ1 _ _ (sN _ _ d4)), byl, fun rs2 er2 q2 J2 xs2 nq2 sJ2 hq2 hR2 => ?_, fun j ej => absurd (er.symm.trans ej) (by simp)⟩
            obtain rfl : rs = rs2 := by injection er.symm.trans er2
            obtain ⟨o1, o2⟩ := lRead_ok byl ll er
            obtain ⟨w1, w2, w3, w4⟩ := rows3D_shown (join_ok o1) (Nat.le_trans (join_len rs) (Nat.le_trans o2 ll))
            have u := sJ1.trans sJ2
            refine ⟨q2, rfl, Dp.lst (SqL.of hq2) (dp_tups dp_r3 hR2), Dp.lst (SqL.of (u _ _ hq)) (dp_tups dp_r3 (hR.same u)), w1, w2, w3, w4, ?_⟩
            exact ⟨_, rfl, iteF ⟨⟨_, _, _, _, _, rfl⟩, Z5.same (sN.trans u)⟩⟩
          · refine ⟨fun c' hc' => sN _ _ hc', (fun E1 E2 Ha Qa Qb hE hQ hh => by obtain ⟨v, e, hh⟩ := hh; exact ⟨v, e, spLin.mono hE hQ hh⟩), .inl ⟨(j : Int), rfl, ?_⟩⟩
            refine ⟨_, rfl, m, dx, fs, 7, tl, ld, rfl, sN _ _ d1, c2, c3, SqT.of (sN _ _ d4), byl, fun rs1 er1 => absurd (er.symm.trans er1) (by simp), fun j1 ej => ?_⟩
            obtain rfl : j = j1 := by injection er.symm.trans ej
            intro dd He se nde
            refine ⟨rfl, dd, _, rfl, upd_same, fun p np => ?_⟩
            refine ⟨p, rfl, upd_same, fun J2 sJ => ?_⟩
            have u : Same N J2 := ((se.trans (Same.new nde)).trans (Same.new np)).trans sJ
            exact ⟨_, rfl, iteF ⟨⟨_, _, _, _, _, rfl⟩, Z5.same (sN.trans u)⟩⟩
    rintro σ H' ⟨⟨v3, v4, v5, v6, v7, rfl⟩, hZ⟩
    exact ⟨⟨_, _, _, _, _, _, _, rfl⟩, hZ.L, hZ.B⟩
  · rintro σ H' ⟨⟨v1, v2, v3, v4, v5, v6, v7, rfl⟩, _, _⟩
    exact k H'
end
end K49
set_option maxHeartbeats 0
/-! ### the head -/
namespace K49
open PySem PySem.Spec PyProof.Rows L2 Nd
def dD (x : Str) (st : Stmt) : He.DefD := ⟨(x, none), x, x, defArgs st, defBody st, defScope st, [], []⟩
def dM (C m q : Str) (st : Stmt) : He.DefD := ⟨(C, some m), m, q, defArgs st, defBody st, defScope st, [], []⟩
def fn : List He.DefD := [dD "joined" s_joined, dD "number_at" s_number_at, dD "exception_rows" s_exception_rows, dD "signed_at" s_signed_at, dD "line_rows" s_line_rows, dD "want_code" s_want_code, dD "is_number" s_is_number, dD "is_string" s_is_string, dD "is_byte" s_is_byte, dD "are_bytes" s_are_bytes, dD "are_strings" s_are_strings, dD "are_constants" s_are_constants, dD "_law_source_of" s_law_source_of, dD "_law_next" s_law_next, dD "_law_one" s_law_one, dD "_law_pieces" s_law_pieces, dD "_law_marked" s_law_marked, dD "_law_made" s_law_made, dD "_law_row_bytes" s_law_row_bytes, dD "_law_joined" s_law_joined, dD "_law_entry" s_law_entry, dD "_law_line_bytes" s_law_line_bytes, dD "_law_number_read" s_law_number_read, dD "_law_handlers_read" s_law_handlers_read, dD "_law_signed_read" s_law_signed_read, dD "_law_lines_read" s_law_lines_read, dD "_law_bent" s_law_bent, dD "_law_caught" s_law_caught, dD "_law_good" s_law_good, dD "_law_same" s_law_same, dD "law" s_law, dM "Code" "__init__" "Code.__init__" s_Code_init, dM "Code" "look" "Code.look" s_Code_look]
def fa : List He.Fa := ([.glo "joined", .glo "number_at", .glo "exception_rows", .glo "signed_at", .glo "line_rows", .glo "want_code", .glo "is_number", .glo "is_string", .glo "is_byte", .glo "are_bytes", .glo "are_strings", .glo "are_constants", .glo "_law_source_of", .glo "_law_next", .glo "_law_one", .glo "_law_pieces", .glo "_law_marked", .glo "_law_made", .glo "_law_row_bytes", .glo "_law_joined", .glo "_law_entry", .glo "_law_line_bytes", .glo "_law_number_read", .glo "_law_handlers_read", .glo "_law_signed_read", .glo "_law_lines_read", .glo "_law_bent", .glo "_law_caught", .glo "_law_good", .glo "_law_same", .glo "law", .glo "Code", .glo "NoCode", .glo "CodeError", .glo "NoTable", .glo "NoRows", .glo "NoBytes", .free "int", .free "len", .free "range"] : List He.Fa) ++ ([.free "tuple", .free "isinstance", .free "bool", .free "str", .free "all", .free "ord", .free "list", .free "max", .free "min", .free "repr", .free "super", .int "FURTHER" 64, .int "MARK" 128, .int "MOST_NUMBER" 2147483647, .int "NO_LINE" 15, .int "ONE_LINE" 13, .cls "Code", .mkr "Code", .meth "Code" "look", .noat "Code" "argcount", .noat "Code" "onlycount", .noat "Code" "stacksize", .noat "Code" "flags", .noat "Code" "code", .noat "Code" "constants", .noat "Code" "names", .noat "Code" "slots", .noat "Code" "kinds", .noat "Code" "name", .noat "Code" "path", .noat "Code" "line", .noat "Code" "lines", .noat "Code" "handlers", .noat "Code" "nested"] : List He.Fa)
def ex (K : PySem.W.Frag) : Bool := nxB "/claim/cut.py" K (He.ga K "NoCode") (He.ma K (He.ga K "NoCode") "__init__") && (nxBA "/claim/cut.py" K (He.ga K "NoTable") (He.ma K (He.ga K "NoTable") "__init__") && (insB K (He.ga K "Code") && ((oddT.all fun t => decide (PySem.W.kitOne K (.type t) (.ref (He.ga K "Code")) = some false)) && (excCB K (He.ga K "NoTable") && (xfB K (He.ga K "NoTable") && (decide (PySem.W.kitOne K (.ref (He.ga K "NoTable")) (.ref (He.ga K "CodeError")) = some true) && (decide (PySem.W.exmOne K (.ref (He.ga K "NoTable")) (.ref (He.ga K "NoTable")) = some true) && (decide (PySem.W.exmOne K (.ref (He.ga K "NoTable")) (.ref (He.ga K "NoCode")) = some false)))))))))
abbrev Bt : Type := List NxV × List (Option (List (Option (Str × Int)))) × (Unit)
def nxo (K : PySem.W.Frag) : Bt := ([nxObs "NoCode" K, nxObs "NoTable" K], [], ())
def nv (w : World) : Bt := ([nxVal ⟨6, 17, 6, 21⟩ ⟨6, 23, 6, 28⟩ (PySem.Nx.iB ⟨7, 8, 7, 13⟩ ⟨7, 8, 7, 15⟩ ⟨7, 8, 7, 24⟩ ⟨7, 25, 7, 30⟩ ⟨7, 8, 7, 31⟩ ⟨7, 8, 7, 31⟩ ⟨8, 8, 8, 12⟩ ⟨8, 8, 8, 18⟩ ⟨8, 21, 8, 26⟩ ⟨8, 8, 8, 26⟩), nxValA ⟨11, 17, 11, 21⟩ ⟨11, 23, 11, 25⟩ (PySem.NxA.iB ⟨12, 8, 12, 13⟩ ⟨12, 8, 12, 15⟩ ⟨12, 8, 12, 24⟩ ⟨12, 25, 12, 27⟩ ⟨12, 8, 12, 28⟩ ⟨12, 8, 12, 28⟩ ⟨13, 8, 13, 12⟩ ⟨13, 8, 13, 15⟩ ⟨13, 18, 13, 20⟩ ⟨13, 8, 13, 20⟩)], [], ())
abbrev R : PySem.W.OpenRow := PySem.W.OpenLaw.row PySem.Challenge.rw_codewalk_k49_tables_spoilt
def tf : List He.Defn := [("law", none)]
abbrev hk : PySem.W.Hook := hookN 5 fa fn tf ex nxo nv
def ob (s : PySem.W.SharedT) : (He.AlD × Bool) × Bt := obsN 5 fa fn tf ex nxo (HandSHeadRun.getT s)
theorem ob_eq (s : PySem.W.SharedT) : ob s = hk.obs s.abs := obsN_eq (HandSHeadRun.getT_eq s)
def loose : List Str := (["CodeError", "NoCode", "NoTable", "NoBytes", "NoRows", "MOST_NUMBER", "MOST_NESTED", "is_number", "is_string", "is_byte", "are_bytes", "are_strings", "is_constant", "are_constants", "are_same", "Code"] : List Str) ++ (["want_code", "MARK", "FURTHER", "NO_LINE", "ONE_LINE", "number_at", "exception_rows", "joined", "signed_at", "line_rows", "_law_source_of", "_law_next", "_law_one", "_law_pieces", "_law_marked", "_law_made"] : List Str) ++ (["_law_row_bytes", "_law_joined", "_law_entry", "_law_line_bytes", "_law_number_read", "_law_handlers_read", "_law_signed_read", "_law_lines_read", "_law_bent", "_law_caught", "_law_good", "_law_same"] : List Str)
theorem run (w : World) : HandSHeadRun.RunEq R (PySem.W.view R.prog [48]) hk ob 6000 loose w := by
  intro os
  kernel_rfl
end K49
set_option maxHeartbeats 4000000
namespace K49
open PySem PySem.Spec PyProof.Rows L2 Nd
abbrev l : PySem.W.OpenLaw := PySem.Challenge.rw_codewalk_k49_tables_spoilt
theorem hev0 (env : Env) : ∃ pl : Sem Bool, eval (.Call (.Attribute (.Call (.Name "super" ⟨7, 8, 7, 13⟩) [] [] ⟨7, 8, 7, 15⟩) "__init__" ⟨7, 8, 7, 24⟩) [.Name "field" ⟨7, 25, 7, 30⟩] [] ⟨7, 8, 7, 31⟩) env = (do
      let ov ← attributeBase (.Call (.Name "super" ⟨7, 8, 7, 13⟩) [] [] ⟨7, 8, 7, 15⟩) "__init__" env (eval (.Call (.Name "super" ⟨7, 8, 7, 13⟩) [] [] ⟨7, 8, 7, 15⟩) env)
      standAt (⟨7, 8, 7, 24⟩ : Pos).atName
      let (f, first) ← holding [ov] (getMethod ov "__init__" pl)
      callWith ⟨7, 8, 7, 31⟩ f first (backTo ⟨7, 8, 7, 31⟩ (starEach [.Name "field" ⟨7, 25, 7, 30⟩] env)) []) := ⟨_, rfl⟩
theorem hev1 (env : Env) : ∃ pl : Sem Bool, eval (.Call (.Attribute (.Call (.Name "super" ⟨12, 8, 12, 13⟩) [] [] ⟨12, 8, 12, 15⟩) "__init__" ⟨12, 8, 12, 24⟩) [.Name "at" ⟨12, 25, 12, 27⟩] [] ⟨12, 8, 12, 28⟩) env = (do
      let ov ← attributeBase (.Call (.Name "super" ⟨12, 8, 12, 13⟩) [] [] ⟨12, 8, 12, 15⟩) "__init__" env (eval (.Call (.Name "super" ⟨12, 8, 12, 13⟩) [] [] ⟨12, 8, 12, 15⟩) env)
      standAt (⟨12, 8, 12, 24⟩ : Pos).atName
      let (f, first) ← holding [ov] (getMethod ov "__init__" pl)
      callWith ⟨12, 8, 12, 28⟩ f first (backTo ⟨12, 8, 12, 28⟩ (starEach [.Name "at" ⟨12, 25, 12, 27⟩] env)) []) := ⟨_, rfl⟩
theorem facts {w : World} {K : PySem.W.Frag} {h : Heap} {mg : Str → Option Value} {f : Addr} (X : K.In h) (G : h.Ns mainGlobals mg) (hfa : mg ("law" : Str) = some (.ref f)) (c : SaysN fa fn tf ex nxo (nv w) h K) : LawHas l w K 63 mg f h := by
  have e := hfa.symm.trans (He.glo_ok X G (c.t.fact 30 (f := .glo "law") rfl))
  cases e
  obtain ⟨fd0, F0⟩ := c.t.def_ 0 (d := dD "joined" s_joined) rfl
  have D0 : DefX K mg "joined" s_joined ["rows"] (He.ga K "joined") fd0 := dfx X G F0 (c.t.fact 0 (f := .glo "joined") rfl) (fun _ _ _ _ _ _ us hl => match us, hl with | [_], _ => rfl)
  obtain ⟨fd1, F1⟩ := c.t.def_ 1 (d := dD "number_at" s_number_at) rfl
  have D1 : DefX K mg "number_at" s_number_at ["data", "at", "is_first"] (He.ga K "number_at") fd1 := dfx X G F1 (c.t.fact 1 (f := .glo "number_at") rfl) (fun _ _ _ _ _ _ us hl => match us, hl with | [_, _, _], _ => rfl)
  obtain ⟨fd2, F2⟩ := c.t.def_ 2 (d := dD "exception_rows" s_exception_rows) rfl
  have D2 : DefX K mg "exception_rows" s_exception_rows ["code"] (He.ga K "exception_rows") fd2 := dfx X G F2 (c.t.fact 2 (f := .glo "exception_rows") rfl) (fun _ _ _ _ _ _ us hl => match us, hl with | [_], _ => rfl)
  obtain ⟨fd3, F3⟩ := c.t.def_ 3 (d := dD "signed_at" s_signed_at) rfl
  have D3 : DefX K mg "signed_at" s_signed_at ["data", "at"] (He.ga K "signed_at") fd3 := dfx X G F3 (c.t.fact 3 (f := .glo "signed_at") rfl) (fun _ _ _ _ _ _ us hl => match us, hl with | [_, _], _ => rfl)
  obtain ⟨fd4, F4⟩ := c.t.def_ 4 (d := dD "line_rows" s_line_rows) rfl
  have D4 : DefX K mg "line_rows" s_line_rows ["code"] (He.ga K "line_rows") fd4 := dfx X G F4 (c.t.fact 4 (f := .glo "line_rows") rfl) (fun _ _ _ _ _ _ us hl => match us, hl with | [_], _ => rfl)
  obtain ⟨fd5, F5⟩ := c.t.def_ 5 (d := dD "want_code" s_want_code) rfl
  have D5 : DefX K mg "want_code" s_want_code ["value"] (He.ga K "want_code") fd5 := dfx X G F5 (c.t.fact 5 (f := .glo "want_code") rfl) (fun _ _ _ _ _ _ us hl => match us, hl with | [_], _ => rfl)
  obtain ⟨fd6, F6⟩ := c.t.def_ 6 (d := dD "is_number" s_is_number) rfl
  have D6 : DefX K mg "is_number" s_is_number ["value"] (He.ga K "is_number") fd6 := dfx X G F6 (c.t.fact 6 (f := .glo "is_number") rfl) (fun _ _ _ _ _ _ us hl => match us, hl with | [_], _ => rfl)
  obtain ⟨fd7, F7⟩ := c.t.def_ 7 (d := dD "is_string" s_is_string) rfl
  have D7 : DefX K mg "is_string" s_is_string ["value"] (He.ga K "is_string") fd7 := dfx X G F7 (c.t.fact 7 (f := .glo "is_string") rfl) (fun _ _ _ _ _ _ us hl => match us, hl with | [_], _ => rfl)
  obtain ⟨fd8, F8⟩ := c.t.def_ 8 (d := dD "is_byte" s_is_byte) rfl
  have D8 : DefX K mg "is_byte" s_is_byte ["value"] (He.ga K "is_byte") fd8 := dfx X G F8 (c.t.fact 8 (f := .glo "is_byte") rfl) (fun _ _ _ _ _ _ us hl => match us, hl with | [_], _ => rfl)
  obtain ⟨fd9, F9⟩ := c.t.def_ 9 (d := dD "are_bytes" s_are_bytes) rfl
  have D9 : DefX K mg "are_bytes" s_are_bytes ["value"] (He.ga K "are_bytes") fd9 := dfx X G F9 (c.t.fact 9 (f := .glo "are_bytes") rfl) (fun _ _ _ _ _ _ us hl => match us, hl with | [_], _ => rfl)
  obtain ⟨fd10, F10⟩ := c.t.def_ 10 (d := dD "are_strings" s_are_strings) rfl
  have D10 : DefX K mg "are_strings" s_are_strings ["value"] (He.ga K "are_strings") fd10 := dfx X G F10 (c.t.fact 10 (f := .glo "are_strings") rfl) (fun _ _ _ _ _ _ us hl => match us, hl with | [_], _ => rfl)
  obtain ⟨fd11, F11⟩ := c.t.def_ 11 (d := dD "are_constants" s_are_constants) rfl
  have D11 : DefX K mg "are_constants" s_are_constants ["value"] (He.ga K "are_constants") fd11 := dfx X G F11 (c.t.fact 11 (f := .glo "are_constants") rfl) (fun _ _ _ _ _ _ us hl => match us, hl with | [_], _ => rfl)
  obtain ⟨fd12, F12⟩ := c.t.def_ 12 (d := dD "_law_source_of" s_law_source_of) rfl
  have D12 : DefX K mg "_law_source_of" s_law_source_of ["cell"] (He.ga K "_law_source_of") fd12 := dfx X G F12 (c.t.fact 12 (f := .glo "_law_source_of") rfl) (fun _ _ _ _ _ _ us hl => match us, hl with | [_], _ => rfl)
  obtain ⟨fd13, F13⟩ := c.t.def_ 13 (d := dD "_law_next" s_law_next) rfl
  have D13 : DefX K mg "_law_next" s_law_next ["source", "many"] (He.ga K "_law_next") fd13 := dfx X G F13 (c.t.fact 13 (f := .glo "_law_next") rfl) (fun _ _ _ _ _ _ us hl => match us, hl with | [_, _], _ => rfl)
  obtain ⟨fd14, F14⟩ := c.t.def_ 14 (d := dD "_law_one" s_law_one) rfl
  have D14 : DefX K mg "_law_one" s_law_one ["source", "some"] (He.ga K "_law_one") fd14 := dfx X G F14 (c.t.fact 14 (f := .glo "_law_one") rfl) (fun _ _ _ _ _ _ us hl => match us, hl with | [_, _], _ => rfl)
  obtain ⟨fd15, F15⟩ := c.t.def_ 15 (d := dD "_law_pieces" s_law_pieces) rfl
  have D15 : DefX K mg "_law_pieces" s_law_pieces ["number"] (He.ga K "_law_pieces") fd15 := dfx X G F15 (c.t.fact 15 (f := .glo "_law_pieces") rfl) (fun _ _ _ _ _ _ us hl => match us, hl with | [_], _ => rfl)
  obtain ⟨fd16, F16⟩ := c.t.def_ 16 (d := dD "_law_marked" s_law_marked) rfl
  have D16 : DefX K mg "_law_marked" s_law_marked ["some"] (He.ga K "_law_marked") fd16 := dfx X G F16 (c.t.fact 16 (f := .glo "_law_marked") rfl) (fun _ _ _ _ _ _ us hl => match us, hl with | [_], _ => rfl)
  obtain ⟨fd17, F17⟩ := c.t.def_ 17 (d := dD "_law_made" s_law_made) rfl
  have D17 : DefX K mg "_law_made" s_law_made ["data", "lines", "guards", "first"] (He.ga K "_law_made") fd17 := dfx X G F17 (c.t.fact 17 (f := .glo "_law_made") rfl) (fun _ _ _ _ _ _ us hl => match us, hl with | [_, _, _, _], _ => rfl)
  obtain ⟨fd18, F18⟩ := c.t.def_ 18 (d := dD "_law_row_bytes" s_law_row_bytes) rfl
  have D18 : DefX K mg "_law_row_bytes" s_law_row_bytes ["row"] (He.ga K "_law_row_bytes") fd18 := dfx X G F18 (c.t.fact 18 (f := .glo "_law_row_bytes") rfl) (fun _ _ _ _ _ _ us hl => match us, hl with | [_], _ => rfl)
  obtain ⟨fd19, F19⟩ := c.t.def_ 19 (d := dD "_law_joined" s_law_joined) rfl
  have D19 : DefX K mg "_law_joined" s_law_joined ["some"] (He.ga K "_law_joined") fd19 := dfx X G F19 (c.t.fact 19 (f := .glo "_law_joined") rfl) (fun _ _ _ _ _ _ us hl => match us, hl with | [_], _ => rfl)
  obtain ⟨fd20, F20⟩ := c.t.def_ 20 (d := dD "_law_entry" s_law_entry) rfl
  have D20 : DefX K mg "_law_entry" s_law_entry ["units", "more"] (He.ga K "_law_entry") fd20 := dfx X G F20 (c.t.fact 20 (f := .glo "_law_entry") rfl) (fun _ _ _ _ _ _ us hl => match us, hl with | [_, _], _ => rfl)
  obtain ⟨fd21, F21⟩ := c.t.def_ 21 (d := dD "_law_line_bytes" s_law_line_bytes) rfl
  have D21 : DefX K mg "_law_line_bytes" s_law_line_bytes ["some", "line"] (He.ga K "_law_line_bytes") fd21 := dfx X G F21 (c.t.fact 21 (f := .glo "_law_line_bytes") rfl) (fun _ _ _ _ _ _ us hl => match us, hl with | [_, _], _ => rfl)
  obtain ⟨fd22, F22⟩ := c.t.def_ 22 (d := dD "_law_number_read" s_law_number_read) rfl
  have D22 : DefX K mg "_law_number_read" s_law_number_read ["data", "at", "is_first"] (He.ga K "_law_number_read") fd22 := dfx X G F22 (c.t.fact 22 (f := .glo "_law_number_read") rfl) (fun _ _ _ _ _ _ us hl => match us, hl with | [_, _, _], _ => rfl)
  obtain ⟨fd23, F23⟩ := c.t.def_ 23 (d := dD "_law_handlers_read" s_law_handlers_read) rfl
  have D23 : DefX K mg "_law_handlers_read" s_law_handlers_read ["data"] (He.ga K "_law_handlers_read") fd23 := dfx X G F23 (c.t.fact 23 (f := .glo "_law_handlers_read") rfl) (fun _ _ _ _ _ _ us hl => match us, hl with | [_], _ => rfl)
  obtain ⟨fd24, F24⟩ := c.t.def_ 24 (d := dD "_law_signed_read" s_law_signed_read) rfl
  have D24 : DefX K mg "_law_signed_read" s_law_signed_read ["data", "at"] (He.ga K "_law_signed_read") fd24 := dfx X G F24 (c.t.fact 24 (f := .glo "_law_signed_read") rfl) (fun _ _ _ _ _ _ us hl => match us, hl with | [_, _], _ => rfl)
  obtain ⟨fd25, F25⟩ := c.t.def_ 25 (d := dD "_law_lines_read" s_law_lines_read) rfl
  have D25 : DefX K mg "_law_lines_read" s_law_lines_read ["data", "line"] (He.ga K "_law_lines_read") fd25 := dfx X G F25 (c.t.fact 25 (f := .glo "_law_lines_read") rfl) (fun _ _ _ _ _ _ us hl => match us, hl with | [_, _], _ => rfl)
  obtain ⟨fd26, F26⟩ := c.t.def_ 26 (d := dD "_law_bent" s_law_bent) rfl
  have D26 : DefX K mg "_law_bent" s_law_bent ["source", "data", "some"] (He.ga K "_law_bent") fd26 := dfx X G F26 (c.t.fact 26 (f := .glo "_law_bent") rfl) (fun _ _ _ _ _ _ us hl => match us, hl with | [_, _, _], _ => rfl)
  obtain ⟨fd27, F27⟩ := c.t.def_ 27 (d := dD "_law_caught" s_law_caught) rfl
  have D27 : DefX K mg "_law_caught" s_law_caught ["ask"] (He.ga K "_law_caught") fd27 := dfx X G F27 (c.t.fact 27 (f := .glo "_law_caught") rfl) (fun _ _ _ _ _ _ us hl => match us, hl with | [_], _ => rfl)
  obtain ⟨fd28, F28⟩ := c.t.def_ 28 (d := dD "_law_good" s_law_good) rfl
  have D28 : DefX K mg "_law_good" s_law_good ["source"] (He.ga K "_law_good") fd28 := dfx X G F28 (c.t.fact 28 (f := .glo "_law_good") rfl) (fun _ _ _ _ _ _ us hl => match us, hl with | [_], _ => rfl)
  obtain ⟨fd29, F29⟩ := c.t.def_ 29 (d := dD "_law_same" s_law_same) rfl
  have D29 : DefX K mg "_law_same" s_law_same ["ask", "due"] (He.ga K "_law_same") fd29 := dfx X G F29 (c.t.fact 29 (f := .glo "_law_same") rfl) (fun _ _ _ _ _ _ us hl => match us, hl with | [_, _], _ => rfl)
  obtain ⟨fd30, F30⟩ := c.t.def_ 30 (d := dD "law" s_law) rfl
  have D30 : DefX K mg "law" s_law ["script"] (He.ga K "law") fd30 := dfx X G F30 (c.t.fact 30 (f := .glo "law") rfl) (fun _ _ _ _ _ _ us hl => match us, hl with | [_], _ => rfl)
  obtain ⟨fdI, FI⟩ := c.t.def_ 31 (d := dM "Code" "__init__" "Code.__init__" s_Code_init) rfl
  have DI : MetX K "__init__" "Code.__init__" s_Code_init ["self", "argcount", "onlycount", "stacksize", "flags", "code", "constants", "names", "slots", "kinds", "name", "path", "line", "lines", "handlers"] (He.ma K (He.ga K "Code") "__init__") fdI := metx FI (fun _ _ _ _ _ _ us hl => match us, hl with | [_, _, _, _, _, _, _, _, _, _, _, _, _, _, _], _ => rfl)
  obtain ⟨fdL, FL⟩ := c.t.def_ 32 (d := dM "Code" "look" "Code.look" s_Code_look) rfl
  have DL : MetX K "look" "Code.look" s_Code_look ["self"] (He.ma K (He.ga K "Code") "look") fdL := metx FL (fun _ _ _ _ _ _ us hl => match us, hl with | [_], _ => rfl)
  have cl : Cls K (He.ga K "Code") := He.cls_ok (c.t.fact 56 (f := .cls "Code") rfl)
  obtain ⟨x1, xr⟩ := He.ba c.more
  obtain ⟨x2, xr⟩ := He.ba xr
  obtain ⟨x3, xr⟩ := He.ba xr
  obtain ⟨x4, xr⟩ := He.ba xr
  obtain ⟨x5, xr⟩ := He.ba xr
  obtain ⟨x6, xr⟩ := He.ba xr
  obtain ⟨x7, xr⟩ := He.ba xr
  obtain ⟨x8, x9⟩ := He.ba xr
  have cx0 : nxObs "NoCode" K = (nv w).1.getD 0 none := congrArg (fun z : Bt => z.1.getD 0 none) c.nx
  have cx1 : nxObs "NoTable" K = (nv w).1.getD 1 none := congrArg (fun z : Bt => z.1.getD 1 none) c.nx
  have nx0 : PySem.Nx.Txt l.prog K mg (He.ga K "NoCode") (He.ma K (He.ga K "NoCode") "__init__") := nx_txt x1 cx0 (by rfl) (He.free_ok X G (c.t.fact 50 (f := .free "super") rfl)) (by rfl) hev0
  have nx1 : PySem.NxA.Txt l.prog K mg (He.ga K "NoTable") (He.ma K (He.ga K "NoTable") "__init__") := nx_txtA x2 cx1 (by rfl) (He.free_ok X G (c.t.fact 50 (f := .free "super") rfl)) (by rfl) hev1
  have gC : mg "Code" = some (.ref (He.ga K "Code")) := (He.glo_ok X G (c.t.fact 31 (f := .glo "Code") rfl))
  have na : ∀ f ∈ flds, NoAttr K (He.ga K "Code") f := by
    intro f hf
    simp only [flds, List.mem_cons, List.mem_nil_iff, or_false] at hf
    rcases hf with rfl | rfl | rfl | rfl | rfl | rfl | rfl | rfl | rfl | rfl | rfl | rfl | rfl | rfl | rfl
    · exact He.noat_ok (c.t.fact 59 (f := .noat "Code" "argcount") rfl)
    · exact He.noat_ok (c.t.fact 60 (f := .noat "Code" "onlycount") rfl)
    · exact He.noat_ok (c.t.fact 61 (f := .noat "Code" "stacksize") rfl)
    · exact He.noat_ok (c.t.fact 62 (f := .noat "Code" "flags") rfl)
    · exact He.noat_ok (c.t.fact 63 (f := .noat "Code" "code") rfl)
    · exact He.noat_ok (c.t.fact 64 (f := .noat "Code" "constants") rfl)
    · exact He.noat_ok (c.t.fact 65 (f := .noat "Code" "names") rfl)
    · exact He.noat_ok (c.t.fact 66 (f := .noat "Code" "slots") rfl)
    · exact He.noat_ok (c.t.fact 67 (f := .noat "Code" "kinds") rfl)
    · exact He.noat_ok (c.t.fact 68 (f := .noat "Code" "name") rfl)
    · exact He.noat_ok (c.t.fact 69 (f := .noat "Code" "path") rfl)
    · exact He.noat_ok (c.t.fact 70 (f := .noat "Code" "line") rfl)
    · exact He.noat_ok (c.t.fact 71 (f := .noat "Code" "lines") rfl)
    · exact He.noat_ok (c.t.fact 72 (f := .noat "Code" "handlers") rfl)
    · exact He.noat_ok (c.t.fact 73 (f := .noat "Code" "nested") rfl)
  have GK : GlK l.prog K mg (He.ga K "Code") (He.ga K "NoCode") (He.ma K (He.ga K "NoCode") "__init__") := ⟨⟨_, gC, rfl⟩, insB_ok cl x3, na, fun t ht => of_decide_eq_true (List.all_eq_true.mp x4 t ht), nx0, (He.glo_ok X G (c.t.fact 32 (f := .glo "NoCode") rfl)), (He.free_ok X G (c.t.fact 41 (f := .free "isinstance") rfl))⟩
  have MK : Mk K (He.ga K "Code") (He.ma K (He.ga K "Code") "__init__") := He.mkr_ok (c.t.fact 57 (f := .mkr "Code") rfl)
  have ML : Meth K (He.ga K "Code") "look" (He.ma K (He.ga K "Code") "look") := He.meth_ok (c.t.fact 58 (f := .meth "Code" "look") rfl)
  have T0 : Gl0 mg := ⟨(He.free_ok X G (c.t.fact 37 (f := .free "int") rfl)), (He.free_ok X G (c.t.fact 38 (f := .free "len") rfl)), (He.free_ok X G (c.t.fact 39 (f := .free "range") rfl))⟩
  have T1 : Gl1 mg := ⟨(int_rel X G (c.t.fact 51 (f := .int "FURTHER" 64) rfl)), (int_rel X G (c.t.fact 52 (f := .int "MARK" 128) rfl)), (He.free_ok X G (c.t.fact 40 (f := .free "tuple") rfl))⟩
  have T2 : Gl2 mg := ⟨(He.free_ok X G (c.t.fact 41 (f := .free "isinstance") rfl)), (He.free_ok X G (c.t.fact 37 (f := .free "int") rfl)), (He.free_ok X G (c.t.fact 42 (f := .free "bool") rfl)), (He.free_ok X G (c.t.fact 43 (f := .free "str") rfl)), (He.free_ok X G (c.t.fact 44 (f := .free "all") rfl)), (He.free_ok X G (c.t.fact 45 (f := .free "ord") rfl)), (He.free_ok X G (c.t.fact 46 (f := .free "list") rfl)), (He.free_ok X G (c.t.fact 40 (f := .free "tuple") rfl)), (int_rel X G (c.t.fact 53 (f := .int "MOST_NUMBER" 2147483647) rfl))⟩
  have T3 : Gl3 mg := ⟨(He.free_ok X G (c.t.fact 47 (f := .free "max") rfl))⟩
  have T4 : Gl4 mg := ⟨(int_rel X G (c.t.fact 54 (f := .int "NO_LINE" 15) rfl)), (int_rel X G (c.t.fact 55 (f := .int "ONE_LINE" 13) rfl)), (He.free_ok X G (c.t.fact 48 (f := .free "min") rfl))⟩
  have T5 : Gl5 mg := ⟨(int_rel X G (c.t.fact 54 (f := .int "NO_LINE" 15) rfl)), (int_rel X G (c.t.fact 55 (f := .int "ONE_LINE" 13) rfl))⟩
  have TT : GTb l.prog K mg (He.ga K "NoTable") (He.ma K (He.ga K "NoTable") "__init__") := ⟨nx1, (He.glo_ok X G (c.t.fact 34 (f := .glo "NoTable") rfl))⟩
  have GE : GlTab K mg (He.ga K "NoTable") := ⟨excCB_ok x5, xfB_ok x6, nx1.noN, ⟨_, (He.glo_ok X G (c.t.fact 33 (f := .glo "CodeError") rfl)), of_decide_eq_true x7⟩, (He.free_ok X G (c.t.fact 41 (f := .free "isinstance") rfl)), (He.glo_ok X G (c.t.fact 34 (f := .glo "NoTable") rfl)), of_decide_eq_true x8, ⟨_, (He.glo_ok X G (c.t.fact 32 (f := .glo "NoCode") rfl)), of_decide_eq_true x9⟩, ⟨_, (He.glo_ok X G (c.t.fact 35 (f := .glo "NoRows") rfl))⟩, ⟨_, (He.glo_ok X G (c.t.fact 36 (f := .glo "NoBytes") rfl))⟩⟩
  obtain ⟨oc, od, dV, kV, doc, pm, an, cdv, ct, osl, efd, lk, hcd, _, _⟩ := F30.ex
  have hb := FunD.bindsA (ps := ["script"]) F30 (fun _ _ _ _ _ _ us hl => match us, hl with | [_], _ => rfl)
  obtain ⟨c', rfl⟩ := He.codeIn_ref hcd
  have ec : He.codeOf K ("law", none) = c' := He.codeOf_eq (p := ("law", none)) (efd ▸ lk) rfl
  subst efd
  have eT : (He.cT K ("law", none)).1 = c' := ec
  refine ⟨[He.cT K ("law", none)], spLaw K (He.cT K ("law", none)).2, fun p hp => ?_, fun p hp => ?_, fun p hp => ?_, fun H a ns hl _ hH hS => ?_, fun base KB GB hTB => ?_⟩
  · rw [List.mem_singleton.mp hp]
    exact c.empty _ (List.mem_singleton.mpr rfl)
  · rw [List.mem_singleton.mp hp]
    exact c.out _ (List.mem_singleton.mpr rfl)
  · rw [List.mem_singleton.mp hp]
    exact PySem.W.codeHd_of_K X (c.hd _ (List.mem_singleton.mpr rfl))
  · refine ⟨a, ns, rfl, hS, Nat.le_trans hl (by decide), fun p hp => ?_, fun _ => rfl⟩
    rw [List.mem_singleton.mp hp]
    exact LamX.TabS.nil (hH _ (List.mem_singleton.mpr rfl))
  · have TB := hTB _ (List.mem_singleton.mpr rfl)
    rw [eT] at TB
    have c_joined := ok_joined (P := l.prog) (w := w) (base := base) D0
    have c_wc := ok_want_code (P := l.prog) (w := w) (base := base) GK D5
    have f_na := ok_number_at (P := l.prog) (w := w) (base := base) T0 T1 TT D1
    have f_er := ok_exception_rows T0 GK c_wc (D1.cal f_na) D2
    have f_sa := ok_signed_at (P := l.prog) (w := w) (base := base) T0 T1 TT D3
    have f_lr := ok_line_rows T0 T1 T5 TT GK c_wc c_joined (D3.cal f_sa) D4
    have c_isn := ok_is_number (P := l.prog) (w := w) (base := base) T2 D6
    have c_iss := ok_is_string (P := l.prog) (w := w) (base := base) T2 D7
    have c_isb := ok_is_byte (P := l.prog) (w := w) (base := base) T2 D8
    have c_arb := ok_are_bytes T2 c_isb D9
    have c_ars := ok_are_strings (P := l.prog) (w := w) (base := base) T2 D10
    have c_arc := ok_are_constants (P := l.prog) (w := w) (base := base) T2 D11
    have c_look := ok_Code_look T0 GK c_isn c_iss c_arb c_ars c_arc DL
    have c_init := ok_Code_init T0 T2 T3 GK ML c_look DL.bi DI
    have c_made := ok_law_made GK MK c_init DI.bi D17
    have c_so := ok_law_source_of (P := l.prog) (w := w) (base := base) T0 D12
    have c_next := ok_law_next (P := l.prog) (w := w) (base := base) T0 D13
    have c_one := ok_law_one T0 c_next D14
    have c_lp := ok_law_pieces (P := l.prog) (w := w) (base := base) T0 D15
    have c_lm := ok_law_marked (P := l.prog) (w := w) (base := base) D16
    have c_row := ok_law_row_bytes T0 c_lp c_lm D18
    have c_lj := ok_law_joined (P := l.prog) (w := w) (base := base) D19
    have c_le := ok_law_entry c_lp c_lm D20
    have c_llb := ok_law_line_bytes T0 T4 c_lj c_le D21
    have c_nr := ok_law_number_read (P := l.prog) (w := w) (base := base) T0 D22
    have c_hr := ok_law_handlers_read T0 c_nr D23
    have c_sr := ok_law_signed_read (P := l.prog) (w := w) (base := base) T0 D24
    have c_lrd := ok_law_lines_read T0 c_lj c_sr D25
    have c_bent := ok_law_bent T0 c_next c_one D26
    have c_good := ok_law_good T0 c_next c_one c_row c_llb D28
    have C := (⟨c_so, c_next, c_good, c_bent, c_made, c_hr, c_lrd, D2.cal f_er, D4.cal f_lr⟩ : Cals l.prog w K mg base (He.ga K "Code") (He.ga K "NoTable"))
    exact ok_law T0 (He.free_ok X G (c.t.fact 49 (f := .free "repr") rfl)) GE C D29 D27 lk hcd hb TB
end K49
open PySem PySem.W PySem.Calls PyProof.Rows
theorem PySem.Challenge.cw_codewalk_k49_tables_spoilt_holds : PySem.Challenge.rw_codewalk_k49_tables_spoilt.Holds := by
  w_on; o_law
  refine HandSHeadRun.head_any (r := OpenLaw.row PySem.Challenge.rw_codewalk_k49_tables_spoilt) (q := view (OpenLaw.row PySem.Challenge.rw_codewalk_k49_tables_spoilt).prog [48]) (H := K49.hk) (ob := K49.ob) (M := 6000) (loose := K49.loose) (d := HandSHeadRun.topDef (OpenLaw.row PySem.Challenge.rw_codewalk_k49_tables_spoilt).prog 48) (kwd := []) K49.ob_eq
    (by kernel_rfl) (fun s => by kernel_rfl) K49.run (by kernel_rfl) (by kernel_rfl) (by kernel_rfl) (by rfl) (by first | assumption | decide +kernel) (by decide +kernel) ⟨rfl, rfl, rfl, rfl, rfl, by decide +kernel⟩ ?hw ?hc
  case hw => w_witness2
  case hc =>
    refine Nd.walk_at (l := PySem.Challenge.rw_codewalk_k49_tables_spoilt) (n := 63) rfl (by decide) (by kernel_rfl) ?F
    intro w mg fa h Y G hmg0
    obtain ⟨K, KX, c⟩ := Y
    have hmg : mg ("law" : PySem.Str) = some (.ref fa) := by
      have e : (HandSHeadRun.topDef (OpenLaw.row PySem.Challenge.rw_codewalk_k49_tables_spoilt).prog 48).name = ("law" : PySem.Str) := by kernel_rfl
      rw [← e]
      exact hmg0
    exact ⟨K, KX, K49.facts KX G hmg c⟩
