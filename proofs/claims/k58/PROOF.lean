import PyProof.Rows.All
import Wide.All
import OpenK.AllK
import Wide.FinOn
import KE.KExcSuper
import HandS.ForMost
import HandS.Exc
import HandS.ExcInit
import HandS.TryMany
import HandS.ExcIs
import HandS.IsInst
import HandS.Lambda
import HandS.Style
import HandS.Wide
import HandS.Defaults
import PyProof.ReprRoads
import KE.KExcIs
import HandS.EndTab
import HandS.EndOwn
import HandS.HeadWalk
import PyProof.ReprText
import KE.BitLaws
import HandS.WordsExc
import HandS.Head0
import HandS.Head1
import HandS.Head2
import HandS.HeadEnd
import HandS.HeadHook4
import HandS.ExcField
import HandS.MakeKwOnly
import HandS.Codes
import HandS.Walk
import HandS.LawCells
import PyProof.FitsInt
import PyProof.P3Eq
import HandS.More
import KE.GoesEnum
import PyProof.EvalArms
import HandS.Dict
import HandS.List
import KE.KDictOf
import PyProof.WalksMore
import PyProof.SumWalk
import PyProof.ListOps
import PyProof.StrOps2
import HandS.Comp
import HandS.SortInts
import HandS.Iter
import HandS.RaiseMore
import HandS.TryOnly
import HandS.Text
import HandS.WideBits
import KE.IntBitsLaws
import Wide.Once
import PySem.Challenge.RW_codewalk_k58_instructions_that_cannot_be
set_option Elab.async false
set_option linter.all false
set_option maxRecDepth 100000
set_option maxHeartbeats 4000000
/-! ### own exceptions whose __init__ is: super().__init__(field); self.field = field -/
namespace PySem
namespace Nx
open PySem.W PySem.Calls PyProof.Rows PySem.HandSPX
def iA (p1 p2 : Pos) : Arguments := { posonlyargs := [], args := [{ arg := "self", annotation := none, pos := p1 }, { arg := "field", annotation := none, pos := p2 }], vararg := none, kwonlyargs := [], kw_defaults := [], kwarg := none, defaults := [] }
def iB (q1 q2 q3 q4 q5 q6 q7 q8 q9 q10 : Pos) : List Stmt :=
  [.Expr (.Call (.Attribute (.Call (.Name "super" q1) [] [] q2) "__init__" q3) [.Name "field" q4] [] q5) q6, .Assign [.Attribute (.Name "self" q7) "field" q8] (.Name "field" q9) q10]
def iS : Scope := { kind := .function, names := [(PySem.Str.ofString "self", .local), (PySem.Str.ofString "field", .local), (PySem.Str.ofString "__class__", .free), (PySem.Str.ofString "super", .globalImplicit)], isGenerator := false, isCoroutine := false, more := [] }
/-- what the written part says of the class at C and of its __init__ at fI -/
structure Txt (P : Program) (K : Frag) (mg : Str → Option Value) (C fI : Addr) : Prop where
  ox : L2.OexC K C
  noN : findIn K (.ref C) "field" = some none
  iC : findIn K (.ref C) "__init__" = some (some (.ref fI))
  tI : typeIn K (.ref fI) = some (.type "function")
  sup : ks_superIn K C C "__init__" = some (some (.builtin "ValueError.__init__"))
  sub : mroIn K C (.ref C) = some true
  isB : subIn K (.ref C) (.type "ValueError") = some true
  tp : nsIn K cStatics "thirdparty.any" = some none
  noS : mg "super" = none
  top : (P.main.scope.names.lookup ("super" : Str)).isSome = false
  fn : ∃ (qn : Str) (oc ccl cl ct doc pm : Value) (od cdd cld an : Option Addr) (osl ccs csl : Array (Option Value)) (cda cc : Addr) (vs : Array Value) (file : Str) (tf : Tok) (p1 p2 q1 q2 q3 q4 q5 q6 q7 q8 q9 q10 : Pos),
    K.lookup fI = some ⟨oc, od, .func (ksFn "__init__" qn (iA p1 p2) (iB q1 q2 q3 q4 q5 q6 q7 q8 q9 q10) iS .none .none doc pm an (.ref cda) ct cc), osl⟩ ∧ codeIn K (.ref cda) qn = true ∧
    K.lookup cda = some ⟨ccl, cdd, .fields vs, ccs⟩ ∧ vs[2]? = some (.str file tf) ∧ ((P.main.file : Str) == file) = true ∧
    K.lookup cc = some ⟨cl, cld, .cell (some (.ref C)), csl⟩ ∧
    (∀ env : Env, ∃ pl : Sem Bool, eval (.Call (.Attribute (.Call (.Name "super" q1) [] [] q2) "__init__" q3) [.Name "field" q4] [] q5) env = (do
      let ov ← attributeBase (.Call (.Name "super" q1) [] [] q2) "__init__" env (eval (.Call (.Name "super" q1) [] [] q2) env)
      standAt q3.atName
      let (f, first) ← holding [ov] (getMethod ov "__init__" pl)
      callWith q5 f first (backTo q5 (starEach [.Name "field" q4] env)) []))
section
variable {prog : Program} {w : World} {A : Around} {R : Result → Shared → Prop} {s : Shared} {K : Frag} {mg mb : Str → Option Value} {C fI : Addr}
/-- what __init__ leaves of a fresh exception at x -/
structure InitEnd (h h' : Heap) (x C dx t1 : Addr) (v : Value) : Prop where
  keep : ∀ b o, b ≠ x → h.get? b = some o → h'.get? b = some o
  obj : h'.get? x = some { cls := .ref C, dict := some dx, data := .fields #[.ref t1, .none, .none, .none, .bool false, .none] }
  dbig : h.objs.size ≤ dx
  dne : dx ≠ x
  ns : h'.Ns1 dx (fun y => if y = "field" then some v else none)
theorem init_ok (T : Txt prog K mg C fI) {x t0 : Addr} {v : Value} (X : K.In s.heap) (hns : s.heap.Ns mainGlobals mg) (hbl : s.heap.Ns builtinsNs mb) (hbb : ∀ x : Str, x ≠ "__name__" → mb x = bootBuiltins x) (hlim : s.heap.NoLimit)
    (hx : s.heap.get? x = some (excO C t0)) (hnx : K.lookup x = none) (hroom : A.depth < recursionLimit)
    (hq : ∀ h' tk dx t1, InitEnd s.heap h' x C dx t1 v → R (.ok (.ret .none)) { s with heap := h', toks := tk }) :
    codeAny (model prog w) A (.call (.ref fI) ⟨[.ref x, v], []⟩) R s := by
  obtain ⟨qn, oc, ccl, cl, ct, doc, pm, od, cdd, cld, an, osl, ccs, csl, cda, cc, vs, file, tf, p1, p2, q1, q2, q3, q4, q5, q6, q7, q8, q9, q10, ho, hcd, hcode, hvs, hfile, hcell, hev⟩ := T.fn
  obtain ⟨nm, q, N, bs, bm, sn, sub, ab, col, dd, k0, k1, k2, k3, k5, hC, hbm⟩ := T.ox.cls
  have hcl : clsIn K C = some { name := nm, bases := bs, mro := .ref C :: bm, ns := N, qualname := q, hasDict := true, slotNames := sn, subclasses := sub, abstract := ab, collection := col, hasDel := false } := by unfold clsIn; rw [hC] <;> rfl
  refine ks_codeAny_call_defAt (fd := ksFn "__init__" qn (iA p1 p2) (iB q1 q2 q3 q4 q5 q6 q7 q8 q9 q10) iS .none .none doc pm an (.ref cda) ct cc) (body := iB q1 q2 q3 q4 q5 q6 q7 q8 q9 q10) (binds := [("self", .ref x), ("field", v)])
    hroom (X _ _ ho) rfl hlim (codeRec_of X hcd) rfl (BindsTo.of_eq (by first | rfl | with_unfolding_all rfl)) (show ∀ x ∈ iS.names, x.2 ≠ NameKind.cell from by decide +kernel) (by
      intro y hy
      rcases List.mem_cons.mp hy with rfl | hy
      · exact (show iS.names.lookup ("self" : Str) = some .local from by decide +kernel)
      · rcases List.mem_cons.mp hy with rfl | hy
        · exact (show iS.names.lookup ("field" : Str) = some .local from by decide +kernel)
        · cases hy) (fun h₁ hn₁ k₁ => ?_)
  have X₁ : K.In h₁ := X.keeps k₁
  have hx₁ := k₁ _ _ hx
  obtain ⟨hp, g, dr, tk, os⟩ := s
  -- super().__init__(field)
  obtain ⟨pl, he⟩ := hev (ksEnv qn iS hp.objs.size fI (.ref cda) cc)
  refine ks_wpAt_execs_cons (ks_wpAt_Expr_any (ks_wpAt_MethodCall (pl := pl) ?_ he))
  refine ks_wpAt_super_base (env := ksEnv qn iS hp.objs.size fI (.ref cda) cc) rfl rfl (by decide +kernel) rfl (X₁ _ _ ho) rfl rfl rfl (X₁ _ _ hcode) rfl hvs hfile T.top ?_
  refine ks_loadName_global rfl rfl (loadGlobal_builtin (env := ksEnv qn iS hp.objs.size fI (.ref cda) cc) (hns.keeps k₁) T.noS (hbl.keeps k₁) ((hbb _ (by decide +kernel)).trans Boot.«super») ⟨rfl, ?_⟩)
  refine wpAny_loadName_free rfl rfl rfl ⟨_, X₁ _ _ hcell, rfl⟩ ?_
  refine wpAny_loadName_local rfl rfl hn₁ rfl ?_
  refine ks_wpAny_isType_cls (X₁ _ _ hC) rfl ⟨rfl, ?_⟩
  refine ks_wpAny_call_super (X₁ _ _ hC) rfl hx₁ rfl (fun c e => by cases e) (looks_mroIn X₁ T.sub) (fun h₂ e₂ k₂ => ?_)
  have X₂ : K.In h₂ := X₁.keeps k₂
  have hx₂ := k₂ _ _ hx₁
  have hm : alongIn K "__init__" (((Value.ref C :: bm).dropWhile (· != .ref C)).drop 1) = some (some (.builtin "ValueError.__init__")) := by
    have z := T.sup
    unfold ks_superIn at z
    rw [hcl] at z
    exact z
  have hI : Looks (model prog w) h₂ (isInstance (.ref x) (.type "ValueError")) true := (show InstAt h₂ x (excO C t0) C none from ⟨hx₂, rfl, rfl, trivial⟩).type.andThen (looks_subIn X₂ T.isB)
  have nxC : x ≠ C := by
    rintro rfl
    have z := X₂ _ _ hC
    rw [hx₂] at z
    cases z
  refine kxs_getMethod kxs_ValueError e₂ (looks_opaque X₂ T.tp) (l₀ := .ref C :: bm) (fun A Q E s k q => wpAny_bind ((looks_clsIn X₂ hcl) A _ E s k (wpAny_pure q))) rfl X₂ hm hI nxC (by decide +kernel) ?_
  have k₃ : ∀ b o, h₂.get? b = some o → (h₂.push (kxs_mw "ValueError.__init__" x)).get? b = some o := fun b o e => Heap.get?_push_of_some _ e
  have e₃ : (h₂.push (kxs_mw "ValueError.__init__" x)).get? h₂.objs.size = some (kxs_mw "ValueError.__init__" x) := Heap.get?_push_at rfl rfl
  have n₃ := (hn₁.keeps k₂).keeps k₃
  have X₃ := X₂.keeps k₃
  have hx₃ := k₃ _ _ hx₂
  refine kxs_callWith (i := "ValueError.__init__") (x := x) (by rfl) (evalArgs_plain ?_)
  show wpAny _ _ (spliced ((false, eval (.Name "field" q4) (ksEnv qn iS hp.objs.size fI (.ref cda) cc)) :: backTo q5 (starEach [] (ksEnv qn iS hp.objs.size fI (.ref cda) cc)))) _ _ _
  refine Calls.spliced_cons (wpAny_Name (wpAny_loadName_local rfl rfl n₃ rfl ?_) (by decide +kernel))
  refine Calls.spliced_nil ⟨e₃, ?_⟩
  show wpAny _ _ (call (.ref h₂.objs.size) [v]) _ _ _
  refine wpAny_call (codeAny_of_tree ?_)
  show wpAny _ _ (callAny (.ref h₂.objs.size) ⟨[v], []⟩) _ _ _
  simp only [callAny]
  refine wpAny_bind (wpAny_load e₃ ?_)
  simp only [kxs_mw, show (Value.type "method-wrapper" == Value.type "method" || Value.type "method-wrapper" == Value.type "builtin_function_or_method" || Value.type "method-wrapper" == Value.type "method-wrapper") = true by decide, if_true]
  refine KFB.if_so (by decide) ?_
  refine wpAny_bind (check_bound_init PySem.F.excBase_ValueError.toExcCallFacts (X₃ _ _ hC) hx₃ rfl ?_)
  refine wpAny_bind (wpAny_pure (wpAny_pure ?_))
  refine ⟨plainId_quiet PySem.F.excBase_ValueError.init.plain _, codeAny_builtin PySem.F.excBase_ValueError.initEntry ?_⟩
  refine exc_init_tree (e := x) (cls := .ref C) (dv := none) (c2 := .none) (c3 := .none) (b4 := .bool false) hx₃ (by show 1 ≤ sizeLine; rw [sizeLine_eq]; decide) (fun h₄ k₄ hx₄ _ => ?_)
  have X₄ : K.In h₄ := fun b o e => k₄ b o (fun z => by rw [z, hnx] at e; cases e) (X₃ b o e)
  have xL : hp.objs.size ≠ x := Nat.ne_of_gt (Heap.lt_size hx)
  have n₄ : h₄.Ns hp.objs.size (fun y => List.lookup y [(("self" : Str), Value.ref x), (("field" : Str), v)].reverse) := by
    obtain ⟨o, es, ep, e, r⟩ := n₃
    exact ⟨o, es, ep, k₄ _ _ xL e, r⟩
  -- self.field = field
  refine wpAt_of_wpAny (wpAny_execs_cons (plainObj_wpAny_Assign_Attribute ?_))
  refine wpAny_Name (wpAny_loadName_local rfl rfl n₄ rfl (wpAny_Name (wpAny_loadName_local rfl rfl n₄ rfl ?_) (by decide +kernel))) (by decide +kernel)
  refine set_plain X₄ (ox := excO C (h₂.push (kxs_mw "ValueError.__init__" x)).objs.size) (od := none) ⟨hx₄, rfl, rfl, trivial⟩ T.ox.sa ?_
  refine exc_osa X₄ hx₄ hcl (show refsVE (.ref C :: bm) = true from hbm) rfl T.noN (fun h₅ tk₅ dx k₅ dn dne hx₅ hn₅ => ?_)
  have old : ∀ b o, b ≠ x → hp.get? b = some o → h₅.get? b = some o := fun b o hb e => k₅ b o hb (k₄ b o hb (k₃ b o (k₂ b o (k₁ b o e))))
  have big : hp.objs.size ≤ dx := by
    obtain ⟨o, es, ep, e, r⟩ := n₄
    exact Nat.le_of_lt (Nat.lt_of_lt_of_le (Heap.lt_size e) dn)
  exact wpAny_execs_nil (hq h₅ tk₅ dx _ ⟨old, hx₅, big, dne, hn₅⟩)
end
end Nx
end PySem
set_option maxHeartbeats 4000000
namespace PySem
namespace Nx
open PySem.W PySem.Calls PyProof.Rows PySem.HandSPX
section
variable {prog : Program} {w : World} {A : Around} {R : Result → Shared → Prop} {s : Shared} {K : Frag} {mg mb : Str → Option Value} {C fI : Addr}
/-- a made exception -/
structure Made (h h' : Heap) (e C d : Addr) (v : Value) : Prop where
  keep : ∀ b o, h.get? b = some o → h'.get? b = some o
  new : h.objs.size ≤ e
  obj : ∃ oe vs, h'.get? e = some oe ∧ oe.cls = .ref C ∧ oe.dict = some d ∧ oe.data = .fields vs ∧ vs[1]? = some .none
  dbig : h.objs.size ≤ d
  dne : d ≠ e
  ns : h'.Ns1 d (fun y => if y = "field" then some v else none)
theorem made_ok (T : Txt prog K mg C fI) {v : Value} (X : K.In s.heap) (hns : s.heap.Ns mainGlobals mg) (hbl : s.heap.Ns builtinsNs mb) (hbb : ∀ x : Str, x ≠ "__name__" → mb x = bootBuiltins x) (hlim : s.heap.NoLimit) (hroom : A.depth + 1 < recursionLimit)
    (hq : ∀ h' tk e d, Made s.heap h' e C d v → R (.ok (.ret (.ref e))) { s with heap := h', toks := tk }) :
    codeAny (model prog w) A (.call (.ref C) ⟨[v], []⟩) R s := by
  obtain ⟨nm, q, N, bs, bm, sn, sub, ab, col, dd, k0, k1, k2, k3, k5, hC, hbm⟩ := T.ox.cls
  obtain ⟨hp, g, dr, tk, os⟩ := s
  have k : ∀ b o, hp.get? b = some o → ((hp.push (kdv_tup [v])).push (excO C hp.objs.size)).get? b = some o := fun b o e => Heap.get?_push_of_some _ (Heap.get?_push_of_some _ e)
  have hget : ((hp.push (kdv_tup [v])).push (excO C hp.objs.size)).get? (hp.objs.size + 1) = some (excO C hp.objs.size) := by heap_get
  have hnx : K.lookup (hp.objs.size + 1) = none := by
    cases e : K.lookup (hp.objs.size + 1) with
    | none => rfl
    | some o =>
      have z : hp.get? (hp.objs.size + 1) = some o := X _ _ e
      exact absurd (Nat.lt_of_succ_lt (Heap.lt_size z)) (Nat.lt_irrefl _)
  have one : [v].length ≤ sizeLine := by
    show 1 ≤ sizeLine
    rw [sizeLine_eq]
    decide
  refine call_own PySem.F.excBase_ValueError (fun X => refsVE_contains X bm hbm) (X _ _ hC) (looks_findIn X T.iC) (fun self => bind_fn X self T.tI) one ?_
  refine init_ok (s := ⟨(hp.push (kdv_tup [v])).push (excO C hp.objs.size), g, dr, tk, os⟩) T (X.keeps k) (hns.keeps k) (hbl.keeps k) hbb (hlim.keeps k) hget hnx ?_ fun h' tk' dx t1 ⟨k', hx, dn, dne, hns'⟩ => ?_
  · show A.depth + 1 < recursionLimit
    exact hroom
  · have old : ∀ b o, hp.get? b = some o → h'.get? b = some o := fun b o e => k' b o (Nat.ne_of_lt (Nat.lt_succ_of_lt (Heap.lt_size e))) (k b o e)
    have z : hp.objs.size + 1 + 1 ≤ dx := by
      first
        | (simpa only [Heap.size_push] using dn)
        | exact dn
        | (have q := dn; rw [Heap.size_push, Heap.size_push] at q; exact q)
    exact ⟨rfl, hq h' tk' (hp.objs.size + 1) dx ⟨old, Nat.le_succ _, ⟨_, _, hx, rfl, rfl, rfl, rfl⟩, Nat.le_trans (Nat.le_trans (Nat.le_succ _) (Nat.le_succ _)) z, dne, hns'⟩⟩
end
end Nx
end PySem
namespace L2
open PySem PySem.Spec PyProof.Rows
theorem relO_one {f : Str} {v : V} {v' : Value} (r : RelV v v') (g : Str) : RelO (List.lookup g [(f, v)]) (if g = f then some v' else none) := by
  rw [lookup_put]
  by_cases h : g = f
  · rw [if_pos h, if_pos h]
    exact r
  · rw [if_neg h, if_neg h]
    trivial
section
variable {X : Cx} {C fI : Addr}
/-- NoX(e), the class at C -/
def tMkNx (f : Str) (C : Addr) (ta : TA) : St → Hp → XK → Prop := fun σ H Q => ta σ H fun vs H1 => ∃ v, vs = [v] ∧ ∀ d, H1 d = none → Q (.ref C) (some d) (upd H1 d (.xd [(f, v)]))
theorem pmk_nx {a : Expr} {ta : TA} {x : Str} {p pos : Pos} {k : Nat} (T : PySem.Nx.Txt X.prog X.K X.mg C fI) (hr : Room k X.A) (ha : PA X [a] ta) (hg : Gl X x) (hm : X.mg x = some (.ref C)) (hdb : (x == ("__debug__" : Str)) = false := by decide)
    (he : starEach (a :: []) X.env = (false, eval a X.env) :: starEach [] X.env := by rfl) (hpl : (backTo pos (starEach [] X.env)).any (·.1) = false := by rfl) :
    PMk X (.Call (.Name x p) [a] [] pos) (tMkNx "field" C ta) := by
  intro pins s σ H Q I h
  refine wpAny_Call_Name_kw (ld_glob I hg hm ?_ hdb)
  refine PySem.W.callWith_K (h₀ := X.base) I.ok.mod.kin T.ox.kC (thn (ha.run pos pins s σ H _ I h) fun us s1 hh => ?_) he hpl
  obtain ⟨vs, H1, I1, r1, v, ev, q1⟩ := hh
  subst ev
  refine ⟨I1.kIn, ?_⟩
  cases r1 with
  | cons rv rn =>
    rename_i v' us'
    cases rn
    show wpAny _ _ (call (.ref C) [v']) _ _ _
    have hlim := I1.nolimit
    obtain ⟨mb, hb1, hb2⟩ := I1.ok.mod.blt
    have hns := I1.ok.mod.glob.keeps I1.bk
    have hbl := hb1.keeps I1.bk
    obtain ⟨hp, g, dr, tk, os⟩ := s1
    refine wpAny_call (PySem.Nx.made_ok T I1.kIn hns hbl hb2 hlim (by have := hr.dp; omega) fun h' tk' e d M => ?_)
    show MkP X pins σ Q (.ref e) ⟨h', g, dr, tk', os⟩
    obtain ⟨oe, fv, hoe, hc, hd, hdat, h1⟩ := M.obj
    have hns := M.ns
    obtain ⟨G', g1, g2⟩ := restrict h' fun b => decide (b ≠ e)
    have gk : ∀ b, b ≠ e → G'.get? b = h'.get? b := fun b hb => g1 b (decide_eq_true hb)
    have ge : G'.get? e = none := g2 e (by simp)
    have old : ∀ b o, hp.get? b = some o → G'.get? b = some o := fun b o q => (gk b (Nat.ne_of_lt (Nat.lt_of_lt_of_le (Heap.lt_size q) M.new))).trans (M.keep b o q)
    have ob : ObjOk X.prog X.w (upd H1 d (.xd [(("field" : Str), v)])) G' d (.xd [(("field" : Str), v)]) :=
      ⟨_, hns.at (fun o q => (gk d M.dne).trans q), fun f => relO_one rv f⟩
    have J : Inv X pins σ (upd H1 d (.xd [(("field" : Str), v)])) ⟨G', g, dr, tk', os⟩ := I1.laid (t' := tk') old M.dbig ob
    refine ⟨e, oe, fv, ⟨G', g, dr, tk', os⟩, _, .ref C, some d, rfl, J, fun b o q => ?_, ge, hoe, ⟨hc, hd⟩, hdat, h1, ?_, rfl, I1.bare, raises_own T.ox.exC T.ox.tyC, q1 d (I1.hok.fresh M.dbig)⟩
    · by_cases hb : b = e
      · have q' : G'.get? b = some o := q
        rw [hb, ge] at q'; cases q'
      · exact (gk b hb).symm.trans q
    · rw [upd_ne (Ne.symm M.dne)]
      exact I1.hok.fresh M.new
/-- isinstance(e, c), e the exception that the suite holds (at a; its class cls, its dict d) -/
def rIsX (K : PySem.W.Frag) (a : Addr) (cls : Value) (d : Option Addr) : List V → Hp → VK → Prop := fun xs H Q =>
  ∃ (D dd : Addr) (fs : List (Str × V)) (c : V) (cv : Value) (b : Bool), cls = .ref D ∧ ExcC K D ∧ d = some dd ∧ H dd = some (.xd fs) ∧ xs = [.ref a, c] ∧ (∀ u, RelV c u → u = cv) ∧ PySem.W.kitOne K (.ref D) cv = some b ∧ Q (.bl b) H
theorem call_isX {a : Addr} {oe : Obj} {cls : Value} {d : Option Addr} {pn : List (Addr × Obj)} (hz : Zc cls d oe) (hf : ∃ vs, oe.data = .fields vs) : CallR (X.suite a ((a, oe) :: pn)) (.builtin "isinstance") (rIsX X.K a cls d) := by
  intro pins s σ H xs us Q I r h
  obtain ⟨D, dd, fs, c, cv, b, rfl, T, rfl, hdd, rfl, hcv, e, q⟩ := h
  cases r with
  | cons rx rr =>
    cases rr with
    | cons rt rr =>
      cases rr
      cases rx
      have ec := hcv _ rt
      subst ec
      obtain ⟨hget, _⟩ := I.pin (a, oe) (List.mem_append.mpr (.inl List.mem_cons_self))
      obtain ⟨vs, hv⟩ := hf
      have hx : ObjOk X.prog X.w H s.heap dd (.xd fs) := I.hok dd _ hdd
      obtain ⟨mA, hns, hr⟩ := hx
      obtain ⟨od, ho, hl⟩ := lookIn_ns hns
      have J : PySem.W.InstAt s.heap a oe D (some od) := ⟨hget, hz.1, by unfold PySem.W.notCls; rw [hv] <;> rfl, by rw [hz.2]; exact ho⟩
      have hcl : (PySem.W.clsIn X.K D).isSome = true := by
        obtain ⟨cd, hc, _⟩ := PySem.W.any_some T.hd
        rw [hc] <;> rfl
      exact PySem.W.kia_one (PySem.W.kitx_exc hcl T.hg T.hk T.hs T.ha T.hn T.ht T.hm) I.kIn J e (fun z => nomatch z) fun tk => ⟨.bl b, H, I.kept (t' := tk) fun _ _ z => z, rfl, q⟩
end
end L2
set_option maxHeartbeats 4000000
namespace L2
open PySem PySem.Spec PyProof.Rows
/-- behind a suite with a name: slot i is gone -/
def goneE (D : Ends) (i : Nat) : Ends := { nx := fun σ H => D.nx (σ.set i none) H, rt := D.rt, bk := fun σ H => D.bk (σ.set i none) H, ct := fun σ H => D.ct (σ.set i none) H }
/-- the clauses «except c as n: ..» one after the other, each n at slot i -/
def wAll (K : PySem.W.Frag) (m i : Nat) (Wout : WX) (D : Ends) : List (Value × (Addr → Value → Option Addr → TS)) → WX
  | [] => Wout
  | (c, ts) :: r => fun cls d σ H => ∃ b, PySem.W.exmOne K cls c = some b ∧ (b = true → ∀ a, H a = none → σ.length = m → ts a cls d (goneE D i) (σ.set i (some (.ref a))) H) ∧ (b = false → wAll K m i Wout D r cls d σ H)
inductive HdAs (X : Cx) (n : Str) : List ExceptHandler → List (Value × (Addr → Value → Option Addr → TS)) → Prop
  | nil : HdAs X n [] []
  | cons {x : Str} {c : Value} {ts : Addr → Value → Option Addr → TS} {st : Stmt} {sts : List Stmt} {np p : Pos} {hds : List ExceptHandler} {l : List (Value × (Addr → Value → Option Addr → TS))} (hc : Names X x c)
      (hsu : ∀ (a : Addr) (oe : Obj) (cls : Value) (d : Option Addr) (pn : List (Addr × Obj)), Zc cls d oe → (∃ vs, oe.data = .fields vs) → PSs (X.suite a ((a, oe) :: pn)) (st :: sts) (ts a cls d)) (r : HdAs X n hds l) :
      HdAs X n (.ExceptHandler (some (.Name x np)) (some n) (st :: sts) p :: hds) ((c, ts) :: l)
section
variable {X : Cx} {n : Str} {i : Nat} {body : List Stmt} {h₀ : ExceptHandler} {hds : List ExceptHandler} {l : List (Value × (Addr → Value → Option Addr → TS))} {pos : Pos} {tb : WX → TS} {Wout : WX}
/-- one after the other, the exception being on the ground -/
theorem all_handled {pins : List (Addr × Obj)} {sI s' : Shared} {B : Heap} {σ' : St} {H' : Hp} {a : Addr} {cls : Value} {d : Option Addr} {D : Ends} {h3 : Heap} (hs : X.stack = X.env :: X.outer) (hf : X.env.frame = some X.env.locals) (hN : X.N.Nodup) (hi : X.N[i]? = some n)
    (hln : X.env.kindOf n = some .local) (tk : Takes X Wout) (ok : X.Ok) (J : Inv X pins σ' H' sI) (nb : ∀ b o, sI.heap.get? b = some o → b ∉ frs X.stack → B.get? b = some o) (up : sI.heap.UpToSlots h3) (na : H' a = none) (os : s'.os = sI.os) (ag : AllBare s'.gens)
    (fl3 : HandSPX.FlyingZ B (X.env :: X.outer) a (Zc cls d) h3) : ∀ {hds' : List ExceptHandler} {l' : List (Value × (Addr → Value → Option Addr → TS))}, HdAs X n hds' l' → wAll X.K X.N.length i Wout D l' cls d σ' H' →
      wpAny (model X.prog X.w) X.A (handleBy (.ref a) X.env hds') (SP X pins D) X.xe { s' with heap := h3 } := by
  have J3 : Inv X pins σ' H' { s' with heap := h3 } := J.landed nb fl3.1 up os ag
  obtain ⟨oe3, vs3, he3, hz3, hd3⟩ := fl3.there
  have nfr : a ∉ frs (X.env :: X.outer) := fun hm => by
    obtain ⟨_, o', e', hnf⟩ := fl3.2.2.1.mem hm
    rw [he3] at e'
    cases e'
    exact hnf _ hd3
  have nL : a ≠ X.env.locals := fun z => nfr (List.mem_filterMap.mpr ⟨X.env, List.mem_cons_self, by rw [hf, z]⟩)
  have nF : a ∉ X.fs := fun hm => by
    obtain ⟨e, he, q⟩ := List.mem_filterMap.mp hm
    exact nfr (List.mem_filterMap.mpr ⟨e, List.mem_cons_of_mem _ he, q⟩)
  have S3 := J3.suite he3 hd3 na nL nF
  intro hds' l' hk
  induction hk with
  | nil =>
    intro w
    obtain ⟨k1, k2, k3, oe, vs, T, oT, ts', he, hz, hd, h1, hr⟩ := id fl3
    refine wpAny_handleBy_nil ?_
    unfold PySem.passOn
    refine wpAny_bind (wpAny_field he hd h1 ?_)
    rw [if_neg (show ¬ ((Value.ref T == Value.none) = true) from by simp)]
    have fin : wpAny (model X.prog X.w) X.A (setFlight (.ref a) X.env.frame) (fun _ s4 => wpAny (model X.prog X.w) X.A (throw (.ref a) : Sem Flow) (SP X pins D) X.xe s4) X.xe { s' with heap := h3 } := by
      rw [hf]
      exact HandSPX.setFlight_upZ fl3 fun h4 hh4 up4 => wpAny_throw (tk _ _ ⟨a, B, sI, pins, σ', H', cls, d, rfl, J, nb, up.trans up4, .inr (.inr (by rw [hs]; exact hh4)), na, os, ag, w⟩)
    first
      | exact wpAny_bind (wpAny_pure (wpAny_bind fin))
      | exact wpAny_bind fin
  | @cons x c ts st sts np p hds2 l2 hc hsu r ih =>
    intro w
    obtain ⟨b, hb1, hyes, hno⟩ := w
    refine wpAny_handleBy_cons (codeAny_handlers_test ?_) (by intro q; cases q)
    have LT : PySem.W.Looks (model X.prog X.w) h3 (typeOf (.ref a)) cls := fun A Q E s k q => wpAny_typeOf_ref (k _ _ he3) (by rw [hz3.1]; exact q)
    have LM := PySem.W.exm_one (M := model X.prog X.w) (J3.kIn) LT hb1
    have test : ∀ {Q : Value → Shared → Prop} {E : Value → Shared → Prop}, Q c { s' with heap := h3 } → wpAny (model X.prog X.w) (X.A.mark (some (.ref a))) (eval (.Name x np) X.env) Q E { s' with heap := h3 } := fun {Q E} q => by
      obtain ⟨hg, hdbg, hm | ⟨hm, hv, hnn⟩⟩ := hc
      · exact ld_glob (X := X.suite a ((a, oe3) :: (X.pn ++ pins))) S3 hg hm q hdbg
      · exact ld_blt (X := X.suite a ((a, oe3) :: (X.pn ++ pins))) S3 hg hm hv q hnn hdbg
    refine test (LM.here ?_)
    cases b with
    | false =>
      show wpAny _ X.A (handleBy (.ref a) X.env hds2) _ _ _
      exact ih (hno rfl)
    | true =>
      refine codeAny_handlers_suite_as ?_
      refine HandSPX.lands_againZ fl3 fun h4 fl4 up4 => ?_
      have J4 : Inv X pins σ' H' { s' with heap := h4 } := J.landed nb fl4.1 (up.trans up4) os ag
      obtain ⟨oe4, vs4, he4, hz4, hd4⟩ := fl4.there
      have S4 := J4.suite he4 hd4 na nL nF
      refine store_ok (X := X.suite a ((a, oe4) :: (X.pn ++ pins))) (v := .ref a) S4 hN hi (.inl hln) rfl (fun s5 S5 => ?_) (.inr hln)
      refine wpAny_mono ((hsu a oe4 cls d (X.pn ++ pins) hz4 ⟨_, hd4⟩).run [] s5 _ H' _ S5 (hyes rfl a na J.len)) (fun f s6 hsp => ?_) (fun _ _ z => False.elim z)
      have end_ : ∀ {σ6 : St} {H6 : Hp} {Q : Shared → Prop}, Inv (X.suite a ((a, oe4) :: (X.pn ++ pins))) [] σ6 H6 s6 → (∀ s7, Inv X pins (σ6.set i none) H6 s7 → Q s7) →
          wpAny (model X.prog X.w) X.A (do bindName X.env n .none; unbindBehindTheSuite X.env n p) (fun _ s7 => Q s7) X.xe s6 := fun {σ6 H6 Q} S6 hq => gone_ok (S6.unsuite ok) hN hi hln hq
      cases f with
      | next =>
        obtain ⟨σ6, H6, S6, q6⟩ := hsp
        exact end_ S6 fun s7 J7 => ⟨_, _, J7, q6⟩
      | brk =>
        obtain ⟨σ6, H6, S6, q6⟩ := hsp
        exact end_ S6 fun s7 J7 => ⟨_, _, J7, q6⟩
      | cont =>
        obtain ⟨σ6, H6, S6, q6⟩ := hsp
        exact end_ S6 fun s7 J7 => ⟨_, _, J7, q6⟩
      | ret u =>
        obtain ⟨v6, σ6, H6, S6, r6, q6⟩ := hsp
        exact end_ S6 fun s7 J7 => ⟨_, _, _, J7, r6, q6⟩
theorem ps_try_all (hs : X.stack = X.env :: X.outer) (hf : X.env.frame = some X.env.locals) (hN : X.N.Nodup) (hi : X.N[i]? = some n) (hln : X.env.kindOf n = some .local) (tk : Takes X Wout)
    (hb : ∀ (W : WX) (pn : List (Addr × Obj)) (xe : Value → Shared → Prop), Takes (X.tr pn xe) W → PassesOwn (model X.prog X.w) X.A X.env xe → PSs (X.tr pn xe) body (tb W))
    (hh : HdAs X n (h₀ :: hds) l) : PS X (.Try body (h₀ :: hds) [] [] pos) (fun D σ H => tb (wAll X.K X.N.length i Wout D l) D σ H) := by
  refine ⟨fun pins s σ H D I h => ?_⟩
  have ok := I.ok
  have hfr : X.A.frames = some (X.env :: X.outer) := by rw [ok.frames, hs]
  refine wpAny_Try_except ?_
  refine wpAny_mono ((hb (wAll X.K X.N.length i Wout D l) (X.pn ++ pins) (fun e s₁ => wpAny (model X.prog X.w) X.A (noteFrame e X.env) (fun _ s₂ => wpAny (model X.prog X.w) X.A (setFlight e none) (fun _ s₃ =>
    wpAny (model X.prog X.w) X.A (handleBy e X.env (h₀ :: hds)) (SP X pins D) X.xe s₃) X.xe s₂) X.xe s₁) (fun u s' xx => ?_) PassesOwn.looking).run [] s σ H D (I.toTry _) h) (fun f s1 hsp => ?_) (fun e s1 he => he)
  · obtain ⟨a, B, sI, pins', σ', H', cls, d, rfl, J', nb, up, sky, na, os, ag, w⟩ := xx
    have J : Inv X pins σ' H' sI := J'.ofTry ok
    have sky' : Sky B (X.env :: X.outer) a (Zc cls d) X.env.locals s'.heap := by rw [← hs]; exact sky
    show wpAny (model X.prog X.w) X.A (noteFrame (.ref a) X.env) _ _ _
    exact Sky.land Zc.steady hfr hf sky' fun h3 fl3 up3 => all_handled hs hf hN hi hln tk ok J nb (up.trans up3) na os ag fl3 hh w
  · cases f with
    | next =>
      obtain ⟨σ', H', J', q⟩ := hsp
      exact wpAny_execs_nil ⟨σ', H', J'.ofTry ok, q⟩
    | brk =>
      obtain ⟨σ', H', J', q⟩ := hsp
      exact ⟨σ', H', J'.ofTry ok, q⟩
    | cont =>
      obtain ⟨σ', H', J', q⟩ := hsp
      exact ⟨σ', H', J'.ofTry ok, q⟩
    | ret u =>
      obtain ⟨v, σ', H', J', r, q⟩ := hsp
      exact ⟨v, σ', H', J'.ofTry ok, r, q⟩
end
end L2
set_option maxHeartbeats 4000000
/-! ### the end of a law, its def run at the caller's place alone (there no object is being shown: repr) -/
namespace Nd
open PySem PySem.Spec PyProof.Rows L2 LamX
/-- the script as it stands: frozen, or of the written part; a list that bears nothing else -/
def ScrL (K : PySem.W.Frag) (H : Hp) (a : Addr) (xs : List V) : Prop := (∃ vs : List Value, H a = some (.frz { cls := .type "list", data := .seq vs.toArray } (.lst xs))) ∨
  ∃ vs : List Value, K.lookup a = some { cls := .type "list", data := .seq vs.toArray } ∧ vs.length ≤ sizeLine ∧ Vals xs vs
theorem ScrL.seq {K : PySem.W.Frag} {H : Hp} {a : Addr} {xs : List V} (h : ScrL K H a xs) : SqL K H a xs := by
  rcases h with ⟨vs, h⟩ | ⟨vs, h, l, r⟩
  · exact .inl (.inr ⟨_, h⟩)
  · exact .inr ⟨_, vs.toArray, _, h, rfl, rfl, rfl, by rw [List.size_toArray]; exact l, by simpa using r⟩
/-- the law's def, called from the outside with the script at a -/
def RunsAt (P : Program) (w : World) (K : PySem.W.Frag) (mg : Str → Option Value) (base : Heap) (fa : Addr) (sp : Sp) : Prop :=
  ∀ (a : Addr) (s : Shared) (H : Hp), Env0 P w K mg base callerA [] s H → sp [.ref a] H (fun v _ => v = .bl true) E0 →
    codeAny (model P w) callerA (.call (.ref fa) ⟨[.ref a], []⟩) (CR CX0 [] P w H s (fun v _ => v = .bl true) E0) s
section
variable {P : Program} {w : World} {K : PySem.W.Frag} {mg mb : Str → Option Value} {fa a : Addr} {cs : List (Addr × Addr)} {sp : Sp} {s₁ : Shared} {vs : List Value} {ns : List Int}
/-- from one abstract heap that tells of the tables and the script alone -/
theorem run_core (KX : K.In s₁.heap) (hns : s₁.heap.Ns mainGlobals mg) (hb : s₁.heap.Ns builtinsNs mb) (hbb : ∀ x : Str, x ≠ "__name__" → mb x = bootBuiltins x) (hlim : s₁.heap.NoLimit) (hg : s₁.gens = #[])
    (hT : ∀ p ∈ cs, s₁.heap.get? p.2 = some { cls := .none, data := .fields #[] }) (nT : ∀ p ∈ cs, K.lookup p.2 = none) (C : ∀ p ∈ cs, PySem.W.CodeHd s₁.heap p.1 p.2)
    (hbm : ∃ (bm : Addr) (ob : Obj), mg "__builtins__" = some (.ref bm) ∧ bm ≠ builtinsNs ∧ s₁.heap.get? bm = some ob ∧ ob.cls = .type "module" ∧ ob.dict = some builtinsNs ∧ ob.data = .plain)
    (ha : s₁.heap.get? a = some { cls := .type "list", data := .seq vs.toArray })
    (F : ∀ base : Heap, K.In base → base.Ns mainGlobals mg → (∀ p ∈ cs, TabB base mg p.1 p.2) → RunsAt P w K mg base fa sp)
    {H : Hp} (hH : ∀ p ∈ cs, H p.2 = some (.tbl #[])) (hO : ∀ b, H b = none ∨ b ∈ cs.map (·.2) ∨ ∃ o xs, H b = some (.frz o (.lst xs))) (hok : HOk P w H s₁.heap) (hA : ∀ b, H b ≠ none → b = a ∨ b ∈ cs.map (·.2)) (hK : H a ≠ none → K.lookup a = none)
    (hq : sp [.ref a] H (fun v _ => v = .bl true) E0) :
    codeAny (model P w) callerA (.call (.ref fa) ⟨[.ref a], []⟩) (fun r s' => r = .ok (.ret (.bool true)) ∧ OldK s₁.heap s'.heap ∧ s'.os = s₁.os ∧ AllBare s'.gens) s₁ := by
  have isT : ∀ b : Addr, b ∈ cs.map (·.2) → s₁.heap.get? b = some { cls := .none, data := .fields #[] } := fun b hb => by
    obtain ⟨p, hp, e⟩ := List.mem_map.mp hb
    rw [← e]
    exact hT p hp
  -- an object of another kind is not tracked
  have noD : ∀ {b : Addr} {o : Obj}, s₁.heap.get? b = some o → (∀ vs n, o.data ≠ .seq vs n) → o.data ≠ .fields #[] → H b = none := fun {b o} e h1 h2 => by
    cases q : H b with
    | none => rfl
    | some u =>
      rcases hA b (by rw [q]; simp) with e' | e'
      · rw [e', ha] at e
        cases e
        exact (h1 _ _ rfl).elim
      · rw [isT b e'] at e
        cases e
        exact (h2 rfl).elim
  have dictK : ∀ {b : Addr} {m : Str → Option Value}, s₁.heap.Ns b m → (hidT s₁.heap H).Ns b m := fun {b m} ⟨o, es, ep, e, d, r⟩ =>
    ⟨o, es, ep, hidT_get e (noD e (fun vs n z => by rw [d] at z; cases z) fun z => by rw [d] at z; cases z), d, r⟩
  have hKb : K.In (hidT s₁.heap H) := fun b o e => hidT_get (KX b o e) (by
    cases q : H b with
    | none => rfl
    | some u =>
      rcases hA b (by rw [q]; simp) with e' | e'
      · rw [e'] at e q
        rw [hK (by rw [q]; simp)] at e
        cases e
      · obtain ⟨p, hp, ep⟩ := List.mem_map.mp e'
        rw [← ep, nT p hp] at e
        cases e)
  have hM : L2.Mod K mg (hidT s₁.heap H) := ⟨hKb, dictK hns, ⟨mb, dictK hb, hbb⟩, let ⟨mc, h1, h2⟩ := hlim; ⟨mc, dictK h1, h2⟩⟩
  have TB : ∀ p ∈ cs, TabB (hidT s₁.heap H) mg p.1 p.2 := fun p hp => by
    have hTp := hT p hp
    refine ⟨?_, ?_, fun z => ?_⟩
    · obtain ⟨o, us, file, tf, flags, tg, inF, text, tt, e1, r1, r2, r3, r4, r5, r6, r7, r8, hne⟩ := C p hp
      refine ⟨o, us, file, tf, flags, tg, inF, text, tt, hidT_get e1 (noD e1 (fun vs n z => by rw [r2] at z; cases z) fun z => ?_), r1, r2, r3, r4, r5, r6, r7, r8, hne⟩
      rw [r2] at z
      cases z
      simp at r3
    · obtain ⟨bm, ob, b1, b2, b3, b4, b5, b6⟩ := hbm
      have nG : bm ≠ mainGlobals := fun q => by
        obtain ⟨o, es, ep, e, hd, _⟩ := hns
        rw [q, e] at b3
        cases b3
        rw [hd] at b6
        cases b6
      have nP : bm ≠ p.2 := fun q => by
        rw [q, hTp] at b3
        cases b3
        cases b6
      exact ⟨bm, ob, b1, b2, nG, nP, hidT_get b3 (noD b3 (fun vs n z => by rw [b6] at z; cases z) fun z => by rw [b6] at z; cases z), b4, b5, b6⟩
    · obtain ⟨o, es, ep, e, hd, _⟩ := hns
      rw [z, hTp] at e
      cases e
      cases hd
  have e0 : Env0 P w K mg (hidT s₁.heap H) callerA [] s₁ H := ⟨rfl, hM, fun b o e => of_hidT e, Nat.le_of_eq (hidT_size _ _), trivial, fun b hb => absurd (show b ∈ ([] : List Addr) from hb) (by simp), hok, .of_eq hg⟩
  refine codeAny_mono (F _ hKb (dictK hns) TB a s₁ H e0 hq) fun r s' h => ?_
  cases r with
  | error e => exact False.elim h
  | ok fl =>
    cases fl with
    | next => exact False.elim h
    | brk => exact False.elim h
    | cont => exact False.elim h
    | ret u =>
      obtain ⟨v, H', os, bare, un, hok', r', q⟩ := h
      have q' : v = .bl true := q
      subst q'
      obtain rfl : u = Value.bool true := r'
      have key : ∀ b o, b ∉ cs.map (·.2) → s₁.heap.get? b = some o → s'.heap.get? b = some o := fun b o nb e => by
        rcases hO b with z | z | ⟨ob, xs, z⟩
        · exact un.keep b o e z (fun z => absurd (show b ∈ ([] : List Addr) from z) (by simp)) (by simp)
        · exact absurd z nb
        · obtain ⟨e1, _⟩ := hok b _ z
          obtain ⟨e2, _⟩ := hok' b _ (un.frzs b ob _ z)
          rw [e] at e1
          cases e1
          exact e2
      have grown : ∀ b, b ∈ cs.map (·.2) → ∃ more : Array Value, s'.heap.get? b = some { cls := .none, data := .fields more } := fun b hb => by
        obtain ⟨p, hp, ep⟩ := List.mem_map.mp hb
        obtain ⟨more, z⟩ := un.tbls p.2 #[] (hH p hp)
        rw [← ep]
        exact ⟨_, hok' p.2 _ z⟩
      refine ⟨rfl, ⟨fun b o e => ?_, fun b o e => ?_⟩, os, bare⟩
      · by_cases hb : b ∈ cs.map (·.2)
        · obtain ⟨more, hm⟩ := grown b hb
          obtain ⟨p, hp, ep⟩ := List.mem_map.mp hb
          rw [← ep] at e hm ⊢
          rw [hT p hp] at e
          cases e
          exact .inr (.inl ⟨((C p hp).tab (hT p hp)).isCodeTable, rfl, #[], more, rfl, by rw [Array.empty_append]; exact hm⟩)
        · exact .inl (key b o hb e)
      · by_cases hb : b ∈ cs.map (·.2)
        · obtain ⟨more, hm⟩ := grown b hb
          exact ⟨_, hm⟩
        · exact ⟨o, key b o hb e⟩
theorem run_law (KX : K.In s₁.heap) (hns : s₁.heap.Ns mainGlobals mg) (hb : s₁.heap.Ns builtinsNs mb) (hbb : ∀ x : Str, x ≠ "__name__" → mb x = bootBuiltins x) (hlim : s₁.heap.NoLimit) (hg : s₁.gens = #[])
    (hT : ∀ p ∈ cs, s₁.heap.get? p.2 = some { cls := .none, data := .fields #[] }) (nT : ∀ p ∈ cs, K.lookup p.2 = none) (C : ∀ p ∈ cs, PySem.W.CodeHd s₁.heap p.1 p.2)
    (hbm : ∃ (bm : Addr) (ob : Obj), mg "__builtins__" = some (.ref bm) ∧ bm ≠ builtinsNs ∧ s₁.heap.get? bm = some ob ∧ ob.cls = .type "module" ∧ ob.dict = some builtinsNs ∧ ob.data = .plain)
    (ha : s₁.heap.get? a = some { cls := .type "list", data := .seq vs.toArray }) (hi : IntsAre vs ns) (hl : ns.length ≤ sizeLine)
    (F : ∀ base : Heap, K.In base → base.Ns mainGlobals mg → (∀ p ∈ cs, TabB base mg p.1 p.2) → RunsAt P w K mg base fa sp)
    (hsp : ∀ H : Hp, (∀ p ∈ cs, H p.2 = some (.tbl #[])) → ScrL K H a (ns.map V.int) → sp [.ref a] H (fun v _ => v = .bl true) E0) :
    codeAny (model P w) callerA (.call (.ref fa) ⟨[.ref a], []⟩) (fun r s' => r = .ok (.ret (.bool true)) ∧ OldK s₁.heap s'.heap ∧ s'.os = s₁.os ∧ AllBare s'.gens) s₁ := by
  have rv := vals_ints hi
  have lenV := hi.length
  have isT : ∀ b : Addr, b ∈ cs.map (·.2) → s₁.heap.get? b = some { cls := .none, data := .fields #[] } := fun b hb => by
    obtain ⟨p, hp, e⟩ := List.mem_map.mp hb
    rw [← e]
    exact hT p hp
  have aT : a ∉ cs.map (·.2) := fun z => by
    have q := isT a z
    rw [ha] at q
    cases congrArg Obj.data (Option.some.inj q)
  have memT : ∀ p ∈ cs, p.2 ∈ cs.map (·.2) := fun p hp => List.mem_map.mpr ⟨p, hp, rfl⟩
  -- the script is of the written part, or it is tracked as it stands
  obtain ⟨scr, hscr⟩ : ∃ scr : Option HO, scr = (match K.lookup a with | some _ => none | none => some (.frz { cls := .type "list", data := .seq vs.toArray } (.lst (ns.map V.int)))) := ⟨_, rfl⟩
  obtain ⟨H, hHd⟩ : ∃ H : Hp, H = fun b => if b = a then scr else if b ∈ cs.map (·.2) then some (.tbl #[]) else none := ⟨_, rfl⟩
  have atA : H a = scr := by rw [hHd]; exact if_pos rfl
  have atT : ∀ b, b ≠ a → H b = if b ∈ cs.map (·.2) then some (.tbl #[]) else none := fun b hb => by rw [hHd]; exact if_neg hb
  have hH : ∀ p ∈ cs, H p.2 = some (.tbl #[]) := fun p hp => (atT _ fun z => aT (by rw [← z]; exact memT p hp)).trans (if_pos (memT p hp))
  have cases4 : scr = none ∨ scr = some (.frz { cls := .type "list", data := .seq vs.toArray } (.lst (ns.map V.int))) := by
    rw [hscr]
    cases K.lookup a with
    | some o => exact .inl rfl
    | none => exact .inr rfl
  refine run_core (H := H) KX hns hb hbb hlim hg hT nT C hbm ha F hH (fun b => ?_) (fun b u z => ?_) (fun b z => ?_) (fun z => ?_) (hsp H hH ?_)
  · by_cases hba : b = a
    · rw [hba, atA]
      rcases cases4 with q | q
      · exact .inl q
      · exact .inr (.inr ⟨_, _, q⟩)
    · by_cases hb : b ∈ cs.map (·.2)
      · exact .inr (.inl hb)
      · exact .inl ((atT b hba).trans (if_neg hb))
  · by_cases hba : b = a
    · rw [hba, atA] at z
      rcases cases4 with q | q
      · rw [q] at z
        cases z
      · rw [q] at z
        cases z
        rw [hba]
        exact ⟨ha, by rw [List.length_map]; exact hl, vs, _, rv, ha⟩
    · rw [atT b hba] at z
      by_cases hb : b ∈ cs.map (·.2)
      · rw [if_pos hb] at z
        cases z
        exact isT b hb
      · rw [if_neg hb] at z
        cases z
  · by_cases hba : b = a
    · exact .inl hba
    · by_cases hb : b ∈ cs.map (·.2)
      · exact .inr hb
      · exact absurd ((atT b hba).trans (if_neg hb)) z
  · cases hk : K.lookup a with
    | none => rfl
    | some o =>
      rw [atA, hscr, hk] at z
      exact absurd rfl z
  · cases hk : K.lookup a with
    | some o =>
      have e := KX a o hk
      rw [ha] at e
      cases e
      exact .inr ⟨vs, hk, by rw [lenV]; exact hl, rv⟩
    | none =>
      refine .inl ⟨vs, ?_⟩
      rw [atA, hscr, hk]
end
/-- what is known of the law's def at the head's heap h -/
def LawHas (l : PySem.W.OpenLaw) (w : World) (K : PySem.W.Frag) (n : Nat) (mg : Str → Option Value) (fa : Addr) (h : Heap) : Prop :=
  ∃ (cs : List (Addr × Addr)) (sp : Sp), (∀ p ∈ cs, h.get? p.2 = some { cls := .none, data := .fields #[] }) ∧ (∀ p ∈ cs, K.lookup p.2 = none) ∧ (∀ p ∈ cs, PySem.W.CodeHd h p.1 p.2) ∧
    (∀ (H : Hp) (a : Addr) (ns : List Int), ns.length ≤ n → (∀ z ∈ ns, Builtin.Int.intBits z ≤ 1048576) → (∀ p ∈ cs, H p.2 = some (.tbl #[])) → ScrL K H a (ns.map V.int) → sp [.ref a] H (fun v _ => v = .bl true) E0) ∧
    ∀ base : Heap, K.In base → base.Ns mainGlobals mg → (∀ p ∈ cs, TabB base mg p.1 p.2) → RunsAt l.prog w K mg base fa sp
theorem walk_at {l : PySem.W.OpenLaw} {n : Nat} {q : Program} {loose : List Str} {XP : (Str → Option Value) → Heap → Prop} {YP : World → Heap → Prop} {d : DefRec}
    (hn : l.most = some n) (hn2 : n ≤ sizeLine) (hdf : d.params.defaults = [])
    (F : ∀ (w : World) (mg : Str → Option Value) (fa : Addr) (h : Heap), YP w h → h.Ns mainGlobals mg → mg d.name = some (.ref fa) → ∃ K : PySem.W.Frag, K.In h ∧ LawHas l w K n mg fa h) :
    PySem.W.WalkO q loose XP YP l.row.toRowW d [] (fun f vs => PySem.call f vs) := by
  refine Att.attach_callB hn hdf fun w s₀ s₁ mg mb fa o pm cd doc a vs ns G Y ho hd hcd hmg hobj hints hlen hbits hg => ?_
  obtain ⟨K, KX, cs, sp, hT, nT, C, hsp, hF⟩ := F w mg fa _ Y G.T.g hmg
  exact run_law KX G.T.g G.T.b G.T.builtins G.T.nolimit hg hT nT C G.T.bmain hobj hints (Nat.le_trans hlen hn2) hF (fun H hH hS => hsp H a ns hlen hbits hH hS)
end Nd
set_option maxHeartbeats 4000000
/-! ### repr of data: lists, tuples, ints, bools, texts, None -/
namespace Nd
open PySem PySem.Spec PyProof.Rows L2
mutual
def shB : PyData → Nat
  | .none => 4
  | .bool _ => 5
  | .int i => (Str.ofString (toString i)).length
  | .str x => (reprText x).length
  | .list xs => shBs xs + 2
  | .tuple xs => shBs xs + 3
  | .dict _ => 0
def shBs : List PyData → Nat
  | [] => 0
  | x :: xs => shB x + 2 + shBs xs
end
theorem join_le (ts : List Str) : (Str.join ", " ts).length ≤ piled ts := by
  cases ts with
  | nil => decide
  | cons t r =>
    have h := join_length_add (t :: r) (by simp)
    omega
mutual
theorem shown_le : ∀ d : PyData, d.hasDict = false → d.shown.length ≤ shB d
  | .none, _ => by
    show (Str.ofString "None").length ≤ 4
    decide
  | .bool b, _ => by
    cases b <;> (show (Str.ofString _).length ≤ 5; decide)
  | .int i, _ => Nat.le_refl _
  | .str x, _ => Nat.le_refl _
  | .list xs, h => by
    have h1 := shown_all_le xs (by simpa [PyData.hasDict] using h)
    have h2 := join_le (PyData.shownAll xs)
    show (listText (PyData.shownAll xs)).length ≤ shBs xs + 2
    rw [listText_eq_join, strLen_append, strLen_append]
    have e1 : (Str.ofString "[").length = 1 := by decide
    have e2 : (Str.ofString "]").length = 1 := by decide
    omega
  | .tuple xs, h => by
    have h1 := shown_all_le xs (by simpa [PyData.hasDict] using h)
    have h2 := join_le (PyData.shownAll xs)
    show (tupleText (PyData.shownAll xs)).length ≤ shBs xs + 3
    unfold tupleText
    rw [strLen_append, strLen_append]
    have e1 : (Str.ofString "(").length = 1 := by decide
    have e2 : (Str.ofString (if ((PyData.shownAll xs).length == 1) = true then ",)" else ")")).length ≤ 2 := by
      split <;> decide
    omega
  | .dict _, h => by simp [PyData.hasDict] at h
theorem shown_all_le : ∀ xs : List PyData, PyData.hasDictAll xs = false → piled (PyData.shownAll xs) ≤ shBs xs
  | [], _ => by decide
  | x :: xs, h => by
    have hh : (x.hasDict || PyData.hasDictAll xs) = false := by simpa [PyData.hasDictAll] using h
    have h1 := shown_le x (by revert hh; cases x.hasDict <;> simp)
    have h2 := shown_all_le xs (by revert hh; cases x.hasDict <;> simp)
    show piled (x.shown :: PyData.shownAll xs) ≤ shB x + 2 + shBs xs
    have e : piled (x.shown :: PyData.shownAll xs) = x.shown.length + 2 + piled (PyData.shownAll xs) := by
      simp [piled]
    omega
end
def rRepr (K : PySem.W.Frag) : List V → Hp → VK → Prop := fun xs H Q => ∃ (a : Addr) (d : PyData), xs = [.ref a] ∧ Dp K H (.ref a) d ∧ d.showable = true ∧ d.hasDict = false ∧ d.depth ≤ 20 ∧ shB d ≤ 1000000 ∧ Q (.str d.shown) H
theorem call_repr {X : Cx} (hg : X.A.guards = some []) (hu : X.A.units + 64 < cLine) : CallR X (.builtin "repr") (rRepr X.K) := by
  intro pins s σ H xs us Q I r h
  obtain ⟨a, d, rfl, hd, hs, hn, hp, hl, q⟩ := h
  cases r with
  | cons ra rr =>
    cases rr
    obtain ⟨as, hr⟩ := Dp.reads I d _ _ hd ra
    cases ra
    refine repr_of_reads' hr hs (PyData.noDict_hsm hn) hg (by omega) (fun _ _ e => e) (fun h' u tk k => ⟨.str d.shown, H, I.kept (t' := tk) k, ⟨u, rfl⟩, q⟩) ?_
    exact Nat.le_trans (shown_le d hn) (Nat.le_trans hl (by rw [sizeLine_eq]; decide))
end Nd
set_option maxHeartbeats 4000000
/-! ### the calls of defs as constants; what changes in the heap -/
namespace Nd
open PySem PySem.Spec PyProof.Rows L2
section
variable (P : Program) (w : World) (K : PySem.W.Frag) (mg : Str → Option Value) (base : Heap)
/-- the module's name x is a def that keeps sp, at the level k -/
structure CalX (k : Nat) (x : Str) (sp : Sp) : Prop where
  ex : ∃ (f : Addr) (fd : FuncData) (ps : List Str), FnOk P w K mg base (L2.CX P w) k f fd ps sp ∧ mg x = some (.ref f) ∧ PySem.W.keepIn K (.ref f) = true ∧ Binds K fd ps []
/-- what is asked of a def as it stands behind the top -/
structure DefX (x : Str) (st : Stmt) (ps : List Str) (f : Addr) (fd : FuncData) : Prop where
  fn : FunD K x x (defArgs st) (defBody st) (defScope st) [] [] f fd
  mgf : mg x = some (.ref f)
  bi : Binds K fd ps []
end
section
variable {P : Program} {w : World} {K : PySem.W.Frag} {mg : Str → Option Value} {base : Heap}
theorem calx {x : Str} {st : Stmt} {f : Addr} {fd : FuncData} {N ps : List Str} {k : Nat} {sp : Sp} (F : DefX K mg x st ps f fd) (S : FnScope N ps (defScope st)) (len : ∀ vs H Q E, sp vs H Q E → vs.length = ps.length)
    (hbody : ∀ (cdv : Value) (A : Around) (outer : List Env) (s : Shared) (H : Hp) (vs : List V) (Q : VK) (E : XK), Room k (A.deeper (envOfC x (defScope st) s.heap.objs.size f cdv)) → sp vs H Q E →
      ∃ t, PSs (cxOf (L2.CX P w) P w K mg base N x (defScope st) f cdv A outer s H E).nox (defBody st) t ∧ t { nx := fun _ H' => Q .non H', rt := Q } (start N vs) H) : CalX P w K mg base (k + 1) x sp :=
  ⟨f, fd, ps, F.fn.ok S len fun cdv A outer s H vs Q E hr h => let ⟨t, a, b⟩ := hbody cdv A outer s H vs Q E hr h; ⟨t, a.nox, b⟩, F.mgf, F.fn.kp, F.bi⟩
/-- the same for a def that may raise -/
theorem calr {x : Str} {st : Stmt} {f : Addr} {fd : FuncData} {N ps : List Str} {k : Nat} {sp : Sp} (F : DefX K mg x st ps f fd) (S : FnScope N ps (defScope st)) (len : ∀ vs H Q E, sp vs H Q E → vs.length = ps.length)
    (hbody : ∀ (cdv : Value) (A : Around) (outer : List Env) (s : Shared) (H : Hp) (vs : List V) (Q : VK) (E : XK), Room k (A.deeper (envOfC x (defScope st) s.heap.objs.size f cdv)) → sp vs H Q E →
      ∃ t, PSs (cxOf (L2.CX P w) P w K mg base N x (defScope st) f cdv A outer s H E) (defBody st) t ∧ t { nx := fun _ H' => Q .non H', rt := Q } (start N vs) H) : CalX P w K mg base (k + 1) x sp :=
  ⟨f, fd, ps, F.fn.ok S len hbody, F.mgf, F.fn.kp, F.bi⟩
theorem CalX.imp {k : Nat} {x : Str} {sp sp' : Sp} (c : CalX P w K mg base k x sp) (h : ∀ vs H Q E, sp' vs H Q E → sp vs H Q E) : CalX P w K mg base k x sp' := by
  obtain ⟨f, fd, ps, F, a, b, d⟩ := c.ex
  exact ⟨f, fd, ps, F.imp h, a, b, d⟩
end
section
variable {X : Cx} {k j : Nat} {x : Str} {sp : Sp} {p pos : Pos} {e : Expr} {es : List Expr} {t : TA}
theorem pe_cx (c : CalX X.prog X.w X.K X.mg X.base k x sp) (hr : Room j X.A) (hk : k ≤ j) (hg : Gl X x) (ha : PA X (e :: es) t)
    (hdb : (x == ("__debug__" : Str)) = false := by decide) (he : starEach (e :: es) X.env = (false, eval e X.env) :: starEach es X.env := by rfl) (hpl : (backTo pos (starEach es X.env)).any (·.1) = false := by rfl) :
    PE X (.Call (.Name x p) (e :: es) [] pos) (tCall sp [] E0 t) := by
  obtain ⟨f, fd, ps, F, hm, kp, b⟩ := c.ex
  exact pe_call F (hr.mono hk) hg hm kp b .nil passL ha hdb he hpl
/-- a call that may raise: E, what is wished then -/
theorem pe_cr {E : XK} (c : CalX X.prog X.w X.K X.mg X.base k x sp) (hr : Room j X.A) (hk : k ≤ j) (hg : Gl X x) (hx : Passes (L2.CX X.prog X.w) X E) (ha : PA X (e :: es) t)
    (hdb : (x == ("__debug__" : Str)) = false := by decide) (he : starEach (e :: es) X.env = (false, eval e X.env) :: starEach es X.env := by rfl) (hpl : (backTo pos (starEach es X.env)).any (·.1) = false := by rfl) :
    PE X (.Call (.Name x p) (e :: es) [] pos) (tCall sp [] E t) := by
  obtain ⟨f, fd, ps, F, hm, kp, b⟩ := c.ex
  exact pe_call F (hr.mono hk) hg hm kp b .nil hx ha hdb he hpl
end
/-! ### the heap -/
/-- all that was tracked stays, but what lies at a -/
def But (a : Addr) (H H' : Hp) : Prop := ∀ b o, b ≠ a → H b = some o → H' b = some o
theorem But.of {a : Addr} {H H' : Hp} (s : Same H H') : But a H H' := fun b o _ e => s b o e
theorem But.refl {a : Addr} {H : Hp} : But a H H := fun _ _ _ e => e
theorem But.trans {a : Addr} {H H1 H2 : Hp} (x : But a H H1) (y : But a H1 H2) : But a H H2 := fun b o n e => y b o n (x b o n e)
theorem But.same {a : Addr} {H H' : Hp} (x : But a H H') (n : H a = none) : Same H H' := fun b o e => x b o (ne_of_none e n) e
theorem But.upd {a : Addr} {H H' : Hp} {o : HO} (x : But a H H') : But a H (upd H' a o) := fun b u n e => by rw [upd_ne n]; exact x b u n e
theorem Same.new {H : Hp} {p : Addr} {o : HO} (n : H p = none) : Same H (upd H p o) := fun b u e => by rw [upd_ne (ne_of_none e n)]; exact e
theorem Same.mut {H H' : Hp} {p : Addr} {o : HO} (s : Same H H') (n : H p = none) : Same H (upd H' p o) := fun b u e => by rw [upd_ne (ne_of_none e n)]; exact s b u e
end Nd
set_option maxHeartbeats 4000000
/-! ### a head's Hook that sees the statics too, tells one more value, and facts of own errors by Bools -/
namespace Nd
open PySem PySem.Spec PyProof.Rows L2 He
def asN (g : Addr → Option Obj) : Nat → List Addr
  | 0 => [mainGlobals, cStatics]
  | n + 1 => growD g (asN g n)
structure SaysN {β : Type} (fa : List Fa) (fn : List DefD) (tf : List Defn) (ex : PySem.W.Frag → Bool) (nx : PySem.W.Frag → β) (nv : β) (h : Heap) (K : PySem.W.Frag) : Prop where
  t : SaysD fa fn K
  more : ex K = true
  hd : ∀ p ∈ tf, PySem.W.codeHdIn K (cT K p).1 (cT K p).2 = true
  out : ∀ p ∈ tf, K.lookup (cT K p).2 = none
  empty : ∀ p ∈ tf, h.get? (cT K p).2 = some { cls := .none, data := .fields #[] }
  nx : nx K = nv
def obsN {β : Type} (n : Nat) (fa : List Fa) (fn : List DefD) (tf : List Defn) (ex : PySem.W.Frag → Bool) (nx : PySem.W.Frag → β) (g : Addr → Option Obj) : (AlD × Bool) × β :=
  ((obsD fa fn (frT g (asN g n)), ex (frT g (asN g n)) && tabsB g tf (frT g (asN g n))), nx (frT g (asN g n)))
def valN {β : Type} (fn : List DefD) (nv : β) : (AlD × Bool) × β := ((valD fn, true), nv)
theorem saysN_of {β : Type} {n : Nat} {fa : List Fa} {fn : List DefD} {tf : List Defn} {ex : PySem.W.Frag → Bool} {nx : PySem.W.Frag → β} {nv : β} {h : Heap} (e : obsN n fa fn tf ex nx h.get? = valN fn nv) : SaysN fa fn tf ex nx nv h (frT h.get? (asN h.get? n)) := by
  have e1 : obsD fa fn (frT h.get? (asN h.get? n)) = valD fn := congrArg (fun z : (AlD × Bool) × β => z.1.1) e
  have e2 : (ex (frT h.get? (asN h.get? n)) && tabsB h.get? tf (frT h.get? (asN h.get? n))) = true := congrArg (fun z : (AlD × Bool) × β => z.1.2) e
  have e3 : nx (frT h.get? (asN h.get? n)) = nv := congrArg (fun z : (AlD × Bool) × β => z.2) e
  obtain ⟨h1, h2⟩ := ba e2
  have key : ∀ p ∈ tf, PySem.W.codeHdIn (frT h.get? (asN h.get? n)) (cT (frT h.get? (asN h.get? n)) p).1 (cT (frT h.get? (asN h.get? n)) p).2 = true ∧ ∃ o, h.get? (cT (frT h.get? (asN h.get? n)) p).2 = some o ∧ emptyTab o = true := fun p hp => by
    obtain ⟨h3, h4⟩ := ba (List.all_eq_true.mp h2 p hp)
    refine ⟨h3, ?_⟩
    cases q : h.get? (cT (frT h.get? (asN h.get? n)) p).2 with
    | none =>
      rw [q] at h4
      cases h4
    | some o =>
      rw [q] at h4
      exact ⟨o, rfl, h4⟩
  refine ⟨e1, h1, fun p hp => (key p hp).1, fun p hp => ?_, fun p hp => ?_, e3⟩
  · obtain ⟨_, o, q, z⟩ := key p hp
    exact frT_none q z
  · obtain ⟨_, o, q, z⟩ := key p hp
    rw [q, emptyTab_eq z]
def hookN {β : Type} (n : Nat) (fa : List Fa) (fn : List DefD) (tf : List Defn) (ex : PySem.W.Frag → Bool) (nx : PySem.W.Frag → β) (nv : World → β) : PySem.W.Hook where
  α := (AlD × Bool) × β
  obs := fun s => obsN n fa fn tf ex nx s.heap.get?
  val := fun w => valN fn (nv w)
  says := fun w h => ∃ K : PySem.W.Frag, K.In h ∧ SaysN fa fn tf ex nx (nv w) h K
  of := fun _ _ e => ⟨_, frT_in, saysN_of e⟩
  keeps := fun _ _ _ ⟨K, hK, c⟩ k => ⟨K, PySem.W.Frag.In.keeps hK k, ⟨c.t, c.more, c.hd, c.out, fun p hp => k _ _ (c.empty p hp), c.nx⟩⟩
theorem obsN_eq {β : Type} {n : Nat} {fa : List Fa} {fn : List DefD} {tf : List Defn} {ex : PySem.W.Frag → Bool} {nx : PySem.W.Frag → β} {nv : World → β} {g : Addr → Option Obj} {s : Shared} (h : ∀ a, g a = s.heap.get? a) : obsN n fa fn tf ex nx g = (hookN n fa fn tf ex nx nv).obs s := by
  have e : g = s.heap.get? := funext h
  rw [e] <;> rfl
/-! ### Bools -/
def insB (K : PySem.W.Frag) (C : Addr) : Bool := eqO (PySem.W.findIn K (.ref C) "__class__") (some (some (.builtin "object.__class__"))) && (decide (PySem.W.specialIn K (.builtin "object.__class__") "__get__" = some (some (.builtin "getset_descriptor.__get__"))) &&
  (decide (PySem.W.takesIn K (.builtin "object.__class__") = some true) && (decide (PySem.W.mroIn K C (.type "object") = some true) && decide (PySem.W.kitOne K (.ref C) (.ref C) = some true))))
theorem insB_ok {K : PySem.W.Frag} {C : Addr} (cl : Cls K C) (h : insB K C = true) : C8.InsC K C := by
  obtain ⟨h1, h⟩ := ba h
  obtain ⟨h2, h⟩ := ba h
  obtain ⟨h3, h⟩ := ba h
  obtain ⟨h4, h5⟩ := ba h
  exact ⟨cl, eqO_ok h1, of_decide_eq_true h2, of_decide_eq_true h3, of_decide_eq_true h4, of_decide_eq_true h5⟩
def excCB (K : PySem.W.Frag) (D : Addr) : Bool := eqO (PySem.W.findIn K (.ref D) "__getattribute__") (some (some (.builtin "BaseException.__getattribute__"))) && (eqO (PySem.W.findIn K (.ref D) "__getattr__") (some none) && (decide (PySem.W.subIn K (.ref D) (.type "BaseException") = some true) &&
  (PySem.W.hasDictIn K D && (eqO (PySem.W.findIn K (.ref D) "__class__") (some (some (.builtin "object.__class__"))) && (decide (PySem.W.specialIn K (.builtin "object.__class__") "__get__" = some (some (.builtin "getset_descriptor.__get__"))) &&
  (decide (PySem.W.takesIn K (.builtin "object.__class__") = some true) && decide (PySem.W.mroIn K D (.type "object") = some true)))))))
theorem excCB_ok {K : PySem.W.Frag} {D : Addr} (h : excCB K D = true) : ExcC K D := by
  obtain ⟨h1, h⟩ := ba h
  obtain ⟨h2, h⟩ := ba h
  obtain ⟨h3, h⟩ := ba h
  obtain ⟨h4, h⟩ := ba h
  obtain ⟨h5, h⟩ := ba h
  obtain ⟨h6, h⟩ := ba h
  obtain ⟨h7, h8⟩ := ba h
  exact ⟨eqO_ok h1, eqO_ok h2, of_decide_eq_true h3, h4, eqO_ok h5, of_decide_eq_true h6, of_decide_eq_true h7, of_decide_eq_true h8⟩
/-- the class object of an own error over ValueError -/
def oexB (K : PySem.W.Frag) (C : Addr) : Bool := (match K.lookup C with
  | some ⟨.type "type", _, .cls cd, sl⟩ => (match cd.mro, sl.toList with
    | .ref C' :: bm, [_, _, _, _, some (.builtin n), _] => C' == C && (n == "ValueError.__new__" && (!cd.hasDel && (cd.hasDict && PySem.HandSPX.refsVE bm)))
    | _, _ => false)
  | _ => false) && (eqO (PySem.W.findIn K (.ref C) "__setattr__") (some (some (.builtin "object.__setattr__"))) && (decide (PySem.W.subIn K (.ref C) (.type "BaseException") = some true) && (decide (PySem.W.typeIn K (.ref C) = some (.type "type")) && PySem.W.keepIn K (.ref C))))
theorem oexB_ok {K : PySem.W.Frag} {C : Addr} (h : oexB K C = true) : OexC K C := by
  obtain ⟨q, h⟩ := ba h
  obtain ⟨h1, h⟩ := ba h
  obtain ⟨h2, h⟩ := ba h
  obtain ⟨h3, h4⟩ := ba h
  refine ⟨?_, eqO_ok h1, of_decide_eq_true h2, of_decide_eq_true h3, h4⟩
  split at q
  · rename_i dd cd sl ho
    split at q
    · rename_i C' bm k0 k1 k2 k3 n k5 hm hs
      simp only [Bool.and_eq_true, beq_iff_eq, Bool.not_eq_true'] at q
      obtain ⟨rfl, rfl, hdel, hdc, ht⟩ := q
      obtain ⟨nm, bs, mro, ns, qn, hd, sn, sub, ab, col, del⟩ := cd
      dsimp only at hm hdel hdc
      subst hm hdel hdc
      have hsl : sl = #[k0, k1, k2, k3, some (.builtin "ValueError.__new__"), k5] := by
        obtain ⟨l⟩ := sl
        simp only at hs
        rw [hs]
      subst hsl
      exact ⟨nm, qn, ns, bs, bm, sn, sub, ab, col, dd, k0, k1, k2, k3, k5, ho, ht⟩
    · cases q
  · cases q
/-- its __init__ that calls super's: what of it is compared -/
abbrev NxV : Type := Option (Str × Arguments × FuncBody × Scope × Addr × List Str × Value × Value × Addr)
def nxObs (x : Str) (K : PySem.W.Frag) : NxV := match K.lookup (ma K (ga K x) "__init__") with
  | some ⟨_, _, .func fd, _⟩ => some (fd.name, fd.params, fd.body, fd.scope, fd.globals, fd.closure.map (·.1), fd.defaults, fd.kwdefaults, fd.builtins)
  | _ => none
/-- the rest of it -/
def nxB (file : Str) (K : PySem.W.Frag) (C fI : Addr) : Bool := oexB K C && (eqO (PySem.W.findIn K (.ref C) "field") (some none) && (eqO (PySem.W.findIn K (.ref C) "__init__") (some (some (.ref fI))) && (decide (PySem.W.typeIn K (.ref fI) = some (.type "function")) &&
  (eqO (PySem.W.ks_superIn K C C "__init__") (some (some (.builtin "ValueError.__init__"))) && (decide (PySem.W.mroIn K C (.ref C) = some true) && (decide (PySem.W.subIn K (.ref C) (.type "ValueError") = some true) && (eqO (PySem.W.nsIn K cStatics "thirdparty.any") (some none) &&
  (match K.lookup fI with
    | some ⟨_, _, .func fd, _⟩ => (match fd.code, fd.closure with
      | .ref cda, [(_, cc)] => PySem.W.codeIn K (.ref cda) fd.qualname && ((match K.lookup cda with
          | some ⟨_, _, .fields vs, _⟩ => (match (vs[2]? : Option Value) with
            | some (.str f _) => file == f
            | _ => false)
          | _ => false) && (match K.lookup cc with
          | some ⟨_, _, .cell (some (.ref c)), _⟩ => decide (c = C)
          | _ => false))
      | _, _ => false)
    | _ => false))))))))
def nxVal (p1 p2 : Pos) (b : List Stmt) : NxV := some (("__init__" : Str), PySem.Nx.iA p1 p2, FuncBody.stmts b, PySem.Nx.iS, mainGlobals, [("__class__" : Str)], Value.none, Value.none, builtinsNs)
theorem nx_txt {P : Program} {K : PySem.W.Frag} {mg : Str → Option Value} {x file : Str} {p1 p2 q1 q2 q3 q4 q5 q6 q7 q8 q9 q10 : Pos} (hb : nxB file K (ga K x) (ma K (ga K x) "__init__") = true)
    (hv : nxObs x K = nxVal p1 p2 (PySem.Nx.iB q1 q2 q3 q4 q5 q6 q7 q8 q9 q10))
    (hfile : ((P.main.file : Str) == file) = true) (noS : mg "super" = none) (top : (P.main.scope.names.lookup ("super" : Str)).isSome = false)
    (hev : ∀ env : Env, ∃ pl : Sem Bool, eval (.Call (.Attribute (.Call (.Name "super" q1) [] [] q2) "__init__" q3) [.Name "field" q4] [] q5) env = (do
      let ov ← attributeBase (.Call (.Name "super" q1) [] [] q2) "__init__" env (eval (.Call (.Name "super" q1) [] [] q2) env)
      standAt q3.atName
      let (f, first) ← holding [ov] (getMethod ov "__init__" pl)
      callWith q5 f first (backTo q5 (starEach [.Name "field" q4] env)) [])) : PySem.Nx.Txt P K mg (ga K x) (ma K (ga K x) "__init__") := by
  obtain ⟨h1, h⟩ := ba hb
  obtain ⟨h2, h⟩ := ba h
  obtain ⟨h3, h⟩ := ba h
  obtain ⟨h4, h⟩ := ba h
  obtain ⟨h5, h⟩ := ba h
  obtain ⟨h6, h⟩ := ba h
  obtain ⟨h7, h⟩ := ba h
  obtain ⟨h8, h⟩ := ba h
  refine ⟨oexB_ok h1, eqO_ok h2, eqO_ok h3, of_decide_eq_true h4, eqO_ok h5, of_decide_eq_true h6, of_decide_eq_true h7, eqO_ok h8, noS, top, ?_⟩
  unfold nxObs nxVal at hv
  split at hv
  · rename_i oc od fd osl hk
    rw [hk] at h
    obtain ⟨n1, n2, n3, n4, n5, n6, n7, n8, n9, n10, n11, n12, n13, n14, n15⟩ := fd
    simp only [Option.some.injEq, Prod.mk.injEq] at hv
    obtain ⟨e1, e2, e3, e4, e5, e6, e7, e8, e9⟩ := hv
    subst e1 e2 e3 e4 e5 e7 e8 e9
    dsimp only at h
    cases n13 with
    | ref cda =>
      rcases n7 with _ | ⟨⟨y, cc⟩, _ | ⟨z, t⟩⟩
      · cases h
      · have ey : y = "__class__" := by
          have z : [y] = ([("__class__" : Str)] : List Str) := e6
          injection z
        subst ey
        obtain ⟨g1, h⟩ := ba h
        obtain ⟨g2, g3⟩ := ba h
        split at g2
        · rename_i c1 c2 vs c4 hk2
          split at g2
          · rename_i f tf hvs
            split at g3
            · rename_i d1 d2 c d4 hk3
              have ec := of_decide_eq_true g3
              rw [ec] at hk3
              have ef : file = f := eq_of_beq g2
              exact ⟨_, _, _, _, _, _, _, _, _, _, _, _, _, _, cda, cc, vs, f, tf, _, _, _, _, _, _, _, _, _, _, _, _, hk, g1, hk2, hvs, by rw [← ef]; exact hfile, hk3, hev⟩
            · cases g3
          · cases g2
        · cases g2
      · cases h
    | _ => cases h
  · cases hv
end Nd
set_option maxHeartbeats 4000000
/-! ### what no program is needed for -/
namespace Nd
open PySem PySem.Spec PyProof.Rows L2
def SqB (K : PySem.W.Frag) (H : Hp) (a : Addr) (xs : List V) : Prop := SqL K H a xs ∨ SqT K H a xs
theorem seqT {K : PySem.W.Frag} {H H' : Hp} {a : Addr} {xs : List V} (e : Same H H') (h : SqT K H a xs) : SqT K H' a xs := by
  rcases h with (h | ⟨o, h⟩) | h
  · exact .inl (.inl (e _ _ h))
  · exact .inl (.inr ⟨o, e _ _ h⟩)
  · exact .inr h
theorem SqB.same {K : PySem.W.Frag} {H H' : Hp} {a : Addr} {xs : List V} (h : SqB K H a xs) (e : Same H H') : SqB K H' a xs := h.imp (e.seq ·) (seqT e ·)
def iSeq (K : PySem.W.Frag) (tl : TE) : TI := fun σ H R => tl σ H fun x H1 => ∃ a, x = .ref a ∧ ((∃ xs, SqL K H1 a xs) ∧ R (Itl K a) H1 ∨ (∃ xs, SqT K H1 a xs) ∧ R (Itt K a) H1)
theorem pi_seq {X : Cx} {tg : Expr} {l : Expr} {tl : TE} (hl : PE X l tl) : PI X tg l (iSeq X.K tl) := by
  refine ⟨fun pins s σ H R I h => ?_⟩
  refine thn (hl.run pins s σ H _ I h) fun v s1 ⟨x, H1, I1, r1, q1⟩ => ?_
  obtain ⟨a, e, q⟩ := q1
  subst e
  cases r1
  rcases q with ⟨⟨xs, hq⟩, q⟩ | ⟨⟨xs, hq⟩, q⟩
  · obtain ⟨its, rv, p, hz⟩ := I1.list hq
    refine wpAny_pyIter_list p.isList ?_
    refine ⟨s1.heap.objs.size, [s1.heap.objs.size], _, _, H1, rfl, I1.kept (t' := s1.toks) fun b o e => Heap.get?_push_of_some _ e, turn_list a _, ⟨_, Heap.get?_push_size _ rfl, rfl, rfl⟩, fun b hb => ?_, q⟩
    have e : b = s1.heap.objs.size := by simpa using hb
    subst e
    exact I1.fpOk (Nat.le_refl _) (I1.hok.fresh (Nat.le_refl _))
  · obtain ⟨its, rv, p, hz⟩ := I1.tuple hq
    refine wpAny_pyIter_tuple (show s1.heap.IsTuple a its.toArray from p) ?_
    refine ⟨s1.heap.objs.size, [s1.heap.objs.size], _, _, H1, rfl, I1.kept (t' := s1.toks) fun b o e => Heap.get?_push_of_some _ e, turn_tuple a _, ⟨_, Heap.get?_push_size _ rfl, rfl, rfl⟩, fun b hb => ?_, q⟩
    have e : b = s1.heap.objs.size := by simpa using hb
    subst e
    exact I1.fpOk (Nat.le_refl _) (I1.hok.fresh (Nat.le_refl _))
theorem for_both {K : PySem.W.Frag} {a : Addr} {xs : List V} {g : TG} {tb : TS} {D : Ends} {σ : L2.St} {H0 H : Hp} (hq : SqB K H0 a xs) (Pv : Nat → L2.St → Hp → Prop) (h0 : Pv 0 σ H) (hl : ∀ i σ H', i ≤ xs.length → Pv i σ H' → Same H0 H')
    (hs : ∀ i x σ H, xs[i]? = some x → Pv i σ H → g x σ H fun σ2 H2 => tb { D with nx := Pv (i + 1), ct := Pv (i + 1), bk := D.nx } σ2 H2) (hd : ∀ σ H, Pv xs.length σ H → D.nx σ H) :
    (∃ xs, SqL K H a xs) ∧ (∃ W : Nat → Nat → L2.St → Hp → Prop, (∃ m, W 0 m σ H) ∧ ∀ i m σ H, W i m σ H →
      ((Itl K a).stop i H ∧ D.nx σ H) ∨ ((Itl K a).go i H ∧ ∃ N : L2.St → Hp → Prop, (∀ σ' H', N σ' H' → ∃ m', m' < m ∧ W (i + 1) m' σ' H') ∧ ∀ x H', (Itl K a).yld i H x H' → g x σ H' fun σ2 H2 => tb { D with nx := N, ct := N, bk := D.nx } σ2 H2)) ∨
    (∃ xs, SqT K H a xs) ∧ (∃ W : Nat → Nat → L2.St → Hp → Prop, (∃ m, W 0 m σ H) ∧ ∀ i m σ H, W i m σ H →
      ((Itt K a).stop i H ∧ D.nx σ H) ∨ ((Itt K a).go i H ∧ ∃ N : L2.St → Hp → Prop, (∀ σ' H', N σ' H' → ∃ m', m' < m ∧ W (i + 1) m' σ' H') ∧ ∀ x H', (Itt K a).yld i H x H' → g x σ H' fun σ2 H2 => tb { D with nx := N, ct := N, bk := D.nx } σ2 H2)) := by
  rcases hq with h | h
  · exact .inl ⟨⟨_, (hl 0 σ H (Nat.zero_le _) h0).seq h⟩, for_list Pv h0 (fun i σ H' l p => (hl i σ H' l p).seq h) hs hd⟩
  · exact .inr ⟨⟨_, seqT (hl 0 σ H (Nat.zero_le _) h0) h⟩, for_tup Pv h0 (fun i σ H' l p => seqT (hl i σ H' l p) h) hs hd⟩
section
variable (P : Program) (w : World) (K : PySem.W.Frag) (mg : Str → Option Value) (base : Heap)
/-- the module's name x is a def of one parameter p that keeps sp, at the level k -/
structure CalK (k : Nat) (x p : Str) (sp : Sp) : Prop where
  ex : ∃ (f : Addr) (fd : FuncData), FnOk P w K mg base (L2.CX P w) k f fd [p] sp ∧ mg x = some (.ref f) ∧ PySem.W.keepIn K (.ref f) = true ∧ KBn K fd [p] 0 [p] (fun _ ws => ws) (fun _ zs => zs)
end
section
variable {P : Program} {w : World} {K : PySem.W.Frag} {mg : Str → Option Value} {base : Heap}
theorem fnx {x : Str} {st : Stmt} {f : Addr} {fd : FuncData} {N ps : List Str} {k : Nat} {sp : Sp} (F : DefX K mg x st ps f fd) (S : FnScope N ps (defScope st)) (len : ∀ vs H Q E, sp vs H Q E → vs.length = ps.length)
    (hbody : ∀ (cdv : Value) (A : Around) (outer : List Env) (s : Shared) (H : Hp) (vs : List V) (Q : VK) (E : XK), Room k (A.deeper (envOfC x (defScope st) s.heap.objs.size f cdv)) → sp vs H Q E →
      ∃ t, PSs (cxOf (L2.CX P w) P w K mg base N x (defScope st) f cdv A outer s H E).nox (defBody st) t ∧ t { nx := fun _ H' => Q .non H', rt := Q } (start N vs) H) : FnOk P w K mg base (L2.CX P w) (k + 1) f fd ps sp :=
  F.fn.ok S len fun cdv A outer s H vs Q E hr h => let ⟨t, a, b⟩ := hbody cdv A outer s H vs Q E hr h; ⟨t, a.nox, b⟩
theorem DefX.cal {x : Str} {st : Stmt} {f : Addr} {fd : FuncData} {ps : List Str} {k : Nat} {sp : Sp} (F : DefX K mg x st ps f fd) (h : FnOk P w K mg base (L2.CX P w) k f fd ps sp) : CalX P w K mg base k x sp := ⟨f, fd, ps, h, F.mgf, F.fn.kp, F.bi⟩
theorem kb1 {x qual : Str} {params : Arguments} {body : List Stmt} {scope : Scope} {f : Addr} {fd : FuncData} {p : Str} (F : FunD K x qual params body scope [] [] f fd)
    (h : ∀ (kV doc pm : Value) (an : Option Addr) (cdv ct : Value) (u : Value), bindArgs (PySem.W.fnOf x qual params body scope .none kV doc pm an cdv ct) ⟨[], [(p, u)]⟩ = pure [(p, u)]) : KBn K fd [p] 0 [p] (fun _ ws => ws) (fun _ zs => zs) := by
  obtain ⟨oc, od, dV, kV, doc, pm, an, cdv, ct, osl, rfl, lk, hcd, hD, hK⟩ := F.ex
  rcases hD with ⟨_, rfl⟩ | ⟨e, _⟩
  · refine ⟨fun s us ws X l1 l2 => ?_, fun r1 r2 => r2⟩
    match us, ws, l1, l2 with
    | [], [u], _, _ =>
      refine BindsTo.of_looks fun M => ?_
      exact .of_pure (h kV doc pm an cdv ct u)
  · exact absurd rfl e
theorem DefX.calk {x : Str} {st : Stmt} {f : Addr} {fd : FuncData} {p : Str} {k : Nat} {sp : Sp} (F : DefX K mg x st [p] f fd) (h : FnOk P w K mg base (L2.CX P w) k f fd [p] sp)
    (hb : ∀ (kV doc pm : Value) (an : Option Addr) (cdv ct : Value) (u : Value), bindArgs (PySem.W.fnOf x x (defArgs st) (defBody st) (defScope st) .none kV doc pm an cdv ct) ⟨[], [(p, u)]⟩ = pure [(p, u)]) : CalK P w K mg base k x p sp :=
  ⟨f, fd, h, F.mgf, F.fn.kp, kb1 F.fn hb⟩
end
section
variable {X : Cx} {k j : Nat} {x q : Str} {sp : Sp} {p pos : Pos} {kws : List Keyword} {tk : TA}
def tCallK1 (sp : Sp) (E : XK) (tk : TA) : TE := fun σ H Q => tk σ H fun zs H2 => zs.length = 1 ∧ sp zs H2 Q E
/-- x(q = e) -/
theorem pe_ck {E : XK} (c : CalK X.prog X.w X.K X.mg X.base k x q sp) (hr : Room j X.A) (hk : k ≤ j) (hg : Gl X x) (hx : Passes (L2.CX X.prog X.w) X E) (hkw : PK X kws tk)
    (hall : (backToKw pos (keywordEach kws X.env)).all (·.1.isSome) = true := by rfl) (hks : (backToKw pos (keywordEach kws X.env)).filterMap (·.1) = [q] := by rfl) (hdb : (x == ("__debug__" : Str)) = false := by decide)
    (hpl : ((backTo pos (starEach [] X.env)).any (·.1) || (backToKw pos (keywordEach kws X.env)).any (·.1.isNone)) = false := by rfl) :
    PE X (.Call (.Name x p) [] kws pos) (tCallK1 sp E tk) := by
  obtain ⟨f, fd, F, hm, kp, b⟩ := c.ex
  refine ⟨fun pins s σ H Q I h => ?_⟩
  refine wpAny_Call_Name_kw (ld_glob I hg hm ?_ hdb)
  refine PySem.W.callWith_KW0 (h₀ := X.base) I.ok.mod.kin kp hall ?_ hpl
  refine thn (hkw.run pos pins s σ H _ I h) fun ws s2 ⟨zs, H2, I2, rz, l1, q2⟩ => ⟨I2.kIn, ?_⟩
  rw [hks]
  exact run_fnN (us := []) (vs := []) F (hr.mono hk) b hx I2 .nil rz rfl l1 q2
end
end Nd
namespace Nd
open PySem PySem.Spec PyProof.Rows L2
/-- what is asked of a method as it stands behind the top -/
structure MetX (K : PySem.W.Frag) (nm qn : Str) (st : Stmt) (ps : List Str) (f : Addr) (fd : FuncData) : Prop where
  fn : FunD K nm qn (defArgs st) (defBody st) (defScope st) [] [] f fd
  bi : Binds K fd ps []
def metOf (st : Stmt) (i : Nat) : Stmt := match st with
  | .ClassDef _ _ _ body _ _ _ _ _ _ _ => body.getD i (.Pass ⟨0, 0, 0, 0⟩)
  | _ => .Pass ⟨0, 0, 0, 0⟩
end Nd
namespace Nd
open PySem PySem.Spec PyProof.Rows L2
def gFld (K : PySem.W.Frag) (ta : TE) (f : Str) : TG := fun y σ H Q => ta σ H fun x H2 => ∃ a C dx fs, x = .ref a ∧ H2 a = some (.ins C dx fs) ∧ Cls K C ∧ NoAttr K C f ∧ fs.length < 1000 ∧ Q σ (upd H2 a (.ins C dx (putF f y fs)))
theorem pg_fld {X : Cx} {o : Expr} {f : Str} {pos : Pos} {ta : TE} (ha : PE X o ta) : PG X (.Attribute o f pos) (gFld X.K ta f) := by
  refine ⟨fun pins s σ H y u Q I ry h => ?_⟩
  have e : assign (.Attribute o f pos) X.env u = (do
      let ov ← holding [u] (eval o X.env)
      standAt pos.atName
      holding [u, ov] (setAttr ov f u)
      release [u, ov] []) := rfl
  rw [e]
  refine wpAny_bind (wpAny_holding (thn (ha.run pins s σ H _ I h) fun ov s2 ⟨x, H2, I2, rx, a, C, dx, fs, ex, ea, c, n, l, q2⟩ => ?_))
  subst ex
  obtain rfl : ov = Value.ref a := rx
  refine wpAny_bind (wpAny_standAt (wpAny_bind (wpAny_holding (setattr_ok I2 ea c n l ry fun s3 I3 => ?_))))
  exact wpAny_release ⟨σ, _, I3, q2⟩
theorem putF_len (f : Str) (v : V) : ∀ fs : List (Str × V), (putF f v fs).length ≤ fs.length + 1
  | [] => by simp [putF]
  | (g, x) :: r => by
    unfold putF
    split
    · simp
    · have := putF_len f v r
      simp only [List.length_cons]
      omega
/-- at most n fields -/
def Sm (n : Nat) (fs : List (Str × V)) : Prop := fs.length ≤ n
theorem Sm.put {n : Nat} {fs : List (Str × V)} {f : Str} {v : V} (h : Sm n fs) : Sm (n + 1) (putF f v fs) := Nat.le_trans (putF_len f v fs) (Nat.add_le_add_right h 1)
theorem fldlen {H : Hp} {self C dx : Addr} {f : Str} {v : V} {fs : List (Str × V)} {n : Nat} (_ : H self = some (.ins C dx (putF f v fs))) (h : Sm n fs) : Sm (n + 1) (putF f v fs) := h.put
theorem look_hit {f : Str} {v : V} {fs : List (Str × V)} : (putF f v fs).lookup f = some v := by rw [lookup_putF, if_pos rfl]
theorem look_miss {f g : Str} {v : V} {fs : List (Str × V)} {o : Option V} (h : g ≠ f) (k : fs.lookup g = o) : (putF f v fs).lookup g = o := by rw [lookup_putF, if_neg h]; exact k
end Nd
namespace Nd
open PySem PySem.Spec PyProof.Rows L2
def rCatS (K : PySem.W.Frag) : R2 := fun x y H Q => ∃ l b xs zs, x = .ref l ∧ y = .ref b ∧ ScrL K H l xs ∧ H b = some (.lst zs) ∧ xs.length + zs.length ≤ sizeLine ∧ ∀ p, H p = none → Q (.ref p) (upd H p (.lst (xs ++ zs)))
theorem op_catS {X : Cx} : OpR X (binaryOp .Add) (rCatS X.K) := by
  intro pins s σ H x y v u Q I rx ry h
  obtain ⟨l, b, xs, zs, rfl, rfl, hH, hB, hz, q⟩ := h
  cases rx
  cases ry
  obtain ⟨its, n, r, e⟩ : ∃ (its : List Value) (n : Nat), Vals xs its ∧ s.heap.get? l = some { cls := .type "list", data := .seq its.toArray n } := by
    rcases hH with ⟨vs, h⟩ | ⟨vs, h, _, r⟩
    · obtain ⟨_, _, its, n, r, e⟩ := I.hok l _ h
      exact ⟨its, n, r, e⟩
    · exact ⟨vs, _, r, I.kIn _ _ h⟩
  obtain ⟨z2, its2, n2, r2, hl2, e2⟩ := I.lstM hB
  refine PySem.P.add_list e e2 ?_ (by rw [List.size_toArray, List.size_toArray, ← r.length, ← r2.length]; exact hz)
  have ea : its.toArray ++ its2.toArray = (its ++ its2).toArray := by simp
  rw [ea]
  exact ⟨.ref _, _, I.lnew (t' := s.toks) (r.append r2) (by rw [List.length_append]; omega), rfl, q _ I.fresh⟩
theorem dp_ints {K : PySem.W.Frag} {H : Hp} : ∀ ns : List Int, DpAll K H (ns.map V.int) (ns.map PyData.int)
  | [] => .nil
  | n :: r => .cons (.int n) (dp_ints r)
theorem lay_ints : ∀ ns : List Int, PyData.canLayAll0 (ns.map PyData.int) = true
  | [] => by simp [PyData.canLayAll0]
  | n :: r => by
    simp only [List.map_cons, PyData.canLayAll0, PyData.canLay0, lay_ints r]
    rfl
theorem dep_ints : ∀ ns : List Int, PyData.depthAll (ns.map PyData.int) = 0
  | [] => by simp [PyData.depthAll]
  | n :: r => by simp [List.map_cons, PyData.depthAll, PyData.depth, dep_ints r]
theorem shaped_ints (ns : List Int) : SeqAt.shaped (.tuple (ns.map PyData.int)) = true := by
  show (PyData.canLay0 (.tuple (ns.map PyData.int)) && decide (PyData.depth (.tuple (ns.map PyData.int)) ≤ 64)) = true
  simp only [PyData.canLay0, PyData.depth, lay_ints, dep_ints]
  rfl
theorem eqv_ints (ns : List Int) : PyData.eqv (.tuple (ns.map PyData.int)) (.tuple (ns.map PyData.int)) = true := PySem.SeqAt.eqv_refl _ (by simp only [PyData.canLay0]; exact lay_ints ns)
end Nd
namespace Nd
open PySem PySem.Spec PyProof.Rows L2
theorem dfx {K : PySem.W.Frag} {mg : Str → Option Value} {h : Heap} {x : Str} {st : Stmt} {ps : List Str} {fd : FuncData} (X : K.In h) (G : h.Ns mainGlobals mg) (F : FunD K x x (defArgs st) (defBody st) (defScope st) [] [] (He.ga K x) fd) (g : (He.Fa.glo x).ok K = true)
    (b : ∀ (kV doc pm : Value) (an : Option Addr) (cdv ct : Value) (us : List Value), us.length = ps.length → bindArgs (PySem.W.fnOf x x (defArgs st) (defBody st) (defScope st) .none kV doc pm an cdv ct) ⟨us, []⟩ = pure (ps.zip us)) : DefX K mg x st ps (He.ga K x) fd := ⟨F, He.glo_ok X G g, F.bindsN b⟩
theorem metx {K : PySem.W.Frag} {nm qn : Str} {st : Stmt} {ps : List Str} {f : Addr} {fd : FuncData} (F : FunD K nm qn (defArgs st) (defBody st) (defScope st) [] [] f fd)
    (b : ∀ (kV doc pm : Value) (an : Option Addr) (cdv ct : Value) (us : List Value), us.length = ps.length → bindArgs (PySem.W.fnOf nm qn (defArgs st) (defBody st) (defScope st) .none kV doc pm an cdv ct) ⟨us, []⟩ = pure (ps.zip us)) : MetX K nm qn st ps f fd := ⟨F, F.bindsN b⟩
theorem int_rel {K : PySem.W.Frag} {mg : Str → Option Value} {h : Heap} {x : Str} {i : Int} (X : K.In h) (G : h.Ns mainGlobals mg) (c : (He.Fa.int x i).ok K = true) : ∃ u, mg x = some u ∧ RelV (.int i) u := by
  obtain ⟨t, e⟩ := He.int_ok X G c
  exact ⟨_, e, t, rfl⟩
end Nd
set_option maxHeartbeats 4000000
/-! ### a list of tuples in the heap -/
namespace Nd
open PySem PySem.Spec PyProof.Rows L2
def TupsAt {α : Type} (f : α → List V) (H : Hp) : List V → List α → Prop
  | [], [] => True
  | x :: xs, r :: rs => (∃ p, x = .ref p ∧ H p = some (.tup (f r))) ∧ TupsAt f H xs rs
  | _, _ => False
section
variable {α : Type} {f : α → List V} {H H' : Hp}
theorem TupsAt.len : ∀ {xs : List V} {rs : List α}, TupsAt f H xs rs → xs.length = rs.length
  | [], [], _ => rfl
  | _ :: _, _ :: _, h => congrArg (· + 1) (TupsAt.len h.2)
  | [], _ :: _, h => h.elim
  | _ :: _, [], h => h.elim
theorem TupsAt.mono (k : ∀ p (xs : List V), H p = some (.tup xs) → H' p = some (.tup xs)) : ∀ {xs : List V} {rs : List α}, TupsAt f H xs rs → TupsAt f H' xs rs
  | [], [], _ => trivial
  | _ :: _, _ :: _, ⟨⟨p, e, h⟩, t⟩ => ⟨⟨p, e, k p _ h⟩, TupsAt.mono k t⟩
  | [], _ :: _, h => h.elim
  | _ :: _, [], h => h.elim
theorem TupsAt.same {xs : List V} {rs : List α} (h : TupsAt f H xs rs) (s : Same H H') : TupsAt f H' xs rs := h.mono fun p r e => s _ _ e
/-- what lies at a is no tuple -/
theorem TupsAt.but {xs : List V} {rs : List α} {a : Addr} {ys : List V} (h : TupsAt f H xs rs) (b : But a H H') (ha : H a = some (.lst ys)) : TupsAt f H' xs rs := h.mono fun p r e => b p _ (by
  rintro rfl
  rw [ha] at e
  cases e) e
theorem TupsAt.upd {xs : List V} {rs : List α} {a : Addr} {o : HO} {ys : List V} (h : TupsAt f H xs rs) (ha : H a = some (.lst ys)) : TupsAt f (upd H a o) xs rs := h.but (But.upd But.refl) ha
theorem TupsAt.snoc {p : Addr} {r : α} (hp : H p = some (.tup (f r))) : ∀ {xs : List V} {rs : List α}, TupsAt f H xs rs → TupsAt f H (xs ++ [.ref p]) (rs ++ [r])
  | [], [], _ => ⟨⟨p, rfl, hp⟩, trivial⟩
  | _ :: _, _ :: _, ⟨h, t⟩ => ⟨h, TupsAt.snoc hp t⟩
  | [], _ :: _, h => h.elim
  | _ :: _, [], h => h.elim
theorem TupsAt.get : ∀ {xs : List V} {rs : List α} {i : Nat} {x : V}, TupsAt f H xs rs → xs[i]? = some x → ∃ p r, rs[i]? = some r ∧ x = .ref p ∧ H p = some (.tup (f r))
  | [], _, _, _, _, e => by simp at e
  | _ :: _, [], _, _, h, _ => h.elim
  | x :: xs, r :: rs, 0, y, ⟨⟨p, e1, h⟩, _⟩, e => by
    have e' : x = y := Option.some.inj e
    exact ⟨p, r, rfl, e' ▸ e1, h⟩
  | x :: xs, r :: rs, i + 1, y, ⟨_, t⟩, e => by
    obtain ⟨p, r', h1, h2, h3⟩ := t.get (i := i) (x := y) e
    exact ⟨p, r', h1, h2, h3⟩
theorem TupsAt.unsnoc : ∀ {rs : List α} {xs : List V} {r : α}, TupsAt f H xs (rs ++ [r]) → ∃ ys p, xs = ys ++ [.ref p] ∧ H p = some (.tup (f r)) ∧ TupsAt f H ys rs
  | [], [], _, h => h.elim
  | [], [x], r, ⟨⟨p, e, h⟩, _⟩ => ⟨[], p, by rw [e]; rfl, h, trivial⟩
  | [], x :: y :: t, r, ⟨_, h⟩ => h.elim
  | q :: rs, [], _, h => h.elim
  | q :: rs, x :: xs, r, ⟨h, t⟩ => by
    obtain ⟨ys, p, e, hp, ht⟩ := TupsAt.unsnoc (rs := rs) t
    exact ⟨x :: ys, p, by rw [e]; rfl, hp, h, ht⟩
theorem dp_tups {K : PySem.W.Frag} {g : α → List PyData} (hg : ∀ r, DpAll K H (f r) (g r)) : ∀ {xs : List V} {rs : List α}, TupsAt f H xs rs → DpAll K H xs (rs.map fun r => .tuple (g r))
  | [], [], _ => .nil
  | _ :: _, r :: _, ⟨⟨p, e, h⟩, t⟩ => by
    subst e
    exact .cons (.tup (SqT.of h) (hg r)) (dp_tups hg t)
  | [], _ :: _, h => h.elim
  | _ :: _, [], h => h.elim
end
theorem set_last {ys : List V} {x y : V} : (ys ++ [x]).set ys.length y = ys ++ [y] := by simp
theorem ix_last {ys : List V} {x : V} : ixN (ys ++ [x]).length (-1) = some ys.length := by
  unfold ixN
  rw [if_neg (by decide), if_pos (by rw [List.length_append, List.length_singleton]; omega), List.length_append, List.length_singleton]
  congr 1
  omega
end Nd
set_option maxHeartbeats 4000000
/-! ### .get of a dict of the module with text keys -/
namespace Nd
open PySem PySem.Spec PyProof.Rows L2
def tKGet2 (K : PySem.W.Frag) (d : Addr) (td ty tx : TE) : TE := fun σ H Q => td σ H fun x H1 => x = .ref d ∧ ty σ H1 fun y H2 => tx σ H2 fun z H3 => ∃ (k : Str) (r : Option Value), y = .str k ∧ PySem.W.nsIn K d k = some r ∧ (r = none → Q z H3) ∧ (∀ u, r = some u → ∃ v, RelV v u ∧ Q v H3)
theorem pe_kget2 {X : Cx} {o e f : Expr} {apos cpos : Pos} {td ty tx : TE} {d : Addr} {es : Array DictEntry} {n : Nat} (D : KDict X.K X.w d es n) (ho : PE X o td) (he : PE X e ty) (hf : PE X f tx) (m : M2 X o "get" apos e f cpos) : PE X (.Call (.Attribute o "get" apos) [e, f] [] cpos) (tKGet2 X.K d td ty tx) := by
  refine ⟨fun pins s σ H Q I h => ?_⟩
  refine wpAny_Call_method m.base m.few m.line PySem.F.plainAttrs_dict PySem.F.slot_dict_get PySem.F.type_dict_get (thn (ho.run pins s σ H _ I h) fun u s1 ⟨x, H1, I1, rx, ex, q1⟩ => ?_)
  subst ex
  obtain rfl : u = Value.ref d := rx
  refine ⟨kd_type D I1, fun b q => ?_, ?_⟩
  · cases q
    exact ⟨_, I1.kIn _ _ D.at_, rfl⟩
  rw [m.trees]
  refine Calls.callWith_builtin rfl (Calls.evalArgs_plain (Calls.spliced_cons (thn (he.run pins s1 σ H1 _ I1 q1) fun iv s2 ⟨y, H2, I2, ry, q2⟩ =>
    Calls.spliced_cons (thn (hf.run pins s2 σ H2 _ I2 q2) fun fv s3 ⟨z, H3, I3, rz, k, r, ek, er, q3, q4⟩ => Calls.spliced_nil ?_))))
  subst ek
  obtain ⟨t, rfl⟩ := ry
  have mo := PySem.W.mapOf_K (prog := X.prog) (w := X.w) I3.kIn D.at_ D.lit
  refine call_meetsIn PySem.F.slot_dict_get mo.typeIs PySem.F.entry_dict_get (PySem.F.args_dict_get_3 _ _ _) (meets_dict_get_default (PySem.strKind X.prog X.w) d (PySem.strKind_is X.prog X.w k t) D.low fv) ⟨_, mo, ?_⟩
  have ef := PySem.W.find_K D.at_ er
  show EP X pins σ Q ((findBy Value.isStrOf es k).getD fv) { s3 with toks := s3.toks + 1 }
  rw [ef]
  cases r with
  | none => exact ⟨z, H3, I3.tok _, rz, q3 rfl⟩
  | some u =>
    obtain ⟨v, rv, q⟩ := q4 u rfl
    exact ⟨v, H3, I3.tok _, rv, q⟩
end Nd
set_option maxHeartbeats 4000000
/-! ### enumerate of a list or a tuple -/
namespace Nd
open PySem PySem.Spec PyProof.Rows L2
theorem meets_enumB {v : Value} {o : Obj} {G : Heap → Prop} (B : Begins v o G) :
    Meets (Builtin.«enumerate.__new__» ⟨[.type "enumerate", v], []⟩) (fun _ R s => G s.heap ∧
      R (.ok (.ret (.ref (s.heap.push o).objs.size))) { s with heap := (s.heap.push o).push { cls := .type "enumerate", data := .fields #[.none, .bool false, .ref s.heap.objs.size, rawInt 0, .none, .none] } }) :=
  .of_wp fun prog w A R s h => by
    obtain ⟨hp, g, d, tk, os⟩ := s
    obtain ⟨h1, h⟩ := h
    have hsub := sub_enumerate
    have q1 : ∀ {A' : Around} {E : Value → Shared → Prop} {Q : Value → Shared → Prop}, Q (.ref hp.objs.size) ⟨hp.push o, g, d, tk, os⟩ → wpAny (model prog w) A' (pyIter v) Q E ⟨hp, g, d, tk, os⟩ :=
      fun q => B.iter prog w _ _ ⟨hp, g, d, tk, os⟩ _ h1 q
    wp_walk using q1
    refine wpAny_stack_any fun st => wpAny_pure ?_
    split
    · rename_i c _ _ _ _ _
      cases (c == Value.type "enumerate")
      · wp_walk using q1
        exact ⟨_, rfl, h⟩
      · wp_walk using q1
        exact ⟨_, rfl, h⟩
    · wp_walk using q1
      exact ⟨_, rfl, h⟩
theorem enumB {prog : Program} {w : World} {A : Around} {E : Value → Shared → Prop} {s : Shared} {v : Value} {o : Obj} {G : Heap → Prop} {Q : Value → Shared → Prop} (B : Begins v o G) (h1 : G s.heap)
    (h : ∀ h', IsEnum h' (s.heap.objs.size + 1) s.heap.objs.size 0 .none → h'.get? s.heap.objs.size = some o → h'.objs.size = s.heap.objs.size + 2 →
      (∀ b o, s.heap.get? b = some o → h'.get? b = some o) → Q (.ref (s.heap.objs.size + 1)) { s with heap := h' }) :
    wpAny (model prog w) A (call (.type "enumerate") [v]) Q E s := by
  refine callType_new F.called_enumerate (by decide) (F.typeCall_enumerate_1 _) (F.newCall_enumerate_1 _) (fun obj => F.args_object_init_2 obj _) F.entry_enumerate_new
    (meets_enumB B) ⟨h1, ?_⟩
  have hz : (s.heap.push o).objs.size = s.heap.objs.size + 1 := Heap.size_push ..
  show _ ∧ _
  rw [hz]
  have he : IsEnum ((s.heap.push o).push { cls := .type "enumerate", data := .fields #[.none, .bool false, .ref s.heap.objs.size, rawInt 0, .none, .none] }) (s.heap.objs.size + 1) s.heap.objs.size 0 .none := by
    have := Heap.get?_push_size (s.heap.push o) (o := { cls := .type "enumerate", data := .fields #[.none, .bool false, .ref s.heap.objs.size, rawInt 0, .none, .none] }) rfl
    rw [hz] at this; exact this
  exact ⟨⟨_, he, rfl⟩, h _ he (Heap.get?_push_of_some _ (Heap.get?_push_size _ B.free)) (by rw [Heap.size_push, hz]) fun b o x => Heap.get?_push_of_some _ (Heap.get?_push_of_some _ x)⟩
/-- the tuple at a, each item in a new pair -/
def Itet (K : PySem.W.Frag) (a : Addr) : It :=
  ⟨fun i H => ∃ (xs : List V) (x : V), SqT K H a xs ∧ xs[i]? = some x, fun i H v H' => ∃ T x, v = .ref T ∧ H T = none ∧ H' = upd H T (.tup [.int (i : Nat), x]) ∧ ∀ xs, SqT K H a xs → xs[i]? = some x, fun i H => ∃ xs : List V, SqT K H a xs ∧ xs.length = i⟩
theorem turn_enumt {P : Program} {w : World} {K : PySem.W.Frag} {elts : List Expr} {kk : Nat} {tpos : Pos} (a e it : Addr) (nai : a ≠ it) (nae : e ≠ a) :
    Turn P w K (.Tuple elts kk tpos) (Itet K a) [e, it] e (fun i h => (∃ old, IsEnum h e it ((i : Nat) : Int) old) ∧ h.IsTupleIter it a i ∧ e ≠ it) where
  mem := by simp
  obj := fun i h st b hb => by
    obtain ⟨⟨old, he⟩, ⟨o, ho, hc, hd⟩, _⟩ := st
    have e' : b = e ∨ b = it := by simpa using hb
    rcases e' with z | z
    · rw [z]; exact ⟨_, he, fun v q => nomatch q⟩
    · rw [z]; exact ⟨o, ho, fun v q => by rw [hd] at q; cases q⟩
  keep := fun i h h' st k => let ⟨⟨old, he⟩, hi, hne⟩ := st; ⟨⟨old, k e (by simp) _ he⟩, hi.at fun o q => k it (by simp) o q, hne⟩
  item := by
    intro X hP hw hK hc i pins s σ H E I hf st hg
    subst hP hw hK
    obtain ⟨⟨old, he⟩, hit, hne⟩ := st
    obtain ⟨xs, x, hq, hx⟩ := hg
    obtain ⟨its, rv, p, hz⟩ := I.tuple hq
    obtain ⟨u, hu, ru⟩ := rv.get hx
    have hel : e < s.heap.objs.size := Heap.lt_size he
    have hil : it < s.heap.objs.size := by obtain ⟨_, q, _⟩ := hit; exact Heap.lt_size q
    have hi : i < its.toArray.size := by
      rw [List.size_toArray]
      exact (List.getElem?_eq_some_iff.mp hu).1
    have D : Draws X.prog X.w X.A.in1 it [it, a] its.toArray.size (fun i v => its.toArray[i]? = some v) (fun i h => h.IsTupleIter it a i ∧ h.IsTuple a its.toArray) := Draws.tuple (A := X.A.in1) (show X.A.in1.handled = none from I.ok.hd hc) it a nai its.toArray
    refine wpAny_pyNext_enum_itemD D he ⟨hit, p⟩ hi hne (by simp [hne, nae]) fun u' h' tk hu' ho hit' hT hsz hk => ?_
    obtain rfl : u' = u := by
      have z : its[i]? = some u' := by simpa using hu'
      exact Option.some.inj (z.symm.trans hu)
    refine ⟨_, rfl, wpAny_letOwnedTupleGo_enum (s := { s with heap := h', toks := tk + 1 }) ho fun h'' he' sb => ?_⟩
    have hT2 : h''.get? s.heap.objs.size = some { cls := .type "tuple", data := .seq #[.int i tk, u'] } := (sb.2 _ (Nat.ne_of_gt hel)).trans hT
    have new : ObjOk X.prog X.w (upd H s.heap.objs.size (.tup [.int (i : Nat), x])) h'' s.heap.objs.size (.tup [.int (i : Nat), x]) :=
      ⟨by show 2 ≤ sizeLine; decide, [.int i tk, u'], .cons ⟨_, rfl⟩ (.cons ru .nil), ⟨_, hT2, rfl, _, rfl⟩⟩
    have I1 : Inv X pins σ (upd H s.heap.objs.size (.tup [.int (i : Nat), x])) { s with heap := h'', toks := tk + 1 } :=
      I.turnedNew (ch := [e, it]) (fun b ob hb q => (sb.2 b (fun z => hb (by simp [z]))).trans (hk b ob (fun z => hb (by simp [z])) (fun z => hb (by simp [z])) q)) hf (Nat.le_refl _) new
    refine ⟨.ref s.heap.objs.size, _, I1, rfl, ⟨_, x, rfl, I.hok.fresh (Nat.le_refl _), rfl, fun ys hy => by rw [I.tuple_inj hy hq]; exact hx⟩, ⟨⟨u', ?_⟩, hit'.1.at fun o q => (sb.2 it (Ne.symm hne)).trans q, hne⟩, fun b hb => ?_⟩
    · have e1 : ((i + 1 : Nat) : Int) = (i : Int) + 1 := by omega
      rw [e1]; exact he'
    · have hb' : b < s.heap.objs.size := by
        have e' : b = e ∨ b = it := by simpa using hb
        rcases e' with z | z
        · rw [z]; exact hel
        · rw [z]; exact hil
      rw [upd_ne (Nat.ne_of_lt hb')]
      exact (hf b hb).1
  done := by
    intro X hP hw hK hc i pins s σ H E I hf st hg
    subst hP hw hK
    obtain ⟨⟨old, he⟩, hit, hne⟩ := st
    obtain ⟨xs, hq, hx⟩ := hg
    obtain ⟨its, rv, p, hz⟩ := I.tuple hq
    obtain ⟨f0, f1, f2, f3, f4, f5⟩ := hf it (by simp)
    have hl := rv.length
    have D : Draws X.prog X.w X.A.in1 it [it, a] its.toArray.size (fun i v => its.toArray[i]? = some v) (fun i h => h.IsTupleIter it a i ∧ h.IsTuple a its.toArray) := Draws.tuple (A := X.A.in1) (show X.A.in1.handled = none from I.ok.hd hc) it a nai its.toArray
    have e : i = its.toArray.size := by rw [List.size_toArray, ← hl, hx]
    rw [e] at he hit
    exact wpAny_pyNext_enum_endD D he ⟨hit, p⟩ fun h' eb => ⟨rfl, I.turned (t' := s.toks) (fun b o hb q => eb b o hb q) f0 f1 f3 f4 f5⟩
  self := fun A i s Q E st h => let ⟨⟨_, he⟩, _⟩ := st; wpAny_pyIter_enum he h
def iEnumB (K : PySem.W.Frag) (ta : TA) : TI := fun σ H R => ta σ H fun vs H1 => ∃ a, vs = [.ref a] ∧ ((∃ xs, SqL K H1 a xs) ∧ R (Ite K a) H1 ∨ (∃ xs, SqT K H1 a xs) ∧ R (Itet K a) H1)
theorem pi_enumB {X : Cx} {e : Expr} {ta : TA} {p pos tpos : Pos} {elts : List Expr} {kk : Nat} (hg : Gl X "enumerate") (hm : X.mg "enumerate" = none) (ha : PA X [e] ta) (hs : starEach [e] X.env = [(false, eval e X.env)] := by rfl) :
    PI X (.Tuple elts kk tpos) (.Call (.Name "enumerate" p) [e] [] pos) (iEnumB X.K ta) := by
  refine ⟨fun pins s σ H R I h => ?_⟩
  refine Call_ (ld_blt I hg hm boot_enumerate (PyProof.Rows.callWith_type1 (thn (ha.run pos pins s σ H _ I h) fun us s1 ⟨vs, H1, I1, r1, q1⟩ => ?_) hs rfl))
  obtain ⟨a, ex, q⟩ := q1
  subst ex
  cases r1 with
  | cons r rr =>
    cases rr
    cases r
    have ff : ∀ b ∈ [s1.heap.objs.size + 1, s1.heap.objs.size], s1.heap.objs.size ≤ b := fun b hb => by
      have e' : b = s1.heap.objs.size + 1 ∨ b = s1.heap.objs.size := by simpa using hb
      rcases e' with z | z
      · rw [z]; exact Nat.le_add_right _ _
      · rw [z]; exact Nat.le_refl _
    rcases q with ⟨⟨xs, hq⟩, q⟩ | ⟨⟨xs, hq⟩, q⟩
    · obtain ⟨its, rv, p', hz⟩ := I1.list hq
      refine call_enumerate_list p'.isList fun h' he hit hsz hk => wpAny_pyIter_enum he ?_
      have I2 : Inv X pins σ H1 { s1 with heap := h' } := I1.kept (t' := s1.toks) hk
      exact ⟨s1.heap.objs.size + 1, [s1.heap.objs.size + 1, s1.heap.objs.size], _, _, H1, rfl, I2, turn_enum a (s1.heap.objs.size + 1) s1.heap.objs.size, ⟨⟨.none, he⟩, hit, Nat.succ_ne_self _⟩, fun b hb => I1.fpOk (ff b hb) (I1.hok.fresh (ff b hb)), q⟩
    · obtain ⟨its, rv, p', hz⟩ := I1.tuple hq
      have hal : a < s1.heap.objs.size := by
        obtain ⟨o, ho, _⟩ := id p'
        exact Heap.lt_size ho
      refine enumB (begins_tuple a its.toArray) (show s1.heap.IsTuple a its.toArray from p') fun h' he hit hsz hk => wpAny_pyIter_enum he ?_
      have I2 : Inv X pins σ H1 { s1 with heap := h' } := I1.kept (t' := s1.toks) hk
      exact ⟨s1.heap.objs.size + 1, [s1.heap.objs.size + 1, s1.heap.objs.size], _, _, H1, rfl, I2, turn_enumt a (s1.heap.objs.size + 1) s1.heap.objs.size (Nat.ne_of_lt hal) (Nat.ne_of_gt (Nat.lt_succ_of_lt hal)), ⟨⟨.none, he⟩, ⟨_, hit, rfl, rfl⟩, Nat.succ_ne_self _⟩, fun b hb => I1.fpOk (ff b hb) (I1.hok.fresh (ff b hb)), q⟩
theorem walk_enumt {K : PySem.W.Frag} {a : Addr} {xs : List V} : Walk (Itet K a) xs.length (fun H => SqT K H a xs) (YPair (fun i => some (.int (i : Nat))) (fun i => xs[i]?)) := by
  refine ⟨fun i _ hi q => ⟨xs, xs[i], q, by simp [hi]⟩, fun _ q => ⟨xs, q, rfl⟩, fun i H v H' _ q y => ?_⟩
  obtain ⟨T, x, h1, h2, h3, h4⟩ := y
  exact ⟨T, .int (i : Nat), x, h1, h2, h3, rfl, h4 xs q⟩
theorem for_enumB {K : PySem.W.Frag} {a : Addr} {xs : List V} {g : TG} {tb : TS} {D : Ends} {σ : L2.St} {H0 H : Hp} (hq : SqB K H0 a xs) (Pv : Nat → L2.St → Hp → Prop) (h0 : Pv 0 σ H) (hl : ∀ i σ H', i ≤ xs.length → Pv i σ H' → Same H0 H')
    (hs : ∀ i x σ H T, xs[i]? = some x → Pv i σ H → H T = none → g (.ref T) σ (upd H T (.tup [.int (i : Nat), x])) fun σ2 H2 => tb { D with nx := Pv (i + 1), ct := Pv (i + 1), bk := D.nx } σ2 H2) (hd : ∀ σ H, Pv xs.length σ H → D.nx σ H) :
    (∃ xs, SqL K H a xs) ∧ (∃ W : Nat → Nat → L2.St → Hp → Prop, (∃ m, W 0 m σ H) ∧ ∀ i m σ H, W i m σ H →
      ((Ite K a).stop i H ∧ D.nx σ H) ∨ ((Ite K a).go i H ∧ ∃ N : L2.St → Hp → Prop, (∀ σ' H', N σ' H' → ∃ m', m' < m ∧ W (i + 1) m' σ' H') ∧ ∀ x H', (Ite K a).yld i H x H' → g x σ H' fun σ2 H2 => tb { D with nx := N, ct := N, bk := D.nx } σ2 H2)) ∨
    (∃ xs, SqT K H a xs) ∧ (∃ W : Nat → Nat → L2.St → Hp → Prop, (∃ m, W 0 m σ H) ∧ ∀ i m σ H, W i m σ H →
      ((Itet K a).stop i H ∧ D.nx σ H) ∨ ((Itet K a).go i H ∧ ∃ N : L2.St → Hp → Prop, (∀ σ' H', N σ' H' → ∃ m', m' < m ∧ W (i + 1) m' σ' H') ∧ ∀ x H', (Itet K a).yld i H x H' → g x σ H' fun σ2 H2 => tb { D with nx := N, ct := N, bk := D.nx } σ2 H2)) := by
  have step : ∀ i x σ H H', i < xs.length → Pv i σ H → YPair (fun i => some (.int (i : Nat))) (fun i => xs[i]?) i H x H' → g x σ H' fun σ2 H2 => tb { D with nx := Pv (i + 1), ct := Pv (i + 1), bk := D.nx } σ2 H2 := by
    rintro i x σ H H' hi p ⟨T, u, v, rfl, h2, rfl, h4, h5⟩
    cases h4
    exact hs i v σ H T h5 p h2
  rcases hq with h | h
  · exact .inl ⟨⟨_, (hl 0 σ H (Nat.zero_le _) h0).seq h⟩, for_it walk_enum Pv h0 (fun i σ H' l p => (hl i σ H' l p).seq h) step hd⟩
  · exact .inr ⟨⟨_, seqT (hl 0 σ H (Nat.zero_le _) h0) h⟩, for_it walk_enumt Pv h0 (fun i σ H' l p => seqT (hl i σ H' l p) h) step hd⟩
end Nd
set_option maxHeartbeats 4000000
/-! ### own errors whose field is «at» -/
namespace PySem
namespace NxA
open PySem.W PySem.Calls PyProof.Rows PySem.HandSPX
def iA (p1 p2 : Pos) : Arguments := { posonlyargs := [], args := [{ arg := "self", annotation := none, pos := p1 }, { arg := "at", annotation := none, pos := p2 }], vararg := none, kwonlyargs := [], kw_defaults := [], kwarg := none, defaults := [] }
def iB (q1 q2 q3 q4 q5 q6 q7 q8 q9 q10 : Pos) : List Stmt :=
  [.Expr (.Call (.Attribute (.Call (.Name "super" q1) [] [] q2) "__init__" q3) [.Name "at" q4] [] q5) q6, .Assign [.Attribute (.Name "self" q7) "at" q8] (.Name "at" q9) q10]
def iS : Scope := { kind := .function, names := [(PySem.Str.ofString "self", .local), (PySem.Str.ofString "at", .local), (PySem.Str.ofString "__class__", .free), (PySem.Str.ofString "super", .globalImplicit)], isGenerator := false, isCoroutine := false, more := [] }
/-- what the written part says of the class at C and of its __init__ at fI -/
structure Txt (P : Program) (K : Frag) (mg : Str → Option Value) (C fI : Addr) : Prop where
  ox : L2.OexC K C
  noN : findIn K (.ref C) "at" = some none
  iC : findIn K (.ref C) "__init__" = some (some (.ref fI))
  tI : typeIn K (.ref fI) = some (.type "function")
  sup : ks_superIn K C C "__init__" = some (some (.builtin "ValueError.__init__"))
  sub : mroIn K C (.ref C) = some true
  isB : subIn K (.ref C) (.type "ValueError") = some true
  tp : nsIn K cStatics "thirdparty.any" = some none
  noS : mg "super" = none
  top : (P.main.scope.names.lookup ("super" : Str)).isSome = false
  fn : ∃ (qn : Str) (oc ccl cl ct doc pm : Value) (od cdd cld an : Option Addr) (osl ccs csl : Array (Option Value)) (cda cc : Addr) (vs : Array Value) (file : Str) (tf : Tok) (p1 p2 q1 q2 q3 q4 q5 q6 q7 q8 q9 q10 : Pos),
    K.lookup fI = some ⟨oc, od, .func (ksFn "__init__" qn (iA p1 p2) (iB q1 q2 q3 q4 q5 q6 q7 q8 q9 q10) iS .none .none doc pm an (.ref cda) ct cc), osl⟩ ∧ codeIn K (.ref cda) qn = true ∧
    K.lookup cda = some ⟨ccl, cdd, .fields vs, ccs⟩ ∧ vs[2]? = some (.str file tf) ∧ ((P.main.file : Str) == file) = true ∧
    K.lookup cc = some ⟨cl, cld, .cell (some (.ref C)), csl⟩ ∧
    (∀ env : Env, ∃ pl : Sem Bool, eval (.Call (.Attribute (.Call (.Name "super" q1) [] [] q2) "__init__" q3) [.Name "at" q4] [] q5) env = (do
      let ov ← attributeBase (.Call (.Name "super" q1) [] [] q2) "__init__" env (eval (.Call (.Name "super" q1) [] [] q2) env)
      standAt q3.atName
      let (f, first) ← holding [ov] (getMethod ov "__init__" pl)
      callWith q5 f first (backTo q5 (starEach [.Name "at" q4] env)) []))
section
variable {prog : Program} {w : World} {A : Around} {R : Result → Shared → Prop} {s : Shared} {K : Frag} {mg mb : Str → Option Value} {C fI : Addr}
/-- what __init__ leaves of a fresh exception at x -/
structure InitEnd (h h' : Heap) (x C dx t1 : Addr) (v : Value) : Prop where
  keep : ∀ b o, b ≠ x → h.get? b = some o → h'.get? b = some o
  obj : h'.get? x = some { cls := .ref C, dict := some dx, data := .fields #[.ref t1, .none, .none, .none, .bool false, .none] }
  dbig : h.objs.size ≤ dx
  dne : dx ≠ x
  ns : h'.Ns1 dx (fun y => if y = "at" then some v else none)
theorem init_ok (T : Txt prog K mg C fI) {x t0 : Addr} {v : Value} (X : K.In s.heap) (hns : s.heap.Ns mainGlobals mg) (hbl : s.heap.Ns builtinsNs mb) (hbb : ∀ x : Str, x ≠ "__name__" → mb x = bootBuiltins x) (hlim : s.heap.NoLimit)
    (hx : s.heap.get? x = some (excO C t0)) (hnx : K.lookup x = none) (hroom : A.depth < recursionLimit)
    (hq : ∀ h' tk dx t1, InitEnd s.heap h' x C dx t1 v → R (.ok (.ret .none)) { s with heap := h', toks := tk }) :
    codeAny (model prog w) A (.call (.ref fI) ⟨[.ref x, v], []⟩) R s := by
  obtain ⟨qn, oc, ccl, cl, ct, doc, pm, od, cdd, cld, an, osl, ccs, csl, cda, cc, vs, file, tf, p1, p2, q1, q2, q3, q4, q5, q6, q7, q8, q9, q10, ho, hcd, hcode, hvs, hfile, hcell, hev⟩ := T.fn
  obtain ⟨nm, q, N, bs, bm, sn, sub, ab, col, dd, k0, k1, k2, k3, k5, hC, hbm⟩ := T.ox.cls
  have hcl : clsIn K C = some { name := nm, bases := bs, mro := .ref C :: bm, ns := N, qualname := q, hasDict := true, slotNames := sn, subclasses := sub, abstract := ab, collection := col, hasDel := false } := by unfold clsIn; rw [hC] <;> rfl
  refine ks_codeAny_call_defAt (fd := ksFn "__init__" qn (iA p1 p2) (iB q1 q2 q3 q4 q5 q6 q7 q8 q9 q10) iS .none .none doc pm an (.ref cda) ct cc) (body := iB q1 q2 q3 q4 q5 q6 q7 q8 q9 q10) (binds := [("self", .ref x), ("at", v)])
    hroom (X _ _ ho) rfl hlim (codeRec_of X hcd) rfl (BindsTo.of_eq (by first | rfl | with_unfolding_all rfl)) (show ∀ x ∈ iS.names, x.2 ≠ NameKind.cell from by decide +kernel) (by
      intro y hy
      rcases List.mem_cons.mp hy with rfl | hy
      · exact (show iS.names.lookup ("self" : Str) = some .local from by decide +kernel)
      · rcases List.mem_cons.mp hy with rfl | hy
        · exact (show iS.names.lookup ("at" : Str) = some .local from by decide +kernel)
        · cases hy) (fun h₁ hn₁ k₁ => ?_)
  have X₁ : K.In h₁ := X.keeps k₁
  have hx₁ := k₁ _ _ hx
  obtain ⟨hp, g, dr, tk, os⟩ := s
  -- super().__init__(field)
  obtain ⟨pl, he⟩ := hev (ksEnv qn iS hp.objs.size fI (.ref cda) cc)
  refine ks_wpAt_execs_cons (ks_wpAt_Expr_any (ks_wpAt_MethodCall (pl := pl) ?_ he))
  refine ks_wpAt_super_base (env := ksEnv qn iS hp.objs.size fI (.ref cda) cc) rfl rfl (by decide +kernel) rfl (X₁ _ _ ho) rfl rfl rfl (X₁ _ _ hcode) rfl hvs hfile T.top ?_
  refine ks_loadName_global rfl rfl (loadGlobal_builtin (env := ksEnv qn iS hp.objs.size fI (.ref cda) cc) (hns.keeps k₁) T.noS (hbl.keeps k₁) ((hbb _ (by decide +kernel)).trans Boot.«super») ⟨rfl, ?_⟩)
  refine wpAny_loadName_free rfl rfl rfl ⟨_, X₁ _ _ hcell, rfl⟩ ?_
  refine wpAny_loadName_local rfl rfl hn₁ rfl ?_
  refine ks_wpAny_isType_cls (X₁ _ _ hC) rfl ⟨rfl, ?_⟩
  refine ks_wpAny_call_super (X₁ _ _ hC) rfl hx₁ rfl (fun c e => by cases e) (looks_mroIn X₁ T.sub) (fun h₂ e₂ k₂ => ?_)
  have X₂ : K.In h₂ := X₁.keeps k₂
  have hx₂ := k₂ _ _ hx₁
  have hm : alongIn K "__init__" (((Value.ref C :: bm).dropWhile (· != .ref C)).drop 1) = some (some (.builtin "ValueError.__init__")) := by
    have z := T.sup
    unfold ks_superIn at z
    rw [hcl] at z
    exact z
  have hI : Looks (model prog w) h₂ (isInstance (.ref x) (.type "ValueError")) true := (show InstAt h₂ x (excO C t0) C none from ⟨hx₂, rfl, rfl, trivial⟩).type.andThen (looks_subIn X₂ T.isB)
  have nxC : x ≠ C := by
    rintro rfl
    have z := X₂ _ _ hC
    rw [hx₂] at z
    cases z
  refine kxs_getMethod kxs_ValueError e₂ (looks_opaque X₂ T.tp) (l₀ := .ref C :: bm) (fun A Q E s k q => wpAny_bind ((looks_clsIn X₂ hcl) A _ E s k (wpAny_pure q))) rfl X₂ hm hI nxC (by decide +kernel) ?_
  have k₃ : ∀ b o, h₂.get? b = some o → (h₂.push (kxs_mw "ValueError.__init__" x)).get? b = some o := fun b o e => Heap.get?_push_of_some _ e
  have e₃ : (h₂.push (kxs_mw "ValueError.__init__" x)).get? h₂.objs.size = some (kxs_mw "ValueError.__init__" x) := Heap.get?_push_at rfl rfl
  have n₃ := (hn₁.keeps k₂).keeps k₃
  have X₃ := X₂.keeps k₃
  have hx₃ := k₃ _ _ hx₂
  refine kxs_callWith (i := "ValueError.__init__") (x := x) (by rfl) (evalArgs_plain ?_)
  show wpAny _ _ (spliced ((false, eval (.Name "at" q4) (ksEnv qn iS hp.objs.size fI (.ref cda) cc)) :: backTo q5 (starEach [] (ksEnv qn iS hp.objs.size fI (.ref cda) cc)))) _ _ _
  refine Calls.spliced_cons (wpAny_Name (wpAny_loadName_local rfl rfl n₃ rfl ?_) (by decide +kernel))
  refine Calls.spliced_nil ⟨e₃, ?_⟩
  show wpAny _ _ (call (.ref h₂.objs.size) [v]) _ _ _
  refine wpAny_call (codeAny_of_tree ?_)
  show wpAny _ _ (callAny (.ref h₂.objs.size) ⟨[v], []⟩) _ _ _
  simp only [callAny]
  refine wpAny_bind (wpAny_load e₃ ?_)
  simp only [kxs_mw, show (Value.type "method-wrapper" == Value.type "method" || Value.type "method-wrapper" == Value.type "builtin_function_or_method" || Value.type "method-wrapper" == Value.type "method-wrapper") = true by decide, if_true]
  refine KFB.if_so (by decide) ?_
  refine wpAny_bind (check_bound_init PySem.F.excBase_ValueError.toExcCallFacts (X₃ _ _ hC) hx₃ rfl ?_)
  refine wpAny_bind (wpAny_pure (wpAny_pure ?_))
  refine ⟨plainId_quiet PySem.F.excBase_ValueError.init.plain _, codeAny_builtin PySem.F.excBase_ValueError.initEntry ?_⟩
  refine exc_init_tree (e := x) (cls := .ref C) (dv := none) (c2 := .none) (c3 := .none) (b4 := .bool false) hx₃ (by show 1 ≤ sizeLine; rw [sizeLine_eq]; decide) (fun h₄ k₄ hx₄ _ => ?_)
  have X₄ : K.In h₄ := fun b o e => k₄ b o (fun z => by rw [z, hnx] at e; cases e) (X₃ b o e)
  have xL : hp.objs.size ≠ x := Nat.ne_of_gt (Heap.lt_size hx)
  have n₄ : h₄.Ns hp.objs.size (fun y => List.lookup y [(("self" : Str), Value.ref x), (("at" : Str), v)].reverse) := by
    obtain ⟨o, es, ep, e, r⟩ := n₃
    exact ⟨o, es, ep, k₄ _ _ xL e, r⟩
  -- self.field = field
  refine wpAt_of_wpAny (wpAny_execs_cons (plainObj_wpAny_Assign_Attribute ?_))
  refine wpAny_Name (wpAny_loadName_local rfl rfl n₄ rfl (wpAny_Name (wpAny_loadName_local rfl rfl n₄ rfl ?_) (by decide +kernel))) (by decide +kernel)
  refine set_plain X₄ (ox := excO C (h₂.push (kxs_mw "ValueError.__init__" x)).objs.size) (od := none) ⟨hx₄, rfl, rfl, trivial⟩ T.ox.sa ?_
  refine exc_osa X₄ hx₄ hcl (show refsVE (.ref C :: bm) = true from hbm) rfl T.noN (fun h₅ tk₅ dx k₅ dn dne hx₅ hn₅ => ?_)
  have old : ∀ b o, b ≠ x → hp.get? b = some o → h₅.get? b = some o := fun b o hb e => k₅ b o hb (k₄ b o hb (k₃ b o (k₂ b o (k₁ b o e))))
  have big : hp.objs.size ≤ dx := by
    obtain ⟨o, es, ep, e, r⟩ := n₄
    exact Nat.le_of_lt (Nat.lt_of_lt_of_le (Heap.lt_size e) dn)
  exact wpAny_execs_nil (hq h₅ tk₅ dx _ ⟨old, hx₅, big, dne, hn₅⟩)
end
end NxA
end PySem
namespace PySem
namespace NxA
open PySem.W PySem.Calls PyProof.Rows PySem.HandSPX
section
variable {prog : Program} {w : World} {A : Around} {R : Result → Shared → Prop} {s : Shared} {K : Frag} {mg mb : Str → Option Value} {C fI : Addr}
/-- a made exception -/
structure Made (h h' : Heap) (e C d : Addr) (v : Value) : Prop where
  keep : ∀ b o, h.get? b = some o → h'.get? b = some o
  new : h.objs.size ≤ e
  obj : ∃ oe vs, h'.get? e = some oe ∧ oe.cls = .ref C ∧ oe.dict = some d ∧ oe.data = .fields vs ∧ vs[1]? = some .none
  dbig : h.objs.size ≤ d
  dne : d ≠ e
  ns : h'.Ns1 d (fun y => if y = "at" then some v else none)
theorem made_ok (T : Txt prog K mg C fI) {v : Value} (X : K.In s.heap) (hns : s.heap.Ns mainGlobals mg) (hbl : s.heap.Ns builtinsNs mb) (hbb : ∀ x : Str, x ≠ "__name__" → mb x = bootBuiltins x) (hlim : s.heap.NoLimit) (hroom : A.depth + 1 < recursionLimit)
    (hq : ∀ h' tk e d, Made s.heap h' e C d v → R (.ok (.ret (.ref e))) { s with heap := h', toks := tk }) :
    codeAny (model prog w) A (.call (.ref C) ⟨[v], []⟩) R s := by
  obtain ⟨nm, q, N, bs, bm, sn, sub, ab, col, dd, k0, k1, k2, k3, k5, hC, hbm⟩ := T.ox.cls
  obtain ⟨hp, g, dr, tk, os⟩ := s
  have k : ∀ b o, hp.get? b = some o → ((hp.push (kdv_tup [v])).push (excO C hp.objs.size)).get? b = some o := fun b o e => Heap.get?_push_of_some _ (Heap.get?_push_of_some _ e)
  have hget : ((hp.push (kdv_tup [v])).push (excO C hp.objs.size)).get? (hp.objs.size + 1) = some (excO C hp.objs.size) := by heap_get
  have hnx : K.lookup (hp.objs.size + 1) = none := by
    cases e : K.lookup (hp.objs.size + 1) with
    | none => rfl
    | some o =>
      have z : hp.get? (hp.objs.size + 1) = some o := X _ _ e
      exact absurd (Nat.lt_of_succ_lt (Heap.lt_size z)) (Nat.lt_irrefl _)
  have one : [v].length ≤ sizeLine := by
    show 1 ≤ sizeLine
    rw [sizeLine_eq]
    decide
  refine call_own PySem.F.excBase_ValueError (fun X => refsVE_contains X bm hbm) (X _ _ hC) (looks_findIn X T.iC) (fun self => bind_fn X self T.tI) one ?_
  refine init_ok (s := ⟨(hp.push (kdv_tup [v])).push (excO C hp.objs.size), g, dr, tk, os⟩) T (X.keeps k) (hns.keeps k) (hbl.keeps k) hbb (hlim.keeps k) hget hnx ?_ fun h' tk' dx t1 ⟨k', hx, dn, dne, hns'⟩ => ?_
  · show A.depth + 1 < recursionLimit
    exact hroom
  · have old : ∀ b o, hp.get? b = some o → h'.get? b = some o := fun b o e => k' b o (Nat.ne_of_lt (Nat.lt_succ_of_lt (Heap.lt_size e))) (k b o e)
    have z : hp.objs.size + 1 + 1 ≤ dx := by
      first
        | (simpa only [Heap.size_push] using dn)
        | exact dn
        | (have q := dn; rw [Heap.size_push, Heap.size_push] at q; exact q)
    exact ⟨rfl, hq h' tk' (hp.objs.size + 1) dx ⟨old, Nat.le_succ _, ⟨_, _, hx, rfl, rfl, rfl, rfl⟩, Nat.le_trans (Nat.le_trans (Nat.le_succ _) (Nat.le_succ _)) z, dne, hns'⟩⟩
end
end NxA
end PySem
namespace L2
open PySem PySem.Spec PyProof.Rows
section
variable {X : Cx} {C fI : Addr}
theorem pmk_nxA {a : Expr} {ta : TA} {x : Str} {p pos : Pos} {k : Nat} (T : PySem.NxA.Txt X.prog X.K X.mg C fI) (hr : Room k X.A) (ha : PA X [a] ta) (hg : Gl X x) (hm : X.mg x = some (.ref C)) (hdb : (x == ("__debug__" : Str)) = false := by decide)
    (he : starEach (a :: []) X.env = (false, eval a X.env) :: starEach [] X.env := by rfl) (hpl : (backTo pos (starEach [] X.env)).any (·.1) = false := by rfl) :
    PMk X (.Call (.Name x p) [a] [] pos) (tMkNx "at" C ta) := by
  intro pins s σ H Q I h
  refine wpAny_Call_Name_kw (ld_glob I hg hm ?_ hdb)
  refine PySem.W.callWith_K (h₀ := X.base) I.ok.mod.kin T.ox.kC (thn (ha.run pos pins s σ H _ I h) fun us s1 hh => ?_) he hpl
  obtain ⟨vs, H1, I1, r1, v, ev, q1⟩ := hh
  subst ev
  refine ⟨I1.kIn, ?_⟩
  cases r1 with
  | cons rv rn =>
    rename_i v' us'
    cases rn
    show wpAny _ _ (call (.ref C) [v']) _ _ _
    have hlim := I1.nolimit
    obtain ⟨mb, hb1, hb2⟩ := I1.ok.mod.blt
    have hns := I1.ok.mod.glob.keeps I1.bk
    have hbl := hb1.keeps I1.bk
    obtain ⟨hp, g, dr, tk, os⟩ := s1
    refine wpAny_call (PySem.NxA.made_ok T I1.kIn hns hbl hb2 hlim (by have := hr.dp; omega) fun h' tk' e d M => ?_)
    show MkP X pins σ Q (.ref e) ⟨h', g, dr, tk', os⟩
    obtain ⟨oe, fv, hoe, hc, hd, hdat, h1⟩ := M.obj
    have hns := M.ns
    obtain ⟨G', g1, g2⟩ := restrict h' fun b => decide (b ≠ e)
    have gk : ∀ b, b ≠ e → G'.get? b = h'.get? b := fun b hb => g1 b (decide_eq_true hb)
    have ge : G'.get? e = none := g2 e (by simp)
    have old : ∀ b o, hp.get? b = some o → G'.get? b = some o := fun b o q => (gk b (Nat.ne_of_lt (Nat.lt_of_lt_of_le (Heap.lt_size q) M.new))).trans (M.keep b o q)
    have ob : ObjOk X.prog X.w (upd H1 d (.xd [(("at" : Str), v)])) G' d (.xd [(("at" : Str), v)]) :=
      ⟨_, hns.at (fun o q => (gk d M.dne).trans q), fun f => relO_one rv f⟩
    have J : Inv X pins σ (upd H1 d (.xd [(("at" : Str), v)])) ⟨G', g, dr, tk', os⟩ := I1.laid (t' := tk') old M.dbig ob
    refine ⟨e, oe, fv, ⟨G', g, dr, tk', os⟩, _, .ref C, some d, rfl, J, fun b o q => ?_, ge, hoe, ⟨hc, hd⟩, hdat, h1, ?_, rfl, I1.bare, raises_own T.ox.exC T.ox.tyC, q1 d (I1.hok.fresh M.dbig)⟩
    · by_cases hb : b = e
      · have q' : G'.get? b = some o := q
        rw [hb, ge] at q'; cases q'
      · exact (gk b hb).symm.trans q
    · rw [upd_ne (Ne.symm M.dne)]
      exact I1.hok.fresh M.new
end
end L2
namespace Nd
open PySem PySem.Spec PyProof.Rows L2 He
/-- the rest of it -/
def nxBA (file : Str) (K : PySem.W.Frag) (C fI : Addr) : Bool := oexB K C && (eqO (PySem.W.findIn K (.ref C) "at") (some none) && (eqO (PySem.W.findIn K (.ref C) "__init__") (some (some (.ref fI))) && (decide (PySem.W.typeIn K (.ref fI) = some (.type "function")) &&
  (eqO (PySem.W.ks_superIn K C C "__init__") (some (some (.builtin "ValueError.__init__"))) && (decide (PySem.W.mroIn K C (.ref C) = some true) && (decide (PySem.W.subIn K (.ref C) (.type "ValueError") = some true) && (eqO (PySem.W.nsIn K cStatics "thirdparty.any") (some none) &&
  (match K.lookup fI with
    | some ⟨_, _, .func fd, _⟩ => (match fd.code, fd.closure with
      | .ref cda, [(_, cc)] => PySem.W.codeIn K (.ref cda) fd.qualname && ((match K.lookup cda with
          | some ⟨_, _, .fields vs, _⟩ => (match (vs[2]? : Option Value) with
            | some (.str f _) => file == f
            | _ => false)
          | _ => false) && (match K.lookup cc with
          | some ⟨_, _, .cell (some (.ref c)), _⟩ => decide (c = C)
          | _ => false))
      | _, _ => false)
    | _ => false))))))))
def nxValA (p1 p2 : Pos) (b : List Stmt) : NxV := some (("__init__" : Str), PySem.NxA.iA p1 p2, FuncBody.stmts b, PySem.NxA.iS, mainGlobals, [("__class__" : Str)], Value.none, Value.none, builtinsNs)
theorem nx_txtA {P : Program} {K : PySem.W.Frag} {mg : Str → Option Value} {x file : Str} {p1 p2 q1 q2 q3 q4 q5 q6 q7 q8 q9 q10 : Pos} (hb : nxBA file K (ga K x) (ma K (ga K x) "__init__") = true)
    (hv : nxObs x K = nxValA p1 p2 (PySem.NxA.iB q1 q2 q3 q4 q5 q6 q7 q8 q9 q10))
    (hfile : ((P.main.file : Str) == file) = true) (noS : mg "super" = none) (top : (P.main.scope.names.lookup ("super" : Str)).isSome = false)
    (hev : ∀ env : Env, ∃ pl : Sem Bool, eval (.Call (.Attribute (.Call (.Name "super" q1) [] [] q2) "__init__" q3) [.Name "at" q4] [] q5) env = (do
      let ov ← attributeBase (.Call (.Name "super" q1) [] [] q2) "__init__" env (eval (.Call (.Name "super" q1) [] [] q2) env)
      standAt q3.atName
      let (f, first) ← holding [ov] (getMethod ov "__init__" pl)
      callWith q5 f first (backTo q5 (starEach [.Name "at" q4] env)) [])) : PySem.NxA.Txt P K mg (ga K x) (ma K (ga K x) "__init__") := by
  obtain ⟨h1, h⟩ := ba hb
  obtain ⟨h2, h⟩ := ba h
  obtain ⟨h3, h⟩ := ba h
  obtain ⟨h4, h⟩ := ba h
  obtain ⟨h5, h⟩ := ba h
  obtain ⟨h6, h⟩ := ba h
  obtain ⟨h7, h⟩ := ba h
  obtain ⟨h8, h⟩ := ba h
  refine ⟨oexB_ok h1, eqO_ok h2, eqO_ok h3, of_decide_eq_true h4, eqO_ok h5, of_decide_eq_true h6, of_decide_eq_true h7, eqO_ok h8, noS, top, ?_⟩
  unfold nxObs nxValA at hv
  split at hv
  · rename_i oc od fd osl hk
    rw [hk] at h
    obtain ⟨n1, n2, n3, n4, n5, n6, n7, n8, n9, n10, n11, n12, n13, n14, n15⟩ := fd
    simp only [Option.some.injEq, Prod.mk.injEq] at hv
    obtain ⟨e1, e2, e3, e4, e5, e6, e7, e8, e9⟩ := hv
    subst e1 e2 e3 e4 e5 e7 e8 e9
    dsimp only at h
    cases n13 with
    | ref cda =>
      rcases n7 with _ | ⟨⟨y, cc⟩, _ | ⟨z, t⟩⟩
      · cases h
      · have ey : y = "__class__" := by
          have z : [y] = ([("__class__" : Str)] : List Str) := e6
          injection z
        subst ey
        obtain ⟨g1, h⟩ := ba h
        obtain ⟨g2, g3⟩ := ba h
        split at g2
        · rename_i c1 c2 vs c4 hk2
          split at g2
          · rename_i f tf hvs
            split at g3
            · rename_i d1 d2 c d4 hk3
              have ec := of_decide_eq_true g3
              rw [ec] at hk3
              have ef : file = f := eq_of_beq g2
              exact ⟨_, _, _, _, _, _, _, _, _, _, _, _, _, _, cda, cc, vs, f, tf, _, _, _, _, _, _, _, _, _, _, _, _, hk, g1, hk2, hvs, by rw [← ef]; exact hfile, hk3, hev⟩
            · cases g3
          · cases g2
        · cases g2
      · cases h
    | _ => cases h
  · cases hv
end Nd
set_option maxHeartbeats 4000000
/-! ### a run of the top that lays a dict's entries out at each change of it (a long table of the top takes cubic time otherwise) -/
namespace Nd
open PySem PySem.W PySem.Calls PyProof.Rows HandSHeadRun
section
variable {α : Type}
def frV (v : Value) (k : Value → α) : α := match v with
  | .str x t => k (.str x t)
  | .int i t => k (.int i t)
  | v => k v
theorem frV_eq (v : Value) (k : Value → α) : frV v k = k v := by
  cases v <;> rfl
def frE (e : DictEntry) (k : DictEntry → α) : α := match e with
  | ⟨h, y, v⟩ => frV y fun y => frV v fun v => k ⟨h, y, v⟩
theorem frE_eq (e : DictEntry) (k : DictEntry → α) : frE e k = k e := by
  obtain ⟨h, y, v⟩ := e
  show frV y (fun y => frV v fun v => k ⟨h, y, v⟩) = _
  rw [frV_eq, frV_eq]
def frL : List DictEntry → (List DictEntry → α) → α
  | [], k => k []
  | e :: r, k => frE e fun e => frL r fun r => k (e :: r)
theorem frL_eq : ∀ (l : List DictEntry) (k : List DictEntry → α), frL l k = k l
  | [], _ => rfl
  | e :: r, k => by
    show frE e (fun e => frL r fun r => k (e :: r)) = _
    rw [frE_eq, frL_eq r]
def frAt (s : SharedT) (a : Addr) (k : SharedT → α) : α := match s with
  | ⟨T, n, life, gens, drawn, toks, os⟩ => match T.get a with
    | some ⟨c, d, .dict ⟨l⟩ ep, sl⟩ => frL l fun l => frNat ep fun ep => k ⟨T.set a (fun _ => ⟨c, d, .dict ⟨l⟩ ep, sl⟩), n, life, gens, drawn, toks, os⟩
    | _ => k ⟨T, n, life, gens, drawn, toks, os⟩
theorem set_same : ∀ (T : BT) (a : Nat) (o : Obj), T.get a = some o → T.set a (fun _ => o) = T
  | .nil, _, _, h => by cases h
  | .node v l r, a, o, h => by
    unfold BT.get at h
    unfold BT.set
    cases e : Nat.beq a 0 with
    | true =>
      rw [e] at h
      cases h
      rfl
    | false =>
      rw [e] at h
      dsimp only at h ⊢
      cases e2 : Nat.beq (a % 2) 1 with
      | true =>
        rw [e2] at h
        dsimp only at h ⊢
        rw [set_same l _ o h]
      | false =>
        rw [e2] at h
        dsimp only at h ⊢
        rw [set_same r _ o h]
theorem frAt_eq (s : SharedT) (a : Addr) (k : SharedT → α) : frAt s a k = k s := by
  obtain ⟨T, n, life, gens, drawn, toks, os⟩ := s
  unfold frAt
  dsimp only
  split
  · rename_i c d l ep sl h
    rw [frL_eq, frNat_eq, set_same _ _ _ h]
  · rfl
end
def stepD (st : SharedT → Thread → Option (SharedT × Thread)) (s : SharedT) (t : Thread) : Option (SharedT × Thread) := match t with
  | ⟨.update a x f k, code, pos, stack⟩ => match st s ⟨.update a x f k, code, pos, stack⟩ with
    | some (s', t') => frAt s' a fun s' => some (s', t')
    | none => none
  | t => st s t
theorem stepD_eq (st : SharedT → Thread → Option (SharedT × Thread)) : stepD st = st := by
  funext s t
  unfold stepD
  split
  · split
    · rename_i h
      rw [frAt_eq, h]
    · rename_i h
      rw [h]
  · rfl
/-- RunEq by such a run -/
theorem runD {r : OpenRow} {q : Program} {H : Hook} {ob : SharedT → H.α} {M : Nat} {loose : List PySem.Str} {w : World}
    (h : ∀ os : OsState, (endF (stepD (stepQ (denQ tabQ) r.prog w)) M r.prog w os).map (fun s => (looksF r.prog (boot_heap w.params) s.abs, seenQ q loose (importedModules r.prog.main.body) (fun s => xlAt q [] s && recOk r.toRowW.records s) s.abs, ob s)) = some (true, openGood q loose, H.val w)) : RunEq r q H ob M loose w := by
  rw [stepD_eq] at h
  exact h
end Nd
set_option maxHeartbeats 4000000
/-! ### a run of the top in which a long table is laid out quickly: a look among a dict's entries by lists (by arrays it takes cubic time) -/
namespace Nd
open PySem PySem.W PySem.Calls PyProof.Rows HandSHeadRun
noncomputable section
def anyEnt (es : Array DictEntry) (p : DictEntry → Bool) (i j : Nat) : Bool := match Nat.beq i 0 with
  | true => match Nat.beq j es.toList.length with
    | true => es.toList.all p
    | false => Array.all es p i j
  | false => Array.all es p i j
theorem anyEnt_eq : @Array.all DictEntry = anyEnt := by
  funext es p i j
  unfold anyEnt
  cases h1 : Nat.beq i 0 with
  | false => rfl
  | true =>
    cases h2 : Nat.beq j es.toList.length with
    | false => rfl
    | true =>
      have e1 : i = 0 := Nat.eq_of_beq_eq_true h1
      have e2 : j = es.toList.length := Nat.eq_of_beq_eq_true h2
      subst e1 e2
      exact Array.all_toList.symm
def whereEnt (p : DictEntry → Bool) (es : Array DictEntry) : Option Nat := es.toList.findIdx? p
theorem whereEnt_eq : @Array.findIdx? DictEntry = whereEnt := by
  funext p es
  obtain ⟨l⟩ := es
  simp [whereEnt]
def foundD : { f : Addr → Value → Array DictEntry → Str → Sem (Option Nat) // f = PySem.W.Fast.tw16073574877836486461 } := by
  refine ⟨?f, ?h⟩
  case h =>
    delta PySem.W.Fast.tw16073574877836486461
    rw [whereEnt_eq]
/-- where keys of one hash stand (numbers as keys), by lists -/
def placesL (h : Int) : List DictEntry → Nat → List Nat
  | [], _ => []
  | e :: r, i => match decide (e.hash = h) with
    | true => i :: placesL h r (i + 1)
    | false => placesL h r (i + 1)
theorem placesL_eq (h : Int) (l : List DictEntry) : ∀ (pre : List DictEntry), placesL h l pre.length = (List.range' pre.length l.length).filter fun i => ((pre ++ l)[i]?.map (·.hash)) == some h := by
  induction l with
  | nil => intro pre; rfl
  | cons e r ih =>
    intro pre
    have h1 := ih (pre ++ [e])
    rw [List.length_append, List.append_assoc] at h1
    have hg : (pre ++ e :: r)[pre.length]? = some e := by simp
    rw [List.length_cons, List.range'_succ, List.filter_cons, hg]
    unfold placesL
    by_cases c : e.hash = h
    · rw [decide_eq_true c]
      have c2 : ((some e).map (·.hash) == some h) = true := by simp [c]
      rw [if_pos c2]
      exact congrArg (List.cons _) h1
    · rw [decide_eq_false c]
      have c2 : ¬ ((some e).map (·.hash) == some h) = true := by simp [c]
      rw [if_neg c2]
      exact h1
theorem places_eq (es : Array DictEntry) (h : Int) : PySem.W.Fast.tw2965532104302071907 es.size (fun i => Option.map (fun x => x.hash) es[i]?) h = placesL h es.toList 0 := by
  have e1 := placesL_eq h es.toList []
  have e2 : placesL h es.toList 0 = _ := e1
  rw [e2, ← PySem.W.Fast.te2965532104302071907]
  unfold PySem.placesWithHash
  rw [List.range_eq_range']
  simp
def findD : { f : Addr → Value → Int → Sem (Option Nat) // f = PySem.W.Fast.tw7228091826238408665 } := by
  refine ⟨?f, ?h⟩
  case h =>
    delta PySem.W.Fast.tw7228091826238408665
    simp (config := { zeta := false, zetaDelta := false }) only [places_eq]
    rw [anyEnt_eq, ← foundD.2]
def setHD : { f : Addr → Value → Int → Value → Sem Unit // f = PySem.W.Fast.tw4359058424727691002 } := by
  refine ⟨?f, ?h⟩
  case h =>
    delta PySem.W.Fast.tw4359058424727691002
    rw [← findD.2]
def setD : { f : Addr → Value → Value → Sem Unit // f = PySem.W.Fast.tw11925912800584824493 } := by
  refine ⟨?f, ?h⟩
  case h =>
    delta PySem.W.Fast.tw11925912800584824493
    rw [← setHD.2]
def putD : { f : Addr → Int → Value → Value → Sem Unit // f = PySem.W.Fast.tw9652029157277244616 } := by
  refine ⟨?f, ?h⟩
  case h =>
    delta PySem.W.Fast.tw9652029157277244616
    rw [← findD.2]
def subD : { f : List (Sem Value × Sem Value) → Sem Addr // f = PySem.W.Fast.tw11913375310210876947 } := by
  refine ⟨?f, ?h⟩
  case h =>
    delta PySem.W.Fast.tw11913375310210876947
    rw [← setD.2]
def mergeD : { f : Addr → Value → Bool → Sem Unit // f = PySem.W.Fast.tw8596071696976842438 } := by
  refine ⟨?f, ?h⟩
  case h =>
    delta PySem.W.Fast.tw8596071696976842438
    rw [← putD.2, ← findD.2, ← setD.2]
def dispD : { f : List (Option (Sem Value) × Sem Value) → Sem Value // f = PySem.W.Fast.tw11216187645035866516 } := by
  refine ⟨?f, ?h⟩
  case h =>
    delta PySem.W.Fast.tw11216187645035866516
    rw [← subD.2, ← mergeD.2]
theorem dispD_eq : @dictDisplay = dispD.1 := PySem.W.Fast.te11216187645035866516.trans dispD.2.symm
/-! the statement x = {..} of the top, its body -/
def keysD (ks : List (Option Expr)) (env : Env) : List (Option (Sem Value)) := ks.map fun o => match o with
  | some e => some (PySem.W.Fast.tw14044960220447912780 e env)
  | none => none
theorem keysD_eq : ∀ (ks : List (Option Expr)) (env : Env), evalEachOpt ks env = keysD ks env
  | [], _ => rfl
  | none :: r, env => by
    show none :: evalEachOpt r env = none :: keysD r env
    rw [keysD_eq r env]
  | some e :: r, env => by
    show some (eval e env) :: evalEachOpt r env = some (PySem.W.Fast.tw14044960220447912780 e env) :: keysD r env
    rw [keysD_eq r env, PySem.W.Fast.te14044960220447912780]
def asgD (ts : List Expr) (ks : List (Option Expr)) (vs : List Expr) (p pos : Pos) (env : Env) : { f : Sem Flow // f = exec (.Assign ts (.Dict ks vs p) pos) env } := by
  refine ⟨?f, ?h⟩
  case h =>
    rw [arm_exec_Assign, arm_eval_Dict, dispD_eq, keysD_eq, PySem.W.Fast.te10458482166411082596, PySem.W.Fast.te2470068587113613483, PySem.W.Fast.te4016559146275205325, PySem.W.Fast.te7783108440312521181, PySem.W.Fast.te1406442740598737775, PySem.W.Fast.te15628205474173192105, PySem.W.Fast.te15591190973536708279]
    try rw [PySem.W.Fast.te9053332837126583604]
def nextD (f : Flow) (k : Sem Flow) : Sem Flow := match f with
  | .next => k
  | f => pure f
def execD (s : Stmt) (env : Env) : Sem Flow := match s with
  | .Assign ts (.Dict ks vs p) pos => (asgD ts ks vs p pos env).1
  | s => PySem.W.Fast.tw12563942051412417395 [s] env
theorem one_eq (s : Stmt) (env : Env) : execs [s] env = exec s env := by
  rw [execs_cons, execs_nil]
  have e : (fun f : Flow => (match f with | .next => (pure .next : Sem Flow) | f => pure f)) = pure := by
    funext f
    cases f <;> rfl
  show (exec s env >>= fun f : Flow => (match f with | .next => (pure .next : Sem Flow) | f => pure f)) = _
  rw [e]
  exact bind_pure _
theorem execD_eq (s : Stmt) (env : Env) : execD s env = exec s env := by
  unfold execD
  split
  · exact (asgD _ _ _ _ _ env).2
  · rw [← PySem.W.Fast.te12563942051412417395, one_eq]
def execsD : List Stmt → Env → Sem Flow
  | [], _ => pure .next
  | s :: r, env => PySem.W.R.bindR (execD s env) fun f => nextD f (execsD r env)
theorem execsD_eq : @execs = execsD := by
  funext l env
  induction l with
  | nil => rfl
  | cons s r ih =>
    rw [execs_cons]
    unfold execsD
    rw [execD_eq, ← ih, ← PySem.W.R.bindR_eq]
    show (exec s env >>= fun f : Flow => _) = (exec s env >>= fun f => nextD f (execs r env))
    congr 1
def bodyD (l : List Stmt) (env : Env) : { f : Sem Fin // f = denote treeTable (.body l env) } := by
  refine ⟨?f, ?h⟩
  case h =>
    rw [denote, execsD_eq, PySem.W.Fast.te1066825118222455980, PySem.W.Fast.te9442747609961115081, PySem.W.R.onRaiseR_eq]
    try rw [PySem.W.Fast.te9053332837126583604]
def denD (c : Code) : Sem Fin := match c with
  | .body l env => (bodyD l env).1
  | c => denQ tabQ c
theorem denD_eq : denD = denQ tabQ := by
  funext c
  unfold denD
  split
  · rw [(bodyD _ _).2, denQ_eq, tabQ_eq]
  · rfl
/-- RunEq by such a run -/
theorem runT {r : OpenRow} {q : Program} {H : Hook} {ob : SharedT → H.α} {M : Nat} {loose : List PySem.Str} {w : World}
    (h : ∀ os : OsState, (endF (stepD (stepQ denD r.prog w)) M r.prog w os).map (fun s => (looksF r.prog (boot_heap w.params) s.abs, seenQ q loose (importedModules r.prog.main.body) (fun s => xlAt q [] s && recOk r.toRowW.records s) s.abs, ob s)) = some (true, openGood q loose, H.val w)) : RunEq r q H ob M loose w := by
  rw [stepD_eq, denD_eq] at h
  exact h
/-- the run as it is made here -/
def runX (r : OpenRow) (M : Nat) (w : World) (os : OsState) : Option SharedT := endF (stepD (stepQ denD r.prog w)) M r.prog w os
theorem map_two {α β γ : Type} {o : Option α} {f : α → β} {g : α → γ} {b : β} {c : γ} (h1 : o.map f = some b) (h2 : o.map g = some c) : o.map (fun s => (f s, g s)) = some (b, c) := by
  cases o with
  | none => cases h1
  | some s =>
    have e1 : f s = b := Option.some.inj h1
    have e2 : g s = c := Option.some.inj h2
    show some (f s, g s) = some (b, c)
    rw [e1, e2]
/-- RunEq, what is asked of the end asked by four runs: less memory -/
theorem runS {r : OpenRow} {q : Program} {H : Hook} {ob : SharedT → H.α} {M : Nat} {loose : List PySem.Str} {w : World} {β γ : Type} (p1 : H.α → β) (p2 : H.α → γ) (inj : ∀ x y, p1 x = p1 y → p2 x = p2 y → x = y)
    (h1 : ∀ os : OsState, (runX r M w os).map (fun s => (looksF r.prog (boot_heap w.params) s.abs, (seenQ q loose (importedModules r.prog.main.body) (fun s => xlAt q [] s && recOk r.toRowW.records s) s.abs).1)) = some (true, (openGood q loose).1))
    (h2 : ∀ os : OsState, (runX r M w os).map (fun s => (seenQ q loose (importedModules r.prog.main.body) (fun s => xlAt q [] s && recOk r.toRowW.records s) s.abs).2) = some (openGood q loose).2)
    (h3 : ∀ os : OsState, (runX r M w os).map (fun s => p1 (ob s)) = some (p1 (H.val w)))
    (h4 : ∀ os : OsState, (runX r M w os).map (fun s => p2 (ob s)) = some (p2 (H.val w))) : RunEq r q H ob M loose w := by
  refine runT fun os => ?_
  have e1 := h1 os
  have e2 := h2 os
  have e3 := h3 os
  have e4 := h4 os
  show (runX r M w os).map _ = _
  cases e : runX r M w os with
  | none =>
    rw [e] at e1
    cases e1
  | some s =>
    rw [e] at e1 e2 e3 e4
    have f1 := Option.some.inj e1
    have f2 := Option.some.inj e2
    have f3 := Option.some.inj e3
    have f4 := Option.some.inj e4
    have g := inj _ _ f3 f4
    have l1 := congrArg Prod.fst f1
    have l2 := congrArg Prod.snd f1
    refine congrArg some (Prod.ext l1 (Prod.ext (Prod.ext l2 f2) g))
end
end Nd
set_option maxHeartbeats 4000000
/-! ### a lambda handed to a def that hands it on to another def -/
namespace Nd
open PySem PySem.Spec PyProof.Rows L2 LamX
/-- two stretches, the second with frames of its own that stand above the first's begin -/
theorem un_join {fs fs2 : List Addr} {H H2 H3 : Hp} {h h2 h3 : Heap} (a : Un fs [] H H2 h h2) (b : Un fs2 [] H2 H3 h2 h3) (hf : ∀ c ∈ fs2, c ∈ fs ∨ h.objs.size ≤ c) : Un fs [] H H3 h h3 where
  keep := fun c o e n hc hx => b.keep c o (a.keep c o e n hc hx) (a.free c o e n hx) (fun m => (hf c m).elim hc fun le => absurd (Heap.lt_size e) (Nat.not_lt.mpr le)) hx
  slot := fun c o e n hc hx => by
    obtain ⟨sl, e2⟩ := a.slot c o e n hc hx
    obtain ⟨sl2, e3⟩ := b.any e2 (a.free c o e n hx) (by simp)
    exact ⟨sl2, e3⟩
  free := fun c o e n hx => by
    obtain ⟨o2, e2⟩ := a.there c o e hx
    exact b.free c o2 e2 (a.free c o e n hx) (by simp)
  there := fun c o e hx => by
    obtain ⟨o2, e2⟩ := a.there c o e hx
    exact b.there c o2 e2 hx
  tups := fun c xs e => b.tups c xs (a.tups c xs e)
  frzs := fun c o u e => b.frzs c o u (a.frzs c o u e)
  tbls := fun c ps e => by
    obtain ⟨m1, e1⟩ := a.tbls c ps e
    obtain ⟨m2, e2⟩ := b.tbls c _ e1
    exact ⟨m1 ++ m2, by rw [e2, Array.append_assoc]⟩
section
variable {X : Cx} {pins : List (Addr × Obj)} {σ : L2.St} {H : Hp} {s : Shared}
/-- what the lambda at f does, called in a frame that was entered at s2 with the frames st2 around it -/
def Act (X : Cx) (s : Shared) (H : Hp) (f c' : Addr) (q : Str) (k : Nat) (tl : XK → Hp → VK → Prop) : Prop :=
  ∀ (Ng : List Str) (qg : Str) (sg : Scope) (g : Addr) (cdg : Value) (A2 : Around) (st2 : List Env) (s2 : Shared) (H2 : Hp) (i : Nat) (a : Str) (pn : List (Addr × Obj)) (xe : Value → Shared → Prop) (W : WX) (E : XK) (p1 p2 : Pos),
    Un (frs X.stack) [] H H2 s.heap s2.heap → (∀ b ∈ frs st2, b ∈ frs X.stack ∨ s.heap.objs.size ≤ b) → Room (k + 1) (A2.deeper (envOfC qg sg s2.heap.objs.size g cdg)) → Ng[i]? = some a → Vis sg a → (a == ("__debug__" : Str)) = false → (a == ("__classdict__" : Str)) = false →
    Takes ((cxOf C8.CX0 X.prog X.w X.K X.mg X.base Ng qg sg g cdg A2 st2 s2 H2 C8.E0).tr pn xe) W → (∀ cls d σ' H', E cls d H' → W cls d σ' H') →
    PE ((cxOf C8.CX0 X.prog X.w X.K X.mg X.base Ng qg sg g cdg A2 st2 s2 H2 C8.E0).tr pn xe) (.Call (.Name a p1) [] [] p2) (fun σZ HZ Q => σZ[i]? = some (some (.ref f)) ∧ HZ c' = some (CodeO c' q) ∧ tl E HZ Q)
theorem act_of {f c' : Addr} {pm ctv : Value} {params : Arguments} {body : Expr} {scope : Scope} {k : Nat} {t : XK → TE}
    (I : Inv X pins σ H s) (L : LamS X.env.scope scope) (hf : s.heap.get? f = some (PySem.W.kla_obj "<lambda>" (X.env.qual ++ "<lambda>") params body scope (cloFrom X.env.cells scope.names []) pm c' ctv)) (hfn : H f = none) (hfr : f ∉ frs X.stack)
    (hbind : bindArgs (PySem.W.kla_fn "<lambda>" (X.env.qual ++ "<lambda>") params body scope (cloFrom X.env.cells scope.names []) pm (.ref c') ctv) ⟨[], []⟩ = pure [])
    (hbody : ∀ (A : Around) (outer : List Env) (s : Shared) (H : Hp) (E : XK), Room k (A.deeper (lamEnv X scope s.heap.objs.size f c')) → PE (lamCx X A outer s H E scope f c') body (t E)) :
    Act X s H f c' (X.env.qual ++ "<lambda>") k (fun E H' Q' => t E σ H' Q') := by
  intro Ng qg sg g cdg A2 st2 s2 H2 i a pn xe W E p1 p2 u hst hr hN hv hd hcd tk hW
  refine ⟨fun pinsZ sZ σZ HZ Q IZ h => ?_⟩
  obtain ⟨hs, hc, ht⟩ := h
  have look := (pe_var (pos := p1) (i := i) hN hv hd hcd).run pinsZ sZ σZ HZ (fun v H1 => v = .ref f ∧ H1 = HZ) IZ ⟨.ref f, hs, rfl, rfl⟩
  refine wpAny_Call_Name_kw (thn look fun u1 s1 ⟨v, H1, I1, r1, ev, eH⟩ => ?_)
  subst ev
  rw [eH] at I1
  obtain rfl : u1 = Value.ref f := r1
  have un : Un (frs X.stack) [] H HZ s.heap s1.heap := un_join u (show Un (frs st2) [] H2 HZ s2.heap s1.heap from I1.base) hst
  have lives := un.keep f _ hf hfn hfr (fun z => nomatch (show f ∈ ([] : List Addr) from z))
  refine PySem.W.callWith_F0 ⟨_, _, _, _, lives⟩ ?_
  obtain ⟨⟨oc, vs, tok, hoc, hdc, hvc⟩, _, _⟩ := I1.hok c' _ hc
  have hx : Passes (L2.CX X.prog X.w) ((cxOf C8.CX0 X.prog X.w X.K X.mg X.base Ng qg sg g cdg A2 st2 s2 H2 C8.E0).tr pn xe) E := passes_call tk hW
  have rc : codeAny (model X.prog X.w) (A2.deeper (envOfC qg sg s2.heap.objs.size g cdg)) (.call (.ref f) ⟨[], []⟩) (CR (L2.CX X.prog X.w) (envOfC qg sg s2.heap.objs.size g cdg :: st2) X.prog X.w HZ s1 Q E) s1 := by
    refine PySem.W.kla_callFunE hr.depth lives rfl L.co L.gen rfl ⟨c', oc, vs, tok, rfl, hoc, hdc, hvc⟩ ?_
    rw [hbind]
    refine wpAny_pure (wpAny_newFunctionEnv (fun y hy => (L.own y hy).2) (fun y hy => absurd hy (by simp)) (fun h1 hns hsb => ⟨I1.nolimit.fresh _ hsb, ?_⟩) L.kind)
    have kp : ∀ b o, s1.heap.get? b = some o → h1.get? b = some o := fun b o e => hsb.extBut b o (Nat.ne_of_lt (Heap.lt_size e)) (Heap.get?_push_of_some _ e)
    have J := lam_start2 (E := E) (f := f) (c' := c') (tk := s1.toks + ([] : List (Str × Value)).length) I L I1.env0 hr.hd un hns kp
    show codeAny _ _ (.expr body (lamEnv X scope s1.heap.objs.size f c')) _ _
    refine PySem.W.kla_codeExpr (wpAny_mono ((hbody _ _ s1 HZ E (hr.deeper _)).run [] _ _ HZ Q J ht) (fun v s' hq => ?_) fun e s' hq => hq)
    obtain ⟨w', H', J', rv, q⟩ := hq
    exact ⟨w', H', J'.os, J'.bare, J'.base, J'.hok, rv, q⟩
  refine wpAny_call (codeAny_mono rc fun r s' hq => ?_)
  match r, hq with
  | .error e, hq => exact hx pinsZ σZ HZ s1 e s' I1 hq
  | .ok (.ret u), hq => exact I1.after hq
  | .ok .next, hq => exact False.elim hq
  | .ok .brk, hq => exact False.elim hq
  | .ok .cont, hq => exact False.elim hq
/-- the def that gets the lambda and one thing more -/
def Gives2 (X : Cx) (Ng : List Str) (x : Str) (sg : Scope) (g : Addr) (cdg : Value) (bg : List Stmt) (q : Str) (k : Nat) (TT : (XK → Hp → VK → Prop) → V → Hp → VK → Prop) : Prop :=
  ∀ (f c' : Addr) (s : Shared) (H : Hp) (Q : VK) (v : V) (tl : XK → Hp → VK → Prop), Act X s H f c' q k tl → Room (k + 2) (X.A.deeper (envOfC x sg s.heap.objs.size g cdg)) → H c' = some (CodeO c' q) → TT tl v H Q →
    ∃ t, PSs (cxOf C8.CX0 X.prog X.w X.K X.mg X.base Ng x sg g cdg X.A X.stack s H C8.E0).nox bg t ∧ t { nx := fun _ H' => Q .non H', rt := Q } (L2.start Ng [.ref f, v]) H
def tLam2 (T : List (Addr × Str)) (q : Str) (TT : (XK → Hp → VK → Prop) → V → Hp → VK → Prop) (t : XK → TE) (te : TE) : TE := fun σ H Q => Tabs T H ∧ ∀ H1, ExtN H H1 → Tabs T H1 → te σ H1 fun v H2 => (∀ c', H1 c' = some (CodeO c' q) → H2 c' = some (CodeO c' q)) ∧ TT (fun E H' Q' => t E σ H' Q') v H2 Q
/-- x(lambda: body, e) -/
theorem pe_lam2 {T : List (Addr × Str)} {TT : (XK → Hp → VK → Prop) → V → Hp → VK → Prop} {x a a2 : Str} {g c P : Addr} {k : Nat} {pg : Arguments} {bg : List Stmt} {sg : Scope} {dV kV doc pm cdv ct oc : Value} {an od : Option Addr} {osl : Array (Option Value)} {Ng : List Str}
    {params : Arguments} {body e2 : Expr} {scope : Scope} {t : XK → TE} {te : TE} {p lpos pos : Pos} (hg : Gl X x) (hm : X.mg x = some (.ref g)) (hk : PySem.W.keepIn X.K (.ref g) = true)
    (lk : X.K.lookup g = some ⟨oc, od, .func (PySem.W.fnOf x x pg bg sg dV kV doc pm an cdv ct), osl⟩) (hcg : PySem.W.codeIn X.K cdv x = true) (hb : L2.Binds X.K (PySem.W.fnOf x x pg bg sg dV kV doc pm an cdv ct) [a, a2] []) (Sg : FnScope Ng [a, a2] sg)
    (hG : Gives2 X Ng x sg g cdv bg (X.env.qual ++ "<lambda>") k TT) (TB : TabB X.base X.mg c P) (hcode : X.env.code = .ref c) (hmT : (P, X.env.qual ++ "<lambda>") ∈ T) (hu : ∀ p ∈ T, p.1 = P → p.2 = X.env.qual ++ "<lambda>") (hr : Room (k + 3) X.A)
    (L : LamS X.env.scope scope) (hdef : defaultsOf params X.env = ([], [])) (hbind : ∀ (q : Str) (cl : List (Str × Addr)) (pm cv ctv : Value), bindArgs (PySem.W.kla_fn "<lambda>" q params body scope cl pm cv ctv) ⟨[], []⟩ = pure [])
    (hbody : ∀ (A : Around) (outer : List Env) (s : Shared) (H : Hp) (E : XK) (f c' : Addr), Room k (A.deeper (lamEnv X scope s.heap.objs.size f c')) → PE (lamCx X A outer s H E scope f c') body (t E)) (he : PE X e2 te)
    (hs2 : starEach [e2] X.env = [(false, eval e2 X.env)] := by rfl) (hdb : (x == ("__debug__" : Str)) = false := by decide) :
    PE X (.Call (.Name x p) [.Lambda params body scope lpos, e2] [] pos) (tLam2 T (X.env.qual ++ "<lambda>") TT t te) := by
  refine ⟨fun pins s σ H Q I h => ?_⟩
  obtain ⟨hT, h⟩ := h
  refine wpAny_Call_Name_kw (ld_glob I hg hm ?_ hdb)
  refine PySem.W.callWith_K (h₀ := X.base) I.ok.mod.kin hk ?_ (by rfl) (by rw [hs2]; rfl)
  show wpAny _ _ (spliced ((false, eval (.Lambda params body scope lpos) X.env) :: backTo pos (starEach [e2] X.env))) _ _ s
  rw [hs2]
  refine Calls.spliced_cons (lam_make2 I TB hcode hmT hu hT hdef (L.has I.ok) fun f c' pm' ctv H1 s' I1 eN T1 hf hfn hfr hco => ?_)
  have nl : f ≠ X.env.locals := fun z => by
    obtain ⟨m, ⟨o, es, ep, e, hd, _⟩, _⟩ := I1.loc
    rw [← z, hf] at e
    cases e
    cases hd
  have nf : f ∉ X.fs := fun z => hfr (by
    rcases I1.ok.stk with e | ⟨e, e2⟩
    · rw [e]
      exact z
    · rw [e]
      unfold frs
      rw [List.filterMap_cons, e2]
      exact List.mem_cons_of_mem _ z)
  have I2 : Inv X ((f, PySem.W.kla_obj "<lambda>" (X.env.qual ++ "<lambda>") params body scope (cloFrom X.env.cells scope.names []) pm' c' ctv) :: pins) σ H1 s' := I1.pins_of fun q hq => by
    rcases List.mem_cons.mp hq with z | z
    · subst z
      exact ⟨hf, hfn, nl, nf, fun v z => by cases z⟩
    · exact I1.pin q (List.mem_append_right _ z)
  refine Calls.spliced_cons (thn (he.run _ s' σ H1 _ I2 (h H1 eN T1)) fun u2 s2 ⟨v2, H2, J2, r2, hc2, hq2⟩ => ?_)
  have pf := J2.pin _ (List.mem_append_right _ (List.mem_cons_self (l := pins)))
  have J1 : Inv X pins σ H2 s2 := J2.pins_of fun q hq => J2.pin q (List.mem_append_right _ (List.mem_cons_of_mem _ hq))
  refine Calls.spliced_nil ⟨J1.kIn, ?_⟩
  have act := act_of (t := t) J1 L pf.1 pf.2.1 hfr (hbind _ _ _ _ _) (fun A outer s H E hr2 => hbody A outer s H E f c' hr2)
  have rc : codeAny (model X.prog X.w) X.A (.call (.ref g) ⟨[.ref f, u2], []⟩) (CR C8.CX0 X.stack X.prog X.w H2 s2 Q C8.E0) s2 := by
    refine run_ofS (N := Ng) (ps := [a, a2]) (us := [.ref f, u2]) (vs := [.ref f, v2]) lk hcg Sg hr J1.env0 (hb s2 [.ref f, u2] J1.kIn rfl) (.cons rfl (.cons r2 .nil)) rfl fun hr' => ?_
    obtain ⟨t', ht', hq'⟩ := hG f c' s2 H2 Q v2 _ act hr' (hc2 c' hco) hq2
    exact ⟨t', ht'.nox, hq'⟩
  refine wpAny_call (codeAny_mono rc fun r s3 hq => ?_)
  match r, hq with
  | .error e, hq => exact (show False from hq).elim
  | .ok (.ret u), hq => exact J1.after hq
  | .ok .next, hq => exact False.elim hq
  | .ok .brk, hq => exact False.elim hq
  | .ok .cont, hq => exact False.elim hq
/-- x(e), e being such a lambda, x a def that calls it -/
theorem pe_hand {TT : (XK → Hp → VK → Prop) → Hp → VK → Prop} {x a q : Str} {g : Addr} {k : Nat} {pg : Arguments} {bg : List Stmt} {sg : Scope} {dV kV doc pm cdv ct oc : Value} {an od : Option Addr} {osl : Array (Option Value)} {Ng : List Str}
    {e : Expr} {ta : TA} {p pos : Pos} (hg : Gl X x) (hm : X.mg x = some (.ref g)) (hk : PySem.W.keepIn X.K (.ref g) = true)
    (lk : X.K.lookup g = some ⟨oc, od, .func (PySem.W.fnOf x x pg bg sg dV kV doc pm an cdv ct), osl⟩) (hcg : PySem.W.codeIn X.K cdv x = true) (hb : L2.Binds X.K (PySem.W.fnOf x x pg bg sg dV kV doc pm an cdv ct) [a] []) (Sg : FnScope Ng [a] sg)
    (hG : GivesTo X Ng x sg g cdv bg a q TT) (hr : Room (k + 1) X.A) (ha : PA X [e] ta)
    (hdb : (x == ("__debug__" : Str)) = false := by decide) (he : starEach [e] X.env = [(false, eval e X.env)] := by rfl) :
    PE X (.Call (.Name x p) [e] [] pos) (fun σ H Q => ta σ H fun vs H1 => ∃ (f c' : Addr) (tl : XK → Hp → VK → Prop), vs = [.ref f] ∧ H1 c' = some (CodeO c' q) ∧
      (∀ (s1 : Shared), Un X.fs X.ex X.H_0 H1 X.s_0.heap s1.heap → Room k (X.A.deeper (envOfC x sg s1.heap.objs.size g cdv)) → ∀ (W : WX) (pn : List (Addr × Obj)) (xe : Value → Shared → Prop) (E : XK) (p1 p2 : Pos), Takes ((cxOf C8.CX0 X.prog X.w X.K X.mg X.base Ng x sg g cdv X.A X.stack s1 H1 C8.E0).tr pn xe) W → (∀ cls d σ' H', E cls d H' → W cls d σ' H') →
        PE ((cxOf C8.CX0 X.prog X.w X.K X.mg X.base Ng x sg g cdv X.A X.stack s1 H1 C8.E0).tr pn xe) (.Call (.Name a p1) [] [] p2) (fun σZ HZ Q => σZ[0]? = some (some (.ref f)) ∧ HZ c' = some (CodeO c' q) ∧ tl E HZ Q)) ∧ TT tl H1 Q) := by
  refine ⟨fun pins s σ H Q I h => ?_⟩
  refine wpAny_Call_Name_kw (ld_glob I hg hm ?_ hdb)
  refine PySem.W.callWith_K (h₀ := X.base) I.ok.mod.kin hk (thn (ha.run pos pins s σ H _ I h) fun us s1 ⟨vs, H1, I1, r, f, c', tl, ev, hco, act, hq1⟩ => ⟨I1.kIn, ?_⟩) he (by rfl)
  subst ev
  obtain ⟨u, rfl, ru⟩ : ∃ u, us = [u] ∧ L2.RelV (.ref f) u := by
    cases r with
    | cons r1 rr => cases rr; exact ⟨_, rfl, r1⟩
  obtain rfl : u = Value.ref f := ru
  have rc : codeAny (model X.prog X.w) X.A (.call (.ref g) ⟨[.ref f], []⟩) (CR C8.CX0 X.stack X.prog X.w H1 s1 Q C8.E0) s1 := by
    refine run_ofS (N := Ng) (ps := [a]) (us := [.ref f]) (vs := [.ref f]) lk hcg Sg hr I1.env0 (hb s1 [.ref f] I1.kIn rfl) (.cons rfl .nil) rfl fun hr' => ?_
    obtain ⟨t', ht', hq'⟩ := hG f c' s1 H1 Q tl (fun W pn xe E p1 p2 tk hW => act s1 I1.base hr' W pn xe E p1 p2 tk hW) hco hq1
    exact ⟨t', ht'.nox, hq'⟩
  refine wpAny_call (codeAny_mono rc fun r s3 hq => ?_)
  match r, hq with
  | .error e, hq => exact (show False from hq).elim
  | .ok (.ret u), hq => exact I1.after hq
  | .ok .next, hq => exact False.elim hq
  | .ok .brk, hq => exact False.elim hq
  | .ok .cont, hq => exact False.elim hq
end
end Nd
set_option maxHeartbeats 4000000
/-! ### a dict of the module with keys and values that are numbers or texts -/
namespace Nd
open PySem PySem.Spec PyProof.Rows L2
abbrev Vo : Type := Int ⊕ Str
def voV : Vo → V
  | .inl i => .int i
  | .inr z => .str z
def keyM : Value → Option Key
  | .int i _ => some (.inl i)
  | .str x _ => some (.inr x)
  | _ => none
def valM : Value → Option Vo
  | .int i _ => some (.inl i)
  | .str x _ => some (.inr x)
  | _ => none
def entM (e : DictEntry) : Option (Key × Int × Vo) := match keyM e.key, valM e.val with
  | some k, some v => some (k, e.hash, v)
  | _, _ => none
def dicM (K : PySem.W.Frag) (a : Addr) : Option (List (Option (Key × Int × Vo))) := match K.lookup a with
  | some ⟨.type c, none, .dict es _, sl⟩ => (match decide (c = "dict") && (sl.isEmpty && !(a == sysModules)) with
    | true => some (es.toList.map entM)
    | false => none)
  | _ => none
def hashM (P : Params) : Key → Int
  | .inl i => hashInt i
  | .inr x => PyData.keyHash P x
def exM (P : Params) (l : List (Key × Vo)) : List (Option (Key × Int × Vo)) := l.map fun p => some (p.1, hashM P p.1, p.2)
structure MDict (K : PySem.W.Frag) (w : World) (d : Addr) (kvs : List (Key × V)) : Prop where
  low : (d == sysModules) = false
  z : kvs.length ≤ sizeLine
  at_ : ∃ es n, K.lookup d = some ⟨.type "dict", none, .dict es n, #[]⟩
  ok : ∀ (P : Program) (h : Heap), K.In h → ∃ vs, KV kvs vs ∧ h.DictOf (mixKind P w) d vs
theorem keyM_ok {v : Value} {k : Key} (h : keyM v = some k) : keyIs k v = true := by
  cases v <;> first
    | (cases h; done)
    | skip
  · rename_i i t
    obtain rfl : Sum.inl i = k := Option.some.inj h
    exact keyIs_int i t
  · rename_i x t
    obtain rfl : Sum.inr x = k := Option.some.inj h
    exact keyIs_str x t
theorem valM_ok {v : Value} {o : Vo} (h : valM v = some o) : RelV (voV o) v := by
  cases v <;> first
    | (cases h; done)
    | skip
  · rename_i i t
    obtain rfl : Sum.inl i = o := Option.some.inj h
    exact ⟨t, rfl⟩
  · rename_i x t
    obtain rfl : Sum.inr x = o := Option.some.inj h
    exact ⟨t, rfl⟩
theorem entM_ok {e : DictEntry} {k : Key} {n : Int} {o : Vo} (h : entM e = some (k, n, o)) : keyIs k e.key = true ∧ RelV (voV o) e.val ∧ e.hash = n := by
  unfold entM at h
  split at h
  · rename_i a b h1 h2
    have q := Option.some.inj h
    injection q with q1 q2
    injection q2 with q3 q4
    subst q1 q4
    exact ⟨keyM_ok h1, valM_ok h2, q3⟩
  · cases h
theorem ents_ok {P : Program} {w : World} : ∀ {es : List DictEntry} {l : List (Key × Vo)}, es.map entM = exM w.params l → (∀ e ∈ es, ∃ k, (mixKind P w).is k e.key = true ∧ e.hash = (mixKind P w).hash k) ∧
    KV (l.map fun p => (p.1, voV p.2)) ((l.map (·.1)).zip (es.map (·.val))) ∧ Pairs (mixKind P w) es ((l.map (·.1)).zip (es.map (·.val))) ∧ ((l.map (·.1)).zip (es.map (·.val))).map (·.1) = l.map (·.1)
  | [], [], _ => ⟨(fun e he => by cases he), .nil, .nil, rfl⟩
  | [], _ :: _, h => by cases h
  | _ :: _, [], h => by cases h
  | e :: es, p :: l, h => by
    have h : entM e :: es.map entM = some (p.1, hashM w.params p.1, p.2) :: exM w.params l := h
    injection h with h1 h2
    obtain ⟨i1, i2, i3, i4⟩ := ents_ok (P := P) h2
    obtain ⟨e1, e2, e3⟩ := entM_ok h1
    have eh : e.hash = (mixKind P w).hash p.1 := by
      rw [e3]
      cases p.1 <;> rfl
    refine ⟨fun x hx => ?_, .cons ⟨rfl, e2⟩ i2, .cons e1 rfl i3, congrArg (List.cons p.1) i4⟩
    rcases List.mem_cons.mp hx with z | z
    · subst z
      exact ⟨p.1, e1, eh⟩
    · exact i1 x z
theorem dicM_ok {K : PySem.W.Frag} {w : World} {d : Addr} {l : List (Key × Vo)} (h : dicM K d = some (exM w.params l)) (nd : (l.map (·.1)).Nodup) (z : l.length ≤ 1000) : MDict K w d (l.map fun p => (p.1, voV p.2)) := by
  unfold dicM at h
  split at h
  · rename_i c es n sl hl
    split at h
    · rename_i hb
      have hc := of_decide_eq_true (He.ba hb).1
      subst hc
      have hs : sl = #[] := by
        have := (He.ba (He.ba hb).2).1
        simpa using this
      subst hs
      have lo : (d == sysModules) = false := by
        have := (He.ba (He.ba hb).2).2
        simpa using this
      have q := Option.some.inj h
      refine ⟨lo, by rw [List.length_map]; exact Nat.le_trans z (by decide), ⟨es, n, hl⟩, fun P hp X => ?_⟩
      obtain ⟨i1, i2, i3, i4⟩ := ents_ok (P := P) q
      exact ⟨_, i2, _, es, n, X _ _ hl, ⟨rfl, rfl, rfl⟩, rfl, fun e he => i1 e (Array.mem_toList_iff.mpr he), i3, by rw [i4]; exact nd⟩
    · cases h
  · cases h
section
variable {X : Cx} {d : Addr} {kvs : List (Key × V)}
theorem op_in_m (D : MDict X.K X.w d kvs) : OpR X (compareOp .In) (fun x y H Q => ∃ k, x = kV k ∧ y = .ref d ∧ Q (.bl (valV kvs k).isSome) H) := by
  intro pins s σ H x y v u Q I rx ry h
  obtain ⟨k, rfl, rfl, q⟩ := h
  cases ry
  obtain ⟨vs, rel, dd⟩ := D.ok X.prog s.heap I.kIn
  refine wpAny_in_of (kV_is rx) D.low dd.mapOf ?_
  rw [← (rel.val k).isSome_eq]
  exact ⟨.bl (valV kvs k).isSome, H, I.tok _, rfl, q⟩
theorem op_notIn_m (D : MDict X.K X.w d kvs) : OpR X (compareOp .NotIn) (fun x y H Q => ∃ k, x = kV k ∧ y = .ref d ∧ Q (.bl (!(valV kvs k).isSome)) H) := by
  intro pins s σ H x y v u Q I rx ry h
  obtain ⟨k, rfl, rfl, q⟩ := h
  cases ry
  obtain ⟨vs, rel, dd⟩ := D.ok X.prog s.heap I.kIn
  refine wpAny_notIn_of (kV_is rx) D.low dd.mapOf ?_
  rw [← (rel.val k).isSome_eq]
  exact ⟨.bl (!(valV kvs k).isSome), H, I.tok _, rfl, q⟩
theorem ix_m (D : MDict X.K X.w d kvs) : IxR X (fun x y H Q => ∃ k v, x = .ref d ∧ y = kV k ∧ valV kvs k = some v ∧ Q v H) := by
  intro value slice pins s σ H x y v u Q I rx ry h hs
  obtain ⟨k, r, rfl, rfl, e, q⟩ := h
  obtain rfl : v = Value.ref d := rx
  obtain ⟨vs, rel, dd⟩ := D.ok X.prog s.heap I.kIn
  obtain ⟨w', hw, rw'⟩ := RelO.some_of (v := r) (o := valueAt vs k) (by rw [← e]; exact rel.val k)
  exact tail_any dd.typeIs slot_dict_getitem.lookup (wpAny_getItem_of (kV_is ry) dd.mapOf hw ⟨r, H, I.tok _, rw', q⟩) hs
def tMGet2 (d : Addr) (kvs : List (Key × V)) (td ty tx : TE) : TE := fun σ H Q => td σ H fun x H1 => x = .ref d ∧ ty σ H1 fun y H2 => tx σ H2 fun z H3 => ∃ k, y = kV k ∧ Q ((valV kvs k).getD z) H3
theorem pe_mget2 {o e f : Expr} {apos cpos : Pos} {td ty tx : TE} (D : MDict X.K X.w d kvs) (ho : PE X o td) (he : PE X e ty) (hf : PE X f tx) (m : M2 X o "get" apos e f cpos) : PE X (.Call (.Attribute o "get" apos) [e, f] [] cpos) (tMGet2 d kvs td ty tx) := by
  refine ⟨fun pins s σ H Q I h => ?_⟩
  refine wpAny_Call_method m.base m.few m.line PySem.F.plainAttrs_dict PySem.F.slot_dict_get PySem.F.type_dict_get (thn (ho.run pins s σ H _ I h) fun u s1 ⟨x, H1, I1, rx, ex, q1⟩ => ?_)
  subst ex
  obtain rfl : u = Value.ref d := rx
  obtain ⟨es, n, ha⟩ := D.at_
  obtain ⟨vs, rel, dd⟩ := D.ok X.prog s1.heap I1.kIn
  refine ⟨dd.typeIs, fun b q => ?_, ?_⟩
  · cases q
    exact ⟨_, I1.kIn _ _ ha, rfl⟩
  rw [m.trees]
  refine Calls.callWith_builtin rfl (Calls.evalArgs_plain (Calls.spliced_cons (thn (he.run pins s1 σ H1 _ I1 q1) fun iv s2 ⟨y, H2, I2, ry, q2⟩ =>
    Calls.spliced_cons (thn (hf.run pins s2 σ H2 _ I2 q2) fun fv s3 ⟨z, H3, I3, rz, k, ek, q3⟩ => Calls.spliced_nil ?_))))
  subst ek
  obtain ⟨vs, rel, dd⟩ := D.ok X.prog s3.heap I3.kIn
  exact call_meetsIn PySem.F.slot_dict_get dd.typeIs PySem.F.entry_dict_get (PySem.F.args_dict_get_3 _ _ _) (meets_dict_get_default (mixKind X.prog X.w) d (kV_is ry) D.low fv) ⟨_, dd.mapOf, _, H3, I3.tok _, (rel.val k).getD rz, q3⟩
theorem call_dictM (D : MDict X.K X.w d kvs) : CallR X (.type "dict") (fun xs H Q => xs = [.ref d] ∧ ∀ p, H p = none → Q (.ref p) (upd H p (.dK kvs))) := by
  intro pins s σ H xs us Q I r q
  obtain ⟨ex, q⟩ := q
  subst ex
  obtain ⟨u, eu, rx⟩ := vals1 r
  subst eu
  cases rx
  obtain ⟨vs, rel, dd⟩ := D.ok X.prog s.heap I.kIn
  refine kt_call_dict D.low dd (by rw [← rel.length]; exact D.z) fun h' d' hs => ?_
  have hm : (s.heap.objs.size == sysModules) = false := beq_eq_false_iff_ne.mpr (Nat.ne_of_gt I.big)
  have il := I.laid (t' := s.toks) (a := s.heap.objs.size) (o := .dK kvs) (h' := h') (fun b u e => (hs.2 b (Nat.ne_of_lt (Heap.lt_size e))).trans (Heap.get?_push_of_some _ e)) (Nat.le_refl _) ⟨D.z, hm, vs, rel, d'⟩
  exact ⟨.ref s.heap.objs.size, _, il, rfl, q _ (I.hok.fresh (Nat.le_refl _))⟩
end
end Nd
set_option maxHeartbeats 4000000
/-! ### sum of lists, any of a tuple of numbers, a text once or never -/
namespace Nd
open PySem PySem.Spec PyProof.Rows L2
abbrev lstO (xs : List Value) (m : Nat) : Obj := { cls := .type "list", dict := none, data := .seq xs.toArray m, slots := #[] }
section
variable {prog : Program} {w : World} {A : Around} {R : Result → Shared → Prop} {I : Addr} {fp wr : List Addr} {n : Nat} {P : Nat → Value → Prop} {St : Nat → Heap → Prop}
theorem sum_loopL (W : Walks prog w A.in1 I fp wr n P St) {S : Addr} (hSf : S ∉ fp) (hw0 : ∀ b ∈ wr, b < S) :
    ∀ (rest : List (Addr × List Value)) (i : Nat) (s : Shared) (T : Addr) (acc : List Value) (c m : Nat), n = i + rest.length → St i s.heap → s.heap.get? S = some (lstO [.ref T] c) → s.heap.get? T = some (lstO acc m) → T ∉ wr → T ≠ S →
    (∀ (k : Nat) (p : Addr × List Value), rest[k]? = some p → (∀ v, P (i + k) v → v = .ref p.1) ∧ (∃ m', s.heap.get? p.1 = some (lstO p.2 m')) ∧ p.1 ∉ wr ∧ p.1 ≠ S) → acc.length + ((rest.map (·.2)).flatten).length ≤ sizeLine →
    (∀ h' tk q m', ((rest = [] ∧ q = T) ∨ S < q) → h'.get? q = some (lstO (acc ++ (rest.map (·.2)).flatten) m') → (∀ b o, b ∉ wr → b ≠ S → s.heap.get? b = some o → h'.get? b = some o) → R (.ok (.ret (.ref q))) { s with heap := h', toks := tk }) →
    codeAny (model prog w) A (.builtin "sum.loop" ⟨[.ref I, .ref S, rawInt 2, rawInt 0], []⟩) R s := by
  have hSw : S ∉ wr := fun h => hSf (W.sub _ h)
  intro rest
  induction rest with
  | nil =>
    intro i s T acc c m hn hst hS hT _ _ _ _ hR
    obtain rfl : n = i := hn
    refine codeAny_builtin F.entry_sum_loop (by
      rw [Around.under_plainId F.plain_sum_loop _]
      show wpAny _ A.in1 (seqItems? (.ref S) >>= _) _ _ s
      refine wpAny_bind (wpAny_seqItems hS rfl ?_)
      show wpAny _ A.in1 (tryCatch (pyNext (.ref I)) _ >>= _) _ _ s
      refine wpAny_bind (wpAny_tryCatch (W.done s _ _ hst fun h' tk hk' => wpAny_pure (hR h' tk T m (.inl ⟨rfl, rfl⟩) ?_ fun b o hbw _ e => hk' b o hbw e)))
      rw [List.map_nil, List.flatten_nil, List.append_nil]
      exact hk' T _ (by assumption) hT)
  | cons p rest ih =>
    intro i s T acc c m hn hst hS hT hTw hTS hall hz hR
    have hlt : i < n := by rw [hn, List.length_cons]; omega
    obtain ⟨hv, ⟨mp, hp⟩, hpw, hpS⟩ := hall 0 p rfl
    have hz' : acc.length + p.2.length + ((rest.map (·.2)).flatten).length ≤ sizeLine := by
      have : (((p :: rest).map (·.2)).flatten).length = p.2.length + ((rest.map (·.2)).flatten).length := by simp
      omega
    refine codeAny_builtin F.entry_sum_loop (by
      rw [Around.under_plainId F.plain_sum_loop _]
      show wpAny _ A.in1 (seqItems? (.ref S) >>= _) _ _ s
      refine wpAny_bind (wpAny_seqItems hS rfl ?_)
      show wpAny _ A.in1 (tryCatch (pyNext (.ref I)) _ >>= _) _ _ s
      refine wpAny_bind (wpAny_tryCatch (W.item i s _ _ hlt hst fun v h1 tk hP st1 k1 => ?_))
      obtain rfl := hv v hP
      have S1 := k1 S _ hSw hS
      have T1 := k1 T _ hTw hT
      have p1 := k1 p.1 _ hpw hp
      show wpAny _ A.in1 ((holding [Value.ref p.1] (binaryOp .Add (.ref T) (.ref p.1))).attempt >>= _) _ _ _
      refine wpAny_bind (wpAny_attempt (wpAny_holding (PySem.P.add_list T1 p1 ?_ (by simp; omega))))
      show wpAny _ A.in1 (updateSeq S (fun _ => #[.ref h1.objs.size]) >>= _) _ _ _
      have S2 : (h1.push { cls := .type "list", data := .seq (acc.toArray ++ p.2.toArray) }).get? S = some (lstO [.ref T] c) := Heap.get?_push_of_some _ S1
      refine wpAny_bind (wpAny_updateSeq S2 rfl ?_)
      have S3 := Heap.get?_update_self (Obj.mapSeq fun _ => #[Value.ref h1.objs.size]) S2 rfl
      refine wpAny_bind (wpAny_letGo ?_)
      refine wpAny_bind (wpAny_updateSeq S3 rfl (wpAny_pure ⟨plainId_quiet F.plain_sum_loop _, ?_⟩))
      have S4 := Heap.get?_update_self (Obj.mapSeq fun _ => #[Value.ref h1.objs.size]) S3 rfl
      have lS : S < h1.objs.size := Heap.lt_size S1
      have kk : ∀ b o, b ≠ S → h1.get? b = some o → (((h1.push { cls := .type "list", data := .seq (acc.toArray ++ p.2.toArray) }).update S (Obj.mapSeq fun _ => #[Value.ref h1.objs.size])).update S (Obj.mapSeq fun _ => #[Value.ref h1.objs.size])).get? b = some o :=
        fun b o nb e => (Heap.get?_update_other _ _ nb.symm).trans ((Heap.get?_update_other _ _ nb.symm).trans (Heap.get?_push_of_some _ e))
      have T4 : (((h1.push { cls := .type "list", data := .seq (acc.toArray ++ p.2.toArray) }).update S (Obj.mapSeq fun _ => #[Value.ref h1.objs.size])).update S (Obj.mapSeq fun _ => #[Value.ref h1.objs.size])).get? h1.objs.size = some (lstO (acc ++ p.2) 0) :=
        (Heap.get?_update_other _ _ (Nat.ne_of_lt lS)).trans ((Heap.get?_update_other _ _ (Nat.ne_of_lt lS)).trans ((Heap.get?_push_size _ rfl).trans (by simp [lstO])))
      generalize (((h1.push { cls := .type "list", data := .seq (acc.toArray ++ p.2.toArray) }).update S (Obj.mapSeq fun _ => #[Value.ref h1.objs.size])).update S (Obj.mapSeq fun _ => #[Value.ref h1.objs.size])) = h4 at S4 kk T4 ⊢
      refine ih (i + 1) _ h1.objs.size (acc ++ p.2) _ 0 (by rw [hn, List.length_cons]; omega) (W.frame _ _ _ st1 fun b hb o e => kk b o (fun z => hSf (z ▸ hb)) e) S4 T4 (fun z => Nat.lt_asymm lS (hw0 _ z)) (Nat.ne_of_gt lS) (fun k q hq => ?_) (by rw [List.length_append]; exact hz') fun h' tk' q m' hqT hg hk => ?_
      · obtain ⟨a1, ⟨m1, a2⟩, a3, a4⟩ := hall (k + 1) q hq
        refine ⟨fun v hv2 => a1 v (by have e : i + (k + 1) = i + 1 + k := by omega
                                      rw [e]; exact hv2), ⟨m1, kk _ _ a4 (k1 _ _ a3 a2)⟩, a3, a4⟩
      · refine hR h' tk' q m' (.inr ?_) ?_ fun b o hbw hbS e => hk b o hbw hbS (kk b o hbS (k1 b o hbw e))
        · rcases hqT with ⟨_, z⟩ | z
          · rw [z]; exact lS
          · exact z
        · rw [hg]
          simp [lstO])
end
theorem args_sumL (a b : Value) : argsOk "sum" ⟨[a, b], []⟩ := by unfold argsOk; kernel_rfl
theorem not_list_str : isSubtype (.type "list") (.type "str") = pure false := by rw [isSubtype_type]; kernel_rfl
theorem not_list_bytes : isSubtype (.type "list") (.type "bytes") = pure false := by rw [isSubtype_type]; kernel_rfl
theorem not_list_ba : isSubtype (.type "list") (.type "bytearray") = pure false := by rw [isSubtype_type]; kernel_rfl
def rSumL (K : PySem.W.Frag) : List V → Hp → VK → Prop := fun vs H Q => ∃ (a b : Addr) (ys : List (Addr × List V)), vs = [V.ref a, V.ref b] ∧ SqL K H a (ys.map fun p => .ref p.1) ∧ H b = some (.lst []) ∧ (∀ p ∈ ys, H p.1 = some (.lst p.2)) ∧ ys ≠ [] ∧
  ((ys.map (·.2)).flatten).length ≤ sizeLine ∧ ∀ q, H q = none → Q (.ref q) (upd H q (.lst (ys.map (·.2)).flatten))
theorem laid_lists {X : Cx} {pins : List (Addr × Obj)} {σ : L2.St} {H : Hp} {s : Shared} (I : Inv X pins σ H s) : ∀ {ys : List (Addr × List V)}, (∀ p ∈ ys, H p.1 = some (.lst p.2)) → ∃ zs : List (Addr × List Value), zs.map (·.1) = ys.map (·.1) ∧
    Vals ((ys.map (·.2)).flatten) ((zs.map (·.2)).flatten) ∧ ∀ (k : Nat) (p : Addr × List Value), zs[k]? = some p → ∃ m, s.heap.get? p.1 = some (lstO p.2 m)
  | [], _ => ⟨[], rfl, .nil, fun k p h => by simp at h⟩
  | y :: ys, h => by
    obtain ⟨zs, e1, e2, e3⟩ := laid_lists I (ys := ys) fun p hp => h p (List.mem_cons_of_mem _ hp)
    obtain ⟨z, its, m, r, hl, e⟩ := I.lstM (h y (List.mem_cons_self ..))
    refine ⟨(y.1, its) :: zs, congrArg (List.cons y.1) e1, ?_, fun k p hk => ?_⟩
    · rw [List.map_cons, List.map_cons, List.flatten_cons, List.flatten_cons]
      exact r.append e2
    · cases k with
      | zero =>
        obtain rfl : (y.1, its) = p := by simpa using hk
        exact ⟨m, e⟩
      | succ k => exact e3 k p (by simpa using hk)
theorem cr_sumL {X : Cx} (hc : X.calm = true) : CallR X (.builtin "sum") (rSumL X.K) := by
  intro pins s σ H vs us Q I r h
  obtain ⟨a, b, ys, rfl, hs, hb, hy, hne, hz, q⟩ := h
  obtain ⟨its, rv, hl, _⟩ := I.list hs
  obtain ⟨zs, z1, z2, z3⟩ := laid_lists I hy
  obtain ⟨_, bits, mb, rb, _, eb⟩ := I.lstM hb
  cases rb
  obtain ⟨u1, us1, rfl, r1, r2⟩ : ∃ u1 us1, us = u1 :: us1 ∧ RelV (.ref a) u1 ∧ Vals [V.ref b] us1 := by
    cases r with
    | cons x y => exact ⟨_, _, rfl, x, y⟩
  obtain ⟨u2, rfl, r3⟩ := vals1 r2
  cases r1
  cases r3
  have hits : its = zs.map fun p => Value.ref p.1 := by
    have h1 : ∀ (l : List Addr) (us : List Value), Vals (l.map V.ref) us → us = l.map Value.ref := by
      intro l
      induction l with
      | nil => intro us h; cases h; rfl
      | cons x l ih =>
        intro us h
        cases h with
        | cons p t =>
          rw [ih _ t]
          exact congrArg (· :: _) p
    have h2 : (ys.map fun p => V.ref p.1) = (zs.map (·.1)).map V.ref := by rw [z1, List.map_map]; rfl
    rw [h2] at rv
    rw [h1 _ _ rv, List.map_map]
    rfl
  refine call_function_tree F.kind_sum F.plain_sum F.entry_sum (args_sumL _ _) ?_
  unfold Builtin.«sum»
  simp only [List.length_cons, List.length_nil]
  rw [if_neg (by decide)]
  refine wpAny_bind (wpAny_of_eq (show Builtin.Builtins.bindParams "sum" ["start"] 0 ⟨[.ref b], []⟩ = pure [some (.ref b)] from rfl) ?_)
  refine wpAny_bind (iter_any hl.isList fun s₂ e2 st hne2 => ?_)
  subst e2
  have tb : Shared.TypeIs { s with heap := s.heap.push { cls := .type "list_iterator", data := .fields #[.ref a, .int 0 0] } } (.ref b) "list" := ⟨_, Heap.get?_push_of_some _ eb, rfl⟩
  refine wpAny_bind (wpAny_pure ?_)
  simp only [List.forIn_cons, List.forIn_nil]
  refine wpAny_bind (wpAny_bind (wpAny_bind (wpAny_isInstance (T := "list") (b := false) tb not_list_str ?_)))
  simp only [Bool.false_eq_true, if_false]
  refine wpAny_pure (wpAny_bind (wpAny_bind (wpAny_isInstance (T := "list") (b := false) tb not_list_bytes ?_)))
  simp only [Bool.false_eq_true, if_false]
  refine wpAny_pure (wpAny_bind (wpAny_bind (wpAny_isInstance (T := "list") (b := false) tb not_list_ba ?_)))
  simp only [Bool.false_eq_true, if_false]
  refine wpAny_pure (wpAny_pure ?_)
  refine wpAny_bind (wpAny_newObj_type ?_)
  have W := Walks.list (prog := X.prog) (w := X.w) (A := X.A.in1) (I.ok.hd hc) s.heap.objs.size a hne2 its.toArray
  have psz : (s.heap.push { cls := .type "list_iterator", data := .fields #[.ref a, .int 0 0] }).objs.size = s.heap.objs.size + 1 := Heap.size_push _ _
  have ne0 : ∀ b o, s.heap.get? b = some o → b ≠ s.heap.objs.size := fun b o e => Nat.ne_of_lt (Heap.lt_size e)
  have ne1 : ∀ b o, s.heap.get? b = some o → b ≠ (s.heap.push { cls := .type "list_iterator", data := .fields #[.ref a, .int 0 0] }).objs.size := fun b o e => by
    rw [psz]
    exact Nat.ne_of_lt (Nat.lt_succ_of_lt (Heap.lt_size e))
  have keep2 : ∀ x o, s.heap.get? x = some o → ((s.heap.push { cls := .type "list_iterator", data := .fields #[.ref a, .int 0 0] }).push { cls := .type "list", data := .seq #[.ref b] }).get? x = some o := fun x o e => Heap.get?_push_of_some _ (Heap.get?_push_of_some _ e)
  refine wpAny_pure ⟨plainId_quiet F.plain_sum_loop _, ?_⟩
  have ll := hl.isList
  refine sum_loopL (S := (s.heap.push { cls := .type "list_iterator", data := .fields #[.ref a, .int 0 0] }).objs.size) W ?_ ?_ zs 0 { s with heap := (s.heap.push { cls := .type "list_iterator", data := .fields #[.ref a, .int 0 0] }).push { cls := .type "list", data := .seq #[.ref b] } } b [] 0 mb ?_ (W.frame _ _ _ st fun x _ o e => Heap.get?_push_of_some _ e) (Heap.get?_push_size _ rfl) (keep2 _ _ eb) ?_ ?_ (fun k p hk => ?_) ?_ fun h' tk q' m' hq hg hk => ?_
  · intro hm
    simp only [List.mem_cons, List.mem_nil_iff, or_false] at hm
    rcases hm with z | z
    · rw [psz] at z
      exact Nat.succ_ne_self _ z
    · obtain ⟨o, eo, _⟩ := hl.isList
      exact ne1 _ _ eo z.symm
  · intro x hx
    rw [psz, List.mem_singleton.mp hx]
    exact Nat.lt_succ_self _
  · rw [hits]
    simp
  · exact fun hm => ne0 _ _ eb (List.mem_singleton.mp hm)
  · exact ne1 _ _ eb
  · obtain ⟨m, em⟩ := z3 k p hk
    refine ⟨fun v hv => ?_, ⟨m, keep2 _ _ em⟩, fun hm => ne0 _ _ em (List.mem_singleton.mp hm), ne1 _ _ em⟩
    rw [hits, Nat.zero_add] at hv
    have hv : (zs.map fun p => Value.ref p.1)[k]? = some v := by simpa using hv
    rw [List.getElem?_map, hk] at hv
    exact (Option.some.inj hv).symm
  · rw [List.length_nil, Nat.zero_add, ← z2.length]
    exact hz
  · have kall : ∀ x o, s.heap.get? x = some o → h'.get? x = some o := fun x o e => hk x o (fun hm => ne0 _ _ e (List.mem_singleton.mp hm)) (ne1 _ _ e) (keep2 _ _ e)
    have hq : s.heap.objs.size ≤ q' := by
      rcases hq with ⟨z, _⟩ | z
      · exfalso
        have : ys = [] := by
          have e := congrArg List.length z1
          rw [z, List.length_map, List.length_map] at e
          exact List.eq_nil_of_length_eq_zero e.symm
        exact hne this
      · rw [psz] at z
        exact Nat.le_of_lt (Nat.lt_of_succ_lt z)
    have new : ObjOk X.prog X.w (upd H q' (.lst (ys.map (·.2)).flatten)) h' q' (.lst (ys.map (·.2)).flatten) := ⟨hz, _, m', z2, hg⟩
    exact ⟨.ref q', _, I.laid (t' := tk) kall hq new, rfl, q q' (I.hok.fresh hq)⟩
def rAnyT (K : PySem.W.Frag) : List V → Hp → VK → Prop := fun vs H Q => ∃ (a : Addr) (ns : List Int), vs = [V.ref a] ∧ SqT K H a (ns.map V.int) ∧ Q (.bl (ns.any fun n => n != 0)) H
theorem ints_at {its : List Value} : ∀ {ns : List Int}, Vals (ns.map V.int) its → ∀ {i : Nat} {v : Value}, its[i]? = some v → ∃ n t, ns[i]? = some n ∧ v = .int n t := fun {ns} r {i} {v} h => by
  cases hx : (ns.map V.int)[i]? with
  | none =>
    have := Vals.none_of r hx
    rw [this] at h
    cases h
  | some x =>
    obtain ⟨u, h1, h2⟩ := Vals.get r hx
    rw [List.getElem?_map] at hx
    obtain ⟨n, hn, rfl⟩ := Option.map_eq_some_iff.mp hx
    obtain ⟨t, rfl⟩ := h2
    rw [h1] at h
    exact ⟨n, t, hn, (Option.some.inj h).symm⟩
theorem any_ints : ∀ ns : List Int, (List.range ns.length).any (fun i => ns.getD i 0 != 0) = ns.any fun n => n != 0
  | [] => rfl
  | n :: ns => by
    rw [List.length_cons, List.range_succ_eq_map, List.any_cons, List.any_map, List.any_cons, ← any_ints ns]
    rfl
theorem cr_anyT {X : Cx} (hc : X.calm = true) : CallR X (.builtin "any") (rAnyT X.K) := by
  intro pins s σ H vs us Q I r h
  obtain ⟨a, ns, rfl, hs, q⟩ := h
  obtain ⟨its, rv, ht, _⟩ := I.tuple hs
  rw [Vals.ref1 r]
  have ht : s.heap.IsTuple a its.toArray := ht
  have hne : a ≠ s.heap.objs.size := by
    obtain ⟨o, eo, _⟩ := ht
    exact Nat.ne_of_lt (Heap.lt_size eo)
  have st : (s.heap.push { cls := .type "tuple_iterator", data := .fields #[.ref a, .int 0 0] }).IsTupleIter s.heap.objs.size a 0 ∧ (s.heap.push { cls := .type "tuple_iterator", data := .fields #[.ref a, .int 0 0] }).IsTuple a its.toArray :=
    ⟨⟨_, Heap.get?_push_size _ rfl, rfl, rfl⟩, let ⟨o, eo, q⟩ := ht; ⟨o, Heap.get?_push_of_some _ eo, q⟩⟩
  have tru : TruthOf X.prog X.w X.A.in1 (fun i v => its.toArray[i]? = some v) (fun i => ns.getD i 0 != 0) := fun i v s Q E hv hq => by
    obtain ⟨n, t, hn, rfl⟩ := ints_at rv (by simpa using hv)
    have e : ns.getD i 0 = n := by rw [List.getD_eq_getElem?_getD, hn] <;> rfl
    have hq : Q (ns.getD i 0 != 0) s := hq
    rw [e] at hq
    exact PySem.P.truthy_int hq
  refine call_any_walk (wpAny_pyIter_tuple ht ⟨_, _, _, _, _, _, _, rfl, Walks.tuple (A := X.A.in1) (I.ok.hd hc) _ a hne its.toArray, st, tru, fun h' tk hk => ?_⟩)
  have e : (List.range its.toArray.size).any (fun i => ns.getD i 0 != 0) = ns.any fun n => n != 0 := by
    rw [← any_ints]
    have := rv.length
    rw [List.length_map] at this
    rw [List.size_toArray, this]
  rw [e]
  refine ⟨.bl _, H, I.kept fun b o eo => hk b o (fun hm => ?_) (Heap.get?_push_of_some _ eo), rfl, q⟩
  exact Nat.ne_of_lt (Heap.lt_size eo) (List.mem_singleton.mp hm)
/-- a text, once or never -/
theorem op_smul {X : Cx} : OpR X (binaryOp .Mult) (fun x y H Q => ∃ (z : Str) (n : Int), x = .str z ∧ y = .int n ∧ ((n = 0 ∧ Q (.str "") H) ∨ (n = 1 ∧ Q (.str z) H))) := by
  intro pins s σ H x y v u Q I rx ry h
  obtain ⟨z, n, rfl, rfl, h⟩ := h
  obtain ⟨t, rfl⟩ := rx
  obtain ⟨t', rfl⟩ := ry
  rcases h with ⟨rfl, q⟩ | ⟨rfl, q⟩
  · exact PySem.P.mul_str_none (by decide) (by decide) ⟨.str "", H, I.tok _, ⟨_, rfl⟩, q⟩
  · refine PySem.P.mul_str (by decide) (fun _ h2 => by cases h2) (fun _ h2 => by cases h2) ?_
    exact ⟨.str z, H, I, ⟨_, rfl⟩, q⟩
end Nd
set_option maxHeartbeats 4000000
/-! ### lists or tuples: comprehensions over them, tuples of them, their types -/
namespace Nd
open PySem PySem.Spec PyProof.Rows L2
abbrev LcR (g : TG) (tt : TT) (te : TE) (vs : List Nat) (σ : L2.St) (H1 : Hp) (Qd : Addr → Hp → Prop) (J : It) : Prop := ∀ D, H1 D = none → ∃ W : Nat → Nat → Hp → Prop, (∃ m, W 0 m (upd H1 D (.lst []))) ∧ ∀ i m H, W i m H →
  (J.stop i H ∧ Qd D H) ∨ (J.go i H ∧ ∃ Nx : Hp → Prop, (∀ H', Nx H' → ∃ m', m' < m ∧ W (i + 1) m' H') ∧ ∀ x H', J.yld i H x H' → g x (wipe σ vs) H' fun σ2 H2 => wipe σ2 vs = wipe σ vs ∧ tt σ2 H2 fun b H3 =>
    if b = true then te σ2 H3 fun y H4 => ∃ acc, H4 D = some (.lst acc) ∧ acc.length < sizeLine ∧ Nx (upd H4 D (.lst (acc ++ [y]))) else Nx H3)
theorem lc_both {K : PySem.W.Frag} {a : Addr} {xs : List V} {g : TG} {tt : TT} {te : TE} {vs : List Nat} {σ : L2.St} {H1 : Hp} {Qd : Addr → Hp → Prop} (hq : SqB K H1 a xs) (Pv : Addr → Nat → Hp → Prop) (h0 : ∀ D, H1 D = none → Pv D 0 (upd H1 D (.lst [])))
    (hl : ∀ D i H, H1 D = none → i ≤ xs.length → Pv D i H → Same H1 H)
    (hs : ∀ D i x H, H1 D = none → xs[i]? = some x → Pv D i H → g x (wipe σ vs) H fun σ2 H2 => wipe σ2 vs = wipe σ vs ∧ tt σ2 H2 fun b H3 =>
      if b = true then te σ2 H3 fun y H4 => ∃ acc, H4 D = some (.lst acc) ∧ acc.length < sizeLine ∧ Pv D (i + 1) (upd H4 D (.lst (acc ++ [y]))) else Pv D (i + 1) H3) (hd : ∀ D H, H1 D = none → Pv D xs.length H → Qd D H) :
    (∃ xs, SqL K H1 a xs) ∧ LcR g tt te vs σ H1 Qd (Itl K a) ∨ (∃ xs, SqT K H1 a xs) ∧ LcR g tt te vs σ H1 Qd (Itt K a) := by
  rcases hq with h | h
  · exact .inl ⟨⟨_, h⟩, fun D nD => lc_list (K := K) (a := a) (xs := xs) (Pv D) (h0 D nD) (fun i H l p => (hl D i H nD l p).seq h) (fun i x H e p => hs D i x H nD e p) (fun H p => hd D H nD p)⟩
  · exact .inr ⟨⟨_, h⟩, fun D nD => lc_tup (K := K) (a := a) (xs := xs) (Pv D) (h0 D nD) (fun i H l p => seqT (hl D i H nD l p) h) (fun i x H e p => hs D i x H nD e p) (fun H p => hd D H nD p)⟩
/-- a tracked list or tuple -/
def LorT (H : Hp) (a : Addr) (xs : List V) : Prop := H a = some (.lst xs) ∨ H a = some (.tup xs)
theorem LorT.sq {K : PySem.W.Frag} {H : Hp} {a : Addr} {xs : List V} (h : LorT H a xs) : SqB K H a xs := h.imp SqL.of SqT.of
theorem LorT.same {H H' : Hp} {a : Addr} {xs : List V} (h : LorT H a xs) (s : Same H H') : LorT H' a xs := h.imp (s _ _) (s _ _)
theorem LorT.ne {H : Hp} {a b : Addr} {xs : List V} (h : LorT H a xs) (hb : H b = none) : a ≠ b := fun z => by
  subst z
  rcases h with h | h <;> (rw [hb] at h; cases h)
theorem LorT.ty {K : PySem.W.Frag} {H : Hp} {a : Addr} {xs : List V} (h : LorT H a xs) : ∃ t, TyX K H (.ref a) (.type t) ∧ PySem.W.kitAny K (.type t) [.type "list", .type "tuple"] = some true := by
  rcases h with h | h
  · exact ⟨"list", .base (.lst h), kitAny_cons (b := true) (kit_ty (by decide +kernel)) (fun z => by cases z) (fun _ => rfl)⟩
  · exact ⟨"tuple", .base (.tup h), kitAny_cons (b := false) (kit_ty (by decide +kernel)) (fun _ => kitAny_cons (b := true) (kit_ty (by decide +kernel)) (fun z => by cases z) (fun _ => rfl)) (fun z => by cases z)⟩
/-- tuple(a), a list or a tuple -/
theorem call_tupleB {X : Cx} : CallR X (.type "tuple") (fun xs H Q => ∃ (p : Addr) (ys : List V), xs = [.ref p] ∧ LorT H p ys ∧ ∀ t H', Same H H' → H' t = some (.tup ys) → (t = p ∨ H t = none) → Q (.ref t) H') := by
  intro pins s σ H xs us Q I r h
  obtain ⟨p, ys, e, hp, k⟩ := h
  refine call_tuple_of pins s σ H xs us Q I r ⟨p, ys, e, ?_⟩
  rcases hp with hp | hp
  · exact .inl ⟨SqL.of hp, fun l hl => k l _ (Same.new hl) upd_same (.inr hl)⟩
  · exact .inr ⟨SqT.of hp, k p H (Same.refl H) hp (.inl rfl)⟩
end Nd
set_option maxHeartbeats 4000000
/-! ### sorted of a dict of texts, any number of them -/
namespace SrtO
open PySem PyProof.Rows Srt
def sv : Value → List Nat
  | .str x _ => x.cps.toList
  | _ => []
def ltSv (v u : Value) : Bool := decide (sv v < sv u)
theorem swo_str : Swo ltSv := by
  refine ⟨fun x y h => ?_, fun x y z h1 h2 => ?_⟩
  · have a := of_decide_eq_true (p := sv x < sv y) h
    exact decide_eq_false (p := sv y < sv x) (List.lt_asymm a)
  · have a : ¬ sv y < sv x := of_decide_eq_false (p := sv y < sv x) h1
    have b : ¬ sv z < sv y := of_decide_eq_false (p := sv z < sv y) h2
    exact decide_eq_false (p := sv z < sv x) (List.le_trans (α := Nat) (l₁ := sv x) (l₂ := sv y) (l₃ := sv z) a b)
theorem strs_mem : ∀ {vs : List Value} {ns : List PySem.Str}, StrsAre vs ns → ∀ v ∈ vs, ∃ i t, v = Value.str i t
  | _, _, .nil, v, h => absurd h (by simp)
  | _, _, .cons n t r, v, h => by
    rcases List.mem_cons.mp h with e | h
    · exact ⟨n, t, e⟩
    · exact strs_mem r v h
def strOf : Value → PySem.Str
  | .str x _ => x
  | _ => PySem.Str.empty
theorem strs_of : ∀ {vs : List Value}, (∀ v ∈ vs, ∃ i t, v = Value.str i t) → StrsAre vs (vs.map strOf)
  | [], _ => .nil
  | v :: vs, h => by
    obtain ⟨i, t, e⟩ := h v List.mem_cons_self
    subst e
    exact .cons i t (strs_of fun u hu => h u (List.mem_cons_of_mem _ hu))
theorem of_strs : ∀ {vs : List Value} {ns : List PySem.Str}, StrsAre vs ns → vs.map strOf = ns
  | _, _, .nil => rfl
  | _, _, .cons n t r => congrArg (n :: ·) (of_strs r)
section
variable {prog : Program} {w : World} {A : Around} {s : Shared}
theorem str_cmp {vs : List Value} {ns : List PySem.Str} (hI : StrsAre vs ns) : Cmp prog w A s oneType' (fun p => p.1 ∈ vs) (lt2 ltSv) := by
  intro p q hm hm'
  obtain ⟨a, t, e⟩ := strs_mem hI _ hm
  obtain ⟨b, u, e'⟩ := strs_mem hI _ hm'
  show wpAny (model prog w) A (keyLt' oneType' p.1 q.1) (fun r s' => s' = s ∧ r = ltSv p.1 q.1) (fun _ _ => False) s
  rw [e, e', keyLt'_oneType]
  exact oneLt_str ⟨rfl, rfl⟩
theorem strs_sortable {a : Addr} {vs : List Value} {ns : List PySem.Str} (hI : StrsAre vs ns) (h2 : 2 ≤ vs.length) : SortableO prog w A s a vs ltSv := by
  intro h' _
  refine ⟨oneType', fun Q E hq => ?_, str_cmp hI⟩
  match vs, hI, h2 with
  | v1 :: v2 :: rest, hI, _ =>
    rw [keyKind_strs hI]
    exact wpAny_pure hq
  | [], _, h => exact absurd h (by decide)
  | [v], _, h => exact absurd h (by simp)
theorem strs_out {vs out : List Value} {ns : List PySem.Str} (hI : StrsAre vs ns) (hb : Stb ltSv out vs) : StrsAre out (out.map strOf) ∧ (out.map strOf).Perm ns := by
  refine ⟨strs_of fun v hv => strs_mem hI v (hb.perm.mem_iff.mp hv), ?_⟩
  have q := hb.perm.map strOf
  rw [of_strs hI] at q
  exact q
end
end SrtO
namespace L2
open PySem PySem.Spec PyProof.Rows
section
variable {X : Cx}
/-- sorted(d) of a dict of texts, any number: some order of the keys -/
theorem call_sortedDA (hcalm : X.calm = true) : CallR X (.builtin "sorted") (fun xs H Q => ∃ (a : Addr) (kvs : List (Key × V)) (ks : List Str), xs = [.ref a] ∧ Rd H a (.dK kvs) ∧ kvs.map (·.1) = ks.map Sum.inr ∧ ks.length ≤ 100000 ∧
    ∀ (ys : List Str) (p : Addr), ys.Perm ks → H p = none → Q (.ref p) (upd H p (.lst (ys.map V.str)))) := by
  intro pins s σ H xs us Q I r q
  obtain ⟨a, kvs, ks, ex, hd, hks, h64, q⟩ := q
  subst ex
  obtain ⟨u, eu, rx⟩ := vals1 r
  subst eu
  cases rx
  obtain ⟨z, lo, vs, rel, dd⟩ := dk_rd I.hok hd
  obtain ⟨ep, hat⟩ := dd.dictAt
  have hkeys : vs.map (·.1) = ks.map Sum.inr := rel.keys.symm.trans hks
  have hl : vs.length = ks.length := by
    have e := congrArg List.length hkeys
    rw [List.length_map, List.length_map] at e
    exact e
  have h16 : vs.length ≤ sizeLine := by rw [hl, sizeLine_eq]; omega
  refine Calls.call_function_entry PyProof.Rows.kind_sorted PyProof.Rows.plain_sorted PyProof.Rows.entry_sorted (PyProof.Rows.args_sorted1 _) ?_
  unfold Builtin.«sorted»
  refine wpAny_bind (m := checkCount "sorted" 1 1 _) (wpAny_pure ?_)
  refine wpAny_bind (PySem.W.kdu_collect (A := X.A.in1) (PySem.W.kdl_dict (knd := mixKind X.prog X.w) (kvs := vs) (ep := ep) lo) (I.ok.hd hcalm) hat h16 fun h' tk acc hk hacc => ?_)
  have hal : acc.toList.length = ks.length := by rw [Array.length_toList, hacc.1, hl]
  have hS : StrsAre acc.toList ks := strs_at hal fun j v e => by
    obtain ⟨k, x, e1, e2⟩ := hacc.2 j v (by rw [← Array.getElem?_toList]; exact e)
    have e3 : (vs.map (·.1))[j]? = some k := by rw [List.getElem?_map, e1]; all_goals rfl
    rw [hkeys, List.getElem?_map] at e3
    cases e4 : ks[j]? with
    | none => rw [e4] at e3; cases e3
    | some y =>
      rw [e4] at e3
      have e5 : Sum.inr y = k := Option.some.inj e3
      subst e5
      obtain ⟨t, ev⟩ := Value.isStrOf_shape (x := y) (v := v) e2
      exact ⟨y, t, rfl, ev⟩
  have I1 : Inv X pins σ H { s with heap := h', toks := tk } := I.kept hk
  have hz : acc.toList.length ≤ sizeLine := by rw [hal, sizeLine_eq]; omega
  refine wpAny_bind (wpAny_newList ?_ hz)
  have hoL : (h'.push (seqObj "list" acc.toList.toArray 0)).get? h'.objs.size = some (seqObj "list" acc.toList.toArray 0) := Heap.get?_push_size _ rfl
  show wpAny _ _ _ _ _ { s with heap := h'.push (seqObj "list" acc.toList.toArray 0), toks := tk }
  refine wpAny_bind (wpAny_holding (wpAny_call_entry PyProof.Rows.slot_list_sort ⟨_, hoL, rfl⟩ PyProof.Rows.entry_list_sort
    (SrtO.list_sort_ord (s := { s with heap := h'.push (seqObj "list" acc.toList.toArray 0), toks := tk }) SrtO.swo_str hoL hz (fun h2 => SrtO.strs_sortable hS h2) fun out h1 h2 => ⟨_, rfl, ?_⟩)
    (PyProof.Rows.args_list_sort _)))
  obtain ⟨g1, g2⟩ := SrtO.strs_out hS h2
  obtain ⟨e', he'⟩ := PyProof.Rows.sortedHeap_at (vs := acc.toList) (out := out.toArray) hoL
  have hlen : ((out.map SrtO.strOf).map V.str).length ≤ sizeLine := by
    rw [List.length_map, g2.length_eq, sizeLine_eq]
    omega
  refine wpAny_pure ⟨_, rfl, .ref h'.objs.size, upd H h'.objs.size (.lst ((out.map SrtO.strOf).map V.str)), I1.laid (t' := tk) (fun b u e => ?_) (Nat.le_refl _)
    (show ObjOk X.prog X.w _ _ _ (.lst ((out.map SrtO.strOf).map V.str)) from ⟨hlen, out, e', vals_of_strs g1, he'⟩), rfl, q _ _ g2 (I1.hok.fresh (Nat.le_refl _))⟩
  have hb : b < h'.objs.size := Heap.lt_size e
  rw [PyProof.Rows.sortedHeap_old (Nat.ne_of_lt hb) (by rw [size_push']; exact Nat.lt_succ_of_lt hb)]
  exact Heap.get?_push_of_some _ e
end
end L2
set_option maxHeartbeats 4000000
set_option hygiene false in
local macro_rules | `(tactic| walk_at "new1") => `(tactic| (intro p1 n1; generalize e1 : upd _ p1 _ = H1; (have s1 := (congrArg (Same _) e1).mp (Same.new n1)); (have h1 := (congrArg (fun z : Hp => z p1 = some _) e1).mp upd_same); clear e1))
set_option hygiene false in
local macro_rules | `(tactic| walk_at "new2") => `(tactic| (intro p2 n2; generalize e2 : upd _ p2 _ = H2; (have s2 := (congrArg (Same _) e2).mp (Same.new n2)); (have h2 := (congrArg (fun z : Hp => z p2 = some _) e2).mp upd_same); clear e2))
set_option hygiene false in
local macro_rules | `(tactic| walk_at "new3") => `(tactic| (intro p3 n3; generalize e3 : upd _ p3 _ = H3; (have s3 := (congrArg (Same _) e3).mp (Same.new n3)); (have h3 := (congrArg (fun z : Hp => z p3 = some _) e3).mp upd_same); clear e3))
set_option hygiene false in
local macro_rules | `(tactic| walk_at "new4") => `(tactic| (intro p4 n4; generalize e4 : upd _ p4 _ = H4; (have s4 := (congrArg (Same _) e4).mp (Same.new n4)); (have h4 := (congrArg (fun z : Hp => z p4 = some _) e4).mp upd_same); clear e4))
set_option hygiene false in
local macro_rules | `(tactic| walk_at "new5") => `(tactic| (intro p5 n5; generalize e5 : upd _ p5 _ = H5; (have s5 := (congrArg (Same _) e5).mp (Same.new n5)); (have h5 := (congrArg (fun z : Hp => z p5 = some _) e5).mp upd_same); clear e5))
set_option hygiene false in
local macro_rules | `(tactic| walk_at "new6") => `(tactic| (intro p6 n6; generalize e6 : upd _ p6 _ = H6; (have s6 := (congrArg (Same _) e6).mp (Same.new n6)); (have h6 := (congrArg (fun z : Hp => z p6 = some _) e6).mp upd_same); clear e6))
set_option hygiene false in
local macro_rules | `(tactic| walk_at "new7") => `(tactic| (intro p7 n7; generalize e7 : upd _ p7 _ = H7; (have s7 := (congrArg (Same _) e7).mp (Same.new n7)); (have h7 := (congrArg (fun z : Hp => z p7 = some _) e7).mp upd_same); clear e7))
set_option hygiene false in
local macro_rules | `(tactic| walk_at "new8") => `(tactic| (intro p8 n8; generalize e8 : upd _ p8 _ = H8; (have s8 := (congrArg (Same _) e8).mp (Same.new n8)); (have h8 := (congrArg (fun z : Hp => z p8 = some _) e8).mp upd_same); clear e8))
set_option hygiene false in
local macro_rules | `(tactic| walk_at "new9") => `(tactic| (intro p9 n9; generalize e9 : upd _ p9 _ = H9; (have s9 := (congrArg (Same _) e9).mp (Same.new n9)); (have h9 := (congrArg (fun z : Hp => z p9 = some _) e9).mp upd_same); clear e9))
namespace K58
open PySem PySem.Spec PyProof.Rows L2 Nd
def top (i : Nat) : Stmt := PySem.Challenge.pw_codewalk_k58_instructions_that_cannot_be.main.body.getD i (.Pass ⟨0, 0, 0, 0⟩)
abbrev s_law_source_of : Stmt := top 52
abbrev s_law_next : Stmt := top 53
abbrev s_law_one : Stmt := top 54
/-- what the globals are -/
structure Gl0 (mg : Str → Option Value) : Prop where
  n_int : mg "int" = none
  n_len : mg "len" = none
  n_range : mg "range" = none
section
variable {P : Program} {w : World} {K : PySem.W.Frag} {mg : Str → Option Value} {base : Heap}
def Src (H : Hp) (a : Addr) : Prop := ∃ x y z : Int, H a = some (.lst [.int x, .int y, .int z]) ∧ 0 ≤ x ∧ 0 ≤ y ∧ 0 ≤ z
def spSource : Sp := fun vs H Q _ => ∃ c : Int, vs = [.int c] ∧ ∀ p H', H p = none → Same H H' → Src H' p → Q (.ref p) H'
abbrev N_law_source_of : List Str := ["cell"]
theorem sc_law_source_of : FnScope N_law_source_of ["cell"] (defScope s_law_source_of) := ⟨rfl, rfl, rfl, by decide +kernel, rfl, by decide +kernel, by decide +kernel⟩
theorem ok_law_source_of {f : Addr} {fd : FuncData} (T : Gl0 mg) (F : DefX K mg "_law_source_of" s_law_source_of ["cell"] f fd) : CalX P w K mg base 1 "_law_source_of" spSource := by
  refine calx F sc_law_source_of (fun vs H Q E h => ?_) (fun cdv A outer s H vs Q E hr h => ?_)
  · obtain ⟨n, rfl, _⟩ := h
    rfl
  · obtain ⟨n, rfl, k⟩ := h
    refine ⟨_, (pss_cons (ps_set (i := 0) sc_law_source_of.nd rfl (.inl rfl) (pe_ifExp (pt_cmpR op_ge (pv 0) pe_int (nomark _)) (pv 0) (pe_op op_sub (pe_op op_sub pe_int (pe_op op_mul pe_int (pv 0))) pe_int)))
      (pss_one (ps_ret (pe_lst (pa_cons (pe_op op_mul (pv 0) (pe_callTy call_int1 (by rfl) T.n_int Boot.«int» (pa_cons (pe_cmpR op_ge (pv 0) (pe_op op_pow pe_int pe_int) (nomark _)) pa_nil))) (pa_cons (pe_op op_mod (pe_callTy call_int1 (by rfl) T.n_int Boot.«int» (pa_cons (pv 0) pa_nil)) pe_int) (pa_cons pe_int pa_nil))))))), ?_⟩
    refine ⟨_, rfl, _, _, rfl, rfl, _, rfl, ?_⟩
    refine ite2 (fun c => ?_) (fun c => ?_)
    · have hm : (0 : Int) ≤ n := of_decide_eq_true c
      refine ⟨_, rfl, ?_⟩
      refine ⟨_, rfl, _, rfl, _, _, rfl, rfl, ⟨by decide, by decide, by decide⟩, _, _, rfl, rfl, .inr ⟨_, rfl, _, _, rfl, rfl, .inr ?_, _, rfl, .inl ⟨_, rfl, _, _, rfl, rfl, (by show (0 : Int) < 2147483647; decide), (by show 3 ≤ sizeLine; decide), ?_⟩⟩⟩
      · split <;> decide
      · walk_at "new1"
        exact k p1 H1 n1 s1 ⟨_, _, _, h1, Int.mul_nonneg hm (by split <;> decide), Int.emod_nonneg _ (by decide), by decide⟩
    · have hm : (0 : Int) ≤ 0 - 3 * n - 1 := by
        have c' : ¬ ((0 : Int) ≤ n) := fun z => c (decide_eq_true z)
        omega
      refine ⟨_, rfl, _, _, rfl, rfl, .inl ⟨by decide, by decide⟩, _, _, rfl, rfl, _, _, rfl, rfl, ?_⟩
      refine ⟨_, rfl, _, rfl, _, _, rfl, rfl, ⟨by decide, by decide, by decide⟩, _, _, rfl, rfl, .inr ⟨_, rfl, _, _, rfl, rfl, .inr ?_, _, rfl, .inl ⟨_, rfl, _, _, rfl, rfl, (by show (0 : Int) < 2147483647; decide), (by show 3 ≤ sizeLine; decide), ?_⟩⟩⟩
      · split <;> decide
      · walk_at "new1"
        exact k p1 H1 n1 s1 ⟨_, _, _, h1, Int.mul_nonneg hm (by split <;> decide), Int.emod_nonneg _ (by decide), by decide⟩
end
section
variable {P : Program} {w : World} {K : PySem.W.Frag} {mg : Str → Option Value} {base : Heap}
/-! ### _law_next: some number below many -/
def spNext : Sp := fun vs H Q _ => ∃ (a : Addr) (m : Int), vs = [.ref a, .int m] ∧ Src H a ∧ 0 < m ∧ m.natAbs < 2 ^ 200 ∧ ∀ v H', 0 ≤ v → v < m → But a H H' → Src H' a → Q (.int v) H'
abbrev N_law_next : List Str := ["source", "many", "found", "prime", "number"]
theorem sc_law_next : FnScope N_law_next ["source", "many"] (defScope s_law_next) := ⟨rfl, rfl, rfl, by decide +kernel, rfl, by decide +kernel, by decide +kernel⟩
theorem md (a : Int) : -(2 ^ 64) < a % 2147483647 ∧ a % 2147483647 < 2 ^ 64 := by
  have h1 := Int.emod_nonneg a (by decide : (2147483647 : Int) ≠ 0)
  have h2 := Int.emod_lt_of_pos a (by decide : (0 : Int) < 2147483647)
  omega
theorem at0 (x y z : V) : atI [x, y, z] 0 = some x := rfl
theorem at1 (x y z : V) : atI [x, y, z] 1 = some y := rfl
theorem at2 (x y z : V) : atI [x, y, z] 2 = some z := rfl
theorem ok_law_next {f : Addr} {fd : FuncData} (T : Gl0 mg) (F : DefX K mg "_law_next" s_law_next ["source", "many"] f fd) : CalX P w K mg base 1 "_law_next" spNext := by
  refine calx F sc_law_next (fun vs H Q E h => ?_) (fun cdv A outer s H vs Q E hr h => ?_)
  · obtain ⟨a, m, rfl, _⟩ := h
    rfl
  · obtain ⟨a, m, rfl, ⟨x, y, z, ha, hx, hy, hz⟩, hm, hm2, k⟩ := h
    refine ⟨_, (pss_cons (ps_if (pt_cmpR op_gt (pe_ix ix_list (pv 0) pe_int (fun _ _ => rfl)) pe_int (nomark _))
        (pss_cons (ps_set (i := 2) sc_law_next.nd rfl (.inl rfl) (pe_op op_mod (pe_callTy call_int1 (by rfl) T.n_int Boot.«int» (pa_cons (pe_ix ix_list (pv 0) pe_int (fun _ _ => rfl)) pa_nil)) (pv 1)))
      (pss_cons (ps_asg (pe_op op_fdivW (pe_ix ix_list (pv 0) pe_int (fun _ _ => rfl)) (pv 1)) (pg_sub (pv 0) pe_int set_list))
      (pss_one (ps_ret (pv 2)))))
        pss_nil)
      (pss_cons (ps_asg (pe_op op_add (pe_ix ix_list (pv 0) pe_int (fun _ _ => rfl)) pe_int) (pg_sub (pv 0) pe_int set_list))
      (pss_cons (ps_set (i := 3) sc_law_next.nd rfl (.inl rfl) pe_int)
      (pss_cons (ps_set (i := 4) sc_law_next.nd rfl (.inl rfl) (pe_op op_mod (pe_callTy call_int1 (by rfl) T.n_int Boot.«int» (pa_cons (pe_op op_add (pe_op op_add (pe_ix ix_list (pv 0) pe_int (fun _ _ => rfl)) (pe_op op_mul pe_int (pe_ix ix_list (pv 0) pe_int (fun _ _ => rfl)))) pe_int) pa_nil)) (pv 3)))
      (pss_cons (ps_set (i := 4) sc_law_next.nd rfl (.inl rfl) (pe_op op_mod (pe_callTy call_int1 (by rfl) T.n_int Boot.«int» (pa_cons (pe_op op_mul (pv 4) pe_int) pa_nil)) (pv 3)))
      (pss_cons (ps_set (i := 4) sc_law_next.nd rfl (.inl rfl) (pe_op op_mod (pe_callTy call_int1 (by rfl) T.n_int Boot.«int» (pa_cons (pe_op op_mul (pv 4) (pe_op op_add (pe_op op_fdiv (pv 4) pe_int) pe_int)) pa_nil)) (pv 3)))
      (pss_cons (ps_set (i := 4) sc_law_next.nd rfl (.inl rfl) (pe_op op_mod (pe_callTy call_int1 (by rfl) T.n_int Boot.«int» (pa_cons (pe_op op_mul (pv 4) (pe_op op_add (pe_op op_fdiv (pv 4) pe_int) pe_int)) pa_nil)) pe_int))
      (pss_one (ps_ret (pe_op op_mod (pe_callTy call_int1 (by rfl) T.n_int Boot.«int» (pa_cons (pe_op op_fdiv (pv 4) pe_int) pa_nil)) (pv 1))))))))))), ?_⟩
    refine ⟨_, rfl, a, _, _, _, rfl, rfl, SqL.of ha, at0 _ _ _, _, _, rfl, rfl, _, rfl, ?_⟩
    refine ite2 (fun c => ?_) (fun c => ?_)
    · refine ⟨_, rfl, a, _, _, _, rfl, rfl, SqL.of ha, at0 _ _ _, .inl ⟨_, rfl, _, rfl, _, _, rfl, rfl, hm, ?_⟩⟩
      refine ⟨_, rfl, a, _, _, _, rfl, rfl, SqL.of ha, at0 _ _ _, _, rfl, _, _, rfl, rfl, wide_div hm hm2 (by decide) (by decide), ?_⟩
      refine ⟨_, rfl, a, _, _, 0, rfl, rfl, ha, rfl, ?_⟩
      exact ⟨_, rfl, k _ _ (Int.emod_nonneg _ (by omega)) (Int.emod_lt_of_pos _ hm) (But.upd But.refl) ⟨_, _, _, upd_same, Int.ediv_nonneg hx (by omega), hy, hz⟩⟩
    · refine ⟨_, rfl, a, _, _, _, rfl, rfl, SqL.of ha, at2 _ _ _, _, _, rfl, rfl, ?_⟩
      refine ⟨_, rfl, a, _, _, 2, rfl, rfl, ha, rfl, ?_⟩
      have hb : upd H a (.lst [.int x, .int y, .int (z + 1)]) a = some (.lst [.int x, .int y, .int (z + 1)]) := upd_same
      refine ⟨_, rfl, a, _, _, _, rfl, rfl, SqL.of hb, at1 _ _ _, _, rfl, a, _, _, _, rfl, rfl, SqL.of hb, at2 _ _ _, _, _, rfl, rfl, .inl ⟨by decide, by decide⟩, _, _, rfl, rfl, _, _, rfl, rfl, .inl ⟨_, rfl, _, rfl, _, _, rfl, rfl, (by show (0 : Int) < 2147483647; decide), ?_⟩⟩
      refine ⟨_, rfl, _, _, rfl, rfl, .inr ⟨by decide, by decide⟩, .inl ⟨_, rfl, _, rfl, _, _, rfl, rfl, (by show (0 : Int) < 2147483647; decide), ?_⟩⟩
      refine ⟨_, rfl, _, rfl, _, _, rfl, rfl, ⟨by decide, by decide⟩, _, _, rfl, rfl, _, _, rfl, rfl, .inl (md _), .inl ⟨_, rfl, _, rfl, _, _, rfl, rfl, (by show (0 : Int) < 2147483647; decide), ?_⟩⟩
      refine ⟨_, rfl, _, rfl, _, _, rfl, rfl, ⟨by decide, by decide⟩, _, _, rfl, rfl, _, _, rfl, rfl, .inl (md _), .inl ⟨_, rfl, _, _, rfl, rfl, (by show (0 : Int) < 2147483399; decide), ?_⟩⟩
      refine ⟨_, rfl, _, _, rfl, rfl, ⟨by decide, by decide⟩, .inl ⟨_, rfl, _, rfl, _, _, rfl, rfl, hm, ?_⟩⟩
      exact k _ _ (Int.emod_nonneg _ (by omega)) (Int.emod_lt_of_pos _ hm) (But.upd But.refl) ⟨_, _, _, hb, hx, hy, by omega⟩
/-! ### _law_one: one of some -/
def spOne (K : PySem.W.Frag) : Sp := fun vs H Q _ => ∃ (a b : Addr) (xs : List V), vs = [.ref a, .ref b] ∧ Src H a ∧ H b = some (.lst xs) ∧ xs ≠ [] ∧ xs.length ≤ 1000 ∧ ∀ v H', v ∈ xs → But a H H' → Src H' a → Q v H'
abbrev N_law_one : List Str := ["source", "some"]
theorem sc_law_one : FnScope N_law_one ["source", "some"] (defScope s_law_one) := ⟨rfl, rfl, rfl, by decide +kernel, rfl, by decide +kernel, by decide +kernel⟩
theorem Src.ne {H : Hp} {a b : Addr} {xs : List V} (s : Src H a) (h : H b = some (.lst xs)) (hx : xs.length ≠ 3 ∨ ∃ x ∈ xs, ∀ i, x ≠ V.int i) : b ≠ a := by
  rintro rfl
  obtain ⟨x, y, z, e, _⟩ := s
  rw [h] at e
  cases e
  rcases hx with q | ⟨x, hx, n⟩
  · exact q rfl
  · simp at hx
    rcases hx with rfl | rfl | rfl <;> exact n _ rfl
theorem ok_law_one {f : Addr} {fd : FuncData} (T : Gl0 mg) (c_law_next : CalX P w K mg base 1 "_law_next" spNext) (F : DefX K mg "_law_one" s_law_one ["source", "some"] f fd) :
    CalX P w K mg base 2 "_law_one" (fun vs H Q E => spOne K vs H Q E ∧ ∀ a b, vs = [.ref a, .ref b] → b ≠ a) := by
  refine calx F sc_law_one (fun vs H Q E h => ?_) (fun cdv A outer s H vs Q E hr h => ?_)
  · obtain ⟨⟨a, m, xs, rfl, _⟩, _⟩ := h
    rfl
  · obtain ⟨⟨a, b, xs, rfl, hs, hb, hne, hl, k⟩, nba⟩ := h
    have nba := nba a b rfl
    have hpos : 0 < xs.length := List.length_pos_iff.mpr hne
    refine ⟨_, (pss_one (ps_ret (pe_ix ix_list (pv 1) (pe_cx c_law_next hr (by decide) rfl (pa_cons (pv 0) (pa_cons (pe_callB call_len_seq (by rfl) T.n_len Boot.«len» (pa_cons (pv 1) pa_nil)) pa_nil))) (fun _ _ => rfl)))), ?_⟩
    refine ⟨_, rfl, _, rfl, _, rfl, b, xs, rfl, .inl (SqL.of hb), a, _, rfl, hs, ?_, ?_, fun v H' v0 v1 bu s1 => ?_⟩
    · show (0 : Int) < (xs.length : Int)
      omega
    · show ((xs.length : Int)).natAbs < 2 ^ 200
      rw [Int.natAbs_natCast]
      exact Nat.lt_of_le_of_lt hl (by decide)
    · have e : v = (v.toNat : Int) := by omega
      have hv : v.toNat < xs.length := by omega
      have g : atI xs v = some (xs[v.toNat]) := by
        have q := atI_nat (List.getElem?_eq_getElem hv)
        rw [← e] at q
        exact q
      exact ⟨b, xs, v, _, rfl, rfl, SqL.of (bu _ _ nba hb), g, k _ _ (List.getElem_mem hv) bu s1⟩
end
theorem Src.ne0 {H : Hp} {a p : Addr} (s : Src H a) (n : H p = none) : p ≠ a := by
  rintro rfl
  obtain ⟨x, y, z, e, _⟩ := s
  rw [n] at e
  cases e
theorem Src.same {H H' : Hp} {a : Addr} (s : Src H a) (q : Same H H') : Src H' a := by
  obtain ⟨x, y, z, e, h⟩ := s
  exact ⟨x, y, z, q _ _ e, h⟩
end K58
set_option maxHeartbeats 4000000
set_option hygiene false in
local macro_rules | `(tactic| walk_at "fld") => `(tactic| (generalize eu : upd _ self (HO.ins _ _ _) = Hn; (have hs := (congrArg (fun z : Hp => z self = some _) eu).mp upd_same); (have B := (congrArg (But self H) eu).mp (But.upd B)); (have ln := fldlen hs ln); clear eu))
set_option hygiene false in
local macro_rules | `(tactic| walk_at "fld3") => `(tactic| (generalize eu : upd _ self (HO.ins _ _ _) = Hn; (have hs := (congrArg (fun z : Hp => z self = some _) eu).mp upd_same); (have B := (congrArg (But self H) eu).mp (But.upd B)); (have B3 := (congrArg (But self H3) eu).mp (But.upd B3)); (have ln := fldlen hs ln); clear eu))
set_option hygiene false in
local macro_rules | `(tactic| walk_at "new1") => `(tactic| (intro p1 n1; generalize e1 : upd _ p1 _ = H1; (have s1 := (congrArg (Same _) e1).mp (Same.new n1)); (have h1 := (congrArg (fun z : Hp => z p1 = some _) e1).mp upd_same); clear e1))
set_option hygiene false in
local macro_rules | `(tactic| walk_at "new2") => `(tactic| (intro p2 n2; generalize e2 : upd _ p2 _ = H2; (have s2 := (congrArg (Same _) e2).mp (Same.new n2)); (have h2 := (congrArg (fun z : Hp => z p2 = some _) e2).mp upd_same); clear e2))
set_option hygiene false in
local macro_rules | `(tactic| walk_at "new3") => `(tactic| (intro p3 n3; generalize e3 : upd _ p3 _ = H3; (have s3 := (congrArg (Same _) e3).mp (Same.new n3)); (have h3 := (congrArg (fun z : Hp => z p3 = some _) e3).mp upd_same); clear e3))
set_option hygiene false in
local macro_rules | `(tactic| walk_at "new4") => `(tactic| (intro p4 n4; generalize e4 : upd _ p4 _ = H4; (have s4 := (congrArg (Same _) e4).mp (Same.new n4)); (have h4 := (congrArg (fun z : Hp => z p4 = some _) e4).mp upd_same); clear e4))
set_option hygiene false in
local macro_rules | `(tactic| walk_at "new5") => `(tactic| (intro p5 n5; generalize e5 : upd _ p5 _ = H5; (have s5 := (congrArg (Same _) e5).mp (Same.new n5)); (have h5 := (congrArg (fun z : Hp => z p5 = some _) e5).mp upd_same); clear e5))
set_option hygiene false in
local macro_rules | `(tactic| walk_at "new6") => `(tactic| (intro p6 n6; generalize e6 : upd _ p6 _ = H6; (have s6 := (congrArg (Same _) e6).mp (Same.new n6)); (have h6 := (congrArg (fun z : Hp => z p6 = some _) e6).mp upd_same); clear e6))
set_option hygiene false in
local macro_rules | `(tactic| walk_at "new7") => `(tactic| (intro p7 n7; generalize e7 : upd _ p7 _ = H7; (have s7 := (congrArg (Same _) e7).mp (Same.new n7)); (have h7 := (congrArg (fun z : Hp => z p7 = some _) e7).mp upd_same); clear e7))
set_option hygiene false in
local macro_rules | `(tactic| walk_at "new8") => `(tactic| (intro p8 n8; generalize e8 : upd _ p8 _ = H8; (have s8 := (congrArg (Same _) e8).mp (Same.new n8)); (have h8 := (congrArg (fun z : Hp => z p8 = some _) e8).mp upd_same); clear e8))
set_option hygiene false in
local macro_rules | `(tactic| walk_at "new9") => `(tactic| (intro p9 n9; generalize e9 : upd _ p9 _ = H9; (have s9 := (congrArg (Same _) e9).mp (Same.new n9)); (have h9 := (congrArg (fun z : Hp => z p9 = some _) e9).mp upd_same); clear e9))
namespace K58
open PySem PySem.Spec PyProof.Rows L2 Nd
abbrev s_want_code : Stmt := top 18
def flds : List Str := ["argcount", "onlycount", "stacksize", "flags", "code", "constants", "names", "slots", "kinds", "name", "path", "line", "lines", "handlers", "nested"]
def oddT : List String := ["NoneType", "int", "str", "list", "tuple", "bool", "dict"]
/-- what the class Code and the class NoCode are -/
structure GlK (P : Program) (K : PySem.W.Frag) (mg : Str → Option Value) (Cc Cn fI : Addr) : Prop where
  c_Code : ∃ u, mg "Code" = some u ∧ RelV (.ref Cc) u
  ins : C8.InsC K Cc
  na : ∀ f ∈ flds, NoAttr K Cc f
  no : ∀ t ∈ oddT, PySem.W.kitOne K (.type t) (.ref Cc) = some false
  nx : PySem.Nx.Txt P K mg Cn fI
  gN : mg "NoCode" = some (.ref Cn)
  n_isinstance : mg "isinstance" = none
/-- an odd thing: of a type that is no Code -/
def Odd (K : PySem.W.Frag) (H : Hp) (x : V) : Prop := ∃ t ∈ oddT, TyX K H x (.type t)
def errCode (Cn : Addr) (H : Hp) (E : XK) : Prop := ∀ d, H d = none → E (.ref Cn) (some d) (upd H d (.xd [("field", .str "code")]))
def spWant (K : PySem.W.Frag) (Cc Cn : Addr) : Sp := fun vs H Q E => ∃ x, vs = [x] ∧ ((∃ a dx fs, x = .ref a ∧ H a = some (.ins Cc dx fs) ∧ Q .non H) ∨ (Odd K H x ∧ errCode Cn H E))
theorem passE {X : Cx} {E : XK} (tk : Takes X (fun cls d _ H => E cls d H)) : Passes (L2.CX X.prog X.w) X E := fun pins σ H s e s' I c => passAt tk σ pins H s e s' I c
theorem TyX.same {K : PySem.W.Frag} {H H' : Hp} {x : V} {t : Value} (s : Same H H') (h : TyX K H x t) : TyX K H' x t := by
  cases h with
  | base b =>
    refine .base ?_
    cases b with
    | non => exact .non
    | bl y => exact .bl y
    | int i => exact .int i
    | str y => exact .str y
    | flt y => exact .flt y
    | lst e => exact .lst (s _ _ e)
    | frz e => exact .frz (s _ _ e)
    | tup e => exact .tup (s _ _ e)
    | dK e => exact .dK (s _ _ e)
    | dT e => exact .dT (s _ _ e)
    | ins e c1 c2 c3 c4 c5 => exact .ins (s _ _ e) c1 c2 c3 c4 c5
  | byt b => exact .byt b
  | set e => exact .set (s _ _ e)
  | kList e c => exact .kList e c
  | kTuple e c => exact .kTuple e c
  | kDict e c => exact .kDict e c
  | fTuple e => exact .fTuple (s _ _ e)
  | fDict e => exact .fDict (s _ _ e)
theorem Odd.same {K : PySem.W.Frag} {H H' : Hp} {x : V} (s : Same H H') (h : Odd K H x) : Odd K H' x := by
  obtain ⟨t, m, h⟩ := h
  exact ⟨t, m, TyX.same s h⟩
section
variable {P : Program} {w : World} {K : PySem.W.Frag} {mg : Str → Option Value} {base : Heap} {Cc Cn fI : Addr}
abbrev N_want_code : List Str := ["value"]
theorem sc_want_code : FnScope N_want_code ["value"] (defScope s_want_code) := ⟨rfl, rfl, rfl, by decide +kernel, rfl, by decide +kernel, by decide +kernel⟩
theorem ok_want_code {f : Addr} {fd : FuncData} (G : GlK P K mg Cc Cn fI) (F : DefX K mg "want_code" s_want_code ["value"] f fd) : CalX P w K mg base 2 "want_code" (spWant K Cc Cn) := by
  refine calr F sc_want_code (fun vs H Q E h => ?_) (fun cdv A outer s H vs Q E hr h => ?_)
  · obtain ⟨x, rfl, _⟩ := h
    rfl
  · obtain ⟨x, rfl, h⟩ := h
    refine ⟨_, (pss_one (ps_if (pt_not (pt_val (pe_callB call_isi (by rfl) G.n_isinstance Boot.«isinstance» (pa_cons (pv 0) (pa_cons (C8.pe_gc rfl G.c_Code) pa_nil)))))
      (pss_one (ps_raise rfl (takes_of rfl rfl rfl rfl) (pmk_nx G.nx hr (pa_cons pe_str pa_nil) rfl G.gN)))
      pss_nil)), ?_⟩
    rcases h with ⟨a, dx, fs, rfl, ha, q⟩ | ⟨⟨t, ht, ty⟩, e⟩
    · refine ⟨_, rfl, V.ref a, V.ref Cc, .ref Cc, .ref Cc, true, rfl, .own Cc, .base (.ins ha G.ins.cl G.ins.ha G.ins.hn G.ins.htk G.ins.hm), G.ins.me, _, rfl, ?_⟩
      exact iteF q
    · refine ⟨_, rfl, x, V.ref Cc, .type t, .ref Cc, false, rfl, .own Cc, ty, G.no t ht, _, rfl, ?_⟩
      exact iteT ⟨_, rfl, fun d hd => e d hd⟩
end
abbrev s_is_number : Stmt := top 9
abbrev s_is_string : Stmt := top 10
abbrev s_is_byte : Stmt := top 11
abbrev s_are_bytes : Stmt := top 12
abbrev s_are_strings : Stmt := top 13
abbrev s_are_constants : Stmt := top 15
abbrev s_is_constant : Stmt := top 14
structure Gl2 (mg : Str → Option Value) : Prop where
  n_isinstance : mg "isinstance" = none
  n_int : mg "int" = none
  n_bool : mg "bool" = none
  n_str : mg "str" = none
  n_all : mg "all" = none
  n_ord : mg "ord" = none
  n_list : mg "list" = none
  n_tuple : mg "tuple" = none
  c_MOST : ∃ u, mg "MOST_NUMBER" = some u ∧ RelV (.int 2147483647) u
  c_MOST_NESTED : ∃ u, mg "MOST_NESTED" = some u ∧ RelV (.int 100) u
def tNev : TE := fun _ _ _ => False
theorem pe_nev {X : Cx} {e : Expr} : PE X e tNev := ⟨fun _ _ _ _ _ _ h => h.elim⟩
theorem ii {K : PySem.W.Frag} : PySem.W.kitOne K (.type "int") (.type "int") = some true := kit_ty (by decide +kernel)
theorem ib {K : PySem.W.Frag} : PySem.W.kitOne K (.type "int") (.type "bool") = some false := kit_ty (by decide +kernel)
theorem ss {K : PySem.W.Frag} : PySem.W.kitOne K (.type "str") (.type "str") = some true := kit_ty (by decide +kernel)
section
variable {P : Program} {w : World} {K : PySem.W.Frag} {mg : Str → Option Value} {base : Heap}
def spNum : Sp := fun vs H Q _ => ∃ i : Int, vs = [.int i] ∧ 0 ≤ i ∧ i ≤ 2147483647 ∧ Q (.bl true) H
abbrev N_is_number : List Str := ["value"]
theorem sc_is_number : FnScope N_is_number ["value"] (defScope s_is_number) := ⟨rfl, rfl, rfl, by decide +kernel, rfl, by decide +kernel, by decide +kernel⟩
theorem ok_is_number {f : Addr} {fd : FuncData} (T : Gl2 mg) (F : DefX K mg "is_number" s_is_number ["value"] f fd) : CalX P w K mg base 1 "is_number" spNum := by
  refine calx F sc_is_number (fun vs H Q E h => ?_) (fun cdv A outer s H vs Q E hr h => ?_)
  · obtain ⟨i, rfl, _⟩ := h
    rfl
  · obtain ⟨i, rfl, i0, i1, k⟩ := h
    refine ⟨_, (pss_one (ps_ret (pe_and (pe_callB call_isi (by rfl) T.n_isinstance Boot.«isinstance» (pa_cons (pv 0) (pa_cons (pe_bltn (v := .ty "int") (by rfl) T.n_int Boot.«int» rfl) pa_nil))) (pe_and (pe_not (pe_callB call_isi (by rfl) T.n_isinstance Boot.«isinstance» (pa_cons (pv 0) (pa_cons (pe_bltn (v := .ty "bool") (by rfl) T.n_bool Boot.«bool» rfl) pa_nil)))) (pe_one (pe_chain op_le op_le pe_int (pv 0) (C8.pe_gc rfl T.c_MOST))))))), ?_⟩
    refine ⟨_, rfl, V.int i, V.ty "int", .type "int", .type "int", true, rfl, .ty "int", .base (.int i), ii, _, rfl, iteT ?_⟩
    refine ⟨_, rfl, V.int i, V.ty "bool", .type "int", .type "bool", false, rfl, .ty "bool", .base (.int i), ib, _, rfl, _, rfl, iteT ?_⟩
    refine ⟨_, rfl, _, _, rfl, rfl, _, rfl, ?_⟩
    refine ite2 (fun _ => ?_) (fun c => absurd (decide_eq_true i0) c)
    refine ⟨_, _, rfl, rfl, ?_⟩
    have e : decide (i ≤ (2147483647 : Int)) = true := decide_eq_true i1
    show Q (V.bl (decide (i ≤ 2147483647))) H
    rw [e]
    exact k
def spByte : Sp := fun vs H Q _ => ∃ i : Int, vs = [.int i] ∧ 0 ≤ i ∧ i ≤ 255 ∧ Q (.bl true) H
abbrev N_is_byte : List Str := ["value"]
theorem sc_is_byte : FnScope N_is_byte ["value"] (defScope s_is_byte) := ⟨rfl, rfl, rfl, by decide +kernel, rfl, by decide +kernel, by decide +kernel⟩
theorem ok_is_byte {f : Addr} {fd : FuncData} (T : Gl2 mg) (F : DefX K mg "is_byte" s_is_byte ["value"] f fd) : CalX P w K mg base 1 "is_byte" spByte := by
  refine calx F sc_is_byte (fun vs H Q E h => ?_) (fun cdv A outer s H vs Q E hr h => ?_)
  · obtain ⟨i, rfl, _⟩ := h
    rfl
  · obtain ⟨i, rfl, i0, i1, k⟩ := h
    refine ⟨_, (pss_one (ps_ret (pe_and (pe_callB call_isi (by rfl) T.n_isinstance Boot.«isinstance» (pa_cons (pv 0) (pa_cons (pe_bltn (v := .ty "int") (by rfl) T.n_int Boot.«int» rfl) pa_nil))) (pe_and (pe_not (pe_callB call_isi (by rfl) T.n_isinstance Boot.«isinstance» (pa_cons (pv 0) (pa_cons (pe_bltn (v := .ty "bool") (by rfl) T.n_bool Boot.«bool» rfl) pa_nil)))) (pe_one (pe_chain op_le op_le pe_int (pv 0) pe_int)))))), ?_⟩
    refine ⟨_, rfl, V.int i, V.ty "int", .type "int", .type "int", true, rfl, .ty "int", .base (.int i), ii, _, rfl, iteT ?_⟩
    refine ⟨_, rfl, V.int i, V.ty "bool", .type "int", .type "bool", false, rfl, .ty "bool", .base (.int i), ib, _, rfl, _, rfl, iteT ?_⟩
    refine ⟨_, rfl, _, _, rfl, rfl, _, rfl, ?_⟩
    refine ite2 (fun _ => ?_) (fun c => absurd (decide_eq_true i0) c)
    refine ⟨_, _, rfl, rfl, ?_⟩
    have e : decide (i ≤ (255 : Int)) = true := decide_eq_true i1
    show Q (V.bl (decide (i ≤ 255))) H
    rw [e]
    exact k
/-! ### is_string -/
def OkS (x : Str) : Prop := ∀ (i : Nat) c, x.cps[i]? = some c → decide ((⟨#[c]⟩ : Str).cps.toList < (" " : Str).cps.toList) = false ∧ decide (("~" : Str).cps.toList < (⟨#[c]⟩ : Str).cps.toList) = false ∧ (((⟨#[c]⟩ : Str).cps.getD 0 0 : Nat) : Int) ≠ 37
def spStr : Sp := fun vs H Q _ => ∃ x : Str, vs = [.str x] ∧ x.cps.size ≤ 1000 ∧ OkS x ∧ ∀ H', Same H H' → Q (.bl true) H'
abbrev N_is_string : List Str := ["value", "sign"]
theorem sc_is_string : FnScope N_is_string ["value"] (defScope s_is_string) := ⟨rfl, rfl, rfl, by decide +kernel, rfl, by decide +kernel, by decide +kernel⟩
theorem all_trues (n : Nat) : (List.replicate n true).all id = true := by
  induction n with
  | zero => rfl
  | succ n ih =>
    rw [List.replicate_succ, List.all_cons, ih]
    rfl
theorem ok_is_string {f : Addr} {fd : FuncData} (T : Gl2 mg) (F : DefX K mg "is_string" s_is_string ["value"] f fd) : CalX P w K mg base 1 "is_string" spStr := by
  refine calx F sc_is_string (fun vs H Q E h => ?_) (fun cdv A outer s H vs Q E hr h => ?_)
  · obtain ⟨i, rfl, _⟩ := h
    rfl
  · obtain ⟨x, rfl, hz, ok, k⟩ := h
    refine ⟨_, (pss_one (ps_ret (pe_and (pe_callB call_isi (by rfl) T.n_isinstance Boot.«isinstance» (pa_cons (pv 0) (pa_cons (pe_bltn (v := .ty "str") (by rfl) T.n_str Boot.«str» rfl) pa_nil))) (pe_one (pe_callB (cr_all rfl) (by rfl) T.n_all Boot.«all» (pa_cons (pe_lc (own := [("sign", 1)]) (g := gName 1) (tt := tYes) rfl sc_is_string.nd (pi_str (pv 0)) (blkOk_by (own := [("sign", 1)]) (N := N_is_string) (sc := defScope s_is_string) (by decide +kernel)) (fun _ _ _ _ _ => (pg_name (i := 1) sc_is_string.nd rfl (Or.inl rfl))) (fun _ _ _ _ _ => pts_nil) (fun _ _ _ _ _ => (pe_and (pe_chain op_le_str op_le_str pe_str (pv 1) pe_str) (pe_one (pe_cmpR op_ne (pe_callB call_ord (by rfl) T.n_ord Boot.«ord» (pa_cons (pv 1) pa_nil)) pe_int (nomark _)))))) pa_nil)))))), ?_⟩
    refine ⟨_, rfl, V.str x, V.ty "str", .type "str", .type "str", true, rfl, .ty "str", .base (.str x), ss, _, rfl, iteT ?_⟩
    refine ⟨_, rfl, x, rfl, fun D nD => lc_it walk_str (fun i H' => Same H H' ∧ H' D = some (.lst ((List.replicate i true).map V.bl))) ⟨Same.new nD, by rw [upd_same]; rfl⟩ (fun _ _ _ _ => trivial) ?_ ?_⟩
    · rintro i v H' H'' hi ⟨s2, hD⟩ ⟨rfl, c, hc, rfl⟩
      obtain ⟨o1, o2, o3⟩ := ok i c hc
      refine ⟨rfl, ?_⟩
      refine ⟨_, rfl, _, _, rfl, rfl, _, rfl, ?_⟩
      rw [o1]
      refine iteT ⟨_, _, rfl, rfl, ?_⟩
      rw [o2]
      refine ⟨_, rfl, iteT ?_⟩
      refine ⟨_, rfl, _, rfl, rfl, rfl, ?_⟩
      refine ⟨_, hD, ?_, ?_, ?_⟩
      · rw [List.length_map, List.length_replicate]
        exact Nat.lt_of_lt_of_le hi (Nat.le_trans hz (by decide))
      · exact Same.mut s2 nD
      · rw [upd_same, List.replicate_succ', List.map_append]
        have e : (!decide (V.int (((⟨#[c]⟩ : Str).cps.getD 0 0 : Nat) : Int) = V.int 37)) = true := by
          rw [decide_eq_false (fun z => o3 (by injection z))]
          rfl
        rw [e]
        rfl
    · rintro H' ⟨s2, hD⟩
      refine ⟨D, _, rfl, SqL.of hD, ?_⟩
      rw [all_trues]
      exact k H' s2
/-! ### are_bytes, are_strings, is_constant, are_constants -/
theorem two_cls : Paired ClsV [V.ty "list", V.ty "tuple"] [.type "list", .type "tuple"] := .cons (.ty "list") (.cons (.ty "tuple") .nil)
def spBytesOf : Sp := fun vs H Q _ => ∃ (a : Addr) (xs : List Int), vs = [.ref a] ∧ LorT H a (xs.map V.int) ∧ (∀ n ∈ xs, 0 ≤ n ∧ n ≤ 255) ∧ xs.length ≤ 100000 ∧ ∀ H', Same H H' → Q (.bl true) H'
abbrev N_are_bytes : List Str := ["value", "one"]
theorem sc_are_bytes : FnScope N_are_bytes ["value"] (defScope s_are_bytes) := ⟨rfl, rfl, rfl, by decide +kernel, rfl, by decide +kernel, by decide +kernel⟩
theorem ok_are_bytes {f : Addr} {fd : FuncData} (T : Gl2 mg) (c_is_byte : CalX P w K mg base 1 "is_byte" spByte) (F : DefX K mg "are_bytes" s_are_bytes ["value"] f fd) : CalX P w K mg base 2 "are_bytes" spBytesOf := by
  refine calx F sc_are_bytes (fun vs H Q E h => ?_) (fun cdv A outer s H vs Q E hr h => ?_)
  · obtain ⟨a, xs, rfl, _⟩ := h
    rfl
  · obtain ⟨a, xs, rfl, ha, hb, hz, k⟩ := h
    refine ⟨_, (pss_one (ps_ret (pe_and (pe_callB call_isiT (by rfl) T.n_isinstance Boot.«isinstance» (pa_cons (pv 0) (pa_cons (pe_tup (pa_cons (pe_bltn (v := .ty "list") (by rfl) T.n_list Boot.«list» rfl) (pa_cons (pe_bltn (v := .ty "tuple") (by rfl) T.n_tuple Boot.«tuple» rfl) pa_nil))) pa_nil))) (pe_one (pe_callB (cr_all rfl) (by rfl) T.n_all Boot.«all» (pa_cons (pe_lc (own := [("one", 1)]) (g := gName 1) (tt := tYes) rfl sc_are_bytes.nd (pi_seq (pv 0)) (blkOk_by (own := [("one", 1)]) (N := N_are_bytes) (sc := defScope s_are_bytes) (by decide +kernel)) (fun _ _ _ _ _ => (pg_name (i := 1) sc_are_bytes.nd rfl (Or.inl rfl))) (fun _ _ _ _ _ => pts_nil) (fun _ _ _ _ _ => (pe_cx c_is_byte hr (by decide) rfl (pa_cons (pv 1) pa_nil)))) pa_nil)))))), ?_⟩
    refine ⟨_, rfl, (by show 2 ≤ sizeLine; decide), ?_⟩
    walk_at "new1"
    have ha1 := ha.same s1
    obtain ⟨t, ty, kt⟩ := ha1.ty (K := K)
    refine ⟨V.ref a, p1, _, .type t, _, true, rfl, h1, two_cls, ty, kt, _, rfl, iteT ?_⟩
    refine ⟨_, rfl, a, rfl, lc_both (K := K) ha1.sq (fun D i H' => Same H1 H' ∧ H' D = some (.lst ((List.replicate i true).map V.bl))) (fun D nD => ⟨Same.new nD, by rw [upd_same]; rfl⟩) (fun D i H' _ _ p => p.1) ?_ ?_⟩
    · rintro D i x H' nD hi ⟨s2, hD⟩
      have hil : i < xs.length := by
        have := (List.getElem?_eq_some_iff.mp hi).1
        simpa using this
      have hacc : ((List.replicate i true).map V.bl).length < sizeLine := by
        rw [List.length_map, List.length_replicate]
        exact Nat.lt_of_lt_of_le hil (Nat.le_trans hz (by decide))
      have hup : upd H' D (.lst ((List.replicate i true).map V.bl ++ [.bl true])) D = some (.lst ((List.replicate (i + 1) true).map V.bl)) := by
        rw [upd_same, List.replicate_succ', List.map_append]
        rfl
      obtain ⟨z, hz', rfl⟩ : ∃ z, xs[i]? = some z ∧ x = V.int z := by
        rw [List.getElem?_map] at hi
        obtain ⟨z, e, q⟩ := Option.map_eq_some_iff.mp hi
        exact ⟨z, e, q.symm⟩
      obtain ⟨b0, b1⟩ := hb z (List.mem_of_getElem? hz')
      refine ⟨rfl, ?_⟩
      exact ⟨_, rfl, z, rfl, b0, b1, _, hD, hacc, Same.mut s2 nD, hup⟩
    · rintro D H' nD ⟨s2, hD⟩
      refine ⟨D, _, rfl, SqL.of hD, ?_⟩
      rw [all_trues]
      exact k H' (s1.trans s2)
def spStrs : Sp := fun vs H Q _ => ∃ (a : Addr) (xs : List Str), vs = [.ref a] ∧ LorT H a (xs.map V.str) ∧ (∀ x ∈ xs, x.cps.size ≤ 1000 ∧ OkS x) ∧ xs.length ≤ 100000 ∧ ∀ H', Same H H' → Q (.bl true) H'
abbrev N_are_strings : List Str := ["value", "one"]
theorem sc_are_strings : FnScope N_are_strings ["value"] (defScope s_are_strings) := ⟨rfl, rfl, rfl, by decide +kernel, rfl, by decide +kernel, by decide +kernel⟩
theorem ok_are_strings {f : Addr} {fd : FuncData} (T : Gl2 mg) (c_is_string : CalX P w K mg base 1 "is_string" spStr) (F : DefX K mg "are_strings" s_are_strings ["value"] f fd) : CalX P w K mg base 2 "are_strings" spStrs := by
  refine calx F sc_are_strings (fun vs H Q E h => ?_) (fun cdv A outer s H vs Q E hr h => ?_)
  · obtain ⟨a, xs, rfl, _⟩ := h
    rfl
  · obtain ⟨a, xs, rfl, ha, hb, hz, k⟩ := h
    refine ⟨_, (pss_one (ps_ret (pe_and (pe_callB call_isiT (by rfl) T.n_isinstance Boot.«isinstance» (pa_cons (pv 0) (pa_cons (pe_tup (pa_cons (pe_bltn (v := .ty "list") (by rfl) T.n_list Boot.«list» rfl) (pa_cons (pe_bltn (v := .ty "tuple") (by rfl) T.n_tuple Boot.«tuple» rfl) pa_nil))) pa_nil))) (pe_one (pe_callB (cr_all rfl) (by rfl) T.n_all Boot.«all» (pa_cons (pe_lc (own := [("one", 1)]) (g := gName 1) (tt := tYes) rfl sc_are_strings.nd (pi_seq (pv 0)) (blkOk_by (own := [("one", 1)]) (N := N_are_strings) (sc := defScope s_are_strings) (by decide +kernel)) (fun _ _ _ _ _ => (pg_name (i := 1) sc_are_strings.nd rfl (Or.inl rfl))) (fun _ _ _ _ _ => pts_nil) (fun _ _ _ _ _ => (pe_cx c_is_string hr (by decide) rfl (pa_cons (pv 1) pa_nil)))) pa_nil)))))), ?_⟩
    refine ⟨_, rfl, (by show 2 ≤ sizeLine; decide), ?_⟩
    walk_at "new1"
    have ha1 := ha.same s1
    obtain ⟨t, ty, kt⟩ := ha1.ty (K := K)
    refine ⟨V.ref a, p1, _, .type t, _, true, rfl, h1, two_cls, ty, kt, _, rfl, iteT ?_⟩
    refine ⟨_, rfl, a, rfl, lc_both (K := K) ha1.sq (fun D i H' => Same H1 H' ∧ H' D = some (.lst ((List.replicate i true).map V.bl))) (fun D nD => ⟨Same.new nD, by rw [upd_same]; rfl⟩) (fun D i H' _ _ p => p.1) ?_ ?_⟩
    · rintro D i x H' nD hi ⟨s2, hD⟩
      have hil : i < xs.length := by
        have := (List.getElem?_eq_some_iff.mp hi).1
        simpa using this
      have hacc : ((List.replicate i true).map V.bl).length < sizeLine := by
        rw [List.length_map, List.length_replicate]
        exact Nat.lt_of_lt_of_le hil (Nat.le_trans hz (by decide))
      have hup : upd H' D (.lst ((List.replicate i true).map V.bl ++ [.bl true])) D = some (.lst ((List.replicate (i + 1) true).map V.bl)) := by
        rw [upd_same, List.replicate_succ', List.map_append]
        rfl
      obtain ⟨z, hz', rfl⟩ : ∃ z, xs[i]? = some z ∧ x = V.str z := by
        rw [List.getElem?_map] at hi
        obtain ⟨z, e, q⟩ := Option.map_eq_some_iff.mp hi
        exact ⟨z, e, q.symm⟩
      obtain ⟨b0, b1⟩ := hb z (List.mem_of_getElem? hz')
      refine ⟨rfl, ?_⟩
      refine ⟨_, rfl, z, rfl, b0, b1, fun J sJ => ?_⟩
      refine ⟨_, sJ _ _ hD, hacc, Same.mut (s2.trans sJ) nD, ?_⟩
      rw [upd_same, List.replicate_succ', List.map_append]
      rfl
    · rintro D H' nD ⟨s2, hD⟩
      refine ⟨D, _, rfl, SqL.of hD, ?_⟩
      rw [all_trues]
      exact k H' (s1.trans s2)
/-- what may stand in a tuple of constants, d deep -/
inductive KIn (H : Hp) : Nat → V → Prop
  | non {d : Nat} : KIn H d .non
  | bl {d : Nat} (b : Bool) : KIn H d (.bl b)
  | int {d : Nat} (i : Int) : KIn H d (.int i)
  | str {d : Nat} (x : Str) (h1 : x.cps.size ≤ 1000) (h2 : OkS x) : KIn H d (.str x)
  | tup {d : Nat} {a : Addr} {xs : List V} (h : H a = some (.tup xs)) (hl : xs.length ≤ 100000) (hx : ∀ x ∈ xs, KIn H d x) : KIn H (d + 1) (.ref a)
theorem KIn.same {H H' : Hp} (s : Same H H') : ∀ {d : Nat} {x : V}, KIn H d x → KIn H' d x
  | _, _, .non => .non
  | _, _, .bl b => .bl b
  | _, _, .int i => .int i
  | _, _, .str x h1 h2 => .str x h1 h2
  | _, _, .tup h hl hx => .tup (s _ _ h) hl fun x m => KIn.same s (hx x m)
theorem KIn.up {H : Hp} : ∀ {d : Nat} {x : V}, KIn H d x → KIn H (d + 1) x
  | _, _, .non => .non
  | _, _, .bl b => .bl b
  | _, _, .int i => .int i
  | _, _, .str x h1 h2 => .str x h1 h2
  | _, _, .tup h hl hx => .tup h hl fun x m => KIn.up (hx x m)
/-- a Code among the constants, nested j -/
def KCode (Cc : Addr) (H : Hp) (x : V) (j : Int) : Prop := ∃ (a dx : Addr) (fs : List (Str × V)), x = .ref a ∧ H a = some (.ins Cc dx fs) ∧ fs.lookup ("nested" : Str) = some (.int j) ∧ 1 ≤ j ∧ j < 100
theorem KCode.same {Cc : Addr} {H H' : Hp} {x : V} {j : Int} (s : Same H H') (h : KCode Cc H x j) : KCode Cc H' x j := by
  obtain ⟨a, dx, fs, e, h, k⟩ := h
  exact ⟨a, dx, fs, e, s _ _ h, k⟩
def spConst (Cc : Addr) (d : Nat) : Sp := fun vs H Q _ => ∃ (x : V) (n : Int), vs = [x, .int n] ∧ 0 ≤ n ∧ n + d ≤ 100 ∧ (KIn H d x ∨ n = 0 ∧ ∃ j, KCode Cc H x j) ∧ ∀ H', Same H H' → Q (.bl true) H'
theorem ktt {K : PySem.W.Frag} : PySem.W.kitOne K (.type "tuple") (.type "tuple") = some true := kit_ty (by decide +kernel)
theorem knt {K : PySem.W.Frag} {t : String} (h : t ∈ ["NoneType", "bool", "int", "str"]) : PySem.W.kitOne K (.type t) (.type "tuple") = some false := by
  simp only [List.mem_cons, List.mem_nil_iff, or_false] at h
  rcases h with rfl | rfl | rfl | rfl <;> exact kit_ty (by decide +kernel)
theorem kbi {K : PySem.W.Frag} : PySem.W.kitOne K (.type "bool") (.type "int") = some true := kit_ty (by decide +kernel)
theorem ksi {K : PySem.W.Frag} : PySem.W.kitOne K (.type "str") (.type "int") = some false := kit_ty (by decide +kernel)
abbrev N_is_constant : List Str := ["value", "nested", "one"]
theorem sc_is_constant : FnScope N_is_constant ["value", "nested"] (defScope s_is_constant) := ⟨rfl, rfl, rfl, by decide +kernel, rfl, by decide +kernel, by decide +kernel⟩
section
variable {Cc Cn fI : Addr}
/-- what is asked of Code's own type besides -/
structure GlC (K : PySem.W.Frag) (Cc : Addr) : Prop where
  nt : PySem.W.kitOne K (.ref Cc) (.type "tuple") = some false
theorem const_zero {f : Addr} {fd : FuncData} (T : Gl2 mg) (G : GlK P K mg Cc Cn fI) (GC : GlC K Cc) (c_is_string : CalX P w K mg base 1 "is_string" spStr) (F : DefX K mg "is_constant" s_is_constant ["value", "nested"] f fd) : CalX P w K mg base 2 "is_constant" (spConst Cc 0) := by
  refine calx F sc_is_constant (fun vs H Q E h => ?_) (fun cdv A outer s H vs Q E hr h => ?_)
  · obtain ⟨x, n, rfl, _⟩ := h
    rfl
  · obtain ⟨x, n, rfl, n0, n1, hx, k⟩ := h
    refine ⟨_, (pss_cons (ps_if (pt_val (pe_callB call_isi (by rfl) T.n_isinstance Boot.«isinstance» (pa_cons (pv 0) (pa_cons (pe_bltn (v := .ty "tuple") (by rfl) T.n_tuple Boot.«tuple» rfl) pa_nil))))
      (pss_one ps_never)
      pss_nil)
    (pss_cons (ps_if (pt_val (pe_callB call_isi (by rfl) T.n_isinstance Boot.«isinstance» (pa_cons (pv 0) (pa_cons (C8.pe_gc rfl G.c_Code) pa_nil))))
      (pss_one (ps_ret (pe_and (pe_cmpR op_eq (pv 1) pe_int (nomark _)) (pe_one (pe_cmpR op_lt (pe_fld (pv 0) rfl) (C8.pe_gc rfl T.c_MOST_NESTED) (nomark _))))))
      pss_nil)
    (pss_one (ps_ret (pe_or (pe_cmpR op_isN (pv 0) pe_non (nomark _)) (pe_or (pe_callB call_isi (by rfl) T.n_isinstance Boot.«isinstance» (pa_cons (pv 0) (pa_cons (pe_bltn (v := .ty "int") (by rfl) T.n_int Boot.«int» rfl) pa_nil))) (pe_one (pe_cx c_is_string (hr.mono (Nat.succ_le_succ (Nat.zero_le _))) (Nat.le_refl _) rfl (pa_cons (pv 0) pa_nil))))))))), ?_⟩
    rcases hx with hx | ⟨rfl, j, a, dx, fs, rfl, ha, hl, j0, j1⟩
    rotate_left
    · have ty : TyX K H (.ref a) (.ref Cc) := .base (.ins ha G.ins.cl G.ins.ha G.ins.hn G.ins.htk G.ins.hm)
      refine ⟨_, rfl, V.ref a, V.ty "tuple", .ref Cc, .type "tuple", false, rfl, .ty "tuple", ty, GC.nt, _, rfl, iteF ?_⟩
      refine ⟨_, rfl, V.ref a, V.ref Cc, .ref Cc, .ref Cc, true, rfl, .own Cc, ty, G.ins.me, _, rfl, iteT ?_⟩
      refine ⟨_, rfl, rfl, _, rfl, iteT ?_⟩
      refine ⟨_, rfl, a, Cc, dx, fs, _, rfl, ha, G.ins.cl, G.na _ (by decide), hl, _, _, rfl, rfl, ?_⟩
      have e : decide (j < (100 : Int)) = true := decide_eq_true j1
      show Q (V.bl (decide (j < 100))) H
      rw [e]
      exact k _ (Same.refl _)
    cases hx with
    | non =>
      refine ⟨_, rfl, V.non, V.ty "tuple", .type "NoneType", .type "tuple", false, rfl, .ty "tuple", .base .non, knt (by simp), _, rfl, iteF ?_⟩
      refine ⟨_, rfl, V.non, V.ref Cc, .type "NoneType", .ref Cc, false, rfl, .own Cc, .base .non, G.no "NoneType" (by decide), _, rfl, iteF ?_⟩
      refine ⟨_, rfl, rfl, _, rfl, iteT ?_⟩
      exact k _ (Same.refl _)
    | bl b =>
      refine ⟨_, rfl, V.bl b, V.ty "tuple", .type "bool", .type "tuple", false, rfl, .ty "tuple", .base (.bl b), knt (by simp), _, rfl, iteF ?_⟩
      refine ⟨_, rfl, V.bl b, V.ref Cc, .type "bool", .ref Cc, false, rfl, .own Cc, .base (.bl b), G.no "bool" (by decide), _, rfl, iteF ?_⟩
      refine ⟨_, rfl, rfl, _, rfl, iteF ?_⟩
      refine ⟨_, rfl, V.bl b, V.ty "int", .type "bool", .type "int", true, rfl, .ty "int", .base (.bl b), kbi, _, rfl, iteT ?_⟩
      exact k _ (Same.refl _)
    | int i =>
      refine ⟨_, rfl, V.int i, V.ty "tuple", .type "int", .type "tuple", false, rfl, .ty "tuple", .base (.int i), knt (by simp), _, rfl, iteF ?_⟩
      refine ⟨_, rfl, V.int i, V.ref Cc, .type "int", .ref Cc, false, rfl, .own Cc, .base (.int i), G.no "int" (by decide), _, rfl, iteF ?_⟩
      refine ⟨_, rfl, rfl, _, rfl, iteF ?_⟩
      refine ⟨_, rfl, V.int i, V.ty "int", .type "int", .type "int", true, rfl, .ty "int", .base (.int i), ii, _, rfl, iteT ?_⟩
      exact k _ (Same.refl _)
    | str z h1 h2 =>
      refine ⟨_, rfl, V.str z, V.ty "tuple", .type "str", .type "tuple", false, rfl, .ty "tuple", .base (.str z), knt (by simp), _, rfl, iteF ?_⟩
      refine ⟨_, rfl, V.str z, V.ref Cc, .type "str", .ref Cc, false, rfl, .own Cc, .base (.str z), G.no "str" (by decide), _, rfl, iteF ?_⟩
      refine ⟨_, rfl, rfl, _, rfl, iteF ?_⟩
      refine ⟨_, rfl, V.str z, V.ty "int", .type "str", .type "int", false, rfl, .ty "int", .base (.str z), ksi, _, rfl, iteF ?_⟩
      exact ⟨_, rfl, z, rfl, h1, h2, fun J sJ => k J sJ⟩
theorem const_succ {f : Addr} {fd : FuncData} (d : Nat) (T : Gl2 mg) (G : GlK P K mg Cc Cn fI) (GC : GlC K Cc) (c_is_string : CalX P w K mg base 1 "is_string" spStr) (ih : CalX P w K mg base (d + 2) "is_constant" (spConst Cc d)) (F : DefX K mg "is_constant" s_is_constant ["value", "nested"] f fd) : CalX P w K mg base (d + 3) "is_constant" (spConst Cc (d + 1)) := by
  refine calx F sc_is_constant (fun vs H Q E h => ?_) (fun cdv A outer s H vs Q E hr h => ?_)
  · obtain ⟨x, n, rfl, _⟩ := h
    rfl
  · obtain ⟨x, n, rfl, n0, n1, hx, k⟩ := h
    refine ⟨_, (pss_cons (ps_if (pt_val (pe_callB call_isi (by rfl) T.n_isinstance Boot.«isinstance» (pa_cons (pv 0) (pa_cons (pe_bltn (v := .ty "tuple") (by rfl) T.n_tuple Boot.«tuple» rfl) pa_nil))))
      (pss_one (ps_ret (pe_and (pe_cmpR op_lt (pv 1) (C8.pe_gc rfl T.c_MOST_NESTED) (nomark _)) (pe_one (pe_callB (cr_all rfl) (by rfl) T.n_all Boot.«all» (pa_cons (pe_lc (own := [("one", 2)]) (g := gName 2) (tt := tYes) rfl sc_is_constant.nd (pi_tup (pv 0)) (blkOk_by (own := [("one", 2)]) (N := N_is_constant) (sc := defScope s_is_constant) (by decide +kernel)) (fun _ _ _ _ _ => (pg_name (i := 2) sc_is_constant.nd rfl (Or.inl rfl))) (fun _ _ _ _ _ => pts_nil) (fun _ _ _ _ _ => (pe_cx ih hr (Nat.le_refl _) rfl (pa_cons (pv 2) (pa_cons (pe_op op_add (pv 1) pe_int) pa_nil))))) pa_nil))))))
      pss_nil)
    (pss_cons (ps_if (pt_val (pe_callB call_isi (by rfl) T.n_isinstance Boot.«isinstance» (pa_cons (pv 0) (pa_cons (C8.pe_gc rfl G.c_Code) pa_nil))))
      (pss_one (ps_ret (pe_and (pe_cmpR op_eq (pv 1) pe_int (nomark _)) (pe_one (pe_cmpR op_lt (pe_fld (pv 0) rfl) (C8.pe_gc rfl T.c_MOST_NESTED) (nomark _))))))
      pss_nil)
    (pss_one (ps_ret (pe_or (pe_cmpR op_isN (pv 0) pe_non (nomark _)) (pe_or (pe_callB call_isi (by rfl) T.n_isinstance Boot.«isinstance» (pa_cons (pv 0) (pa_cons (pe_bltn (v := .ty "int") (by rfl) T.n_int Boot.«int» rfl) pa_nil))) (pe_one (pe_cx c_is_string (hr.mono (Nat.succ_le_succ (Nat.zero_le _))) (Nat.le_refl _) rfl (pa_cons (pv 0) pa_nil))))))))), ?_⟩
    rcases hx with hx | ⟨rfl, j, a, dx, fs, rfl, ha, hl, j0, j1⟩
    rotate_left
    · have ty : TyX K H (.ref a) (.ref Cc) := .base (.ins ha G.ins.cl G.ins.ha G.ins.hn G.ins.htk G.ins.hm)
      refine ⟨_, rfl, V.ref a, V.ty "tuple", .ref Cc, .type "tuple", false, rfl, .ty "tuple", ty, GC.nt, _, rfl, iteF ?_⟩
      refine ⟨_, rfl, V.ref a, V.ref Cc, .ref Cc, .ref Cc, true, rfl, .own Cc, ty, G.ins.me, _, rfl, iteT ?_⟩
      refine ⟨_, rfl, rfl, _, rfl, iteT ?_⟩
      refine ⟨_, rfl, a, Cc, dx, fs, _, rfl, ha, G.ins.cl, G.na _ (by decide), hl, _, _, rfl, rfl, ?_⟩
      have e : decide (j < (100 : Int)) = true := decide_eq_true j1
      show Q (V.bl (decide (j < 100))) H
      rw [e]
      exact k _ (Same.refl _)
    cases hx with
    | non =>
      refine ⟨_, rfl, V.non, V.ty "tuple", .type "NoneType", .type "tuple", false, rfl, .ty "tuple", .base .non, knt (by simp), _, rfl, iteF ?_⟩
      refine ⟨_, rfl, V.non, V.ref Cc, .type "NoneType", .ref Cc, false, rfl, .own Cc, .base .non, G.no "NoneType" (by decide), _, rfl, iteF ?_⟩
      refine ⟨_, rfl, rfl, _, rfl, iteT ?_⟩
      exact k _ (Same.refl _)
    | bl b =>
      refine ⟨_, rfl, V.bl b, V.ty "tuple", .type "bool", .type "tuple", false, rfl, .ty "tuple", .base (.bl b), knt (by simp), _, rfl, iteF ?_⟩
      refine ⟨_, rfl, V.bl b, V.ref Cc, .type "bool", .ref Cc, false, rfl, .own Cc, .base (.bl b), G.no "bool" (by decide), _, rfl, iteF ?_⟩
      refine ⟨_, rfl, rfl, _, rfl, iteF ?_⟩
      refine ⟨_, rfl, V.bl b, V.ty "int", .type "bool", .type "int", true, rfl, .ty "int", .base (.bl b), kbi, _, rfl, iteT ?_⟩
      exact k _ (Same.refl _)
    | int i =>
      refine ⟨_, rfl, V.int i, V.ty "tuple", .type "int", .type "tuple", false, rfl, .ty "tuple", .base (.int i), knt (by simp), _, rfl, iteF ?_⟩
      refine ⟨_, rfl, V.int i, V.ref Cc, .type "int", .ref Cc, false, rfl, .own Cc, .base (.int i), G.no "int" (by decide), _, rfl, iteF ?_⟩
      refine ⟨_, rfl, rfl, _, rfl, iteF ?_⟩
      refine ⟨_, rfl, V.int i, V.ty "int", .type "int", .type "int", true, rfl, .ty "int", .base (.int i), ii, _, rfl, iteT ?_⟩
      exact k _ (Same.refl _)
    | str z h1 h2 =>
      refine ⟨_, rfl, V.str z, V.ty "tuple", .type "str", .type "tuple", false, rfl, .ty "tuple", .base (.str z), knt (by simp), _, rfl, iteF ?_⟩
      refine ⟨_, rfl, V.str z, V.ref Cc, .type "str", .ref Cc, false, rfl, .own Cc, .base (.str z), G.no "str" (by decide), _, rfl, iteF ?_⟩
      refine ⟨_, rfl, rfl, _, rfl, iteF ?_⟩
      refine ⟨_, rfl, V.str z, V.ty "int", .type "str", .type "int", false, rfl, .ty "int", .base (.str z), ksi, _, rfl, iteF ?_⟩
      exact ⟨_, rfl, z, rfl, h1, h2, fun J sJ => k J sJ⟩
    | @tup _ a xs h hl hx =>
      refine ⟨_, rfl, V.ref a, V.ty "tuple", .type "tuple", .type "tuple", true, rfl, .ty "tuple", .base (.tup h), ktt, _, rfl, iteT ?_⟩
      refine ⟨_, rfl, _, _, rfl, rfl, _, rfl, ite2 (fun _ => ?_) (fun c => absurd (decide_eq_true (by omega)) c)⟩
      refine ⟨_, rfl, a, rfl, ⟨_, SqT.of h⟩, fun D nD => lc_tup (K := K) (a := a) (xs := xs) (fun i H' => Same H H' ∧ H' D = some (.lst ((List.replicate i true).map V.bl))) ⟨Same.new nD, by rw [upd_same]; rfl⟩ (fun i H' _ p => SqT.of (p.1 _ _ h)) ?_ ?_⟩
      · rintro i x H' hi ⟨s2, hD⟩
        have hil : i < xs.length := (List.getElem?_eq_some_iff.mp hi).1
        refine ⟨rfl, ?_⟩
        refine ⟨_, rfl, _, rfl, _, _, rfl, rfl, x, n + 1, rfl, by omega, by omega, .inl ((hx x (List.mem_of_getElem? hi)).same s2), fun J sJ => ?_⟩
        refine ⟨_, sJ _ _ hD, ?_, Same.mut (s2.trans sJ) nD, ?_⟩
        · rw [List.length_map, List.length_replicate]
          exact Nat.lt_of_lt_of_le hil (Nat.le_trans hl (by decide))
        · rw [upd_same, List.replicate_succ', List.map_append]
          rfl
      · rintro H' ⟨s2, hD⟩
        refine ⟨D, _, rfl, SqL.of hD, ?_⟩
        rw [all_trues]
        exact k H' s2
theorem ok_is_constant {f : Addr} {fd : FuncData} (T : Gl2 mg) (G : GlK P K mg Cc Cn fI) (GC : GlC K Cc) (c_is_string : CalX P w K mg base 1 "is_string" spStr) (F : DefX K mg "is_constant" s_is_constant ["value", "nested"] f fd) : ∀ d, CalX P w K mg base (d + 2) "is_constant" (spConst Cc d)
  | 0 => const_zero T G GC c_is_string F
  | d + 1 => const_succ d T G GC c_is_string (ok_is_constant T G GC c_is_string F d) F
def spConsts (Cc : Addr) (d : Nat) : Sp := fun vs H Q _ => ∃ (a : Addr) (xs : List V), vs = [.ref a] ∧ LorT H a xs ∧ (∀ x ∈ xs, KIn H d x ∨ ∃ j, KCode Cc H x j) ∧ xs.length ≤ 100000 ∧ ∀ H', Same H H' → Q (.bl true) H'
abbrev N_are_constants : List Str := ["value", "one"]
theorem sc_are_constants : FnScope N_are_constants ["value"] (defScope s_are_constants) := ⟨rfl, rfl, rfl, by decide +kernel, rfl, by decide +kernel, by decide +kernel⟩
theorem ok_are_constants {f : Addr} {fd : FuncData} (T : Gl2 mg) {d : Nat} (hd : d ≤ 100) (c_is_constant : CalX P w K mg base (d + 2) "is_constant" (spConst Cc d)) (F : DefX K mg "are_constants" s_are_constants ["value"] f fd) : CalX P w K mg base (d + 3) "are_constants" (spConsts Cc d) := by
  refine calx F sc_are_constants (fun vs H Q E h => ?_) (fun cdv A outer s H vs Q E hr h => ?_)
  · obtain ⟨a, xs, rfl, _⟩ := h
    rfl
  · obtain ⟨a, xs, rfl, ha, hb, hz, k⟩ := h
    refine ⟨_, (pss_one (ps_ret (pe_and (pe_callB call_isiT (by rfl) T.n_isinstance Boot.«isinstance» (pa_cons (pv 0) (pa_cons (pe_tup (pa_cons (pe_bltn (v := .ty "list") (by rfl) T.n_list Boot.«list» rfl) (pa_cons (pe_bltn (v := .ty "tuple") (by rfl) T.n_tuple Boot.«tuple» rfl) pa_nil))) pa_nil))) (pe_one (pe_callB (cr_all rfl) (by rfl) T.n_all Boot.«all» (pa_cons (pe_lc (own := [("one", 1)]) (g := gName 1) (tt := tYes) rfl sc_are_constants.nd (pi_seq (pv 0)) (blkOk_by (own := [("one", 1)]) (N := N_are_constants) (sc := defScope s_are_constants) (by decide +kernel)) (fun _ _ _ _ _ => (pg_name (i := 1) sc_are_constants.nd rfl (Or.inl rfl))) (fun _ _ _ _ _ => pts_nil) (fun _ _ _ _ _ => (pe_cx c_is_constant hr (Nat.le_refl _) rfl (pa_cons (pv 1) (pa_cons pe_int pa_nil))))) pa_nil)))))), ?_⟩
    refine ⟨_, rfl, (by show 2 ≤ sizeLine; decide), ?_⟩
    walk_at "new1"
    have ha1 := ha.same s1
    obtain ⟨t, ty, kt⟩ := ha1.ty (K := K)
    refine ⟨V.ref a, p1, _, .type t, _, true, rfl, h1, two_cls, ty, kt, _, rfl, iteT ?_⟩
    refine ⟨_, rfl, a, rfl, lc_both (K := K) ha1.sq (fun D i H' => Same H1 H' ∧ H' D = some (.lst ((List.replicate i true).map V.bl))) (fun D nD => ⟨Same.new nD, by rw [upd_same]; rfl⟩) (fun D i H' _ _ p => p.1) ?_ ?_⟩
    · rintro D i x H' nD hi ⟨s2, hD⟩
      have hil : i < xs.length := by
        have := (List.getElem?_eq_some_iff.mp hi).1
        simpa using this
      have hacc : ((List.replicate i true).map V.bl).length < sizeLine := by
        rw [List.length_map, List.length_replicate]
        exact Nat.lt_of_lt_of_le hil (Nat.le_trans hz (by decide))
      have hup : upd H' D (.lst ((List.replicate i true).map V.bl ++ [.bl true])) D = some (.lst ((List.replicate (i + 1) true).map V.bl)) := by
        rw [upd_same, List.replicate_succ', List.map_append]
        rfl
      refine ⟨rfl, ?_⟩
      refine ⟨_, rfl, x, 0, rfl, by decide, by omega, ?_, fun J sJ => ?_⟩
      · rcases hb x (List.mem_of_getElem? hi) with z | ⟨j, z⟩
        · exact .inl ((z.same s1).same s2)
        · exact .inr ⟨rfl, j, (z.same s1).same s2⟩
      refine ⟨_, sJ _ _ hD, hacc, Same.mut (s2.trans sJ) nD, ?_⟩
      rw [upd_same, List.replicate_succ', List.map_append]
      rfl
    · rintro D H' nD ⟨s2, hD⟩
      refine ⟨D, _, rfl, SqL.of hD, ?_⟩
      rw [all_trues]
      exact k H' (s1.trans s2)
end
end
end K58
set_option maxHeartbeats 4000000
set_option hygiene false in
local macro_rules | `(tactic| walk_at "fld") => `(tactic| (generalize eu : upd _ self (HO.ins _ _ _) = Hn; (have hs := (congrArg (fun z : Hp => z self = some _) eu).mp upd_same); (have B := (congrArg (But self H) eu).mp (But.upd B)); (have ln := fldlen hs ln); clear eu))
set_option hygiene false in
local macro_rules | `(tactic| walk_at "fld3") => `(tactic| (generalize eu : upd _ self (HO.ins _ _ _) = Hn; (have hs := (congrArg (fun z : Hp => z self = some _) eu).mp upd_same); (have B := (congrArg (But self H) eu).mp (But.upd B)); (have B3 := (congrArg (But self H3) eu).mp (But.upd B3)); (have ln := fldlen hs ln); clear eu))
set_option hygiene false in
local macro_rules | `(tactic| walk_at "new1") => `(tactic| (intro p1 n1; generalize e1 : upd _ p1 _ = H1; (have s1 := (congrArg (Same _) e1).mp (Same.new n1)); (have h1 := (congrArg (fun z : Hp => z p1 = some _) e1).mp upd_same); clear e1))
set_option hygiene false in
local macro_rules | `(tactic| walk_at "new2") => `(tactic| (intro p2 n2; generalize e2 : upd _ p2 _ = H2; (have s2 := (congrArg (Same _) e2).mp (Same.new n2)); (have h2 := (congrArg (fun z : Hp => z p2 = some _) e2).mp upd_same); clear e2))
set_option hygiene false in
local macro_rules | `(tactic| walk_at "new3") => `(tactic| (intro p3 n3; generalize e3 : upd _ p3 _ = H3; (have s3 := (congrArg (Same _) e3).mp (Same.new n3)); (have h3 := (congrArg (fun z : Hp => z p3 = some _) e3).mp upd_same); clear e3))
set_option hygiene false in
local macro_rules | `(tactic| walk_at "new4") => `(tactic| (intro p4 n4; generalize e4 : upd _ p4 _ = H4; (have s4 := (congrArg (Same _) e4).mp (Same.new n4)); (have h4 := (congrArg (fun z : Hp => z p4 = some _) e4).mp upd_same); clear e4))
set_option hygiene false in
local macro_rules | `(tactic| walk_at "new5") => `(tactic| (intro p5 n5; generalize e5 : upd _ p5 _ = H5; (have s5 := (congrArg (Same _) e5).mp (Same.new n5)); (have h5 := (congrArg (fun z : Hp => z p5 = some _) e5).mp upd_same); clear e5))
set_option hygiene false in
local macro_rules | `(tactic| walk_at "new6") => `(tactic| (intro p6 n6; generalize e6 : upd _ p6 _ = H6; (have s6 := (congrArg (Same _) e6).mp (Same.new n6)); (have h6 := (congrArg (fun z : Hp => z p6 = some _) e6).mp upd_same); clear e6))
set_option hygiene false in
local macro_rules | `(tactic| walk_at "new7") => `(tactic| (intro p7 n7; generalize e7 : upd _ p7 _ = H7; (have s7 := (congrArg (Same _) e7).mp (Same.new n7)); (have h7 := (congrArg (fun z : Hp => z p7 = some _) e7).mp upd_same); clear e7))
set_option hygiene false in
local macro_rules | `(tactic| walk_at "new8") => `(tactic| (intro p8 n8; generalize e8 : upd _ p8 _ = H8; (have s8 := (congrArg (Same _) e8).mp (Same.new n8)); (have h8 := (congrArg (fun z : Hp => z p8 = some _) e8).mp upd_same); clear e8))
set_option hygiene false in
local macro_rules | `(tactic| walk_at "new9") => `(tactic| (intro p9 n9; generalize e9 : upd _ p9 _ = H9; (have s9 := (congrArg (Same _) e9).mp (Same.new n9)); (have h9 := (congrArg (fun z : Hp => z p9 = some _) e9).mp upd_same); clear e9))
namespace K58
open PySem PySem.Spec PyProof.Rows L2 Nd
abbrev s_Code_init : Stmt := metOf (top 17) 0
abbrev s_Code_look : Stmt := metOf (top 17) 1
def isNum (v : V) : Prop := ∃ i : Int, v = .int i ∧ 0 ≤ i ∧ i ≤ 2147483647
def isTxt (v : V) : Prop := ∃ x : Str, v = .str x ∧ x.cps.size ≤ 1000 ∧ OkS x
def isByt (H : Hp) (v : V) : Prop := ∃ (a : Addr) (ns : List Int), v = .ref a ∧ LorT H a (ns.map V.int) ∧ (∀ n ∈ ns, 0 ≤ n ∧ n ≤ 255) ∧ ns.length ≤ 100000
theorem isByt.same {H H' : Hp} {v : V} (s : Same H H') (h : isByt H v) : isByt H' v := by
  obtain ⟨a, ns, e, h, k⟩ := h
  exact ⟨a, ns, e, h.same s, k⟩
/-- a constant of a Code -/
def KTop (Cc : Addr) (d : Nat) (H : Hp) (x : V) : Prop := KIn H d x ∨ ∃ j, KCode Cc H x j
theorem KTop.same {Cc : Addr} {d : Nat} {H H' : Hp} {x : V} (s : Same H H') (h : KTop Cc d H x) : KTop Cc d H' x := h.imp (KIn.same s) fun ⟨j, z⟩ => ⟨j, z.same s⟩
structure FsOk (Cc : Addr) (d : Nat) (H : Hp) (fs : List (Str × V)) : Prop where
  argcount : ∃ v, fs.lookup ("argcount" : Str) = some v ∧ isNum v
  onlycount : ∃ v, fs.lookup ("onlycount" : Str) = some v ∧ isNum v
  stacksize : ∃ v, fs.lookup ("stacksize" : Str) = some v ∧ isNum v
  flags : ∃ v, fs.lookup ("flags" : Str) = some v ∧ isNum v
  code : ∃ v, fs.lookup ("code" : Str) = some v ∧ isByt H v
  constants : ∃ v, fs.lookup ("constants" : Str) = some v ∧ ∃ (a : Addr) (xs : List V), v = .ref a ∧ LorT H a xs ∧ (∀ x ∈ xs, KTop Cc d H x) ∧ xs.length ≤ 100000
  names : ∃ v, fs.lookup ("names" : Str) = some v ∧ ∃ (a : Addr) (xs : List Str), v = .ref a ∧ LorT H a (xs.map V.str) ∧ (∀ x ∈ xs, x.cps.size ≤ 1000 ∧ OkS x) ∧ xs.length ≤ 100000
  slots : ∃ v u, fs.lookup ("slots" : Str) = some v ∧ fs.lookup ("kinds" : Str) = some u ∧ ∃ (a : Addr) (xs : List Str) (b : Addr) (ns : List Int), v = .ref a ∧ LorT H a (xs.map V.str) ∧ (∀ x ∈ xs, x.cps.size ≤ 1000 ∧ OkS x) ∧ xs.length ≤ 100000 ∧
    u = .ref b ∧ LorT H b (ns.map V.int) ∧ (∀ n ∈ ns, 0 ≤ n ∧ n ≤ 255) ∧ ns.length = xs.length
  name : ∃ v, fs.lookup ("name" : Str) = some v ∧ isTxt v
  path : ∃ v, fs.lookup ("path" : Str) = some v ∧ isTxt v
  line : ∃ v, fs.lookup ("line" : Str) = some v ∧ isNum v
  lines : ∃ v, fs.lookup ("lines" : Str) = some v ∧ isByt H v
  handlers : ∃ v, fs.lookup ("handlers" : Str) = some v ∧ isByt H v
def spLook (Cc : Addr) (d : Nat) : Sp := fun vs H Q _ => ∃ (self dx : Addr) (fs : List (Str × V)), vs = [.ref self] ∧ H self = some (.ins Cc dx fs) ∧ FsOk Cc d H fs ∧ ∀ H', Same H H' → Q .non H'
section
variable {P : Program} {w : World} {K : PySem.W.Frag} {mg : Str → Option Value} {base : Heap} {Cc Cn fI : Addr}
abbrev N_Code_look : List Str := ["self", "numbers", "found", "lasts", "field", "one"]
theorem sc_Code_look : FnScope N_Code_look ["self"] (defScope s_Code_look) := ⟨rfl, rfl, rfl, by decide +kernel, rfl, by decide +kernel, by decide +kernel⟩
theorem ok_Code_look {f : Addr} {fd : FuncData} (T : Gl0 mg) (G : GlK P K mg Cc Cn fI) (c_is_number : CalX P w K mg base 1 "is_number" spNum) (c_is_string : CalX P w K mg base 1 "is_string" spStr) (c_are_bytes : CalX P w K mg base 2 "are_bytes" spBytesOf)
    (c_are_strings : CalX P w K mg base 2 "are_strings" spStrs) {d : Nat} (c_are_constants : CalX P w K mg base (d + 3) "are_constants" (spConsts Cc d)) (F : MetX K "look" "Code.look" s_Code_look ["self"] f fd) : FnOk P w K mg base (L2.CX P w) (d + 4) f fd ["self"] (spLook Cc d) := by
  refine F.fn.ok sc_Code_look (fun vs H Q E h => ?_) (fun cdv A outer s H vs Q E hr h => ?_)
  · obtain ⟨x, dx, fs, rfl, _⟩ := h
    rfl
  · obtain ⟨self, dx, fs, rfl, hs, ok, k⟩ := h
    refine ⟨_, PSs.nox (pss_cons (ps_set (i := 1) sc_Code_look.nd rfl (.inl rfl) (pe_lst (pa_cons (pe_tup (pa_cons pe_str (pa_cons (pe_fld (pv 0) rfl) pa_nil))) (pa_cons (pe_tup (pa_cons pe_str (pa_cons (pe_fld (pv 0) rfl) pa_nil))) (pa_cons (pe_tup (pa_cons pe_str (pa_cons (pe_fld (pv 0) rfl) pa_nil))) pa_nil)))))
    (pss_cons (ps_setLc (i := 2) (y := "found") (own := [("field", 4), ("one", 5)]) (g := gTup K 2 (gCons (gName 4) (gCons (gName 5) gNil))) rfl sc_Code_look.nd rfl rfl (sw_true rfl rfl rfl (by decide +kernel)) (pi_list (pe_op op_cat (pv 1) (pe_lst (pa_cons (pe_tup (pa_cons pe_str (pa_cons (pe_fld (pv 0) rfl) pa_nil))) pa_nil)))) (blkOk_by (own := [("field", 4), ("one", 5)]) (N := N_Code_look) (sc := defScope s_Code_look) (by decide +kernel)) (fun _ _ _ _ _ => (pg_tup rfl (pgs_cons (pg_name (i := 4) sc_Code_look.nd rfl (Or.inl rfl)) (pgs_cons (pg_name (i := 5) sc_Code_look.nd rfl (Or.inl rfl)) pgs_nil)))) (fun _ _ _ _ _ => (pts_one (pt_not (pt_val (pe_cx c_is_number hr (by omega) rfl (pa_cons (pv 5) pa_nil)))))) (fun _ _ _ _ _ => (pv 4)))
    (pss_cons (ps_set (i := 2) sc_Code_look.nd rfl (.inl rfl) (pe_op op_cat (pv 2) (pe_op op_rep (pe_lst (pa_cons pe_str pa_nil)) (pe_callTy call_int1 (by rfl) T.n_int Boot.«int» (pa_cons (pe_not (pe_cx c_are_bytes hr (by omega) rfl (pa_cons (pe_fld (pv 0) rfl) pa_nil))) pa_nil)))))
    (pss_cons (ps_set (i := 2) sc_Code_look.nd rfl (.inl rfl) (pe_op op_cat (pv 2) (pe_op op_rep (pe_lst (pa_cons pe_str pa_nil)) (pe_callTy call_int1 (by rfl) T.n_int Boot.«int» (pa_cons (pe_not (pe_cx c_are_constants hr (by omega) rfl (pa_cons (pe_fld (pv 0) rfl) pa_nil))) pa_nil)))))
    (pss_cons (ps_set (i := 2) sc_Code_look.nd rfl (.inl rfl) (pe_op op_cat (pe_op op_cat (pv 2) (pe_op op_rep (pe_lst (pa_cons pe_str pa_nil)) (pe_callTy call_int1 (by rfl) T.n_int Boot.«int» (pa_cons (pe_not (pe_cx c_are_strings hr (by omega) rfl (pa_cons (pe_fld (pv 0) rfl) pa_nil))) pa_nil)))) (pe_op op_rep (pe_lst (pa_cons pe_str pa_nil)) (pe_callTy call_int1 (by rfl) T.n_int Boot.«int» (pa_cons (pe_not (pe_cx c_are_strings hr (by omega) rfl (pa_cons (pe_fld (pv 0) rfl) pa_nil))) pa_nil)))))
    (pss_cons (ps_if (PW.pt (pw_and (pt_cmpR (op_eqD hr.units) (pv 2) (pe_lst pa_nil) (nomark _)) (pw_and1 (PW.pt (pw_or (pt_not (pt_val (pe_cx c_are_bytes hr (by omega) rfl (pa_cons (pe_fld (pv 0) rfl) pa_nil)))) (pw_or1 (pt_cmpR op_ne (pe_callB call_len_seq (by rfl) T.n_len Boot.«len» (pa_cons (pe_fld (pv 0) rfl) pa_nil)) (pe_callB call_len_seq (by rfl) T.n_len Boot.«len» (pa_cons (pe_fld (pv 0) rfl) pa_nil)) (nomark _))))))))
      (pss_one (ps_set (i := 2) sc_Code_look.nd rfl (.inl rfl) (pe_lst (pa_cons pe_str pa_nil))))
      pss_nil)
    (pss_cons (ps_set (i := 2) sc_Code_look.nd rfl (.inl rfl) (pe_op op_cat (pv 2) (pe_lc (own := [("field", 4), ("one", 5)]) (g := gTup K 2 (gCons (gName 4) (gCons (gName 5) gNil))) rfl sc_Code_look.nd (pi_list (pe_lst (pa_cons (pe_tup (pa_cons pe_str (pa_cons (pe_fld (pv 0) rfl) pa_nil))) (pa_cons (pe_tup (pa_cons pe_str (pa_cons (pe_fld (pv 0) rfl) pa_nil))) pa_nil)))) (blkOk_by (own := [("field", 4), ("one", 5)]) (N := N_Code_look) (sc := defScope s_Code_look) (by decide +kernel)) (fun _ _ _ _ _ => (pg_tup rfl (pgs_cons (pg_name (i := 4) sc_Code_look.nd rfl (Or.inl rfl)) (pgs_cons (pg_name (i := 5) sc_Code_look.nd rfl (Or.inl rfl)) pgs_nil)))) (fun _ _ _ _ _ => (pts_one (pt_not (pt_val (pe_cx c_is_string hr (by omega) rfl (pa_cons (pv 5) pa_nil)))))) (fun _ _ _ _ _ => (pv 4)))))
    (pss_cons (ps_set (i := 2) sc_Code_look.nd rfl (.inl rfl) (pe_op op_cat (pv 2) (pe_op op_rep (pe_lst (pa_cons pe_str pa_nil)) (pe_callTy call_int1 (by rfl) T.n_int Boot.«int» (pa_cons (pe_not (pe_cx c_is_number hr (by omega) rfl (pa_cons (pe_fld (pv 0) rfl) pa_nil))) pa_nil)))))
    (pss_cons (ps_set (i := 3) sc_Code_look.nd rfl (.inl rfl) (pe_lst (pa_cons (pe_tup (pa_cons pe_str (pa_cons (pe_fld (pv 0) rfl) pa_nil))) (pa_cons (pe_tup (pa_cons pe_str (pa_cons (pe_fld (pv 0) rfl) pa_nil))) pa_nil))))
    (pss_cons (ps_set (i := 2) sc_Code_look.nd rfl (.inl rfl) (pe_op op_cat (pv 2) (pe_lc (own := [("field", 4), ("one", 5)]) (g := gTup K 2 (gCons (gName 4) (gCons (gName 5) gNil))) rfl sc_Code_look.nd (pi_list (pv 3)) (blkOk_by (own := [("field", 4), ("one", 5)]) (N := N_Code_look) (sc := defScope s_Code_look) (by decide +kernel)) (fun _ _ _ _ _ => (pg_tup rfl (pgs_cons (pg_name (i := 4) sc_Code_look.nd rfl (Or.inl rfl)) (pgs_cons (pg_name (i := 5) sc_Code_look.nd rfl (Or.inl rfl)) pgs_nil)))) (fun _ _ _ _ _ => (pts_one (pt_not (pt_val (pe_cx c_are_bytes hr (by omega) rfl (pa_cons (pv 5) pa_nil)))))) (fun _ _ _ _ _ => (pv 4)))))
    (pss_one (ps_if (pt_cmpR (op_neD hr.units) (pv 2) (pe_lst pa_nil) (nomark _))
      (pss_one ps_never)
      pss_nil)))))))))))), ?_⟩
    have cl := G.ins.cl
    have na : ∀ f ∈ flds, NoAttr K Cc f := G.na
    have S : Same H H := Same.refl H
    obtain ⟨v1, l1, w1⟩ := ok.argcount
    obtain ⟨v2, l2, w2⟩ := ok.onlycount
    obtain ⟨v3, l3, w3⟩ := ok.stacksize
    obtain ⟨v4, l4, w4⟩ := ok.flags
    obtain ⟨v5, l5, a5, b5, rfl, w5⟩ := ok.code
    obtain ⟨v6, l6, a6, b6, rfl, w6⟩ := ok.constants
    obtain ⟨v7, l7, a7, b7, rfl, w7⟩ := ok.names
    obtain ⟨v8, v9, l8, l9, a8, b8, a9, b9, rfl, w8, w8b, w8c, rfl, w9, w9b, w89⟩ := ok.slots
    obtain ⟨v10, l10, w10⟩ := ok.name
    obtain ⟨v11, l11, w11⟩ := ok.path
    obtain ⟨v12, l12, x12, rfl, w12⟩ := ok.line
    obtain ⟨v13, l13, w13⟩ := ok.lines
    obtain ⟨v14, l14, w14⟩ := ok.handlers
    -- numbers
    refine ⟨_, rfl, self, Cc, dx, fs, v1, rfl, S _ _ hs, cl, na _ (by decide), l1, (by show 2 ≤ sizeLine; decide), ?_⟩
    walk_at "new1"
    have S := S.trans s1
    refine ⟨_, rfl, self, Cc, dx, fs, v2, rfl, S _ _ hs, cl, na _ (by decide), l2, (by show 2 ≤ sizeLine; decide), ?_⟩
    walk_at "new2"
    have S := S.trans s2
    refine ⟨_, rfl, self, Cc, dx, fs, v3, rfl, S _ _ hs, cl, na _ (by decide), l3, (by show 2 ≤ sizeLine; decide), ?_⟩
    walk_at "new3"
    have S := S.trans s3
    refine ⟨(by show 3 ≤ sizeLine; decide), ?_⟩
    walk_at "new4"
    have S := S.trans s4
    -- found
    refine ⟨_, rfl, _, rfl, self, Cc, dx, fs, v4, rfl, S _ _ hs, cl, na _ (by decide), l4, (by show 2 ≤ sizeLine; decide), ?_⟩
    walk_at "new5"
    have S := S.trans s5
    refine ⟨(by show 1 ≤ sizeLine; decide), ?_⟩
    walk_at "new6"
    have S := S.trans s6
    refine ⟨p4, p6, _, _, rfl, rfl, (s5.trans s6) _ _ h4, h6, (by show 4 ≤ sizeLine; decide), ?_⟩
    walk_at "new7"
    have S := S.trans s7
    have hx : ∀ x, x ∈ [V.ref p1, .ref p2, .ref p3, .ref p5] → ∃ p s v, x = .ref p ∧ H7 p = some (.tup [.str s, v]) ∧ isNum v := by
      intro x hx
      simp at hx
      rcases hx with rfl | rfl | rfl | rfl
      · exact ⟨p1, _, v1, rfl, (((((s2.trans s3).trans s4).trans s5).trans s6).trans s7) _ _ h1, w1⟩
      · exact ⟨p2, _, v2, rfl, ((((s3.trans s4).trans s5).trans s6).trans s7) _ _ h2, w2⟩
      · exact ⟨p3, _, v3, rfl, (((s4.trans s5).trans s6).trans s7) _ _ h3, w3⟩
      · exact ⟨p5, _, v4, rfl, (s6.trans s7) _ _ h5, w4⟩
    refine ⟨p7, rfl, ⟨_, SqL.of h7⟩, fun D nD => lc_list (K := K) (a := p7) (xs := [.ref p1, .ref p2, .ref p3, .ref p5]) (fun i H' => Same H7 H' ∧ H' D = some (.lst [])) ⟨Same.new nD, by rw [upd_same]⟩
      (fun i H' _ p => p.1.seq (SqL.of h7)) ?_ ?_⟩
    · rintro i x H' hi ⟨t, hD⟩
      obtain ⟨p, s, v, rfl, hp, n, rfl, n0, n1⟩ := hx x (List.mem_of_getElem? hi)
      refine ⟨p, _, rfl, SqT.of (t _ _ hp), rfl, _, _, rfl, _, _, rfl, rfl, ?_⟩
      exact ⟨rfl, _, rfl, n, rfl, n0, n1, _, rfl, iteF ⟨t, hD⟩⟩
    rintro J ⟨t, hf⟩
    have S := S.trans t
    clear hx
    -- code
    refine ⟨_, rfl, (by show 1 ≤ sizeLine; decide), ?_⟩
    walk_at "new1"
    have S := S.trans s1
    have hf := s1 _ _ hf
    refine ⟨_, rfl, self, Cc, dx, fs, _, rfl, S _ _ hs, cl, na _ (by decide), l5, a5, b5, rfl, w5.1.same S, w5.2.1, w5.2.2, fun J t => ?_⟩
    have S := S.trans t
    have hf := t _ _ hf
    have h1 := t _ _ h1
    refine ⟨_, rfl, .inr ⟨_, rfl, p1, _, _, rfl, rfl, h1, by decide, by decide, (by show 0 ≤ sizeLine; decide), ?_⟩⟩
    walk_at "new2"
    have S := S.trans s2
    have hf := s2 _ _ hf
    refine ⟨_, p2, _, _, rfl, rfl, hf, h2, (by show 0 ≤ sizeLine; decide), ?_⟩
    walk_at "new3"
    have S := S.trans s3
    replace hf : H3 p3 = some (.lst []) := h3
    -- constants
    refine ⟨_, rfl, (by show 1 ≤ sizeLine; decide), ?_⟩
    walk_at "new1"
    have S := S.trans s1
    have hf := s1 _ _ hf
    refine ⟨_, rfl, self, Cc, dx, fs, _, rfl, S _ _ hs, cl, na _ (by decide), l6, a6, b6, rfl, w6.1.same S, (fun x hx => (w6.2.1 x hx).same S), w6.2.2, fun J t => ?_⟩
    have S := S.trans t
    have hf := t _ _ hf
    have h1 := t _ _ h1
    refine ⟨_, rfl, .inr ⟨_, rfl, p1, _, _, rfl, rfl, h1, by decide, by decide, (by show 0 ≤ sizeLine; decide), ?_⟩⟩
    walk_at "new2"
    have S := S.trans s2
    have hf := s2 _ _ hf
    refine ⟨_, p2, _, _, rfl, rfl, hf, h2, (by show 0 ≤ sizeLine; decide), ?_⟩
    walk_at "new3"
    have S := S.trans s3
    replace hf : H3 p3 = some (.lst []) := h3
    -- names, slots
    refine ⟨_, rfl, (by show 1 ≤ sizeLine; decide), ?_⟩
    walk_at "new1"
    have S := S.trans s1
    have hf := s1 _ _ hf
    refine ⟨_, rfl, self, Cc, dx, fs, _, rfl, S _ _ hs, cl, na _ (by decide), l7, a7, b7, rfl, w7.1.same S, w7.2.1, w7.2.2, fun J t => ?_⟩
    have S := S.trans t
    have hf := t _ _ hf
    have h1 := t _ _ h1
    refine ⟨_, rfl, .inr ⟨_, rfl, p1, _, _, rfl, rfl, h1, by decide, by decide, (by show 0 ≤ sizeLine; decide), ?_⟩⟩
    walk_at "new2"
    have S := S.trans s2
    have hf := s2 _ _ hf
    refine ⟨_, p2, _, _, rfl, rfl, hf, h2, (by show 0 ≤ sizeLine; decide), ?_⟩
    walk_at "new3"
    have S := S.trans s3
    replace hf : H3 p3 = some (.lst []) := h3
    refine ⟨(by show 1 ≤ sizeLine; decide), ?_⟩
    walk_at "new1"
    have S := S.trans s1
    have hf := s1 _ _ hf
    refine ⟨_, rfl, self, Cc, dx, fs, _, rfl, S _ _ hs, cl, na _ (by decide), l8, a8, b8, rfl, w8.same S, w8b, w8c, fun J t => ?_⟩
    have S := S.trans t
    have hf := t _ _ hf
    have h1 := t _ _ h1
    refine ⟨_, rfl, .inr ⟨_, rfl, p1, _, _, rfl, rfl, h1, by decide, by decide, (by show 0 ≤ sizeLine; decide), ?_⟩⟩
    walk_at "new2"
    have S := S.trans s2
    have hf := s2 _ _ hf
    refine ⟨_, p2, _, _, rfl, rfl, hf, h2, (by show 0 ≤ sizeLine; decide), ?_⟩
    walk_at "new3"
    have S := S.trans s3
    replace hf : H3 p3 = some (.lst []) := h3
    -- kinds
    refine ⟨_, rfl, (by show 0 ≤ sizeLine; decide), ?_⟩
    walk_at "new1"
    have S := S.trans s1
    have hf := s1 _ _ hf
    refine ⟨_, _, Dp.lst (SqL.of hf) .nil, Dp.lst (SqL.of h1) .nil, rfl, rfl, _, rfl, ?_⟩
    refine ite2 (fun _ => ?_) (fun c => absurd rfl c)
    refine ⟨_, rfl, self, Cc, dx, fs, _, rfl, S _ _ hs, cl, na _ (by decide), l9, a9, b9, rfl, w9.same S, w9b, (by rw [w89]; exact w8c), fun J t => ?_⟩
    have S := S.trans t
    have hf := t _ _ hf
    refine ⟨_, rfl, iteF ?_⟩
    refine ⟨_, rfl, self, Cc, dx, fs, _, rfl, S _ _ hs, cl, na _ (by decide), l9, a9, _, rfl, (w9.same S).sq, _, rfl, self, Cc, dx, fs, _, rfl, S _ _ hs, cl, na _ (by decide), l8, a8, _, rfl, (w8.same S).sq, rfl, _, rfl, ?_⟩
    refine ite2 (fun c => absurd c (by rw [List.length_map, List.length_map, w89]; simp)) (fun _ => ?_)
    -- name, path
    refine ⟨_, rfl, ?_⟩
    refine ⟨_, rfl, self, Cc, dx, fs, v10, rfl, S _ _ hs, cl, na _ (by decide), l10, (by show 2 ≤ sizeLine; decide), ?_⟩
    walk_at "new1"
    have S := S.trans s1
    have hf := s1 _ _ hf
    refine ⟨_, rfl, self, Cc, dx, fs, v11, rfl, S _ _ hs, cl, na _ (by decide), l11, (by show 2 ≤ sizeLine; decide), ?_⟩
    walk_at "new2"
    have S := S.trans s2
    have hf := s2 _ _ hf
    refine ⟨(by show 2 ≤ sizeLine; decide), ?_⟩
    walk_at "new3"
    have S := S.trans s3
    have hf := s3 _ _ hf
    have hx : ∀ x, x ∈ [V.ref p1, .ref p2] → ∃ p s v, x = .ref p ∧ H3 p = some (.tup [.str s, v]) ∧ isTxt v := by
      intro x hx
      simp at hx
      rcases hx with rfl | rfl
      · exact ⟨p1, _, v10, rfl, (s2.trans s3) _ _ h1, w10⟩
      · exact ⟨p2, _, v11, rfl, s3 _ _ h2, w11⟩
    refine ⟨p3, rfl, ⟨_, SqL.of h3⟩, fun D nD => lc_list (K := K) (a := p3) (xs := [.ref p1, .ref p2]) (fun i H' => Same H3 H' ∧ H' D = some (.lst [])) ⟨Same.new nD, by rw [upd_same]⟩
      (fun i H' _ p => p.1.seq (SqL.of h3)) ?_ ?_⟩
    · rintro i x H' hi ⟨t, hD⟩
      obtain ⟨p, s, v, rfl, hp, n, rfl, n0, n1⟩ := hx x (List.mem_of_getElem? hi)
      refine ⟨p, _, rfl, SqT.of (t _ _ hp), rfl, _, _, rfl, _, _, rfl, rfl, ?_⟩
      exact ⟨rfl, _, rfl, n, rfl, n0, n1, fun J' t' => ⟨_, rfl, iteF ⟨t.trans t', t' _ _ hD⟩⟩⟩
    rintro J ⟨t, hD⟩
    have S := S.trans t
    have hf := t _ _ hf
    refine ⟨_, D, _, _, rfl, rfl, hf, hD, (by show 0 ≤ sizeLine; decide), ?_⟩
    walk_at "new4"
    have S := S.trans s4
    replace hf : H4 p4 = some (.lst []) := h4
    clear hx
    -- line
    refine ⟨_, rfl, (by show 1 ≤ sizeLine; decide), ?_⟩
    walk_at "new1"
    have S := S.trans s1
    have hf := s1 _ _ hf
    refine ⟨_, rfl, self, Cc, dx, fs, _, rfl, S _ _ hs, cl, na _ (by decide), l12, x12, rfl, w12.1, w12.2, ?_⟩
    refine ⟨_, rfl, .inr ⟨_, rfl, p1, _, _, rfl, rfl, h1, by decide, by decide, (by show 0 ≤ sizeLine; decide), ?_⟩⟩
    walk_at "new2"
    have S := S.trans s2
    have hf := s2 _ _ hf
    refine ⟨_, p2, _, _, rfl, rfl, hf, h2, (by show 0 ≤ sizeLine; decide), ?_⟩
    walk_at "new3"
    have S := S.trans s3
    replace hf : H3 p3 = some (.lst []) := h3
    -- lasts
    refine ⟨_, rfl, self, Cc, dx, fs, v13, rfl, S _ _ hs, cl, na _ (by decide), l13, (by show 2 ≤ sizeLine; decide), ?_⟩
    walk_at "new5"
    have S := S.trans s5
    have hf := s5 _ _ hf
    refine ⟨_, rfl, self, Cc, dx, fs, v14, rfl, S _ _ hs, cl, na _ (by decide), l14, (by show 2 ≤ sizeLine; decide), ?_⟩
    walk_at "new6"
    have S := S.trans s6
    have hf := s6 _ _ hf
    refine ⟨(by show 2 ≤ sizeLine; decide), ?_⟩
    walk_at "new7"
    have S := S.trans s7
    have hf := s7 _ _ hf
    have hx : ∀ x, x ∈ [V.ref p5, .ref p6] → ∃ p s v, x = .ref p ∧ H7 p = some (.tup [.str s, v]) ∧ isByt H7 v := by
      intro x hx
      simp at hx
      rcases hx with rfl | rfl
      · exact ⟨p5, _, v13, rfl, (s6.trans s7) _ _ h5, w13.same S⟩
      · exact ⟨p6, _, v14, rfl, s7 _ _ h6, w14.same S⟩
    refine ⟨_, rfl, _, rfl, p7, rfl, ⟨_, SqL.of h7⟩, fun D nD => lc_list (K := K) (a := p7) (xs := [.ref p5, .ref p6]) (fun i H' => Same H7 H' ∧ H' D = some (.lst [])) ⟨Same.new nD, by rw [upd_same]⟩
      (fun i H' _ p => p.1.seq (SqL.of h7)) ?_ ?_⟩
    · rintro i x H' hi ⟨t, hD⟩
      obtain ⟨p, s, v, rfl, hp, a, ns, rfl, m0, m1, m2⟩ := hx x (List.mem_of_getElem? hi)
      refine ⟨p, _, rfl, SqT.of (t _ _ hp), rfl, _, _, rfl, _, _, rfl, rfl, ?_⟩
      exact ⟨rfl, _, rfl, a, ns, rfl, m0.same t, m1, m2, fun J' t' => ⟨_, rfl, iteF ⟨t.trans t', t' _ _ hD⟩⟩⟩
    rintro J ⟨t, hD⟩
    have S := S.trans t
    have hf := t _ _ hf
    refine ⟨_, D, _, _, rfl, rfl, hf, hD, (by show 0 ≤ sizeLine; decide), ?_⟩
    walk_at "new4"
    have S := S.trans s4
    replace hf : H4 p4 = some (.lst []) := h4
    clear hx
    -- the end
    refine ⟨_, rfl, (by show 0 ≤ sizeLine; decide), ?_⟩
    walk_at "new1"
    have S := S.trans s1
    have hf := s1 _ _ hf
    refine ⟨_, _, Dp.lst (SqL.of hf) .nil, Dp.lst (SqL.of h1) .nil, rfl, rfl, _, rfl, ?_⟩
    refine ite2 (fun c => absurd c (by decide)) (fun _ => ?_)
    exact k _ S
end
end K58
set_option maxHeartbeats 4000000
set_option hygiene false in
local macro_rules | `(tactic| walk_at "fld") => `(tactic| (generalize eu : upd _ self (HO.ins _ _ _) = Hn; (have hs := (congrArg (fun z : Hp => z self = some _) eu).mp upd_same); (have B := (congrArg (But self H) eu).mp (But.upd B)); (have ln := fldlen hs ln); clear eu))
set_option hygiene false in
local macro_rules | `(tactic| walk_at "fld3") => `(tactic| (generalize eu : upd _ self (HO.ins _ _ _) = Hn; (have hs := (congrArg (fun z : Hp => z self = some _) eu).mp upd_same); (have B := (congrArg (But self H) eu).mp (But.upd B)); (have B3 := (congrArg (But self H3) eu).mp (But.upd B3)); (have ln := fldlen hs ln); clear eu))
set_option hygiene false in
local macro_rules | `(tactic| walk_at "new1") => `(tactic| (intro p1 n1; generalize e1 : upd _ p1 _ = H1; (have s1 := (congrArg (Same _) e1).mp (Same.new n1)); (have h1 := (congrArg (fun z : Hp => z p1 = some _) e1).mp upd_same); clear e1))
set_option hygiene false in
local macro_rules | `(tactic| walk_at "new2") => `(tactic| (intro p2 n2; generalize e2 : upd _ p2 _ = H2; (have s2 := (congrArg (Same _) e2).mp (Same.new n2)); (have h2 := (congrArg (fun z : Hp => z p2 = some _) e2).mp upd_same); clear e2))
set_option hygiene false in
local macro_rules | `(tactic| walk_at "new3") => `(tactic| (intro p3 n3; generalize e3 : upd _ p3 _ = H3; (have s3 := (congrArg (Same _) e3).mp (Same.new n3)); (have h3 := (congrArg (fun z : Hp => z p3 = some _) e3).mp upd_same); clear e3))
set_option hygiene false in
local macro_rules | `(tactic| walk_at "new4") => `(tactic| (intro p4 n4; generalize e4 : upd _ p4 _ = H4; (have s4 := (congrArg (Same _) e4).mp (Same.new n4)); (have h4 := (congrArg (fun z : Hp => z p4 = some _) e4).mp upd_same); clear e4))
set_option hygiene false in
local macro_rules | `(tactic| walk_at "new5") => `(tactic| (intro p5 n5; generalize e5 : upd _ p5 _ = H5; (have s5 := (congrArg (Same _) e5).mp (Same.new n5)); (have h5 := (congrArg (fun z : Hp => z p5 = some _) e5).mp upd_same); clear e5))
set_option hygiene false in
local macro_rules | `(tactic| walk_at "new6") => `(tactic| (intro p6 n6; generalize e6 : upd _ p6 _ = H6; (have s6 := (congrArg (Same _) e6).mp (Same.new n6)); (have h6 := (congrArg (fun z : Hp => z p6 = some _) e6).mp upd_same); clear e6))
set_option hygiene false in
local macro_rules | `(tactic| walk_at "new7") => `(tactic| (intro p7 n7; generalize e7 : upd _ p7 _ = H7; (have s7 := (congrArg (Same _) e7).mp (Same.new n7)); (have h7 := (congrArg (fun z : Hp => z p7 = some _) e7).mp upd_same); clear e7))
set_option hygiene false in
local macro_rules | `(tactic| walk_at "new8") => `(tactic| (intro p8 n8; generalize e8 : upd _ p8 _ = H8; (have s8 := (congrArg (Same _) e8).mp (Same.new n8)); (have h8 := (congrArg (fun z : Hp => z p8 = some _) e8).mp upd_same); clear e8))
set_option hygiene false in
local macro_rules | `(tactic| walk_at "new9") => `(tactic| (intro p9 n9; generalize e9 : upd _ p9 _ = H9; (have s9 := (congrArg (Same _) e9).mp (Same.new n9)); (have h9 := (congrArg (fun z : Hp => z p9 = some _) e9).mp upd_same); clear e9))
namespace K58
open PySem PySem.Spec PyProof.Rows L2 Nd
/-- what a Code is made of -/
structure CD where
  i1 : Int
  i2 : Int
  i3 : Int
  i4 : Int
  code : List Int
  consts : List V
  names : List Str
  slots : List Str
  kinds : List Int
  name : Str
  path : Str
  line : Int
  lines : List Int
  handlers : List Int
def isBts (ns : List Int) : Prop := (∀ n ∈ ns, 0 ≤ n ∧ n ≤ 255) ∧ ns.length ≤ 100000
def isStrs (xs : List Str) : Prop := (∀ x ∈ xs, x.cps.size ≤ 1000 ∧ OkS x) ∧ xs.length ≤ 100000
structure CdOk (Cc : Addr) (d : Nat) (H : Hp) (D : CD) : Prop where
  n1 : isNum (.int D.i1)
  n2 : isNum (.int D.i2)
  n3 : isNum (.int D.i3)
  n4 : isNum (.int D.i4)
  code : isBts D.code
  consts : ∀ x ∈ D.consts, KTop Cc d H x
  clen : D.consts.length ≤ 100000
  names : isStrs D.names
  slots : isStrs D.slots
  kinds : isBts D.kinds
  klen : D.kinds.length = D.slots.length
  name : isTxt (.str D.name)
  path : isTxt (.str D.path)
  line : isNum (.int D.line)
  lines : isBts D.lines
  handlers : isBts D.handlers
/-- how deep Codes stand in it -/
def NestOk (Cc : Addr) (H : Hp) (xs : List V) (m : Int) : Prop := (∀ x ∈ xs, ∀ j, KCode Cc H x j → j + 1 ≤ m) ∧ (m = 1 ∨ ∃ x ∈ xs, ∃ j, KCode Cc H x j ∧ m = j + 1)
def CodeAt (Cc : Addr) (H : Hp) (c : Addr) (D : CD) (m : Int) : Prop := ∃ (dx : Addr) (fs : List (Str × V)), H c = some (.ins Cc dx fs) ∧ fs.lookup ("argcount" : Str) = some (.int D.i1) ∧ fs.lookup ("onlycount" : Str) = some (.int D.i2) ∧ fs.lookup ("stacksize" : Str) = some (.int D.i3) ∧
  fs.lookup ("flags" : Str) = some (.int D.i4) ∧ (∃ t, fs.lookup ("code" : Str) = some (.ref t) ∧ H t = some (.tup (D.code.map V.int))) ∧ (∃ t, fs.lookup ("constants" : Str) = some (.ref t) ∧ H t = some (.tup D.consts)) ∧ (∃ t, fs.lookup ("names" : Str) = some (.ref t) ∧ H t = some (.tup (D.names.map V.str))) ∧
  (∃ t, fs.lookup ("slots" : Str) = some (.ref t) ∧ H t = some (.tup (D.slots.map V.str))) ∧ (∃ t, fs.lookup ("kinds" : Str) = some (.ref t) ∧ H t = some (.tup (D.kinds.map V.int))) ∧ fs.lookup ("name" : Str) = some (.str D.name) ∧ fs.lookup ("path" : Str) = some (.str D.path) ∧
  fs.lookup ("line" : Str) = some (.int D.line) ∧ (∃ t, fs.lookup ("lines" : Str) = some (.ref t) ∧ H t = some (.tup (D.lines.map V.int))) ∧ (∃ t, fs.lookup ("handlers" : Str) = some (.ref t) ∧ H t = some (.tup (D.handlers.map V.int))) ∧ fs.lookup ("nested" : Str) = some (.int m)
theorem CodeAt.same {Cc : Addr} {H H' : Hp} {c : Addr} {D : CD} {m : Int} (s : Same H H') (h : CodeAt Cc H c D m) : CodeAt Cc H' c D m := by
  obtain ⟨dx, fs, h0, h1, h2, h3, h4, ⟨t5, h5, g5⟩, ⟨t6, h6, g6⟩, ⟨t7, h7, g7⟩, ⟨t8, h8, g8⟩, ⟨t9, h9, g9⟩, h10, h11, h12, ⟨t13, h13, g13⟩, ⟨t14, h14, g14⟩, h15⟩ := h
  exact ⟨dx, fs, s _ _ h0, h1, h2, h3, h4, ⟨t5, h5, s _ _ g5⟩, ⟨t6, h6, s _ _ g6⟩, ⟨t7, h7, s _ _ g7⟩, ⟨t8, h8, s _ _ g8⟩, ⟨t9, h9, s _ _ g9⟩, h10, h11, h12, ⟨t13, h13, s _ _ g13⟩, ⟨t14, h14, s _ _ g14⟩, h15⟩
theorem KIn.but {H H' : Hp} {self C dx : Addr} {fs : List (Str × V)} (hs : H self = some (.ins C dx fs)) (b : But self H H') : ∀ {d : Nat} {x : V}, KIn H d x → KIn H' d x
  | _, _, .non => .non
  | _, _, .bl b => .bl b
  | _, _, .int i => .int i
  | _, _, .str x h1 h2 => .str x h1 h2
  | _, _, .tup h hl hx => .tup (b _ _ (fun z => by rw [z, hs] at h; cases h) h) hl fun x m => KIn.but hs b (hx x m)
theorem KCode.but {Cc : Addr} {H H' : Hp} {self dx : Addr} {x : V} {j : Int} (hs : H self = some (.ins Cc dx [])) (b : But self H H') (h : KCode Cc H x j) : KCode Cc H' x j := by
  obtain ⟨a, dx', fs, e, h, l, k⟩ := h
  refine ⟨a, dx', fs, e, b _ _ (fun z => ?_) h, l, k⟩
  rw [z, hs] at h
  injection h with h
  injection h with _ _ h
  subst h
  cases l
theorem KTop.but {Cc : Addr} {d : Nat} {H H' : Hp} {self dx : Addr} {x : V} (hs : H self = some (.ins Cc dx [])) (b : But self H H') (h : KTop Cc d H x) : KTop Cc d H' x := h.imp (KIn.but hs b) fun ⟨j, z⟩ => ⟨j, z.but hs b⟩
theorem KCode.one {Cc : Addr} {H H' : Hp} {x : V} {i j : Int} (s : ∀ a o, H a = some o → x = .ref a → H' a = some o) (h : KCode Cc H x i) (g : KCode Cc H' x j) : i = j := by
  obtain ⟨a, dx, fs, e, h, l, _⟩ := h
  obtain ⟨a', dx', fs', e', h', l', _⟩ := g
  rw [e] at e'
  cases e'
  rw [s _ _ h e] at h'
  injection h' with h'
  injection h' with _ _ h'
  subst h'
  rw [l] at l'
  injection l' with l'
  injection l'
theorem KIn.odd {K : PySem.W.Frag} {H : Hp} : ∀ {d : Nat} {x : V}, KIn H d x → Odd K H x
  | _, _, .non => ⟨"NoneType", by decide, .base .non⟩
  | _, _, .bl b => ⟨"bool", by decide, .base (.bl b)⟩
  | _, _, .int i => ⟨"int", by decide, .base (.int i)⟩
  | _, _, .str x _ _ => ⟨"str", by decide, .base (.str x)⟩
  | _, _, .tup h _ _ => ⟨"tuple", by decide, .base (.tup h)⟩
theorem KIn.noCode {Cc : Addr} {H : Hp} : ∀ {d : Nat} {x : V} {j : Int}, KIn H d x → ¬ KCode Cc H x j
  | _, _, _, .non, ⟨_, _, _, e, _⟩ => by cases e
  | _, _, _, .bl b, ⟨_, _, _, e, _⟩ => by cases e
  | _, _, _, .int i, ⟨_, _, _, e, _⟩ => by cases e
  | _, _, _, .str x _ _, ⟨_, _, _, e, _⟩ => by cases e
  | _, _, _, .tup h _ _, ⟨_, _, _, e, h', _⟩ => by
    cases e
    rw [h] at h'
    cases h'
theorem fsok_of {Cc : Addr} {d : Nat} {H : Hp} {self C dx : Addr} {fs : List (Str × V)} (_ : H self = some (.ins C dx fs)) (h : FsOk Cc d H fs) : FsOk Cc d H fs := h
def spInit (Cc : Addr) (d : Nat) : Sp := fun vs H Q _ => ∃ (self dx c k1 k2 k3 k4 l h : Addr) (D : CD),
  vs = [.ref self, .int D.i1, .int D.i2, .int D.i3, .int D.i4, .ref c, .ref k1, .ref k2, .ref k3, .ref k4, .str D.name, .str D.path, .int D.line, .ref l, .ref h] ∧ H self = some (.ins Cc dx []) ∧ CdOk Cc d H D ∧
  LorT H c (D.code.map V.int) ∧ LorT H k1 D.consts ∧ LorT H k2 (D.names.map V.str) ∧ LorT H k3 (D.slots.map V.str) ∧ LorT H k4 (D.kinds.map V.int) ∧ LorT H l (D.lines.map V.int) ∧ LorT H h (D.handlers.map V.int) ∧
  ∀ H' m, But self H H' → NestOk Cc H D.consts m → CodeAt Cc H' self D m → Q .non H'
structure Gl3 (mg : Str → Option Value) : Prop where
  n_max : mg "max" = none
section
variable {P : Program} {w : World} {K : PySem.W.Frag} {mg : Str → Option Value} {base : Heap} {Cc Cn fI : Addr}
abbrev N_Code_init : List Str := ["self", "argcount", "onlycount", "stacksize", "flags", "code", "constants", "names", "slots", "kinds", "name", "path", "line", "lines", "handlers", "one"]
theorem sc_Code_init : FnScope N_Code_init ["self", "argcount", "onlycount", "stacksize", "flags", "code", "constants", "names", "slots", "kinds", "name", "path", "line", "lines", "handlers"] (defScope s_Code_init) := ⟨rfl, rfl, rfl, by decide +kernel, rfl, by decide +kernel, by decide +kernel⟩
theorem ok_Code_init {f fL : Addr} {fd fdL : FuncData} (T0 : Gl0 mg) (T : Gl2 mg) (T3 : Gl3 mg) (G : GlK P K mg Cc Cn fI) (ML : Meth K Cc "look" fL) {d : Nat} (FL : FnOk P w K mg base (L2.CX P w) (d + 4) fL fdL ["self"] (spLook Cc d)) (BL : Binds K fdL ["self"] [])
    (F : MetX K "__init__" "Code.__init__" s_Code_init ["self", "argcount", "onlycount", "stacksize", "flags", "code", "constants", "names", "slots", "kinds", "name", "path", "line", "lines", "handlers"] f fd) :
    FnOk P w K mg base (L2.CX P w) (d + 5) f fd ["self", "argcount", "onlycount", "stacksize", "flags", "code", "constants", "names", "slots", "kinds", "name", "path", "line", "lines", "handlers"] (spInit Cc d) := by
  refine F.fn.ok sc_Code_init (fun vs H Q E h => ?_) (fun cdv A outer s H vs Q E hr h => ?_)
  · obtain ⟨self, dx, c, k1, k2, k3, k4, l, h, D, rfl, _⟩ := h
    rfl
  · obtain ⟨self, dx, c, k1, k2, k3, k4, l, h, D, rfl, hs, ok, hc, e1, e2, e3, e4, hl, hh, k⟩ := h
    have hs0 := hs
    refine ⟨_, PSs.nox (pss_cons (ps_fld (pv 0) (pv 1) rfl)
    (pss_cons (ps_fld (pv 0) (pv 2) rfl)
    (pss_cons (ps_fld (pv 0) (pv 3) rfl)
    (pss_cons (ps_fld (pv 0) (pv 4) rfl)
    (pss_cons (ps_fld (pv 0) (pv 5) rfl)
    (pss_cons (ps_fld (pv 0) (pv 6) rfl)
    (pss_cons (ps_fld (pv 0) (pv 7) rfl)
    (pss_cons (ps_fld (pv 0) (pv 8) rfl)
    (pss_cons (ps_fld (pv 0) (pv 9) rfl)
    (pss_cons (ps_fld (pv 0) (pv 10) rfl)
    (pss_cons (ps_fld (pv 0) (pv 11) rfl)
    (pss_cons (ps_fld (pv 0) (pv 12) rfl)
    (pss_cons (ps_fld (pv 0) (pv 13) rfl)
    (pss_cons (ps_fld (pv 0) (pv 14) rfl)
    (pss_cons (ps_expr (pe_meth0 (pv 0) G.ins.cl ML FL (hr.mono (by omega)) BL .nil passL))
    (pss_cons (ps_fld (pv 0) (pe_callTy call_tupleB (by rfl) T.n_tuple Boot.«tuple» (pa_cons (pv 6) pa_nil)) rfl)
    (pss_cons (ps_fld (pv 0) (pe_callTy call_tupleB (by rfl) T.n_tuple Boot.«tuple» (pa_cons (pv 7) pa_nil)) rfl)
    (pss_cons (ps_fld (pv 0) (pe_callTy call_tupleB (by rfl) T.n_tuple Boot.«tuple» (pa_cons (pv 8) pa_nil)) rfl)
    (pss_cons (ps_asg (pe_tup (pa_cons (pe_callTy call_tupleB (by rfl) T.n_tuple Boot.«tuple» (pa_cons (pv 5) pa_nil)) (pa_cons (pe_callTy call_tupleB (by rfl) T.n_tuple Boot.«tuple» (pa_cons (pv 9) pa_nil)) pa_nil))) (pg_tup (by rfl) (pgs_cons (pg_fld (pv 0)) (pgs_cons (pg_fld (pv 0)) pgs_nil))))
    (pss_cons (ps_asg (pe_tup (pa_cons (pe_callTy call_tupleB (by rfl) T.n_tuple Boot.«tuple» (pa_cons (pv 13) pa_nil)) (pa_cons (pe_callTy call_tupleB (by rfl) T.n_tuple Boot.«tuple» (pa_cons (pv 14) pa_nil)) pa_nil))) (pg_tup (by rfl) (pgs_cons (pg_fld (pv 0)) (pgs_cons (pg_fld (pv 0)) pgs_nil))))
    (pss_one (ps_fld (pv 0) (pe_op op_add pe_int (pe_callB (cr_max rfl) (by rfl) T3.n_max Boot.«max» (pa_cons (pe_op op_cat (pe_lst (pa_cons pe_int pa_nil)) (pe_lc (own := [("one", 15)]) (g := gName 15) (tt := tB (tCB (rIsi K) (tCons (tVar 15) (tCons (tC (V.ref Cc)) tNil)))) (te := tFld K (tVar 15) "nested") rfl sc_Code_init.nd (pi_seq (pv 6)) (blkOk_by (own := [("one", 15)]) (N := N_Code_init) (sc := defScope s_Code_init) (by decide +kernel)) (fun _ _ _ _ _ => (pg_name (i := 15) sc_Code_init.nd rfl (Or.inl rfl))) (fun _ _ _ _ _ => (pts_one (pt_val (pe_callB call_isi (by rfl) G.n_isinstance Boot.«isinstance» (pa_cons (pv 15) (pa_cons (C8.pe_gc rfl G.c_Code) pa_nil)))))) (fun _ _ _ _ _ => (pe_fld (pv 15) rfl)))) pa_nil))) rfl)))))))))))))))))))))), ?_⟩
    have cl := G.ins.cl
    have na : ∀ f ∈ flds, NoAttr K Cc f := G.na
    have B : But self H H := But.refl
    have ln : Sm 0 ([] : List (Str × V)) := Nat.le_refl _
    have nlst : ∀ {a : Addr} {xs : List V}, LorT H a xs → a ≠ self := fun {a xs} e z => by
      rcases e with e | e <;> (rw [z, hs0] at e; cases e)
    have keep : ∀ {H' : Hp} {a : Addr} {xs : List V}, But self H H' → LorT H a xs → LorT H' a xs := fun b e => e.imp (b _ _ (nlst e)) (b _ _ (nlst e))
    refine ⟨_, rfl, _, rfl, self, Cc, dx, _, rfl, hs, cl, na _ (by decide), Nat.lt_of_le_of_lt ln (by decide), ?_⟩
    walk_at "fld"
    refine ⟨_, rfl, _, rfl, self, Cc, dx, _, rfl, hs, cl, na _ (by decide), Nat.lt_of_le_of_lt ln (by decide), ?_⟩
    walk_at "fld"
    refine ⟨_, rfl, _, rfl, self, Cc, dx, _, rfl, hs, cl, na _ (by decide), Nat.lt_of_le_of_lt ln (by decide), ?_⟩
    walk_at "fld"
    refine ⟨_, rfl, _, rfl, self, Cc, dx, _, rfl, hs, cl, na _ (by decide), Nat.lt_of_le_of_lt ln (by decide), ?_⟩
    walk_at "fld"
    refine ⟨_, rfl, _, rfl, self, Cc, dx, _, rfl, hs, cl, na _ (by decide), Nat.lt_of_le_of_lt ln (by decide), ?_⟩
    walk_at "fld"
    refine ⟨_, rfl, _, rfl, self, Cc, dx, _, rfl, hs, cl, na _ (by decide), Nat.lt_of_le_of_lt ln (by decide), ?_⟩
    walk_at "fld"
    refine ⟨_, rfl, _, rfl, self, Cc, dx, _, rfl, hs, cl, na _ (by decide), Nat.lt_of_le_of_lt ln (by decide), ?_⟩
    walk_at "fld"
    refine ⟨_, rfl, _, rfl, self, Cc, dx, _, rfl, hs, cl, na _ (by decide), Nat.lt_of_le_of_lt ln (by decide), ?_⟩
    walk_at "fld"
    refine ⟨_, rfl, _, rfl, self, Cc, dx, _, rfl, hs, cl, na _ (by decide), Nat.lt_of_le_of_lt ln (by decide), ?_⟩
    walk_at "fld"
    refine ⟨_, rfl, _, rfl, self, Cc, dx, _, rfl, hs, cl, na _ (by decide), Nat.lt_of_le_of_lt ln (by decide), ?_⟩
    walk_at "fld"
    refine ⟨_, rfl, _, rfl, self, Cc, dx, _, rfl, hs, cl, na _ (by decide), Nat.lt_of_le_of_lt ln (by decide), ?_⟩
    walk_at "fld"
    refine ⟨_, rfl, _, rfl, self, Cc, dx, _, rfl, hs, cl, na _ (by decide), Nat.lt_of_le_of_lt ln (by decide), ?_⟩
    walk_at "fld"
    refine ⟨_, rfl, _, rfl, self, Cc, dx, _, rfl, hs, cl, na _ (by decide), Nat.lt_of_le_of_lt ln (by decide), ?_⟩
    walk_at "fld"
    refine ⟨_, rfl, _, rfl, self, Cc, dx, _, rfl, hs, cl, na _ (by decide), Nat.lt_of_le_of_lt ln (by decide), ?_⟩
    walk_at "fld"
    have okf := fsok_of hs ⟨
      ⟨_, (look_miss (by decide +kernel) (look_miss (by decide +kernel) (look_miss (by decide +kernel) (look_miss (by decide +kernel) (look_miss (by decide +kernel) (look_miss (by decide +kernel) (look_miss (by decide +kernel) (look_miss (by decide +kernel) (look_miss (by decide +kernel) (look_miss (by decide +kernel) (look_miss (by decide +kernel) (look_miss (by decide +kernel) (look_miss (by decide +kernel) look_hit))))))))))))), ok.n1⟩,
      ⟨_, (look_miss (by decide +kernel) (look_miss (by decide +kernel) (look_miss (by decide +kernel) (look_miss (by decide +kernel) (look_miss (by decide +kernel) (look_miss (by decide +kernel) (look_miss (by decide +kernel) (look_miss (by decide +kernel) (look_miss (by decide +kernel) (look_miss (by decide +kernel) (look_miss (by decide +kernel) (look_miss (by decide +kernel) look_hit)))))))))))), ok.n2⟩,
      ⟨_, (look_miss (by decide +kernel) (look_miss (by decide +kernel) (look_miss (by decide +kernel) (look_miss (by decide +kernel) (look_miss (by decide +kernel) (look_miss (by decide +kernel) (look_miss (by decide +kernel) (look_miss (by decide +kernel) (look_miss (by decide +kernel) (look_miss (by decide +kernel) (look_miss (by decide +kernel) look_hit))))))))))), ok.n3⟩,
      ⟨_, (look_miss (by decide +kernel) (look_miss (by decide +kernel) (look_miss (by decide +kernel) (look_miss (by decide +kernel) (look_miss (by decide +kernel) (look_miss (by decide +kernel) (look_miss (by decide +kernel) (look_miss (by decide +kernel) (look_miss (by decide +kernel) (look_miss (by decide +kernel) look_hit)))))))))), ok.n4⟩,
      ⟨_, (look_miss (by decide +kernel) (look_miss (by decide +kernel) (look_miss (by decide +kernel) (look_miss (by decide +kernel) (look_miss (by decide +kernel) (look_miss (by decide +kernel) (look_miss (by decide +kernel) (look_miss (by decide +kernel) (look_miss (by decide +kernel) look_hit))))))))), c, D.code, rfl, keep B hc, ok.code.1, ok.code.2⟩,
      ⟨_, (look_miss (by decide +kernel) (look_miss (by decide +kernel) (look_miss (by decide +kernel) (look_miss (by decide +kernel) (look_miss (by decide +kernel) (look_miss (by decide +kernel) (look_miss (by decide +kernel) (look_miss (by decide +kernel) look_hit)))))))), k1, D.consts, rfl, keep B e1, (fun x hx => (ok.consts x hx).but hs0 B), ok.clen⟩,
      ⟨_, (look_miss (by decide +kernel) (look_miss (by decide +kernel) (look_miss (by decide +kernel) (look_miss (by decide +kernel) (look_miss (by decide +kernel) (look_miss (by decide +kernel) (look_miss (by decide +kernel) look_hit))))))), k2, D.names, rfl, keep B e2, ok.names.1, ok.names.2⟩,
      ⟨_, _, (look_miss (by decide +kernel) (look_miss (by decide +kernel) (look_miss (by decide +kernel) (look_miss (by decide +kernel) (look_miss (by decide +kernel) (look_miss (by decide +kernel) look_hit)))))), (look_miss (by decide +kernel) (look_miss (by decide +kernel) (look_miss (by decide +kernel) (look_miss (by decide +kernel) (look_miss (by decide +kernel) look_hit))))), k3, D.slots, k4, D.kinds, rfl, keep B e3, ok.slots.1, ok.slots.2, rfl, keep B e4, ok.kinds.1, ok.klen⟩,
      ⟨_, (look_miss (by decide +kernel) (look_miss (by decide +kernel) (look_miss (by decide +kernel) (look_miss (by decide +kernel) look_hit)))), ok.name⟩,
      ⟨_, (look_miss (by decide +kernel) (look_miss (by decide +kernel) (look_miss (by decide +kernel) look_hit))), ok.path⟩,
      ⟨_, (look_miss (by decide +kernel) (look_miss (by decide +kernel) look_hit)), ok.line⟩,
      ⟨_, (look_miss (by decide +kernel) look_hit), l, D.lines, rfl, keep B hl, ok.lines.1, ok.lines.2⟩,
      ⟨_, look_hit, h, D.handlers, rfl, keep B hh, ok.handlers.1, ok.handlers.2⟩⟩
    refine ⟨_, rfl, self, dx, _, rfl, hs, look_miss (by decide +kernel) (look_miss (by decide +kernel) (look_miss (by decide +kernel) (look_miss (by decide +kernel) (look_miss (by decide +kernel) (look_miss (by decide +kernel) (look_miss (by decide +kernel) (look_miss (by decide +kernel) (look_miss (by decide +kernel) (look_miss (by decide +kernel) (look_miss (by decide +kernel) (look_miss (by decide +kernel) (look_miss (by decide +kernel) (look_miss (by decide +kernel) (rfl)))))))))))))), self, dx, _, rfl, hs, okf, fun J S => ?_⟩
    replace hs := S _ _ hs
    replace B := B.trans (But.of S)
    clear okf S
    -- the tuples
    obtain ⟨F0, hs, ln, kp⟩ : ∃ F0, J self = some (.ins Cc dx F0) ∧ Sm 14 F0 ∧ (F0.lookup ("argcount" : Str) = some (V.int D.i1) ∧ F0.lookup ("onlycount" : Str) = some (V.int D.i2) ∧ F0.lookup ("stacksize" : Str) = some (V.int D.i3) ∧ F0.lookup ("flags" : Str) = some (V.int D.i4) ∧
        F0.lookup ("name" : Str) = some (V.str D.name) ∧ F0.lookup ("path" : Str) = some (V.str D.path) ∧ F0.lookup ("line" : Str) = some (V.int D.line)) :=
      ⟨_, hs, ln, (look_miss (by decide +kernel) (look_miss (by decide +kernel) (look_miss (by decide +kernel) (look_miss (by decide +kernel) (look_miss (by decide +kernel) (look_miss (by decide +kernel) (look_miss (by decide +kernel) (look_miss (by decide +kernel) (look_miss (by decide +kernel) (look_miss (by decide +kernel) (look_miss (by decide +kernel) (look_miss (by decide +kernel) (look_miss (by decide +kernel) look_hit))))))))))))), (look_miss (by decide +kernel) (look_miss (by decide +kernel) (look_miss (by decide +kernel) (look_miss (by decide +kernel) (look_miss (by decide +kernel) (look_miss (by decide +kernel) (look_miss (by decide +kernel) (look_miss (by decide +kernel) (look_miss (by decide +kernel) (look_miss (by decide +kernel) (look_miss (by decide +kernel) (look_miss (by decide +kernel) look_hit)))))))))))), (look_miss (by decide +kernel) (look_miss (by decide +kernel) (look_miss (by decide +kernel) (look_miss (by decide +kernel) (look_miss (by decide +kernel) (look_miss (by decide +kernel) (look_miss (by decide +kernel) (look_miss (by decide +kernel) (look_miss (by decide +kernel) (look_miss (by decide +kernel) (look_miss (by decide +kernel) look_hit))))))))))), (look_miss (by decide +kernel) (look_miss (by decide +kernel) (look_miss (by decide +kernel) (look_miss (by decide +kernel) (look_miss (by decide +kernel) (look_miss (by decide +kernel) (look_miss (by decide +kernel) (look_miss (by decide +kernel) (look_miss (by decide +kernel) (look_miss (by decide +kernel) look_hit)))))))))), (look_miss (by decide +kernel) (look_miss (by decide +kernel) (look_miss (by decide +kernel) (look_miss (by decide +kernel) look_hit)))), (look_miss (by decide +kernel) (look_miss (by decide +kernel) (look_miss (by decide +kernel) look_hit))), (look_miss (by decide +kernel) (look_miss (by decide +kernel) look_hit))⟩
    obtain ⟨kp1, kp2, kp3, kp4, kp5, kp6, kp7⟩ := kp
    refine ⟨_, rfl, _, _, rfl, keep B e1, fun t1 J1 s1 h1 q1 => ?_⟩
    replace hs := s1 _ _ hs
    replace B := B.trans (But.of s1)
    have z1 : t1 ≠ self := fun z => by
      rw [z, hs] at h1
      cases h1
    refine ⟨_, rfl, self, Cc, dx, _, rfl, hs, cl, na _ (by decide), Nat.lt_of_le_of_lt ln (by decide), ?_⟩
    generalize eu : upd _ self (HO.ins _ _ _) = Hn
    replace hs := (congrArg (fun z : Hp => z self = some _) eu).mp upd_same
    replace B := (congrArg (But self H) eu).mp (But.upd B)
    have bu : But self _ Hn := (congrArg (But self _) eu).mp (But.upd But.refl)
    have ln := fldlen hs ln
    replace h1 := bu _ _ z1 h1
    clear eu bu
    refine ⟨_, rfl, _, _, rfl, keep B e2, fun t2 J2 s2 h2 q2 => ?_⟩
    replace hs := s2 _ _ hs
    replace B := B.trans (But.of s2)
    have z2 : t2 ≠ self := fun z => by
      rw [z, hs] at h2
      cases h2
    replace h1 := s2 _ _ h1
    refine ⟨_, rfl, self, Cc, dx, _, rfl, hs, cl, na _ (by decide), Nat.lt_of_le_of_lt ln (by decide), ?_⟩
    generalize eu : upd _ self (HO.ins _ _ _) = Hn
    replace hs := (congrArg (fun z : Hp => z self = some _) eu).mp upd_same
    replace B := (congrArg (But self H) eu).mp (But.upd B)
    have bu : But self _ Hn := (congrArg (But self _) eu).mp (But.upd But.refl)
    have ln := fldlen hs ln
    replace h1 := bu _ _ z1 h1
    replace h2 := bu _ _ z2 h2
    clear eu bu
    refine ⟨_, rfl, _, _, rfl, keep B e3, fun t3 J3 s3 h3 q3 => ?_⟩
    replace hs := s3 _ _ hs
    replace B := B.trans (But.of s3)
    have z3 : t3 ≠ self := fun z => by
      rw [z, hs] at h3
      cases h3
    replace h1 := s3 _ _ h1
    replace h2 := s3 _ _ h2
    refine ⟨_, rfl, self, Cc, dx, _, rfl, hs, cl, na _ (by decide), Nat.lt_of_le_of_lt ln (by decide), ?_⟩
    generalize eu : upd _ self (HO.ins _ _ _) = Hn
    replace hs := (congrArg (fun z : Hp => z self = some _) eu).mp upd_same
    replace B := (congrArg (But self H) eu).mp (But.upd B)
    have bu : But self _ Hn := (congrArg (But self _) eu).mp (But.upd But.refl)
    have ln := fldlen hs ln
    replace h1 := bu _ _ z1 h1
    replace h2 := bu _ _ z2 h2
    replace h3 := bu _ _ z3 h3
    clear eu bu
    refine ⟨_, rfl, _, _, rfl, keep B hc, fun t4 J4 s4 h4 q4 => ?_⟩
    replace hs := s4 _ _ hs
    replace B := B.trans (But.of s4)
    have z4 : t4 ≠ self := fun z => by
      rw [z, hs] at h4
      cases h4
    replace h1 := s4 _ _ h1
    replace h2 := s4 _ _ h2
    replace h3 := s4 _ _ h3
    refine ⟨_, rfl, _, _, rfl, keep B e4, fun t5 J5 s5 h5 q5 => ?_⟩
    replace hs := s5 _ _ hs
    replace B := B.trans (But.of s5)
    have z5 : t5 ≠ self := fun z => by
      rw [z, hs] at h5
      cases h5
    replace h1 := s5 _ _ h1
    replace h2 := s5 _ _ h2
    replace h3 := s5 _ _ h3
    replace h4 := s5 _ _ h4
    refine ⟨(by show 2 ≤ sizeLine; decide), ?_⟩
    intro pp1 np1
    have sp1 := Same.new (o := .tup [.ref t4, .ref t5]) np1
    have hp1 : upd J5 pp1 (.tup [.ref t4, .ref t5]) pp1 = some (.tup [.ref t4, .ref t5]) := upd_same
    replace hs := sp1 _ _ hs
    replace B := B.trans (But.of sp1)
    replace h1 := sp1 _ _ h1
    replace h2 := sp1 _ _ h2
    replace h3 := sp1 _ _ h3
    replace h4 := sp1 _ _ h4
    replace h5 := sp1 _ _ h5
    refine ⟨pp1, _, rfl, SqT.of hp1, rfl, _, _, rfl, _, rfl, self, Cc, dx, _, rfl, hs, cl, na _ (by decide), Nat.lt_of_le_of_lt ln (by decide), ?_⟩
    generalize eu : upd _ self (HO.ins _ _ _) = Hn
    replace hs := (congrArg (fun z : Hp => z self = some _) eu).mp upd_same
    replace B := (congrArg (But self H) eu).mp (But.upd B)
    have bu : But self _ Hn := (congrArg (But self _) eu).mp (But.upd But.refl)
    have ln := fldlen hs ln
    replace h1 := bu _ _ z1 h1
    replace h2 := bu _ _ z2 h2
    replace h3 := bu _ _ z3 h3
    replace h4 := bu _ _ z4 h4
    replace h5 := bu _ _ z5 h5
    clear eu bu
    refine ⟨_, _, rfl, _, rfl, self, Cc, dx, _, rfl, hs, cl, na _ (by decide), Nat.lt_of_le_of_lt ln (by decide), ?_⟩
    generalize eu : upd _ self (HO.ins _ _ _) = Hn
    replace hs := (congrArg (fun z : Hp => z self = some _) eu).mp upd_same
    replace B := (congrArg (But self H) eu).mp (But.upd B)
    have bu : But self _ Hn := (congrArg (But self _) eu).mp (But.upd But.refl)
    have ln := fldlen hs ln
    replace h1 := bu _ _ z1 h1
    replace h2 := bu _ _ z2 h2
    replace h3 := bu _ _ z3 h3
    replace h4 := bu _ _ z4 h4
    replace h5 := bu _ _ z5 h5
    clear eu bu
    refine ⟨rfl, ?_⟩
    refine ⟨_, rfl, _, _, rfl, keep B hl, fun t6 J6 s6 h6 q6 => ?_⟩
    replace hs := s6 _ _ hs
    replace B := B.trans (But.of s6)
    have z6 : t6 ≠ self := fun z => by
      rw [z, hs] at h6
      cases h6
    replace h1 := s6 _ _ h1
    replace h2 := s6 _ _ h2
    replace h3 := s6 _ _ h3
    replace h4 := s6 _ _ h4
    replace h5 := s6 _ _ h5
    refine ⟨_, rfl, _, _, rfl, keep B hh, fun t7 J7 s7 h7 q7 => ?_⟩
    replace hs := s7 _ _ hs
    replace B := B.trans (But.of s7)
    have z7 : t7 ≠ self := fun z => by
      rw [z, hs] at h7
      cases h7
    replace h1 := s7 _ _ h1
    replace h2 := s7 _ _ h2
    replace h3 := s7 _ _ h3
    replace h4 := s7 _ _ h4
    replace h5 := s7 _ _ h5
    replace h6 := s7 _ _ h6
    refine ⟨(by show 2 ≤ sizeLine; decide), ?_⟩
    intro pp2 np2
    have sp2 := Same.new (o := .tup [.ref t6, .ref t7]) np2
    have hp2 : upd J7 pp2 (.tup [.ref t6, .ref t7]) pp2 = some (.tup [.ref t6, .ref t7]) := upd_same
    replace hs := sp2 _ _ hs
    replace B := B.trans (But.of sp2)
    replace h1 := sp2 _ _ h1
    replace h2 := sp2 _ _ h2
    replace h3 := sp2 _ _ h3
    replace h4 := sp2 _ _ h4
    replace h5 := sp2 _ _ h5
    replace h6 := sp2 _ _ h6
    replace h7 := sp2 _ _ h7
    refine ⟨pp2, _, rfl, SqT.of hp2, rfl, _, _, rfl, _, rfl, self, Cc, dx, _, rfl, hs, cl, na _ (by decide), Nat.lt_of_le_of_lt ln (by decide), ?_⟩
    generalize eu : upd _ self (HO.ins _ _ _) = Hn
    replace hs := (congrArg (fun z : Hp => z self = some _) eu).mp upd_same
    replace B := (congrArg (But self H) eu).mp (But.upd B)
    have bu : But self _ Hn := (congrArg (But self _) eu).mp (But.upd But.refl)
    have ln := fldlen hs ln
    replace h1 := bu _ _ z1 h1
    replace h2 := bu _ _ z2 h2
    replace h3 := bu _ _ z3 h3
    replace h4 := bu _ _ z4 h4
    replace h5 := bu _ _ z5 h5
    replace h6 := bu _ _ z6 h6
    replace h7 := bu _ _ z7 h7
    clear eu bu
    refine ⟨_, _, rfl, _, rfl, self, Cc, dx, _, rfl, hs, cl, na _ (by decide), Nat.lt_of_le_of_lt ln (by decide), ?_⟩
    generalize eu : upd _ self (HO.ins _ _ _) = Hn
    replace hs := (congrArg (fun z : Hp => z self = some _) eu).mp upd_same
    replace B := (congrArg (But self H) eu).mp (But.upd B)
    have bu : But self _ Hn := (congrArg (But self _) eu).mp (But.upd But.refl)
    have ln := fldlen hs ln
    replace h1 := bu _ _ z1 h1
    replace h2 := bu _ _ z2 h2
    replace h3 := bu _ _ z3 h3
    replace h4 := bu _ _ z4 h4
    replace h5 := bu _ _ z5 h5
    replace h6 := bu _ _ z6 h6
    replace h7 := bu _ _ z7 h7
    clear eu bu
    refine ⟨rfl, ?_⟩
    -- nested
    refine ⟨(by show 1 ≤ sizeLine; decide), ?_⟩
    intro pz nz
    have sz := Same.new (o := .lst [.int 0]) nz
    have hz : upd _ pz (.lst [.int 0]) pz = some (.lst [.int 0]) := upd_same (H := Hn)
    replace hs := sz _ _ hs
    replace B := B.trans (But.of sz)
    replace h1 := sz _ _ h1
    replace h2 := sz _ _ h2
    replace h3 := sz _ _ h3
    replace h4 := sz _ _ h4
    replace h5 := sz _ _ h5
    replace h6 := sz _ _ h6
    replace h7 := sz _ _ h7
    have hk := keep B e1
    generalize upd Hn pz (.lst [.int 0]) = Hz at sz hz hs B hk h1 h2 h3 h4 h5 h6 h7 ⊢
    have B0 := B
    have hx : ∀ x ∈ D.consts, KTop Cc d Hz x := fun x m => (ok.consts x m).but hs0 B
    refine ⟨_, rfl, k1, rfl, lc_both (K := K) hk.sq (fun A i H' => Same Hz H' ∧ ∃ l : List Int, H' A = some (.lst (l.map V.int)) ∧ l.length ≤ i ∧ (∀ j ∈ l, ∃ x ∈ D.consts, KCode Cc Hz x j) ∧ ∀ y ∈ D.consts.take i, ∀ j, KCode Cc Hz y j → j ∈ l)
      (fun A nA => ⟨Same.new nA, [], upd_same, Nat.le_refl _, (fun j hj => by cases hj), (fun y hy => by simp at hy)⟩) (fun A i H' _ _ p => p.1) ?_ ?_⟩
    · rintro A i x H' nA hi ⟨s2, l, hA, hl, ha, hb⟩
      have hxm := List.mem_of_getElem? hi
      have hil : i < D.consts.length := (List.getElem?_eq_some_iff.mp hi).1
      refine ⟨rfl, ?_⟩
      have htk : D.consts.take (i + 1) = D.consts.take i ++ [x] := by
        rw [List.take_add_one, hi]
        rfl
      rcases hx x hxm with hin | ⟨j, hc⟩
      · obtain ⟨t, tm, ty⟩ := hin.odd (K := K)
        refine ⟨_, rfl, x, V.ref Cc, .type t, .ref Cc, false, rfl, .own Cc, TyX.same s2 ty, G.no t tm, _, rfl, ?_⟩
        refine ⟨s2, l, hA, Nat.le_succ_of_le hl, ha, fun y hy j hc => ?_⟩
        rw [htk] at hy
        rcases List.mem_append.mp hy with z | z
        · exact hb y z j hc
        · rw [List.mem_singleton.mp z] at hc
          exact absurd hc hin.noCode
      · have hc0 := hc
        obtain ⟨a, dx', fs', rfl, hca, hcl, j0, j1⟩ := hc
        have hca := s2 _ _ hca
        refine ⟨_, rfl, V.ref a, V.ref Cc, .ref Cc, .ref Cc, true, rfl, .own Cc, .base (.ins hca G.ins.cl G.ins.ha G.ins.hn G.ins.htk G.ins.hm), G.ins.me, _, rfl, ?_⟩
        refine ⟨_, rfl, a, Cc, dx', fs', _, rfl, hca, cl, na _ (by decide), hcl, ?_⟩
        refine ⟨_, hA, ?_, Same.mut s2 nA, l ++ [j], ?_, ?_, ?_, ?_⟩
        · rw [List.length_map]
          exact Nat.lt_of_lt_of_le (Nat.lt_of_le_of_lt hl hil) (Nat.le_trans ok.clen (by decide))
        · rw [upd_same, List.map_append]
          rfl
        · rw [List.length_append]
          exact Nat.succ_le_succ hl
        · intro i' hi'
          rcases List.mem_append.mp hi' with z | z
          · exact ha i' z
          · rw [List.mem_singleton.mp z]
            exact ⟨_, hxm, hc0⟩
        · intro y hy j' hc'
          rw [htk] at hy
          rcases List.mem_append.mp hy with z | z
          · exact List.mem_append.mpr (.inl (hb y z j' hc'))
          · rw [List.mem_singleton.mp z] at hc'
            exact List.mem_append.mpr (.inr (List.mem_singleton.mpr (hc'.one (fun _ _ e _ => e) hc0)))
    rintro A H' nA ⟨s2, l, hA, hl, ha, hb⟩
    replace hs := s2 _ _ hs
    replace B := B.trans (But.of s2)
    replace h1 := s2 _ _ h1
    replace h2 := s2 _ _ h2
    replace h3 := s2 _ _ h3
    replace h4 := s2 _ _ h4
    replace h5 := s2 _ _ h5
    replace h6 := s2 _ _ h6
    replace h7 := s2 _ _ h7
    refine ⟨pz, A, _, _, rfl, rfl, s2 _ _ hz, hA, ?_, ?_⟩
    · rw [List.length_map]
      show 1 + l.length ≤ sizeLine
      exact Nat.le_trans (Nat.add_le_add_left (Nat.le_trans hl ok.clen) 1) (by decide)
    intro pw nw
    have sw := Same.new (o := .lst ([.int 0] ++ l.map V.int)) nw
    have hw : upd H' pw (.lst ([.int 0] ++ l.map V.int)) pw = some (.lst ((0 :: l).map V.int)) := upd_same
    replace hs := sw _ _ hs
    replace B := B.trans (But.of sw)
    replace h1 := sw _ _ h1
    replace h2 := sw _ _ h2
    replace h3 := sw _ _ h3
    replace h4 := sw _ _ h4
    replace h5 := sw _ _ h5
    replace h6 := sw _ _ h6
    replace h7 := sw _ _ h7
    refine ⟨pw, 0 :: l, rfl, SqL.of hw, (by simp), fun m hm hle => ?_⟩
    refine ⟨_, _, rfl, rfl, ?_⟩
    refine ⟨_, rfl, self, Cc, dx, _, rfl, hs, cl, na _ (by decide), Nat.lt_of_le_of_lt ln (by decide), ?_⟩
    generalize eu : upd _ self (HO.ins _ _ _) = Hn
    replace hs := (congrArg (fun z : Hp => z self = some _) eu).mp upd_same
    replace B := (congrArg (But self H) eu).mp (But.upd B)
    have bu : But self _ Hn := (congrArg (But self _) eu).mp (But.upd But.refl)
    have ln := fldlen hs ln
    replace h1 := bu _ _ z1 h1
    replace h2 := bu _ _ z2 h2
    replace h3 := bu _ _ z3 h3
    replace h4 := bu _ _ z4 h4
    replace h5 := bu _ _ z5 h5
    replace h6 := bu _ _ z6 h6
    replace h7 := bu _ _ z7 h7
    clear eu bu
    have back : ∀ {x : V} {j : Int}, x ∈ D.consts → KCode Cc Hz x j → KCode Cc H x j := fun {x j} hxm hc => by
      rcases ok.consts x hxm with z | ⟨j', z⟩
      · exfalso
        rcases hx x hxm with y | ⟨j'', y⟩
        · exact y.noCode hc
        · cases z with
          | tup hh _ _ =>
            obtain ⟨a, _, _, e, hh', _⟩ := hc
            cases e
            rw [B0 _ _ (fun z => by rw [z, hs0] at hh; cases hh) hh] at hh'
            cases hh'
          | _ =>
            obtain ⟨a, _, _, e, _⟩ := hc
            cases e
      · have := (z.but hs0 B0).one (fun _ _ e _ => e) hc
        rw [← this]
        exact z
    refine k Hn (1 + m) B ⟨fun x hxm j hc => ?_, ?_⟩ ⟨dx, _, hs, (look_miss (by decide +kernel) (look_miss (by decide +kernel) (look_miss (by decide +kernel) (look_miss (by decide +kernel) (look_miss (by decide +kernel) (look_miss (by decide +kernel) (look_miss (by decide +kernel) (look_miss (by decide +kernel) kp1)))))))), (look_miss (by decide +kernel) (look_miss (by decide +kernel) (look_miss (by decide +kernel) (look_miss (by decide +kernel) (look_miss (by decide +kernel) (look_miss (by decide +kernel) (look_miss (by decide +kernel) (look_miss (by decide +kernel) kp2)))))))), (look_miss (by decide +kernel) (look_miss (by decide +kernel) (look_miss (by decide +kernel) (look_miss (by decide +kernel) (look_miss (by decide +kernel) (look_miss (by decide +kernel) (look_miss (by decide +kernel) (look_miss (by decide +kernel) kp3)))))))), (look_miss (by decide +kernel) (look_miss (by decide +kernel) (look_miss (by decide +kernel) (look_miss (by decide +kernel) (look_miss (by decide +kernel) (look_miss (by decide +kernel) (look_miss (by decide +kernel) (look_miss (by decide +kernel) kp4)))))))), ⟨_, (look_miss (by decide +kernel) (look_miss (by decide +kernel) (look_miss (by decide +kernel) (look_miss (by decide +kernel) look_hit)))), h4⟩, ⟨_, (look_miss (by decide +kernel) (look_miss (by decide +kernel) (look_miss (by decide +kernel) (look_miss (by decide +kernel) (look_miss (by decide +kernel) (look_miss (by decide +kernel) (look_miss (by decide +kernel) look_hit))))))), h1⟩, ⟨_, (look_miss (by decide +kernel) (look_miss (by decide +kernel) (look_miss (by decide +kernel) (look_miss (by decide +kernel) (look_miss (by decide +kernel) (look_miss (by decide +kernel) look_hit)))))), h2⟩, ⟨_, (look_miss (by decide +kernel) (look_miss (by decide +kernel) (look_miss (by decide +kernel) (look_miss (by decide +kernel) (look_miss (by decide +kernel) look_hit))))), h3⟩, ⟨_, (look_miss (by decide +kernel) (look_miss (by decide +kernel) (look_miss (by decide +kernel) look_hit))), h5⟩, (look_miss (by decide +kernel) (look_miss (by decide +kernel) (look_miss (by decide +kernel) (look_miss (by decide +kernel) (look_miss (by decide +kernel) (look_miss (by decide +kernel) (look_miss (by decide +kernel) (look_miss (by decide +kernel) kp5)))))))), (look_miss (by decide +kernel) (look_miss (by decide +kernel) (look_miss (by decide +kernel) (look_miss (by decide +kernel) (look_miss (by decide +kernel) (look_miss (by decide +kernel) (look_miss (by decide +kernel) (look_miss (by decide +kernel) kp6)))))))), (look_miss (by decide +kernel) (look_miss (by decide +kernel) (look_miss (by decide +kernel) (look_miss (by decide +kernel) (look_miss (by decide +kernel) (look_miss (by decide +kernel) (look_miss (by decide +kernel) (look_miss (by decide +kernel) kp7)))))))), ⟨_, (look_miss (by decide +kernel) (look_miss (by decide +kernel) look_hit)), h6⟩, ⟨_, (look_miss (by decide +kernel) look_hit), h7⟩, look_hit⟩
    · have := hle j (List.mem_cons_of_mem _ (hb x (by rw [List.take_length]; exact hxm) j (hc.but hs0 B0)))
      omega
    · rcases List.mem_cons.mp hm with z | z
      · left
        omega
      · obtain ⟨x, hxm, hc⟩ := ha m z
        exact .inr ⟨x, hxm, m, back hxm hc, by omega⟩
end
end K58
set_option maxHeartbeats 4000000
namespace K58
open PySem PySem.Spec PyProof.Rows L2 Nd
def tN0 : List (Key × Vo) := [(.inr "CACHE", .inl 0), (.inr "BEFORE_WITH", .inl 2), (.inr "BINARY_SLICE", .inl 4), (.inr "BINARY_SUBSCR", .inl 5), (.inr "CHECK_EXC_MATCH", .inl 7), (.inr "CLEANUP_THROW", .inl 8), (.inr "DELETE_SUBSCR", .inl 9), (.inr "END_FOR", .inl 11), (.inr "END_SEND", .inl 12), (.inr "GET_ITER", .inl 19), (.inr "GET_YIELD_FROM_ITER", .inl 21), (.inr "LOAD_ASSERTION_ERROR", .inl 23)]
def tN1 : List (Key × Vo) := [(.inr "LOAD_BUILD_CLASS", .inl 24), (.inr "LOAD_LOCALS", .inl 25), (.inr "MAKE_FUNCTION", .inl 26), (.inr "NOP", .inl 30), (.inr "POP_EXCEPT", .inl 31), (.inr "POP_TOP", .inl 32), (.inr "PUSH_EXC_INFO", .inl 33), (.inr "PUSH_NULL", .inl 34), (.inr "RETURN_GENERATOR", .inl 35), (.inr "RETURN_VALUE", .inl 36), (.inr "STORE_SLICE", .inl 38), (.inr "STORE_SUBSCR", .inl 39)]
def tN2 : List (Key × Vo) := [(.inr "TO_BOOL", .inl 40), (.inr "UNARY_INVERT", .inl 41), (.inr "UNARY_NEGATIVE", .inl 42), (.inr "UNARY_NOT", .inl 43), (.inr "WITH_EXCEPT_START", .inl 44), (.inr "BINARY_OP", .inl 45), (.inr "BUILD_CONST_KEY_MAP", .inl 46), (.inr "BUILD_LIST", .inl 47), (.inr "BUILD_MAP", .inl 48), (.inr "BUILD_TUPLE", .inl 52), (.inr "CALL", .inl 53), (.inr "CALL_FUNCTION_EX", .inl 54)]
def tN3 : List (Key × Vo) := [(.inr "CALL_INTRINSIC_1", .inl 55), (.inr "CALL_KW", .inl 57), (.inr "COMPARE_OP", .inl 58), (.inr "CONTAINS_OP", .inl 59), (.inr "COPY", .inl 61), (.inr "COPY_FREE_VARS", .inl 62), (.inr "DELETE_ATTR", .inl 63), (.inr "DELETE_DEREF", .inl 64), (.inr "DELETE_FAST", .inl 65), (.inr "DELETE_GLOBAL", .inl 66), (.inr "DELETE_NAME", .inl 67), (.inr "DICT_MERGE", .inl 68)]
def tN4 : List (Key × Vo) := [(.inr "EXTENDED_ARG", .inl 71), (.inr "FOR_ITER", .inl 72), (.inr "IS_OP", .inl 76), (.inr "JUMP_BACKWARD", .inl 77), (.inr "JUMP_BACKWARD_NO_INTERRUPT", .inl 78), (.inr "JUMP_FORWARD", .inl 79), (.inr "LIST_APPEND", .inl 80), (.inr "LIST_EXTEND", .inl 81), (.inr "LOAD_ATTR", .inl 82), (.inr "LOAD_CONST", .inl 83), (.inr "LOAD_DEREF", .inl 84), (.inr "LOAD_FAST", .inl 85)]
def tN5 : List (Key × Vo) := [(.inr "LOAD_FAST_CHECK", .inl 87), (.inr "LOAD_FAST_LOAD_FAST", .inl 88), (.inr "LOAD_FROM_DICT_OR_DEREF", .inl 89), (.inr "LOAD_GLOBAL", .inl 91), (.inr "LOAD_NAME", .inl 92), (.inr "MAKE_CELL", .inl 94), (.inr "MAP_ADD", .inl 95), (.inr "POP_JUMP_IF_FALSE", .inl 97), (.inr "POP_JUMP_IF_NONE", .inl 98), (.inr "POP_JUMP_IF_NOT_NONE", .inl 99), (.inr "POP_JUMP_IF_TRUE", .inl 100), (.inr "RAISE_VARARGS", .inl 101)]
def tN6 : List (Key × Vo) := [(.inr "RERAISE", .inl 102), (.inr "RETURN_CONST", .inl 103), (.inr "SEND", .inl 104), (.inr "SET_FUNCTION_ATTRIBUTE", .inl 106), (.inr "STORE_ATTR", .inl 108), (.inr "STORE_DEREF", .inl 109), (.inr "STORE_FAST", .inl 110), (.inr "STORE_FAST_LOAD_FAST", .inl 111), (.inr "STORE_FAST_STORE_FAST", .inl 112), (.inr "STORE_GLOBAL", .inl 113), (.inr "STORE_NAME", .inl 114), (.inr "SWAP", .inl 115)]
def tN7 : List (Key × Vo) := [(.inr "UNPACK_EX", .inl 116), (.inr "UNPACK_SEQUENCE", .inl 117), (.inr "YIELD_VALUE", .inl 118), (.inr "RESUME", .inl 149)]
def tN : List (Key × Vo) := tN0 ++ tN1 ++ tN2 ++ tN3 ++ tN4 ++ tN5 ++ tN6 ++ tN7
def tW0 : List (Key × Vo) := [(.inl 0, .inr "CACHE"), (.inl 2, .inr "BEFORE_WITH"), (.inl 4, .inr "BINARY_SLICE"), (.inl 5, .inr "BINARY_SUBSCR"), (.inl 7, .inr "CHECK_EXC_MATCH"), (.inl 8, .inr "CLEANUP_THROW"), (.inl 9, .inr "DELETE_SUBSCR"), (.inl 11, .inr "END_FOR"), (.inl 12, .inr "END_SEND"), (.inl 19, .inr "GET_ITER"), (.inl 21, .inr "GET_YIELD_FROM_ITER"), (.inl 23, .inr "LOAD_ASSERTION_ERROR")]
def tW1 : List (Key × Vo) := [(.inl 24, .inr "LOAD_BUILD_CLASS"), (.inl 25, .inr "LOAD_LOCALS"), (.inl 26, .inr "MAKE_FUNCTION"), (.inl 30, .inr "NOP"), (.inl 31, .inr "POP_EXCEPT"), (.inl 32, .inr "POP_TOP"), (.inl 33, .inr "PUSH_EXC_INFO"), (.inl 34, .inr "PUSH_NULL"), (.inl 35, .inr "RETURN_GENERATOR"), (.inl 36, .inr "RETURN_VALUE"), (.inl 38, .inr "STORE_SLICE"), (.inl 39, .inr "STORE_SUBSCR")]
def tW2 : List (Key × Vo) := [(.inl 40, .inr "TO_BOOL"), (.inl 41, .inr "UNARY_INVERT"), (.inl 42, .inr "UNARY_NEGATIVE"), (.inl 43, .inr "UNARY_NOT"), (.inl 44, .inr "WITH_EXCEPT_START"), (.inl 45, .inr "BINARY_OP"), (.inl 46, .inr "BUILD_CONST_KEY_MAP"), (.inl 47, .inr "BUILD_LIST"), (.inl 48, .inr "BUILD_MAP"), (.inl 52, .inr "BUILD_TUPLE"), (.inl 53, .inr "CALL"), (.inl 54, .inr "CALL_FUNCTION_EX")]
def tW3 : List (Key × Vo) := [(.inl 55, .inr "CALL_INTRINSIC_1"), (.inl 57, .inr "CALL_KW"), (.inl 58, .inr "COMPARE_OP"), (.inl 59, .inr "CONTAINS_OP"), (.inl 61, .inr "COPY"), (.inl 62, .inr "COPY_FREE_VARS"), (.inl 63, .inr "DELETE_ATTR"), (.inl 64, .inr "DELETE_DEREF"), (.inl 65, .inr "DELETE_FAST"), (.inl 66, .inr "DELETE_GLOBAL"), (.inl 67, .inr "DELETE_NAME"), (.inl 68, .inr "DICT_MERGE")]
def tW4 : List (Key × Vo) := [(.inl 71, .inr "EXTENDED_ARG"), (.inl 72, .inr "FOR_ITER"), (.inl 76, .inr "IS_OP"), (.inl 77, .inr "JUMP_BACKWARD"), (.inl 78, .inr "JUMP_BACKWARD_NO_INTERRUPT"), (.inl 79, .inr "JUMP_FORWARD"), (.inl 80, .inr "LIST_APPEND"), (.inl 81, .inr "LIST_EXTEND"), (.inl 82, .inr "LOAD_ATTR"), (.inl 83, .inr "LOAD_CONST"), (.inl 84, .inr "LOAD_DEREF"), (.inl 85, .inr "LOAD_FAST")]
def tW5 : List (Key × Vo) := [(.inl 87, .inr "LOAD_FAST_CHECK"), (.inl 88, .inr "LOAD_FAST_LOAD_FAST"), (.inl 89, .inr "LOAD_FROM_DICT_OR_DEREF"), (.inl 91, .inr "LOAD_GLOBAL"), (.inl 92, .inr "LOAD_NAME"), (.inl 94, .inr "MAKE_CELL"), (.inl 95, .inr "MAP_ADD"), (.inl 97, .inr "POP_JUMP_IF_FALSE"), (.inl 98, .inr "POP_JUMP_IF_NONE"), (.inl 99, .inr "POP_JUMP_IF_NOT_NONE"), (.inl 100, .inr "POP_JUMP_IF_TRUE"), (.inl 101, .inr "RAISE_VARARGS")]
def tW6 : List (Key × Vo) := [(.inl 102, .inr "RERAISE"), (.inl 103, .inr "RETURN_CONST"), (.inl 104, .inr "SEND"), (.inl 106, .inr "SET_FUNCTION_ATTRIBUTE"), (.inl 108, .inr "STORE_ATTR"), (.inl 109, .inr "STORE_DEREF"), (.inl 110, .inr "STORE_FAST"), (.inl 111, .inr "STORE_FAST_LOAD_FAST"), (.inl 112, .inr "STORE_FAST_STORE_FAST"), (.inl 113, .inr "STORE_GLOBAL"), (.inl 114, .inr "STORE_NAME"), (.inl 115, .inr "SWAP")]
def tW7 : List (Key × Vo) := [(.inl 116, .inr "UNPACK_EX"), (.inl 117, .inr "UNPACK_SEQUENCE"), (.inl 118, .inr "YIELD_VALUE"), (.inl 149, .inr "RESUME")]
def tW : List (Key × Vo) := tW0 ++ tW1 ++ tW2 ++ tW3 ++ tW4 ++ tW5 ++ tW6 ++ tW7
def tC0 : List (Key × Vo) := [(.inr "BINARY_SUBSCR", .inl 1), (.inr "STORE_SUBSCR", .inl 1), (.inr "TO_BOOL", .inl 3), (.inr "BINARY_OP", .inl 1), (.inr "CALL", .inl 3), (.inr "COMPARE_OP", .inl 1), (.inr "CONTAINS_OP", .inl 1), (.inr "FOR_ITER", .inl 1), (.inr "JUMP_BACKWARD", .inl 1), (.inr "LOAD_ATTR", .inl 9), (.inr "LOAD_GLOBAL", .inl 4), (.inr "POP_JUMP_IF_FALSE", .inl 1)]
def tC1 : List (Key × Vo) := [(.inr "POP_JUMP_IF_NONE", .inl 1), (.inr "POP_JUMP_IF_NOT_NONE", .inl 1), (.inr "POP_JUMP_IF_TRUE", .inl 1), (.inr "SEND", .inl 1), (.inr "STORE_ATTR", .inl 4), (.inr "UNPACK_SEQUENCE", .inl 1)]
def tC : List (Key × Vo) := tC0 ++ tC1
def tS0 : List (Key × Vo) := [(.inr "BINARY_OP", .inr "operator"), (.inr "BUILD_CONST_KEY_MAP", .inr "number"), (.inr "BUILD_LIST", .inr "number"), (.inr "BUILD_MAP", .inr "number"), (.inr "BUILD_TUPLE", .inr "number"), (.inr "CALL", .inr "number"), (.inr "CALL_FUNCTION_EX", .inr "number"), (.inr "CALL_INTRINSIC_1", .inr "number"), (.inr "CALL_KW", .inr "number"), (.inr "COMPARE_OP", .inr "compare"), (.inr "CONTAINS_OP", .inr "number"), (.inr "COPY", .inr "number")]
def tS1 : List (Key × Vo) := [(.inr "COPY_FREE_VARS", .inr "number"), (.inr "DELETE_ATTR", .inr "name"), (.inr "DELETE_DEREF", .inr "slot"), (.inr "DELETE_FAST", .inr "slot"), (.inr "DELETE_GLOBAL", .inr "name"), (.inr "DELETE_NAME", .inr "name"), (.inr "DICT_MERGE", .inr "number"), (.inr "EXTENDED_ARG", .inr "number"), (.inr "FOR_ITER", .inr "jump"), (.inr "IS_OP", .inr "number"), (.inr "JUMP_BACKWARD", .inr "jump"), (.inr "JUMP_BACKWARD_NO_INTERRUPT", .inr "jump")]
def tS2 : List (Key × Vo) := [(.inr "JUMP_FORWARD", .inr "jump"), (.inr "LIST_APPEND", .inr "number"), (.inr "LIST_EXTEND", .inr "number"), (.inr "LOAD_ATTR", .inr "more"), (.inr "LOAD_CONST", .inr "constant"), (.inr "LOAD_DEREF", .inr "slot"), (.inr "LOAD_FAST", .inr "slot"), (.inr "LOAD_FAST_CHECK", .inr "slot"), (.inr "LOAD_FAST_LOAD_FAST", .inr "pair"), (.inr "LOAD_FROM_DICT_OR_DEREF", .inr "slot"), (.inr "LOAD_GLOBAL", .inr "more"), (.inr "LOAD_NAME", .inr "name")]
def tS3 : List (Key × Vo) := [(.inr "MAKE_CELL", .inr "slot"), (.inr "MAP_ADD", .inr "number"), (.inr "POP_JUMP_IF_FALSE", .inr "jump"), (.inr "POP_JUMP_IF_NONE", .inr "jump"), (.inr "POP_JUMP_IF_NOT_NONE", .inr "jump"), (.inr "POP_JUMP_IF_TRUE", .inr "jump"), (.inr "RAISE_VARARGS", .inr "number"), (.inr "RERAISE", .inr "number"), (.inr "RETURN_CONST", .inr "constant"), (.inr "SEND", .inr "jump"), (.inr "SET_FUNCTION_ATTRIBUTE", .inr "number"), (.inr "STORE_ATTR", .inr "name")]
def tS4 : List (Key × Vo) := [(.inr "STORE_DEREF", .inr "slot"), (.inr "STORE_FAST", .inr "slot"), (.inr "STORE_FAST_LOAD_FAST", .inr "pair"), (.inr "STORE_FAST_STORE_FAST", .inr "pair"), (.inr "STORE_GLOBAL", .inr "name"), (.inr "STORE_NAME", .inr "name"), (.inr "SWAP", .inr "number"), (.inr "UNPACK_EX", .inr "number"), (.inr "UNPACK_SEQUENCE", .inr "number"), (.inr "YIELD_VALUE", .inr "number"), (.inr "RESUME", .inr "number")]
def tS : List (Key × Vo) := tS0 ++ tS1 ++ tS2 ++ tS3 ++ tS4
def tO0 : List (Key × Vo) := [(.inr "+", .inl 0), (.inr "&", .inl 1), (.inr "//", .inl 2), (.inr "<<", .inl 3), (.inr "*", .inl 5), (.inr "mod", .inl 6), (.inr "|", .inl 7), (.inr "**", .inl 8), (.inr ">>", .inl 9), (.inr "-", .inl 10), (.inr "^", .inl 12)]
def tO : List (Key × Vo) := tO0
def tP0 : List (Key × Vo) := [(.inr "<", .inl 2), (.inr "<=", .inl 42), (.inr "==", .inl 72), (.inr "!=", .inl 103), (.inr ">", .inl 132), (.inr ">=", .inl 172)]
def tP : List (Key × Vo) := tP0
def tI0 : List (Key × Vo) := [(.inl 3, .inr "INTRINSIC_STOPITERATION_ERROR"), (.inl 6, .inr "INTRINSIC_LIST_TO_TUPLE")]
def tI : List (Key × Vo) := tI0
def tA0 : List (Key × Vo) := [(.inl 1, .inr "defaults"), (.inl 2, .inr "kwdefaults"), (.inl 8, .inr "closure")]
def tA : List (Key × Vo) := tA0
def tM0 : List (Key × Vo) := [(.inr "LOAD_GLOBAL", .inr " + NULL"), (.inr "LOAD_ATTR", .inr " + NULL|self")]
def tM : List (Key × Vo) := tM0
/-- a word: its number, its caches, its sort -/
abbrev Rw : Type := Str × Int × Nat × Str
def rw0 : List Rw := [("BEFORE_WITH", 2, 0, "-"), ("BINARY_SLICE", 4, 0, "-"), ("BINARY_SUBSCR", 5, 1, "-"), ("CHECK_EXC_MATCH", 7, 0, "-"), ("CLEANUP_THROW", 8, 0, "-"), ("DELETE_SUBSCR", 9, 0, "-"), ("END_FOR", 11, 0, "-"), ("END_SEND", 12, 0, "-"), ("GET_ITER", 19, 0, "-"), ("GET_YIELD_FROM_ITER", 21, 0, "-"), ("LOAD_ASSERTION_ERROR", 23, 0, "-"), ("LOAD_BUILD_CLASS", 24, 0, "-"), ("LOAD_LOCALS", 25, 0, "-"), ("MAKE_FUNCTION", 26, 0, "-"), ("NOP", 30, 0, "-")]
def rw1 : List Rw := [("POP_EXCEPT", 31, 0, "-"), ("POP_TOP", 32, 0, "-"), ("PUSH_EXC_INFO", 33, 0, "-"), ("PUSH_NULL", 34, 0, "-"), ("RETURN_GENERATOR", 35, 0, "-"), ("RETURN_VALUE", 36, 0, "-"), ("STORE_SLICE", 38, 0, "-"), ("STORE_SUBSCR", 39, 1, "-"), ("TO_BOOL", 40, 3, "-"), ("UNARY_INVERT", 41, 0, "-"), ("UNARY_NEGATIVE", 42, 0, "-"), ("UNARY_NOT", 43, 0, "-"), ("WITH_EXCEPT_START", 44, 0, "-"), ("BINARY_OP", 45, 1, "o"), ("BUILD_CONST_KEY_MAP", 46, 0, "k")]
def rw2 : List Rw := [("BUILD_LIST", 47, 0, "k"), ("BUILD_MAP", 48, 0, "k"), ("BUILD_TUPLE", 52, 0, "k"), ("CALL", 53, 3, "k"), ("CALL_FUNCTION_EX", 54, 0, "k"), ("CALL_INTRINSIC_1", 55, 0, "k"), ("CALL_KW", 57, 0, "k"), ("COMPARE_OP", 58, 1, "x"), ("CONTAINS_OP", 59, 1, "k"), ("COPY", 61, 0, "k"), ("COPY_FREE_VARS", 62, 0, "k"), ("DELETE_ATTR", 63, 0, "n"), ("DELETE_DEREF", 64, 0, "l"), ("DELETE_FAST", 65, 0, "l"), ("DELETE_GLOBAL", 66, 0, "n")]
def rw3 : List Rw := [("DELETE_NAME", 67, 0, "n"), ("DICT_MERGE", 68, 0, "k"), ("FOR_ITER", 72, 1, "j"), ("IS_OP", 76, 0, "k"), ("JUMP_BACKWARD", 77, 1, "j"), ("JUMP_BACKWARD_NO_INTERRUPT", 78, 0, "j"), ("JUMP_FORWARD", 79, 0, "j"), ("LIST_APPEND", 80, 0, "k"), ("LIST_EXTEND", 81, 0, "k"), ("LOAD_ATTR", 82, 9, "m"), ("LOAD_CONST", 83, 0, "c"), ("LOAD_DEREF", 84, 0, "l"), ("LOAD_FAST", 85, 0, "l"), ("LOAD_FAST_CHECK", 87, 0, "l"), ("LOAD_FAST_LOAD_FAST", 88, 0, "p")]
def rw4 : List Rw := [("LOAD_FROM_DICT_OR_DEREF", 89, 0, "l"), ("LOAD_GLOBAL", 91, 4, "m"), ("LOAD_NAME", 92, 0, "n"), ("MAKE_CELL", 94, 0, "l"), ("MAP_ADD", 95, 0, "k"), ("POP_JUMP_IF_FALSE", 97, 1, "j"), ("POP_JUMP_IF_NONE", 98, 1, "j"), ("POP_JUMP_IF_NOT_NONE", 99, 1, "j"), ("POP_JUMP_IF_TRUE", 100, 1, "j"), ("RAISE_VARARGS", 101, 0, "k"), ("RERAISE", 102, 0, "k"), ("RETURN_CONST", 103, 0, "c"), ("SEND", 104, 1, "j"), ("SET_FUNCTION_ATTRIBUTE", 106, 0, "k"), ("STORE_ATTR", 108, 4, "n")]
def rw5 : List Rw := [("STORE_DEREF", 109, 0, "l"), ("STORE_FAST", 110, 0, "l"), ("STORE_FAST_LOAD_FAST", 111, 0, "p"), ("STORE_FAST_STORE_FAST", 112, 0, "p"), ("STORE_GLOBAL", 113, 0, "n"), ("STORE_NAME", 114, 0, "n"), ("SWAP", 115, 0, "k"), ("UNPACK_EX", 116, 0, "k"), ("UNPACK_SEQUENCE", 117, 1, "k"), ("YIELD_VALUE", 118, 0, "k"), ("RESUME", 149, 0, "k")]
def rws : List Rw := rw0 ++ rw1 ++ rw2 ++ rw3 ++ rw4 ++ rw5
def kv (l : List (Key × Vo)) : List (Key × V) := l.map fun p => (p.1, voV p.2)
structure GlT (K : PySem.W.Frag) (w : World) (mg : Str → Option Value) (dN dW dC dS : Addr) : Prop where
  c_NUMBERS : ∃ u, mg "NUMBERS" = some u ∧ RelV (.ref dN) u
  c_WORDS : ∃ u, mg "WORDS" = some u ∧ RelV (.ref dW) u
  c_CACHES : ∃ u, mg "CACHES" = some u ∧ RelV (.ref dC) u
  c_SORTS : ∃ u, mg "SORTS" = some u ∧ RelV (.ref dS) u
  N : MDict K w dN (kv tN)
  W : MDict K w dW (kv tW)
  C : MDict K w dC (kv tC)
  S : MDict K w dS (kv tS)
def sortOf (z : Str) : Str := if z = "o" then "operator" else if z = "k" then "number" else if z = "x" then "compare" else if z = "n" then "name" else if z = "l" then "slot" else if z = "j" then "jump" else if z = "m" then "more" else if z = "c" then "constant" else if z = "p" then "pair" else ""
theorem w_of : ∀ r ∈ rws, valV (kv tW) (.inl r.2.1) = some (.str r.1) := by decide +kernel
theorem c_of : ∀ r ∈ rws, (valV (kv tC) (.inr r.1)).getD (.int 0) = .int r.2.2.1 := by decide +kernel
theorem s_of : ∀ r ∈ rws, (valV (kv tS) (.inr r.1)).getD (.str "") = .str (sortOf r.2.2.2) := by decide +kernel
theorem n_of : ∀ r ∈ rws, valV (kv tN) (.inr r.1) = some (.int r.2.1) := by decide +kernel
theorem n_ext : valV (kv tN) (.inr "EXTENDED_ARG") = some (.int 71) := by decide +kernel
theorem n_cache : valV (kv tN) (.inr "CACHE") = some (.int 0) := by decide +kernel
/-- the word of a number, but CACHE -/
def rowOf (i : Int) : Option Rw := rws.find? fun r => r.2.1 == i
theorem rowOf_mem {i : Int} {r : Rw} (h : rowOf i = some r) : r ∈ rws ∧ r.2.1 = i := ⟨List.mem_of_find?_eq_some h, by simpa using List.find?_some h⟩
theorem w_all : ∀ n ∈ List.range 256, ((valV (kv tW) (.inl (n : Int))).isSome = false → rowOf n = none) ∧ (rowOf n = none → (valV (kv tW) (.inl (n : Int))).isSome = true → (n : Int) = 0 ∨ (n : Int) = 71) := by decide +kernel
end K58
set_option maxHeartbeats 4000000
set_option pp.maxSteps 600
set_option hygiene false in
local macro_rules | `(tactic| walk_at "new1") => `(tactic| (intro p1 n1; generalize e1 : upd _ p1 _ = H1; (have s1 := (congrArg (Same _) e1).mp (Same.new n1)); (have h1 := (congrArg (fun z : Hp => z p1 = some _) e1).mp upd_same); clear e1))
set_option hygiene false in
local macro_rules | `(tactic| walk_at "new2") => `(tactic| (intro p2 n2; generalize e2 : upd _ p2 _ = H2; (have s2 := (congrArg (Same _) e2).mp (Same.new n2)); (have h2 := (congrArg (fun z : Hp => z p2 = some _) e2).mp upd_same); clear e2))
set_option hygiene false in
local macro_rules | `(tactic| walk_at "new3") => `(tactic| (intro p3 n3; generalize e3 : upd _ p3 _ = H3; (have s3 := (congrArg (Same _) e3).mp (Same.new n3)); (have h3 := (congrArg (fun z : Hp => z p3 = some _) e3).mp upd_same); clear e3))
set_option hygiene false in
local macro_rules | `(tactic| walk_at "new4") => `(tactic| (intro p4 n4; generalize e4 : upd _ p4 _ = H4; (have s4 := (congrArg (Same _) e4).mp (Same.new n4)); (have h4 := (congrArg (fun z : Hp => z p4 = some _) e4).mp upd_same); clear e4))
set_option hygiene false in
local macro_rules | `(tactic| walk_at "new5") => `(tactic| (intro p5 n5; generalize e5 : upd _ p5 _ = H5; (have s5 := (congrArg (Same _) e5).mp (Same.new n5)); (have h5 := (congrArg (fun z : Hp => z p5 = some _) e5).mp upd_same); clear e5))
set_option hygiene false in
local macro_rules | `(tactic| walk_at "new6") => `(tactic| (intro p6 n6; generalize e6 : upd _ p6 _ = H6; (have s6 := (congrArg (Same _) e6).mp (Same.new n6)); (have h6 := (congrArg (fun z : Hp => z p6 = some _) e6).mp upd_same); clear e6))
set_option hygiene false in
local macro_rules | `(tactic| walk_at "new7") => `(tactic| (intro p7 n7; generalize e7 : upd _ p7 _ = H7; (have s7 := (congrArg (Same _) e7).mp (Same.new n7)); (have h7 := (congrArg (fun z : Hp => z p7 = some _) e7).mp upd_same); clear e7))
set_option hygiene false in
local macro_rules | `(tactic| walk_at "new8") => `(tactic| (intro p8 n8; generalize e8 : upd _ p8 _ = H8; (have s8 := (congrArg (Same _) e8).mp (Same.new n8)); (have h8 := (congrArg (fun z : Hp => z p8 = some _) e8).mp upd_same); clear e8))
set_option hygiene false in
local macro_rules | `(tactic| walk_at "new9") => `(tactic| (intro p9 n9; generalize e9 : upd _ p9 _ = H9; (have s9 := (congrArg (Same _) e9).mp (Same.new n9)); (have h9 := (congrArg (fun z : Hp => z p9 = some _) e9).mp upd_same); clear e9))
set_option hygiene false in
local macro_rules | `(tactic| walk_at "new10") => `(tactic| (intro p10 n10; generalize e10 : upd _ p10 _ = H10; (have s10 := (congrArg (Same _) e10).mp (Same.new n10)); (have h10 := (congrArg (fun z : Hp => z p10 = some _) e10).mp upd_same); clear e10))
set_option hygiene false in
local macro_rules | `(tactic| walk_at "new11") => `(tactic| (intro p11 n11; generalize e11 : upd _ p11 _ = H11; (have s11 := (congrArg (Same _) e11).mp (Same.new n11)); (have h11 := (congrArg (fun z : Hp => z p11 = some _) e11).mp upd_same); clear e11))
set_option hygiene false in
local macro_rules | `(tactic| walk_at "new12") => `(tactic| (intro p12 n12; generalize e12 : upd _ p12 _ = H12; (have s12 := (congrArg (Same _) e12).mp (Same.new n12)); (have h12 := (congrArg (fun z : Hp => z p12 = some _) e12).mp upd_same); clear e12))
set_option hygiene false in
local macro_rules | `(tactic| walk_at "new13") => `(tactic| (intro p13 n13; generalize e13 : upd _ p13 _ = H13; (have s13 := (congrArg (Same _) e13).mp (Same.new n13)); (have h13 := (congrArg (fun z : Hp => z p13 = some _) e13).mp upd_same); clear e13))
set_option hygiene false in
local macro_rules | `(tactic| walk_at "new14") => `(tactic| (intro p14 n14; generalize e14 : upd _ p14 _ = H14; (have s14 := (congrArg (Same _) e14).mp (Same.new n14)); (have h14 := (congrArg (fun z : Hp => z p14 = some _) e14).mp upd_same); clear e14))
set_option hygiene false in
local macro_rules | `(tactic| walk_at "new15") => `(tactic| (intro p15 n15; generalize e15 : upd _ p15 _ = H15; (have s15 := (congrArg (Same _) e15).mp (Same.new n15)); (have h15 := (congrArg (fun z : Hp => z p15 = some _) e15).mp upd_same); clear e15))
set_option hygiene false in
local macro_rules | `(tactic| walk_at "new16") => `(tactic| (intro p16 n16; generalize e16 : upd _ p16 _ = H16; (have s16 := (congrArg (Same _) e16).mp (Same.new n16)); (have h16 := (congrArg (fun z : Hp => z p16 = some _) e16).mp upd_same); clear e16))
set_option hygiene false in
local macro_rules | `(tactic| walk_at "new17") => `(tactic| (intro p17 n17; generalize e17 : upd _ p17 _ = H17; (have s17 := (congrArg (Same _) e17).mp (Same.new n17)); (have h17 := (congrArg (fun z : Hp => z p17 = some _) e17).mp upd_same); clear e17))
set_option hygiene false in
local macro_rules | `(tactic| walk_at "new18") => `(tactic| (intro p18 n18; generalize e18 : upd _ p18 _ = H18; (have s18 := (congrArg (Same _) e18).mp (Same.new n18)); (have h18 := (congrArg (fun z : Hp => z p18 = some _) e18).mp upd_same); clear e18))
set_option hygiene false in
local macro_rules | `(tactic| walk_at "new19") => `(tactic| (intro p19 n19; generalize e19 : upd _ p19 _ = H19; (have s19 := (congrArg (Same _) e19).mp (Same.new n19)); (have h19 := (congrArg (fun z : Hp => z p19 = some _) e19).mp upd_same); clear e19))
set_option hygiene false in
local macro_rules | `(tactic| walk_at "new20") => `(tactic| (intro p20 n20; generalize e20 : upd _ p20 _ = H20; (have s20 := (congrArg (Same _) e20).mp (Same.new n20)); (have h20 := (congrArg (fun z : Hp => z p20 = some _) e20).mp upd_same); clear e20))
set_option hygiene false in
local macro_rules | `(tactic| walk_at "new21") => `(tactic| (intro p21 n21; generalize e21 : upd _ p21 _ = H21; (have s21 := (congrArg (Same _) e21).mp (Same.new n21)); (have h21 := (congrArg (fun z : Hp => z p21 = some _) e21).mp upd_same); clear e21))
set_option hygiene false in
local macro_rules | `(tactic| walk_at "new22") => `(tactic| (intro p22 n22; generalize e22 : upd _ p22 _ = H22; (have s22 := (congrArg (Same _) e22).mp (Same.new n22)); (have h22 := (congrArg (fun z : Hp => z p22 = some _) e22).mp upd_same); clear e22))
set_option hygiene false in
local macro_rules | `(tactic| walk_at "new23") => `(tactic| (intro p23 n23; generalize e23 : upd _ p23 _ = H23; (have s23 := (congrArg (Same _) e23).mp (Same.new n23)); (have h23 := (congrArg (fun z : Hp => z p23 = some _) e23).mp upd_same); clear e23))
set_option hygiene false in
local macro_rules | `(tactic| walk_at "new24") => `(tactic| (intro p24 n24; generalize e24 : upd _ p24 _ = H24; (have s24 := (congrArg (Same _) e24).mp (Same.new n24)); (have h24 := (congrArg (fun z : Hp => z p24 = some _) e24).mp upd_same); clear e24))
set_option hygiene false in
local macro_rules | `(tactic| walk_at "new25") => `(tactic| (intro p25 n25; generalize e25 : upd _ p25 _ = H25; (have s25 := (congrArg (Same _) e25).mp (Same.new n25)); (have h25 := (congrArg (fun z : Hp => z p25 = some _) e25).mp upd_same); clear e25))
set_option hygiene false in
local macro_rules | `(tactic| walk_at "new26") => `(tactic| (intro p26 n26; generalize e26 : upd _ p26 _ = H26; (have s26 := (congrArg (Same _) e26).mp (Same.new n26)); (have h26 := (congrArg (fun z : Hp => z p26 = some _) e26).mp upd_same); clear e26))
set_option hygiene false in
local macro_rules | `(tactic| walk_at "new27") => `(tactic| (intro p27 n27; generalize e27 : upd _ p27 _ = H27; (have s27 := (congrArg (Same _) e27).mp (Same.new n27)); (have h27 := (congrArg (fun z : Hp => z p27 = some _) e27).mp upd_same); clear e27))
set_option hygiene false in
local macro_rules | `(tactic| walk_at "new28") => `(tactic| (intro p28 n28; generalize e28 : upd _ p28 _ = H28; (have s28 := (congrArg (Same _) e28).mp (Same.new n28)); (have h28 := (congrArg (fun z : Hp => z p28 = some _) e28).mp upd_same); clear e28))
set_option hygiene false in
local macro_rules | `(tactic| walk_at "new29") => `(tactic| (intro p29 n29; generalize e29 : upd _ p29 _ = H29; (have s29 := (congrArg (Same _) e29).mp (Same.new n29)); (have h29 := (congrArg (fun z : Hp => z p29 = some _) e29).mp upd_same); clear e29))
set_option hygiene false in
local macro_rules | `(tactic| walk_at "new30") => `(tactic| (intro p30 n30; generalize e30 : upd _ p30 _ = H30; (have s30 := (congrArg (Same _) e30).mp (Same.new n30)); (have h30 := (congrArg (fun z : Hp => z p30 = some _) e30).mp upd_same); clear e30))
namespace K58
open PySem PySem.Spec PyProof.Rows L2 Nd
theorem none_back {H H' : Hp} {p : Addr} (s : Same H H') (n : H' p = none) : H p = none := by
  cases e : H p with
  | none => rfl
  | some o =>
    rw [s _ _ e] at n
    cases n
/-! ### how one instruction is cut, in plain words -/
def g (d : List Int) (i : Nat) : Int := d.getD i 0
theorem g_get {d : List Int} {i : Nat} (h : i < d.length) : d[i]? = some (g d i) := by
  unfold g
  rw [List.getD_eq_getElem?_getD, List.getElem?_eq_getElem h] <;> rfl
theorem map_at {l : List Int} {i : Nat} {x : Int} (h : l[i]? = some x) : atI (l.map V.int) ((i : Nat) : Int) = some (V.int x) := atI_nat (by rw [List.getElem?_map, h] <;> rfl)
theorem g_at {d : List Int} {i : Nat} (h : i < d.length) : atI (d.map V.int) ((i : Nat) : Int) = some (V.int (g d i)) := map_at (g_get h)
def xGo (d : List Int) (b : Nat) : Nat → Nat → Int → Option (Nat × Int)
  | 0, _, _ => none
  | f + 1, i, n => if i + 1 < d.length ∧ g d i = 71 then (if i = b + 6 ∨ (i = b ∧ g d (i + 1) = 0) then none else xGo d b f (i + 2) ((n + g d (i + 1)) * 256)) else some (i, n)
def endOf (a : Nat) (r : Rw) : Nat := a + 2 + 2 * r.2.2.1
def oneC (d : List Int) (b : Nat) : Option (Nat × Rw × Int) := match xGo d b 4 b 0 with
  | none => none
  | some (a, n) => if d.length ≤ a + 1 then none else match rowOf (g d a) with
    | none => none
    | some r => if d.length < endOf a r ∨ ((d.drop (a + 2)).take (endOf a r - (a + 2))).any (fun n => n != 0) = true then none else some (a, r, n + g d (a + 1))
theorem oneC_x {d : List Int} {b : Nat} (h : xGo d b 4 b 0 = none) : oneC d b = none := by
  unfold oneC
  rw [h]
theorem oneC_s {d : List Int} {b a : Nat} {n : Int} (h : xGo d b 4 b 0 = some (a, n)) : oneC d b = if d.length ≤ a + 1 then none else match rowOf (g d a) with
    | none => none
    | some r => if d.length < endOf a r ∨ ((d.drop (a + 2)).take (endOf a r - (a + 2))).any (fun n => n != 0) = true then none else some (a, r, n + g d (a + 1)) := by
  unfold oneC
  rw [h]
def Bys (d : List Int) : Prop := (∀ x ∈ d, 0 ≤ x ∧ x ≤ 255) ∧ d.length ≤ 100000
theorem Bys.g {d : List Int} (b : Bys d) {i : Nat} (h : i < d.length) : 0 ≤ g d i ∧ g d i ≤ 255 := b.1 _ (List.mem_of_getElem? (g_get h))
theorem no_word {i : Int} (h0 : 0 ≤ i) (h1 : i ≤ 255) : ((valV (kv tW) (.inl i)).isSome = false → rowOf i = none) ∧ (rowOf i = none → (valV (kv tW) (.inl i)).isSome = true → i = 0 ∨ i = 71) := by
  obtain ⟨n, rfl⟩ := Int.eq_ofNat_of_zero_le h0
  exact w_all n (List.mem_range.mpr (by omega))
theorem row_zero : rowOf 0 = none := by decide +kernel
theorem cut_map {d : List Int} {a e : Nat} (h : a ≤ d.length) (h2 : e ≤ d.length) : cutV (d.map V.int) (some (a : Int)) (some (e : Int)) = ((d.drop a).take (e - a)).map V.int := by
  unfold cutV
  rw [HT.sIx_nat, HT.sIx_nat, List.length_map, Nat.min_eq_left h, Nat.min_eq_left h2, List.map_take, List.map_drop]
abbrev s_cut_one : Stmt := top 30
structure GlU (mg : Str → Option Value) : Prop where
  n_len : mg "len" = none
  n_any : mg "any" = none
def spCutOne (K : PySem.W.Frag) : Sp := fun vs H Q _ => ∃ (h : Addr) (d : List Int) (b : Nat), vs = [.ref h, .int (b : Int)] ∧ H h = some (.tup (d.map V.int)) ∧ Bys d ∧ b ≤ d.length ∧ (oneC d b = none → ∀ H', Same H H' → Q .non H') ∧
  ∀ a r n, oneC d b = some (a, r, n) → ∀ q H', H q = none → Same H H' → H' q = some (.tup [.int (b : Int), .int ((a : Nat) : Int), .str r.1, .int n, .int ((endOf a r : Nat) : Int)]) → Q (.ref q) H'
section
variable {P : Program} {w : World} {K : PySem.W.Frag} {mg : Str → Option Value} {base : Heap} {dN dW dC dS : Addr}
abbrev N_cut_one : List Str := ["data", "begin", "at", "number", "word", "end"]
theorem sc_cut_one : FnScope N_cut_one ["data", "begin"] (defScope s_cut_one) := ⟨rfl, rfl, rfl, by decide +kernel, rfl, by decide +kernel, by decide +kernel⟩
theorem ok_cut_one {f : Addr} {fd : FuncData} (T : GlU mg) (G : GlT K w mg dN dW dC dS) (F : DefX K mg "cut_one" s_cut_one ["data", "begin"] f fd) : CalX P w K mg base 1 "cut_one" (spCutOne K) := by
  refine calx F sc_cut_one (fun vs H Q E h => ?_) (fun cdv A outer s H vs Q E hr h => ?_)
  · obtain ⟨h, d, b, rfl, _⟩ := h
    rfl
  · obtain ⟨h, d, b, rfl, hH, by1, hb, kN, kS⟩ := h
    have hB : SqT K H h (d.map V.int) := SqT.of hH
    refine ⟨_, (pss_cons (ps_par (i := 2) (j := 3) (by rfl) sc_cut_one.nd rfl rfl (by decide) rfl rfl (pa_cons (pv 1) (pa_cons pe_int pa_nil)) (by rfl))
    (pss_cons (ps_while PassesOwn.never (PW.pt (pw_and (pt_cmpR op_lt (pe_op op_add (pv 2) pe_int) (pe_callB call_len_seq (by rfl) T.n_len Boot.«len» (pa_cons (pv 0) pa_nil)) (nomark _)) (pw_and1 (pt_cmpR op_eq (pe_ix ix_tup (pv 0) (pv 2) (fun _ _ => rfl)) (pe_ix (ix_m G.N) (C8.pe_gc rfl G.c_NUMBERS) pe_str (fun _ _ => rfl)) (nomark _)))))
      (pss_cons (ps_if (PW.pt (pw_or (pt_cmpR op_eq (pv 2) (pe_op op_add (pv 1) pe_int) (nomark _)) (pw_or1 (PW.pt (pw_and (pt_cmpR op_eq (pv 2) (pv 1) (nomark _)) (pw_and1 (pt_cmpR op_eq (pe_ix ix_tup (pv 0) (pe_op op_add (pv 2) pe_int) (fun _ _ => rfl)) pe_int (nomark _))))))))
      (pss_one (ps_ret pe_non))
      pss_nil)
    (pss_cons (ps_set (i := 3) sc_cut_one.nd rfl (.inl rfl) (pe_op op_mul (pe_op op_add (pv 3) (pe_ix ix_tup (pv 0) (pe_op op_add (pv 2) pe_int) (fun _ _ => rfl))) pe_int))
    (pss_one (ps_set (i := 2) sc_cut_one.nd rfl (.inl rfl) (pe_op op_add (pv 2) pe_int))))))
    (pss_cons (ps_if (PW.pt (pw_or (pt_cmpR op_ge (pe_op op_add (pv 2) pe_int) (pe_callB call_len_seq (by rfl) T.n_len Boot.«len» (pa_cons (pv 0) pa_nil)) (nomark _)) (pw_or (pt_cmpR (op_notIn_m G.W) (pe_ix ix_tup (pv 0) (pv 2) (fun _ _ => rfl)) (C8.pe_gc rfl G.c_WORDS) (by rfl)) (pw_or1 (pt_cmpR op_eq (pe_ix ix_tup (pv 0) (pv 2) (fun _ _ => rfl)) (pe_ix (ix_m G.N) (C8.pe_gc rfl G.c_NUMBERS) pe_str (fun _ _ => rfl)) (nomark _))))))
      (pss_one (ps_ret pe_non))
      pss_nil)
    (pss_cons (ps_set (i := 4) sc_cut_one.nd rfl (.inl rfl) (pe_ix (ix_m G.W) (C8.pe_gc rfl G.c_WORDS) (pe_ix ix_tup (pv 0) (pv 2) (fun _ _ => rfl)) (fun _ _ => rfl)))
    (pss_cons (ps_set (i := 5) sc_cut_one.nd rfl (.inl rfl) (pe_op op_add (pe_op op_add (pv 2) pe_int) (pe_op op_mul pe_int (pe_mget2 G.C (C8.pe_gc rfl G.c_CACHES) (pv 4) pe_int ⟨rfl, rfl, rfl, rfl⟩))))
    (pss_cons (ps_if (PW.pt (pw_or (pt_cmpR op_gt (pv 5) (pe_callB call_len_seq (by rfl) T.n_len Boot.«len» (pa_cons (pv 0) pa_nil)) (nomark _)) (pw_or1 (pt_val (pe_callB (cr_anyT rfl) (by rfl) T.n_any Boot.«any» (pa_cons (pe_slice sl_tup (pv 0) (po_some (pe_op op_add (pv 2) pe_int)) (po_some (pv 5))) pa_nil))))))
      (pss_one (ps_ret pe_non))
      pss_nil)
    (pss_one (ps_ret (pe_tup (pa_cons (pv 1) (pa_cons (pv 2) (pa_cons (pv 4) (pa_cons (pe_op op_add (pv 3) (pe_ix ix_tup (pv 0) (pe_op op_add (pv 2) pe_int) (fun _ _ => rfl))) (pa_cons (pv 5) pa_nil)))))))))))))), ?_⟩
    refine ⟨_, rfl, _, _, rfl, ?_⟩
    refine while_by (fun σ H' => H' = H ∧ ∃ (i f : Nat) (n : Int), σ = [some (.ref h), some (.int (b : Int)), some (.int (i : Int)), some (.int n), none, none] ∧ b ≤ i ∧ i + 2 * f = b + 8 ∧ 1 ≤ f ∧ xGo d b f i n = xGo d b 4 b 0) (fun σ _ => match σ with | _ :: _ :: some (.int m) :: _ => b + 8 - m.toNat | _ => 0)
      ⟨rfl, b, 4, 0, rfl, Nat.le_refl _, rfl, by decide, rfl⟩ ?_ ?_
    · rintro σ H' ⟨rfl, i, f, n, rfl, hbi, hif, hf, he⟩
      obtain ⟨f, rfl⟩ : ∃ f', f = f' + 1 := ⟨f - 1, by omega⟩
      have ea : ((i : Nat) : Int) + 1 = ((i + 1 : Nat) : Int) := by omega
      have end_ : ¬ (i + 1 < d.length ∧ g d i = 71) → xGo d b 4 b 0 = some (i, n) := fun c => by
        rw [← he]
        unfold xGo
        rw [if_neg c]
      refine ⟨_, rfl, _, _, rfl, rfl, _, rfl, h, _, rfl, .inr hB, _, _, rfl, rfl, _, rfl, ite2 (fun c => ?_) (fun c => ?_)⟩
      · have c0 : ((i : Nat) : Int) + 1 < (((d.map V.int).length : Nat) : Int) := of_decide_eq_true c
        have c0 : i + 1 < d.length := by
          rw [List.length_map] at c0
          omega
        have hi0 : i < d.length := by omega
        refine ⟨_, rfl, _, rfl, h, _, _, _, rfl, rfl, hB, g_at hi0, .inr "EXTENDED_ARG", _, rfl, rfl, n_ext, rfl, _, rfl, ite2 (fun c => ?_) (fun c => ?_)⟩
        · have c71 := of_decide_eq_true c
          have c71 : g d i = 71 := by injection c71
          unfold xGo at he
          rw [if_pos ⟨c0, c71⟩] at he
          have q0 := g_at c0
          refine ⟨_, rfl, _, rfl, _, _, rfl, rfl, rfl, _, rfl, ite2 (fun c => ?_) (fun c => ?_)⟩
          · have z := of_decide_eq_true c
            have z : ((i : Nat) : Int) = (b : Int) + 6 := by injection z
            rw [if_pos (.inl (by omega))] at he
            exact kN (oneC_x he.symm) _ (Same.refl _)
          have n6 : ¬ i = b + 6 := fun z => c (decide_eq_true (congrArg V.int (by omega)))
          refine ⟨_, rfl, _, rfl, rfl, _, rfl, ite2 (fun cb => ?_) (fun cb => ?_)⟩
          · have zb := of_decide_eq_true cb
            have zb : ((i : Nat) : Int) = (b : Int) := by injection zb
            refine ⟨_, rfl, _, rfl, _, _, rfl, rfl, h, _, _, _, rfl, rfl, hB, (by rw [ea]; exact q0), rfl, _, rfl, ite2 (fun c => ?_) (fun c => ?_)⟩
            · have z := of_decide_eq_true c
              have z : g d (i + 1) = 0 := by injection z
              rw [if_pos (.inr ⟨by omega, z⟩)] at he
              exact kN (oneC_x he.symm) _ (Same.refl _)
            have n0 : ¬ g d (i + 1) = 0 := fun z => c (decide_eq_true (congrArg V.int z))
            rw [if_neg (fun z => z.elim n6 fun z => n0 z.2)] at he
            have ea2 : ((i : Nat) : Int) + 2 = ((i + 2 : Nat) : Int) := by omega
            refine ⟨_, rfl, _, rfl, _, rfl, _, _, rfl, rfl, h, _, _, _, rfl, rfl, hB, (by rw [ea]; exact q0), _, _, rfl, rfl, _, _, rfl, rfl, .inr ⟨by decide, by decide⟩, ?_⟩
            refine ⟨_, rfl, _, _, rfl, rfl, ⟨rfl, i + 2, f, (n + g d (i + 1)) * 256, ?_, by omega, by omega, by omega, he⟩, ?_⟩
            · rw [← ea2]
              rfl
            · show b + 8 - (((i : Nat) : Int) + 2).toNat < b + 8 - (((i : Nat) : Int)).toNat
              omega
          have nb : ¬ i = b := fun z => cb (decide_eq_true (congrArg V.int (by omega)))
          rw [if_neg (fun z => z.elim n6 fun z => nb z.1)] at he
          have ea2 : ((i : Nat) : Int) + 2 = ((i + 2 : Nat) : Int) := by omega
          refine ⟨_, rfl, _, rfl, _, rfl, _, _, rfl, rfl, h, _, _, _, rfl, rfl, hB, (by rw [ea]; exact q0), _, _, rfl, rfl, _, _, rfl, rfl, .inr ⟨by decide, by decide⟩, ?_⟩
          refine ⟨_, rfl, _, _, rfl, rfl, ⟨rfl, i + 2, f, (n + g d (i + 1)) * 256, ?_, by omega, by omega, by omega, he⟩, ?_⟩
          · rw [← ea2]
            rfl
          · show b + 8 - (((i : Nat) : Int) + 2).toNat < b + 8 - (((i : Nat) : Int)).toNat
            omega
        have n71 : ¬ g d i = 71 := fun z => c (decide_eq_true (congrArg V.int z))
        have hend : ¬ (i + 1 < d.length ∧ g d i = 71) := fun z => n71 z.2
        have hx := end_ hend
        clear he end_ c c0
        refine ⟨_, rfl, _, _, rfl, rfl, _, rfl, h, _, rfl, .inr hB, _, _, rfl, rfl, _, rfl, ite2 (fun c => ?_) (fun c => ?_)⟩
        · have c : (((d.map V.int).length : Nat) : Int) ≤ ((i : Nat) : Int) + 1 := of_decide_eq_true c
          refine kN ?_ _ (Same.refl _)
          rw [oneC_s hx, if_pos (by rw [List.length_map] at c; omega)]
        have c1 : ¬ d.length ≤ i + 1 := fun z => c (decide_eq_true (by rw [List.length_map]; omega))
        have hi : i < d.length := by omega
        obtain ⟨g0, g1⟩ := by1.g hi
        obtain ⟨nw1, nw2⟩ := no_word g0 g1
        refine ⟨_, rfl, _, rfl, h, _, _, _, rfl, rfl, hB, g_at hi, .inl (g d i), rfl, rfl, _, rfl, ite2 (fun c => ?_) (fun c => ?_)⟩
        · refine kN ?_ _ (Same.refl _)
          rw [oneC_s hx, if_neg c1, nw1 (by simpa using c)]
        have c2 : (valV (kv tW) (.inl (g d i))).isSome = true := by
          cases hv : (valV (kv tW) (.inl (g d i))).isSome with
          | true => rfl
          | false =>
            rw [hv] at c
            exact absurd rfl c
        refine ⟨_, rfl, _, rfl, h, _, _, _, rfl, rfl, hB, g_at hi, .inr "CACHE", _, rfl, rfl, n_cache, rfl, _, rfl, ite2 (fun c => ?_) (fun c => ?_)⟩
        · have z := of_decide_eq_true c
          have z : g d i = 0 := by injection z
          refine kN ?_ _ (Same.refl _)
          rw [oneC_s hx, if_neg c1, z, row_zero]
        have c3 : ¬ g d i = 0 := fun z => c (decide_eq_true (congrArg V.int z))
        obtain ⟨r, hr1⟩ : ∃ r, rowOf (g d i) = some r := by
          cases e : rowOf (g d i) with
          | some r => exact ⟨r, rfl⟩
          | none =>
            exfalso
            rcases nw2 e c2 with z | z
            · exact c3 z
            · exact hend ⟨by omega, z⟩
        obtain ⟨hrm, hrn⟩ := rowOf_mem hr1
        have hw : valV (kv tW) (.inl (g d i)) = some (.str r.1) := by
          rw [← hrn]
          exact w_of r hrm
        refine ⟨_, rfl, _, rfl, h, _, _, _, rfl, rfl, hB, g_at hi, .inl (g d i), _, rfl, rfl, hw, ?_⟩
        refine ⟨_, rfl, _, _, rfl, rfl, rfl, _, rfl, .inr r.1, rfl, ?_⟩
        rw [c_of r hrm]
        have he2 : (((i : Nat) : Int) + 2) + 2 * ((r.2.2.1 : Nat) : Int) = ((endOf i r : Nat) : Int) := by
          unfold endOf
          omega
        refine ⟨_, _, rfl, rfl, .inl ⟨by decide, by decide⟩, _, _, rfl, rfl, ?_⟩
        dsimp (config := { proj := false }) only
        rw [he2]
        refine ⟨_, rfl, _, rfl, h, _, rfl, .inr hB, _, _, rfl, rfl, _, rfl, ite2 (fun c => ?_) (fun c => ?_)⟩
        · have c : (((d.map V.int).length : Nat) : Int) < ((endOf i r : Nat) : Int) := of_decide_eq_true c
          refine kN ?_ _ (Same.refl _)
          rw [oneC_s hx, if_neg c1, hr1]
          exact if_pos (.inl (by rw [List.length_map] at c; omega))
        have c4 : ¬ d.length < endOf i r := fun z => c (decide_eq_true (by rw [List.length_map]; omega))
        refine ⟨_, rfl, _, rfl, _, _, rfl, rfl, _, rfl, _, rfl, _, rfl, h, _, rfl, hB, ?_, ?_⟩
        · rintro ⟨z, _⟩
          have e2 : ((i : Nat) : Int) + 2 = ((i + 2 : Nat) : Int) := by omega
          rw [e2, HT.sIx_nat, List.length_map] at z
          omega
        walk_at "new1"
        have e2 : ((i : Nat) : Int) + 2 = ((i + 2 : Nat) : Int) := by omega
        rw [e2, cut_map (by unfold endOf at c4; omega) (by omega)] at h1
        refine ⟨p1, _, rfl, SqT.of h1, ?_⟩
        refine ⟨_, rfl, ite2 (fun c => ?_) (fun c => ?_)⟩
        · refine kN ?_ _ s1
          rw [oneC_s hx, if_neg c1, hr1]
          exact if_pos (.inr c)
        have hB1 : SqT K H1 h (d.map V.int) := SqT.of (s1 _ _ hH)
        have e1 : ((i : Nat) : Int) + 1 = ((i + 1 : Nat) : Int) := by omega
        refine ⟨_, rfl, _, rfl, _, rfl, _, rfl, _, rfl, _, rfl, _, _, rfl, rfl, h, _, _, _, rfl, rfl, hB1, (by rw [e1]; exact g_at (by omega)), _, _, rfl, rfl, _, rfl, (by show 5 ≤ sizeLine; decide), ?_⟩
        walk_at "new2"
        refine kS i r (n + g d (i + 1)) ?_ p2 H2 (none_back s1 n2) (s1.trans s2) h2
        rw [oneC_s hx, if_neg c1, hr1]
        exact if_neg (fun z => z.elim c4 c)
      have c0 : ¬ i + 1 < d.length := fun z => c (decide_eq_true (by rw [List.length_map]; omega))
      have hend : ¬ (i + 1 < d.length ∧ g d i = 71) := fun z => c0 z.1
      have hx := end_ hend
      clear he end_ c c0
      refine ⟨_, rfl, _, _, rfl, rfl, _, rfl, h, _, rfl, .inr hB, _, _, rfl, rfl, _, rfl, ite2 (fun c => ?_) (fun c => ?_)⟩
      · have c : (((d.map V.int).length : Nat) : Int) ≤ ((i : Nat) : Int) + 1 := of_decide_eq_true c
        refine kN ?_ _ (Same.refl _)
        rw [oneC_s hx, if_pos (by rw [List.length_map] at c; omega)]
      have c1 : ¬ d.length ≤ i + 1 := fun z => c (decide_eq_true (by rw [List.length_map]; omega))
      have hi : i < d.length := by omega
      obtain ⟨g0, g1⟩ := by1.g hi
      obtain ⟨nw1, nw2⟩ := no_word g0 g1
      refine ⟨_, rfl, _, rfl, h, _, _, _, rfl, rfl, hB, g_at hi, .inl (g d i), rfl, rfl, _, rfl, ite2 (fun c => ?_) (fun c => ?_)⟩
      · refine kN ?_ _ (Same.refl _)
        rw [oneC_s hx, if_neg c1, nw1 (by simpa using c)]
      have c2 : (valV (kv tW) (.inl (g d i))).isSome = true := by
        cases hv : (valV (kv tW) (.inl (g d i))).isSome with
        | true => rfl
        | false =>
          rw [hv] at c
          exact absurd rfl c
      refine ⟨_, rfl, _, rfl, h, _, _, _, rfl, rfl, hB, g_at hi, .inr "CACHE", _, rfl, rfl, n_cache, rfl, _, rfl, ite2 (fun c => ?_) (fun c => ?_)⟩
      · have z := of_decide_eq_true c
        have z : g d i = 0 := by injection z
        refine kN ?_ _ (Same.refl _)
        rw [oneC_s hx, if_neg c1, z, row_zero]
      have c3 : ¬ g d i = 0 := fun z => c (decide_eq_true (congrArg V.int z))
      obtain ⟨r, hr1⟩ : ∃ r, rowOf (g d i) = some r := by
        cases e : rowOf (g d i) with
        | some r => exact ⟨r, rfl⟩
        | none =>
          exfalso
          rcases nw2 e c2 with z | z
          · exact c3 z
          · exact hend ⟨by omega, z⟩
      obtain ⟨hrm, hrn⟩ := rowOf_mem hr1
      have hw : valV (kv tW) (.inl (g d i)) = some (.str r.1) := by
        rw [← hrn]
        exact w_of r hrm
      refine ⟨_, rfl, _, rfl, h, _, _, _, rfl, rfl, hB, g_at hi, .inl (g d i), _, rfl, rfl, hw, ?_⟩
      refine ⟨_, rfl, _, _, rfl, rfl, rfl, _, rfl, .inr r.1, rfl, ?_⟩
      rw [c_of r hrm]
      have he2 : (((i : Nat) : Int) + 2) + 2 * ((r.2.2.1 : Nat) : Int) = ((endOf i r : Nat) : Int) := by
        unfold endOf
        omega
      refine ⟨_, _, rfl, rfl, .inl ⟨by decide, by decide⟩, _, _, rfl, rfl, ?_⟩
      dsimp (config := { proj := false }) only
      rw [he2]
      refine ⟨_, rfl, _, rfl, h, _, rfl, .inr hB, _, _, rfl, rfl, _, rfl, ite2 (fun c => ?_) (fun c => ?_)⟩
      · have c : (((d.map V.int).length : Nat) : Int) < ((endOf i r : Nat) : Int) := of_decide_eq_true c
        refine kN ?_ _ (Same.refl _)
        rw [oneC_s hx, if_neg c1, hr1]
        exact if_pos (.inl (by rw [List.length_map] at c; omega))
      have c4 : ¬ d.length < endOf i r := fun z => c (decide_eq_true (by rw [List.length_map]; omega))
      refine ⟨_, rfl, _, rfl, _, _, rfl, rfl, _, rfl, _, rfl, _, rfl, h, _, rfl, hB, ?_, ?_⟩
      · rintro ⟨z, _⟩
        have e2 : ((i : Nat) : Int) + 2 = ((i + 2 : Nat) : Int) := by omega
        rw [e2, HT.sIx_nat, List.length_map] at z
        omega
      walk_at "new1"
      have e2 : ((i : Nat) : Int) + 2 = ((i + 2 : Nat) : Int) := by omega
      rw [e2, cut_map (by unfold endOf at c4; omega) (by omega)] at h1
      refine ⟨p1, _, rfl, SqT.of h1, ?_⟩
      refine ⟨_, rfl, ite2 (fun c => ?_) (fun c => ?_)⟩
      · refine kN ?_ _ s1
        rw [oneC_s hx, if_neg c1, hr1]
        exact if_pos (.inr c)
      have hB1 : SqT K H1 h (d.map V.int) := SqT.of (s1 _ _ hH)
      have e1 : ((i : Nat) : Int) + 1 = ((i + 1 : Nat) : Int) := by omega
      refine ⟨_, rfl, _, rfl, _, rfl, _, rfl, _, rfl, _, rfl, _, _, rfl, rfl, h, _, _, _, rfl, rfl, hB1, (by rw [e1]; exact g_at (by omega)), _, _, rfl, rfl, _, rfl, (by show 5 ≤ sizeLine; decide), ?_⟩
      walk_at "new2"
      refine kS i r (n + g d (i + 1)) ?_ p2 H2 (none_back s1 n2) (s1.trans s2) h2
      rw [oneC_s hx, if_neg c1, hr1]
      exact if_neg (fun z => z.elim c4 c)
    · rintro σ H' Q1 Q2 hq ⟨v1, e1, i1, j1, e2, e3, v2, e4, h1, x1, e5, sq, i2, j2, e6, e7, b1, e8, q⟩
      refine ⟨v1, e1, i1, j1, e2, e3, v2, e4, h1, x1, e5, sq, i2, j2, e6, e7, b1, e8, ?_⟩
      cases b1 with
      | false => exact hq _ _ q
      | true =>
        obtain ⟨w1, f1, w2, f2, h2, y1, y2, y3, f3, f4, sq2, f5, k1, w3, f6, f7, f8, f9, b2, f10, q⟩ := q
        exact ⟨w1, f1, w2, f2, h2, y1, y2, y3, f3, f4, sq2, f5, k1, w3, f6, f7, f8, f9, b2, f10, hq _ _ q⟩
end
end K58
set_option maxHeartbeats 4000000
set_option pp.maxSteps 600
namespace K58
open PySem PySem.Spec PyProof.Rows L2 Nd
/-! ### cut -/
structure Cr where
  b : Nat
  a : Nat
  r : Rw
  n : Int
def Cr.e (c : Cr) : Nat := endOf c.a c.r
def Cr.vs (c : Cr) : List V := [.int (c.b : Int), .int ((c.a : Nat) : Int), .str c.r.1, .int c.n, .int ((c.e : Nat) : Int)]
def Cr.ds (c : Cr) : List PyData := [.int (c.b : Int), .int ((c.a : Nat) : Int), .str c.r.1, .int c.n, .int ((c.e : Nat) : Int)]
theorem dp_cr {K : PySem.W.Frag} {H : Hp} (c : Cr) : DpAll K H c.vs c.ds := .cons (.int _) (.cons (.int _) (.cons (.str _) (.cons (.int _) (.cons (.int _) .nil))))
def crsD (rs : List Cr) : PyData := .list (rs.map fun r => .tuple r.ds)
theorem str_ok : ∀ r ∈ rws, PyData.strOk r.1 = true := by decide +kernel
theorem lay_cr {r : Cr} (h : r.r ∈ rws) : PyData.canLayAll0 r.ds = true := by
  have := str_ok _ h
  simp only [Cr.ds, PyData.canLayAll0, PyData.canLay0, this]
  rfl
theorem dep_cr (r : Cr) : PyData.depthAll r.ds = 0 := rfl
theorem lay_crs : ∀ rs : List Cr, (∀ c ∈ rs, c.r ∈ rws) → PyData.canLayAll0 (rs.map fun r => .tuple r.ds) = true
  | [], _ => by simp [PyData.canLayAll0]
  | r :: t, h => by
    simp only [List.map_cons, PyData.canLayAll0, PyData.canLay0, lay_crs t fun c hc => h c (List.mem_cons_of_mem _ hc), lay_cr (h r (List.mem_cons_self ..))]
    rfl
theorem dep_crs : ∀ rs : List Cr, PyData.depthAll (rs.map fun r => PyData.tuple r.ds) ≤ 1
  | [] => by simp [PyData.depthAll]
  | r :: t => by
    have := dep_crs t
    simp only [List.map_cons, PyData.depthAll, PyData.depth, dep_cr r]
    omega
theorem shaped_crs (rs : List Cr) (h : ∀ c ∈ rs, c.r ∈ rws) : SeqAt.shaped (crsD rs) = true := by
  have h1 := dep_crs rs
  have h2 : PyData.depth (crsD rs) ≤ 64 := by
    unfold crsD
    simp only [PyData.depth]
    omega
  show (PyData.canLay0 (crsD rs) && decide (PyData.depth (crsD rs) ≤ 64)) = true
  rw [Bool.and_eq_true]
  exact ⟨by unfold crsD; simp only [PyData.canLay0]; exact lay_crs rs h, decide_eq_true h2⟩
def cutGo (d : List Int) : Nat → Nat → List Cr → List Cr × Option Nat
  | 0, i, acc => (acc, some i)
  | f + 1, i, acc => if i < d.length then (match oneC d i with
    | none => (acc, some i)
    | some (a, r, n) => cutGo d f (endOf a r) (acc ++ [⟨i, a, r, n⟩])) else (acc, if acc = [] then some 0 else none)
def cutAll (d : List Int) : List Cr × Option Nat := cutGo d (d.length + 1) 0 []
theorem xGo_le {d : List Int} {b : Nat} : ∀ (f i : Nat) (n : Int) (a : Nat) (m : Int), xGo d b f i n = some (a, m) → i ≤ a
  | 0, i, n, a, m, h => by cases h
  | f + 1, i, n, a, m, h => by
    unfold xGo at h
    split at h
    · split at h
      · cases h
      · exact Nat.le_trans (by omega) (xGo_le f _ _ a m h)
    · injection h with h
      injection h with h _
      omega
theorem oneC_bd {d : List Int} {b a : Nat} {r : Rw} {n : Int} (h : oneC d b = some (a, r, n)) : b ≤ a ∧ endOf a r ≤ d.length ∧ r ∈ rws := by
  cases hx : xGo d b 4 b 0 with
  | none => rw [oneC_x hx] at h; cases h
  | some p =>
    obtain ⟨a', n'⟩ := p
    have l := xGo_le _ _ _ _ _ hx
    rw [oneC_s hx] at h
    split at h
    · cases h
    · cases hr : rowOf (g d a') with
      | none => rw [hr] at h; cases h
      | some r' =>
        rw [hr] at h
        dsimp only at h
        split at h
        · cases h
        · rename_i c
          injection h with h
          injection h with h1 h
          injection h with h2 h3
          subst h1 h2
          exact ⟨l, by have := fun z => c (.inl z); omega, (rowOf_mem hr).1⟩
theorem endOf_gt (a : Nat) (r : Rw) : a < endOf a r := by
  unfold endOf
  omega
abbrev s_cut : Stmt := top 31
def wrV : Option Nat → V
  | none => .non
  | some i => .int (i : Int)
def spCut (K : PySem.W.Frag) : Sp := fun vs H Q _ => ∃ (h : Addr) (d : List Int), vs = [.ref h] ∧ H h = some (.tup (d.map V.int)) ∧ Bys d ∧
  ∀ q f xs H', Same H H' → H' q = some (.tup [.ref f, wrV (cutAll d).2]) → H' f = some (.lst xs) → TupsAt Cr.vs H' xs (cutAll d).1 → Q (.ref q) H'
section
variable {P : Program} {w : World} {K : PySem.W.Frag} {mg : Str → Option Value} {base : Heap} {dN dW dC dS : Addr}
abbrev N_cut : List Str := ["data", "found", "at", "row"]
theorem sc_cut : FnScope N_cut ["data"] (defScope s_cut) := ⟨rfl, rfl, rfl, by decide +kernel, rfl, by decide +kernel, by decide +kernel⟩
theorem ok_cut {f : Addr} {fd : FuncData} (T : GlU mg) (c_cut_one : CalX P w K mg base 1 "cut_one" (spCutOne K)) (F : DefX K mg "cut" s_cut ["data"] f fd) : CalX P w K mg base 2 "cut" (spCut K) := by
  refine calx F sc_cut (fun vs H Q E h => ?_) (fun cdv A outer s H vs Q E hr h => ?_)
  · obtain ⟨h, d, rfl, _⟩ := h
    rfl
  · obtain ⟨h, d, rfl, hH, by1, k⟩ := h
    refine ⟨_, (pss_cons (ps_set (i := 1) sc_cut.nd rfl (.inl rfl) (pe_lst pa_nil))
    (pss_cons (ps_set (i := 2) sc_cut.nd rfl (.inl rfl) pe_int)
    (pss_cons (ps_while PassesOwn.never (pt_cmpR op_lt (pv 2) (pe_callB call_len_seq (by rfl) T.n_len Boot.«len» (pa_cons (pv 0) pa_nil)) (nomark _))
      (pss_cons (ps_set (i := 3) sc_cut.nd rfl (.inl rfl) (pe_cx c_cut_one hr (by decide) rfl (pa_cons (pv 0) (pa_cons (pv 2) pa_nil))))
    (pss_cons (ps_if (pt_cmpR op_isN (pv 3) pe_non (nomark _))
      (pss_one (ps_ret (pe_tup (pa_cons (pv 1) (pa_cons (pv 2) pa_nil)))))
      pss_nil)
    (pss_cons (ps_expr (pe_bm PySem.F.plainAttrs_list PySem.F.slot_list_append PySem.F.type_list_append mt_append (pv 1) (pa_cons (pv 3) pa_nil)))
    (pss_one (ps_set (i := 2) sc_cut.nd rfl (.inl rfl) (pe_ix ix_tup (pv 3) pe_int (fun _ _ => rfl))))))))
    (pss_one (ps_ret (pe_tup (pa_cons (pv 1) (pa_cons (pe_ifExp (pt_cmpR (op_neD hr.units) (pv 1) (pe_lst pa_nil) (nomark _)) pe_non pe_int) pa_nil)))))))), ?_⟩
    refine ⟨(by show 0 ≤ sizeLine; decide), ?_⟩
    walk_at "new1"
    have hl1 := s1 _ _ hH
    refine while_by (fun σ H' => ∃ (i f : Nat) (acc : List Cr) (xs : List V) (vr : Option V), σ = [some (.ref h), some (.ref p1), some (.int (i : Int)), vr] ∧ Same H H' ∧ H' p1 = some (.lst xs) ∧ TupsAt Cr.vs H' xs acc ∧ i ≤ d.length ∧ acc.length ≤ i ∧ d.length + 1 ≤ i + f ∧ cutGo d f i acc = cutAll d ∧ ∀ c ∈ acc, c.r ∈ rws) (fun σ _ => match σ with | _ :: _ :: some (.int m) :: _ => d.length + 1 - m.toNat | _ => 0)
      ⟨0, d.length + 1, [], [], none, rfl, s1, h1, trivial, Nat.zero_le _, Nat.le_refl _, by omega, rfl, (fun c hc => by cases hc)⟩ ?_ ?_
    · rintro σ H' ⟨i, f, acc, xs, vr, rfl, S, hp, hT, hi, hal, hf, he, hrs⟩
      obtain ⟨f, rfl⟩ : ∃ f', f = f' + 1 := ⟨f - 1, by omega⟩
      have hxl := hT.len
      unfold cutGo at he
      refine ⟨_, rfl, _, rfl, h, _, rfl, .inr (SqT.of (S _ _ hH)), _, _, rfl, rfl, _, rfl, ite2 (fun c => ?_) (fun c => ?_)⟩
      · have c0 : i < d.length := by
          have c : ((i : Nat) : Int) < (((d.map V.int).length : Nat) : Int) := of_decide_eq_true c
          rw [List.length_map] at c
          omega
        rw [if_pos c0] at he
        refine ⟨_, rfl, _, rfl, h, d, i, rfl, S _ _ hH, by1, hi, fun e J sJ => ?_, fun a r n e q J nq sJ hq => ?_⟩
        · rw [e] at he
          refine ⟨_, rfl, rfl, _, rfl, iteT ?_⟩
          refine ⟨_, rfl, _, rfl, (by show 2 ≤ sizeLine; decide), ?_⟩
          walk_at "new2"
          refine k p2 p1 xs H2 ((S.trans sJ).trans s2) ?_ (s2 _ _ (sJ _ _ hp)) ?_
          · rw [← he]
            exact h2
          · rw [← he]
            exact (hT.same sJ).same s2
        · obtain ⟨b1, b2, b3⟩ := oneC_bd e
          rw [e] at he
          have hp' := sJ _ _ hp
          have hT' := (hT.same sJ).snoc (r := ⟨i, a, r, n⟩) hq
          refine ⟨_, rfl, rfl, _, rfl, iteF ?_⟩
          refine ⟨_, rfl, .inl ⟨rfl, _, SqL.of hp'⟩, _, rfl, _, _, _, rfl, rfl, hp', ?_, ?_⟩
          · rw [hxl]
            exact Nat.lt_of_le_of_lt (Nat.le_trans hal (Nat.le_trans hi by1.2)) (by decide)
          have nqp : q ≠ p1 := fun z => by rw [z, hp] at nq; cases nq
          have hg := endOf_gt a r
          refine ⟨_, rfl, q, _, 4, _, rfl, rfl, SqT.of (by rw [upd_ne nqp]; exact hq), rfl, ?_⟩
          refine ⟨⟨endOf a r, f, acc ++ [⟨i, a, r, n⟩], xs ++ [.ref q], _, rfl, Same.mut (S.trans sJ) n1, upd_same, hT'.upd hp', b2, ?_, by omega, he, fun c hc => (List.mem_append.mp hc).elim (hrs c) fun z => by rw [List.mem_singleton.mp z]; exact b3⟩, ?_⟩
          · rw [List.length_append]
            show acc.length + 1 ≤ endOf a r
            omega
          · show d.length + 1 - (((endOf a r : Nat) : Int)).toNat < d.length + 1 - (((i : Nat) : Int)).toNat
            omega
      · have c0 : ¬ i < d.length := fun z => c (decide_eq_true (by rw [List.length_map]; omega))
        rw [if_neg c0] at he
        refine ⟨_, rfl, _, rfl, (by show 0 ≤ sizeLine; decide), ?_⟩
        walk_at "new2"
        refine ⟨crsD acc, .list [], Dp.lst (SqL.of (s2 _ _ hp)) (dp_tups dp_cr (hT.same s2)), Dp.lst (SqL.of h2) .nil, shaped_crs _ hrs, rfl, _, rfl, ?_⟩
        cases acc with
        | nil =>
          refine iteF ?_
          refine ⟨(by show 2 ≤ sizeLine; decide), ?_⟩
          walk_at "new3"
          refine k p3 p1 xs H3 ((S.trans s2).trans s3) ?_ (s3 _ _ (s2 _ _ hp)) ?_
          · rw [← he]
            exact h3
          · rw [← he]
            exact (hT.same s2).same s3
        | cons x t =>
          have e : PyData.eqv (crsD (x :: t)) (.list []) = false := rfl
          rw [e]
          refine iteT ?_
          refine ⟨(by show 2 ≤ sizeLine; decide), ?_⟩
          walk_at "new3"
          refine k p3 p1 xs H3 ((S.trans s2).trans s3) ?_ (s3 _ _ (s2 _ _ hp)) ?_
          · rw [← he]
            exact h3
          · rw [← he]
            exact (hT.same s2).same s3
    · rintro σ H' Q1 Q2 hq ⟨v1, e1, v2, e2, h1, x1, e3, sq, i1, i2, e4, e5, b1, e6, q⟩
      exact ⟨v1, e1, v2, e2, h1, x1, e3, sq, i1, i2, e4, e5, b1, e6, hq _ _ q⟩
end
end K58
set_option maxHeartbeats 4000000
set_option pp.maxSteps 600
namespace K58
open PySem PySem.Spec PyProof.Rows L2 Nd
/-! ### at_index, word_of -/
abbrev s_at_index : Stmt := top 42
abbrev s_word_of : Stmt := top 43
/-- NoCode("code") is wished for, later -/
def errAt (Cn : Addr) (H : Hp) (E : XK) : Prop := ∀ d H', Same H H' → H' d = none → E (.ref Cn) (some d) (upd H' d (.xd [("field", .str "code")]))
def spAt (Cn : Addr) : Sp := fun vs H Q E => ∃ (h : Addr) (xs : List V) (i : Nat), vs = [.ref h, .int (i : Int)] ∧ H h = some (.tup xs) ∧ (xs.length ≤ i → errAt Cn H E) ∧ ∀ v, xs[i]? = some v → Q v H
def spWord : Sp := fun vs H Q _ => ∃ (k : Addr) (kvs : List (Key × V)) (n : Int), vs = [.ref k, .int n] ∧ H k = some (.dK kvs) ∧ (∀ p ∈ kvs, ∃ z j, p.1 = .inr z ∧ p.2 = .int j ∧ z.length ≤ 20 ∧ PyData.strOk z = true) ∧ kvs.length ≤ 60 ∧ ∀ z H', Same H H' → z.length ≤ 20 → Q (.str z) H'
theorem lay_strs : ∀ l : List Str, (∀ z ∈ l, PyData.strOk z = true) → PyData.canLayAll0 (l.map PyData.str) = true
  | [], _ => by simp [PyData.canLayAll0]
  | z :: t, h => by
    simp only [List.map_cons, PyData.canLayAll0, PyData.canLay0, lay_strs t fun c hc => h c (List.mem_cons_of_mem _ hc), h z (List.mem_cons_self ..)]
    rfl
theorem dep_strs : ∀ l : List Str, PyData.depthAll (l.map PyData.str) = 0
  | [] => by simp [PyData.depthAll]
  | z :: t => by
    simp only [List.map_cons, PyData.depthAll, PyData.depth, dep_strs t]
    rfl
theorem shaped_strs (l : List Str) (h : ∀ z ∈ l, PyData.strOk z = true) : SeqAt.shaped (.list (l.map PyData.str)) = true := by
  have h1 := dep_strs l
  have h2 : PyData.depth (.list (l.map PyData.str)) ≤ 64 := by
    simp only [PyData.depth]
    omega
  show (PyData.canLay0 (.list (l.map PyData.str)) && decide (PyData.depth (.list (l.map PyData.str)) ≤ 64)) = true
  rw [Bool.and_eq_true]
  exact ⟨by simp only [PyData.canLay0]; exact lay_strs l h, decide_eq_true h2⟩
theorem dp_strs {K : PySem.W.Frag} {H : Hp} : ∀ l : List Str, DpAll K H (l.map V.str) (l.map PyData.str)
  | [] => .nil
  | z :: t => .cons (.str _) (dp_strs t)
section
variable {P : Program} {w : World} {K : PySem.W.Frag} {mg : Str → Option Value} {base : Heap} {Cc Cn fI : Addr}
abbrev N_at_index : List Str := ["row", "number"]
theorem sc_at_index : FnScope N_at_index ["row", "number"] (defScope s_at_index) := ⟨rfl, rfl, rfl, by decide +kernel, rfl, by decide +kernel, by decide +kernel⟩
theorem ok_at_index {f : Addr} {fd : FuncData} (T : GlU mg) (G : GlK P K mg Cc Cn fI) (F : DefX K mg "at_index" s_at_index ["row", "number"] f fd) : CalX P w K mg base 2 "at_index" (spAt Cn) := by
  refine calr F sc_at_index (fun vs H Q E h => ?_) (fun cdv A outer s H vs Q E hr h => ?_)
  · obtain ⟨h, xs, i, rfl, _⟩ := h
    rfl
  · obtain ⟨h, xs, i, rfl, hH, kE, k⟩ := h
    refine ⟨_, (pss_cons (ps_if (pt_cmpR op_ge (pv 1) (pe_callB call_len_seq (by rfl) T.n_len Boot.«len» (pa_cons (pv 0) pa_nil)) (nomark _))
      (pss_one (ps_raise rfl (takes_of rfl rfl rfl rfl) (pmk_nx G.nx hr (pa_cons pe_str pa_nil) rfl G.gN)))
      pss_nil)
    (pss_one (ps_ret (pe_ix ix_tup (pv 0) (pv 1) (fun _ _ => rfl))))), ?_⟩
    refine ⟨_, rfl, _, rfl, h, _, rfl, .inr (SqT.of hH), _, _, rfl, rfl, _, rfl, ite2 (fun c => ?_) (fun c => ?_)⟩
    · have c : ((xs.length : Nat) : Int) ≤ ((i : Nat) : Int) := of_decide_eq_true c
      exact ⟨_, rfl, fun d hd => kE (by omega) d H (Same.refl _) hd⟩
    · have c0 : i < xs.length := by
        have : ¬ ((xs.length : Nat) : Int) ≤ ((i : Nat) : Int) := fun z => c (decide_eq_true z)
        omega
      have e : xs[i]? = some xs[i] := List.getElem?_eq_getElem c0
      exact ⟨_, rfl, _, rfl, h, _, _, _, rfl, rfl, SqT.of hH, atI_nat e, k _ e⟩
abbrev N_word_of : List Str := ["known", "number", "found", "word", "other"]
theorem sc_word_of : FnScope N_word_of ["known", "number"] (defScope s_word_of) := ⟨rfl, rfl, rfl, by decide +kernel, rfl, by decide +kernel, by decide +kernel⟩
theorem ok_word_of {f : Addr} {fd : FuncData} (F : DefX K mg "word_of" s_word_of ["known", "number"] f fd) : CalX P w K mg base 1 "word_of" spWord := by
  refine calx F sc_word_of (fun vs H Q E h => ?_) (fun cdv A outer s H vs Q E hr h => ?_)
  · obtain ⟨k, kvs, n, rfl, _⟩ := h
    rfl
  · obtain ⟨k0, kvs, n, rfl, hk, hz, hl, k⟩ := h
    refine ⟨_, (pss_cons (ps_lock (ps_setLc (i := 2) (y := "found") (own := [("word", 3), ("other", 4)]) (g := gTup K 2 (gCons (gName 3) (gCons (gName 4) gNil))) rfl sc_word_of.nd rfl rfl (sw_true rfl rfl rfl (by decide +kernel)) (pi_items (pv 0)) (blkOk_by (own := [("word", 3), ("other", 4)]) (N := N_word_of) (sc := defScope s_word_of) (by decide +kernel)) (fun _ _ _ _ _ => (pg_tup rfl (pgs_cons (pg_name (i := 3) sc_word_of.nd rfl (Or.inl rfl)) (pgs_cons (pg_name (i := 4) sc_word_of.nd rfl (Or.inl rfl)) pgs_nil)))) (fun _ _ _ _ _ => (pts_one (pt_cmpR op_eq (pv 4) (pv 1) (nomark _)))) (fun _ _ _ _ _ => (pv 3))))
    (pss_one (ps_ret (pe_ifExp (pt_cmpR (op_neD hr.units) (pv 2) (pe_lst pa_nil) (nomark _)) (pe_ix ix_list (pv 2) pe_int (fun _ _ => rfl)) pe_str)))), ?_⟩
    refine ⟨k0, _, hk, trivial, fun od => ?_⟩
    refine ⟨_, rfl, k0, od, kvs, rfl, upd_same, fun D nD => lc_it walk_items (fun i H' => ∃ l : List Str, Same (upd H k0 (.frz od (.dK kvs))) H' ∧ H' D = some (.lst (l.map V.str)) ∧ l.length ≤ i ∧ ∀ z ∈ l, z.length ≤ 20 ∧ PyData.strOk z = true) ⟨[], Same.new nD, upd_same, Nat.le_refl _, (fun z hz => by cases hz)⟩ (fun i H' _ p => ?_) ?_ ?_⟩
    · obtain ⟨l, s, _⟩ := p
      exact s _ _ upd_same
    · rintro i x H' H'' hi ⟨l, s, hD, hli, hz2⟩ ⟨t, a, b, rfl, nt, rfl, ha, hb⟩
      have hkv : kvs[i]? = some kvs[i] := List.getElem?_eq_getElem hi
      obtain ⟨z, j, e1, e2, z20, zok⟩ := hz _ (List.mem_of_getElem? hkv)
      dsimp only at ha hb
      rw [hkv] at ha hb
      obtain rfl : V.str z = a := by
        have := Option.some.inj ha
        dsimp only at this
        rw [e1] at this
        exact this
      obtain rfl : V.int j = b := by
        have := Option.some.inj hb
        rw [e2] at this
        exact this
      have st := Same.new (o := .tup [.str z, .int j]) nt
      refine ⟨t, _, rfl, SqT.of upd_same, rfl, _, _, rfl, _, _, rfl, rfl, ?_⟩
      refine ⟨rfl, _, rfl, _, rfl, rfl, _, rfl, ite2 (fun _ => ?_) (fun _ => ?_)⟩
      · refine ⟨_, rfl, _, st _ _ hD, ?_, l ++ [z], Same.mut (s.trans st) nD, ?_, ?_, ?_⟩
        · rw [List.length_map]
          exact Nat.lt_of_le_of_lt hli (Nat.lt_of_lt_of_le hi (Nat.le_trans hl (by decide)))
        · rw [upd_same, List.map_append]
          rfl
        · rw [List.length_append]
          exact Nat.succ_le_succ hli
        · intro y hy
          rcases List.mem_append.mp hy with q | q
          · exact hz2 y q
          · rw [List.mem_singleton.mp q]
            exact ⟨z20, zok⟩
      · exact ⟨l, s.trans st, st _ _ hD, Nat.le_succ_of_le hli, hz2⟩
    · rintro H' ⟨l, s, hD, hli, hz2⟩
      refine ⟨s _ _ upd_same, ?_⟩
      have nDk : D ≠ k0 := fun z => by
        rw [z, upd_same] at nD
        cases nD
      have S : Same H (upd H' k0 (.dK kvs)) := fun b o e => by
        by_cases c : b = k0
        · subst c
          rw [upd_same, ← hk]
          exact e
        · rw [upd_ne c]
          exact s _ _ (by rw [upd_ne c]; exact e)
      have hD2 : upd H' k0 (.dK kvs) D = some (.lst (l.map V.str)) := by
        rw [upd_ne nDk]
        exact hD
      generalize upd H' k0 (.dK kvs) = J at S hD2 ⊢
      refine ⟨_, rfl, (by show 0 ≤ sizeLine; decide), ?_⟩
      walk_at "new1"
      refine ⟨.list (l.map PyData.str), .list [], Dp.lst (SqL.of (s1 _ _ hD2)) (dp_strs l), Dp.lst (SqL.of h1) .nil, shaped_strs l fun z m => (hz2 z m).2, rfl, _, rfl, ?_⟩
      cases l with
      | nil =>
        refine iteF ?_
        exact k _ _ (S.trans s1) (by decide)
      | cons x t =>
        have e : PyData.eqv (.list ((x :: t).map PyData.str)) (.list []) = false := rfl
        rw [e]
        refine iteT ?_
        exact ⟨_, rfl, D, _, _, _, rfl, rfl, SqL.of (s1 _ _ hD2), atI_nat (j := 0) (v := V.str x) rfl, k _ _ (S.trans s1) (hz2 x (List.mem_cons_self ..)).1⟩
end
end K58
set_option maxHeartbeats 4000000
set_option pp.maxSteps 600
namespace K58
open PySem PySem.Spec PyProof.Rows L2 Nd
/-! ### operator_of, number_told, constant_told -/
abbrev s_operator_of : Stmt := top 44
abbrev s_number_told : Stmt := top 46
abbrev s_constant_told : Stmt := top 45
theorem call_repr_ni {X : Cx} : CallR X (.builtin "repr") (fun xs H Q => (xs = [.non] ∧ Q (.str "None") H) ∨ ∃ i, xs = [.int i] ∧ i.natAbs.log2 < 1920 ∧ Q (.str (toString i)) H) := by
  intro pins s σ H xs us Q I r h
  rcases h with ⟨rfl, q⟩ | h
  · obtain ⟨u, rfl, rx⟩ := vals1 r
    cases rx
    exact PySem.P.repr_of_none ⟨.str "None", H, I.tok _, ⟨_, rfl⟩, q⟩
  · exact SkE.call_repr_int pins s σ H xs us Q I r h
structure GlO (K : PySem.W.Frag) (w : World) (mg : Str → Option Value) (dO dP dI dA : Addr) : Prop where
  c_OPERATORS : ∃ u, mg "OPERATORS" = some u ∧ RelV (.ref dO) u
  c_COMPARES : ∃ u, mg "COMPARES" = some u ∧ RelV (.ref dP) u
  c_INTRINSICS : ∃ u, mg "INTRINSICS" = some u ∧ RelV (.ref dI) u
  c_ATTRIBUTES : ∃ u, mg "ATTRIBUTES" = some u ∧ RelV (.ref dA) u
  O : MDict K w dO (kv tO)
  Pm : MDict K w dP (kv tP)
  Im : MDict K w dI (kv tI)
  Am : MDict K w dA (kv tA)
  c_IN_PLACE : ∃ u, mg "IN_PLACE" = some u ∧ RelV (.int 13) u
  c_TRUTH : ∃ u, mg "TRUTH" = some u ∧ RelV (.int 16) u
  n_dict : mg "dict" = none
  n_repr : mg "repr" = none
def goodE : Key × Vo → Bool
  | (.inr z, .inl _) => decide (z.length ≤ 20) && PyData.strOk z
  | _ => false
theorem good_kv {l : List (Key × Vo)} (h : l.all goodE = true) : ∀ p ∈ kv l, ∃ z j, p.1 = .inr z ∧ p.2 = .int j ∧ z.length ≤ 20 ∧ PyData.strOk z = true := by
  intro p hp
  obtain ⟨q, hq, rfl⟩ := List.mem_map.mp hp
  have g := List.all_eq_true.mp h q hq
  match q, g with
  | (.inr z, .inl j), g =>
    have g : (decide (z.length ≤ 20) && PyData.strOk z) = true := g
    rw [Bool.and_eq_true] at g
    exact ⟨z, j, rfl, rfl, of_decide_eq_true g.1, g.2⟩
theorem tO_ok : tO.all goodE = true := by decide +kernel
theorem tP_ok : tP.all goodE = true := by decide +kernel
theorem txt_get {l : List (Key × Vo)} (h : l.all (fun p => p.2.isRight) = true) (k : Key) : ∃ z, (valV (kv l) k).getD (.str "") = .str z := by
  cases e : valV (kv l) k with
  | none => exact ⟨"", rfl⟩
  | some v =>
    unfold valV at e
    obtain ⟨p, hp, rfl⟩ := Option.map_eq_some_iff.mp e
    obtain ⟨q, hq, rfl⟩ := List.mem_map.mp (List.mem_of_find?_eq_some hp)
    have g := List.all_eq_true.mp h q hq
    match q, g with
    | (_, .inr z), _ => exact ⟨z, rfl⟩
def spOper : Sp := fun vs H Q _ => ∃ (x : Str) (n : Int), vs = [.str x, .int n] ∧ ∀ z H', Same H H' → Q (.str z) H'
def spTold : Sp := fun vs H Q _ => ∃ x : V, vs = [x] ∧ (x = .non ∨ x = .int 5) ∧ ∀ z, Q (.str z) H
section
variable {P : Program} {w : World} {K : PySem.W.Frag} {mg : Str → Option Value} {base : Heap} {Cc Cn fI dO dP dI dA : Addr}
abbrev N_operator_of : List Str := ["word", "number", "in_place", "known"]
theorem sc_operator_of : FnScope N_operator_of ["word", "number"] (defScope s_operator_of) := ⟨rfl, rfl, rfl, by decide +kernel, rfl, by decide +kernel, by decide +kernel⟩
theorem ok_operator_of {f : Addr} {fd : FuncData} (T : GlO K w mg dO dP dI dA) (c_word_of : CalX P w K mg base 1 "word_of" spWord) (F : DefX K mg "operator_of" s_operator_of ["word", "number"] f fd) : CalX P w K mg base 2 "operator_of" spOper := by
  refine calx F sc_operator_of (fun vs H Q E h => ?_) (fun cdv A outer s H vs Q E hr h => ?_)
  · obtain ⟨x, n, rfl, _⟩ := h
    rfl
  · obtain ⟨x, n, rfl, k⟩ := h
    refine ⟨_, (pss_cons (ps_if (pt_cmpR op_eq (pv 0) pe_str (nomark _))
      (pss_cons (ps_set (i := 2) sc_operator_of.nd rfl (.inl rfl) (pe_cx c_word_of hr (by decide) rfl (pa_cons (pe_callTy (call_dictM T.O) (by rfl) T.n_dict Boot.«dict» (pa_cons (C8.pe_gc rfl T.c_OPERATORS) pa_nil)) (pa_cons (pe_op op_sub (pv 1) (C8.pe_gc rfl T.c_IN_PLACE)) pa_nil))))
    (pss_one (ps_ret (pe_ifExp (pt_cmpR op_ne (pv 2) pe_str (nomark _)) (pe_op op_add_str (pv 2) pe_str) (pe_cx c_word_of hr (by decide) rfl (pa_cons (pe_callTy (call_dictM T.O) (by rfl) T.n_dict Boot.«dict» (pa_cons (C8.pe_gc rfl T.c_OPERATORS) pa_nil)) (pa_cons (pv 1) pa_nil)))))))
      pss_nil)
    (pss_cons (ps_set (i := 3) sc_operator_of.nd rfl (.inl rfl) (pe_cx c_word_of hr (by decide) rfl (pa_cons (pe_callTy (call_dictM T.Pm) (by rfl) T.n_dict Boot.«dict» (pa_cons (C8.pe_gc rfl T.c_COMPARES) pa_nil)) (pa_cons (pe_op op_and (pv 1) (pe_un un_inv (C8.pe_gc rfl T.c_TRUTH))) pa_nil))))
    (pss_one (ps_ret (pe_ifExp (PW.pt (pw_and (pt_cmpR op_ne (pv 3) pe_str (nomark _)) (pw_and1 (pt_cmpR op_gt (pe_op op_and (pv 1) (C8.pe_gc rfl T.c_TRUTH)) pe_int (nomark _))))) (pe_op op_add_str (pe_op op_add_str pe_str (pv 3)) pe_str) (pv 3)))))), ?_⟩
    refine ⟨_, rfl, rfl, _, rfl, ite2 (fun _ => ?_) (fun _ => ?_)⟩
    · refine ⟨rfl, ?_⟩
      walk_at "new1"
      refine ⟨_, rfl, _, _, rfl, rfl, p1, kv tO, _, rfl, h1, good_kv tO_ok, by decide, fun z J sJ zl => ?_⟩
      refine ⟨_, rfl, rfl, _, rfl, ite2 (fun _ => ?_) (fun _ => ?_)⟩
      · refine ⟨_, rfl, _, _, rfl, rfl, ?_, k _ _ (s1.trans sJ)⟩
        exact Nat.le_trans (Nat.add_le_add_right zl _) (by decide)
      · refine ⟨rfl, ?_⟩
        walk_at "new2"
        exact ⟨_, rfl, p2, kv tO, _, rfl, h2, good_kv tO_ok, by decide, fun z' J' sJ' _ => k _ _ (((s1.trans sJ).trans s2).trans sJ')⟩
    · refine ⟨rfl, ?_⟩
      walk_at "new1"
      refine ⟨_, rfl, _, rfl, _, _, rfl, rfl, p1, kv tP, _, rfl, h1, good_kv tP_ok, by decide, fun z J sJ zl => ?_⟩
      refine ⟨_, rfl, rfl, _, rfl, ite2 (fun _ => ?_) (fun _ => ?_)⟩
      · refine ⟨_, rfl, _, _, rfl, rfl, _, _, rfl, rfl, _, rfl, ite2 (fun _ => ?_) (fun _ => ?_)⟩
        · refine ⟨_, rfl, _, _, rfl, rfl, ?_, _, _, rfl, rfl, ?_, k _ _ (s1.trans sJ)⟩
          · exact Nat.le_trans (Nat.add_le_add_left zl _) (by decide)
          · show (("bool(" : Str).cps ++ z.cps).size + 1 ≤ sizeLine
            rw [Array.size_append]
            have zl : z.cps.size ≤ 20 := zl
            exact Nat.le_trans (Nat.add_le_add_right (Nat.add_le_add_left zl _) 1) (by decide +kernel)
        · exact ⟨_, rfl, k _ _ (s1.trans sJ)⟩
      · exact ⟨_, rfl, k _ _ (s1.trans sJ)⟩
abbrev N_number_told : List Str := ["word", "number"]
theorem sc_number_told : FnScope N_number_told ["word", "number"] (defScope s_number_told) := ⟨rfl, rfl, rfl, by decide +kernel, rfl, by decide +kernel, by decide +kernel⟩
theorem ok_number_told {f : Addr} {fd : FuncData} (T : GlO K w mg dO dP dI dA) (F : DefX K mg "number_told" s_number_told ["word", "number"] f fd) : CalX P w K mg base 1 "number_told" spOper := by
  refine calx F sc_number_told (fun vs H Q E h => ?_) (fun cdv A outer s H vs Q E hr h => ?_)
  · obtain ⟨x, n, rfl, _⟩ := h
    rfl
  · obtain ⟨x, n, rfl, k⟩ := h
    refine ⟨_, (pss_cons (ps_if (pt_cmpR op_in_seq (pv 0) (pe_tup (pa_cons pe_str (pa_cons pe_str pa_nil))) (by rfl))
      (pss_one (ps_ret (pe_ifExp (pt_cmpR op_eq (pv 1) pe_int (nomark _)) pe_str pe_str)))
      pss_nil)
    (pss_cons (ps_if (pt_cmpR op_eq (pv 0) pe_str (nomark _))
      (pss_one (ps_ret (pe_mget2 T.Im (C8.pe_gc rfl T.c_INTRINSICS) (pv 1) pe_str ⟨rfl, rfl, rfl, rfl⟩)))
      pss_nil)
    (pss_one (ps_ret (pe_ifExp (pt_cmpR op_eq (pv 0) pe_str (nomark _)) (pe_mget2 T.Am (C8.pe_gc rfl T.c_ATTRIBUTES) (pv 1) pe_str ⟨rfl, rfl, rfl, rfl⟩) pe_str))))), ?_⟩
    refine ⟨_, rfl, (by show 2 ≤ sizeLine; decide), ?_⟩
    walk_at "new1"
    refine ⟨p1, _, rfl, .inr (SqT.of h1), rfl, rfl, _, rfl, ite2 (fun _ => ?_) (fun _ => ?_)⟩
    · exact ⟨_, rfl, rfl, _, rfl, ite2 (fun _ => k _ _ s1) (fun _ => k _ _ s1)⟩
    · refine ⟨_, rfl, rfl, _, rfl, ite2 (fun _ => ?_) (fun _ => ?_)⟩
      · refine ⟨rfl, _, rfl, .inl n, rfl, ?_⟩
        obtain ⟨z, e⟩ := txt_get (l := tI) (by decide +kernel) (.inl n)
        rw [e]
        exact k _ _ s1
      · refine ⟨_, rfl, rfl, _, rfl, ite2 (fun _ => ?_) (fun _ => ?_)⟩
        · refine ⟨rfl, _, rfl, .inl n, rfl, ?_⟩
          obtain ⟨z, e⟩ := txt_get (l := tA) (by decide +kernel) (.inl n)
          rw [e]
          exact k _ _ s1
        · exact k _ _ s1
abbrev N_constant_told : List Str := ["value"]
theorem sc_constant_told : FnScope N_constant_told ["value"] (defScope s_constant_told) := ⟨rfl, rfl, rfl, by decide +kernel, rfl, by decide +kernel, by decide +kernel⟩
theorem ok_constant_told {f : Addr} {fd : FuncData} (T : GlO K w mg dO dP dI dA) (G : GlK P K mg Cc Cn fI) (F : DefX K mg "constant_told" s_constant_told ["value"] f fd) : CalX P w K mg base 1 "constant_told" spTold := by
  refine calx F sc_constant_told (fun vs H Q E h => ?_) (fun cdv A outer s H vs Q E hr h => ?_)
  · obtain ⟨x, rfl, _⟩ := h
    rfl
  · obtain ⟨x, rfl, hx, k⟩ := h
    refine ⟨_, (pss_one (ps_ret (pe_ifExp (pt_val (pe_callB call_isi (by rfl) G.n_isinstance Boot.«isinstance» (pa_cons (pv 0) (pa_cons (C8.pe_gc rfl G.c_Code) pa_nil)))) (pe_op op_add_str (pe_op op_add_str pe_str (pe_fld (pv 0) rfl)) pe_str) (pe_callB call_repr_ni (by rfl) T.n_repr Boot.«repr» (pa_cons (pv 0) pa_nil))))), ?_⟩
    rcases hx with rfl | rfl
    · refine ⟨_, rfl, V.non, V.ref Cc, .type "NoneType", .ref Cc, false, rfl, .own Cc, .base .non, G.no "NoneType" (by decide), _, rfl, iteF ?_⟩
      exact ⟨_, rfl, .inl ⟨rfl, k _⟩⟩
    · refine ⟨_, rfl, V.int 5, V.ref Cc, .type "int", .ref Cc, false, rfl, .own Cc, .base (.int 5), G.no "int" (by decide), _, rfl, iteF ?_⟩
      exact ⟨_, rfl, .inr ⟨5, rfl, by decide, k _⟩⟩
end
end K58
set_option maxHeartbeats 4000000
set_option pp.maxSteps 600
namespace K58
open PySem PySem.Spec PyProof.Rows L2 Nd
/-! ### meaning -/
abbrev s_meaning : Stmt := top 47
structure GlM (K : PySem.W.Frag) (w : World) (mg : Str → Option Value) (dM : Addr) : Prop where
  c_MORE : ∃ u, mg "MORE" = some u ∧ RelV (.ref dM) u
  M : MDict K w dM (kv tM)
  n_str : mg "str" = none
/-- what the argument tells stands in the tables -/
def mOk (nc nn ns : Nat) (z : Str) (n : Nat) : Prop := if z = "c" then n < nc else if z = "n" then n < nn else if z = "m" then n / 2 < nn else if z = "l" then n < ns else if z = "p" then n / 16 < ns ∧ n % 16 < ns else True
theorem mOk_d {nc nn ns n : Nat} : mOk nc nn ns "-" n ↔ True := by
  unfold mOk
  rw [if_neg (by decide +kernel), if_neg (by decide +kernel), if_neg (by decide +kernel), if_neg (by decide +kernel), if_neg (by decide +kernel)]
theorem mOk_o {nc nn ns n : Nat} : mOk nc nn ns "o" n ↔ True := by
  unfold mOk
  rw [if_neg (by decide +kernel), if_neg (by decide +kernel), if_neg (by decide +kernel), if_neg (by decide +kernel), if_neg (by decide +kernel)]
theorem mOk_k {nc nn ns n : Nat} : mOk nc nn ns "k" n ↔ True := by
  unfold mOk
  rw [if_neg (by decide +kernel), if_neg (by decide +kernel), if_neg (by decide +kernel), if_neg (by decide +kernel), if_neg (by decide +kernel)]
theorem mOk_x {nc nn ns n : Nat} : mOk nc nn ns "x" n ↔ True := by
  unfold mOk
  rw [if_neg (by decide +kernel), if_neg (by decide +kernel), if_neg (by decide +kernel), if_neg (by decide +kernel), if_neg (by decide +kernel)]
theorem mOk_n {nc nn ns n : Nat} : mOk nc nn ns "n" n ↔ n < nn := by
  unfold mOk
  rw [if_neg (by decide +kernel), if_pos rfl]
theorem mOk_l {nc nn ns n : Nat} : mOk nc nn ns "l" n ↔ n < ns := by
  unfold mOk
  rw [if_neg (by decide +kernel), if_neg (by decide +kernel), if_neg (by decide +kernel), if_pos rfl]
theorem mOk_j {nc nn ns n : Nat} : mOk nc nn ns "j" n ↔ True := by
  unfold mOk
  rw [if_neg (by decide +kernel), if_neg (by decide +kernel), if_neg (by decide +kernel), if_neg (by decide +kernel), if_neg (by decide +kernel)]
theorem mOk_m {nc nn ns n : Nat} : mOk nc nn ns "m" n ↔ n / 2 < nn := by
  unfold mOk
  rw [if_neg (by decide +kernel), if_neg (by decide +kernel), if_pos rfl]
theorem mOk_c {nc nn ns n : Nat} : mOk nc nn ns "c" n ↔ n < nc := by
  unfold mOk
  rw [if_pos rfl]
theorem mOk_p {nc nn ns n : Nat} : mOk nc nn ns "p" n ↔ n / 16 < ns ∧ n % 16 < ns := by
  unfold mOk
  rw [if_neg (by decide +kernel), if_neg (by decide +kernel), if_neg (by decide +kernel), if_neg (by decide +kernel), if_pos rfl]
theorem shr1 (n : Nat) : ((n : Nat) : Int) / 2 ^ (1 : Int).toNat = ((n / 2 : Nat) : Int) := by
  rw [show (2 : Int) ^ (1 : Int).toNat = 2 from rfl]
  omega
theorem shr4 (n : Nat) : ((n : Nat) : Int) / 2 ^ (4 : Int).toNat = ((n / 16 : Nat) : Int) := by
  rw [show (2 : Int) ^ (4 : Int).toNat = 16 from rfl]
  omega
theorem and1 (n : Nat) : Builtin.bitAnd (n : Int) 1 = ((n % 2 : Nat) : Int) := by
  show ((n &&& 1 : Nat) : Int) = _
  rw [Nat.and_one_is_mod]
theorem and15 (n : Nat) : Builtin.bitAnd (n : Int) 15 = ((n % 16 : Nat) : Int) := by
  show ((n &&& 15 : Nat) : Int) = _
  rw [show (15 : Nat) = 2 ^ 4 - 1 from rfl, Nat.and_two_pow_sub_one_eq_mod]
theorem lg {i : Int} (h1 : -(2 ^ 60) < i) (h2 : i < 2 ^ 60) : i.natAbs.log2 < 1920 := by
  by_cases z : i.natAbs = 0
  · rw [z]
    decide
  · exact Nat.lt_trans ((Nat.log2_lt z).mpr (by omega : i.natAbs < 2 ^ 60)) (by decide)
theorem sl {i : Int} (h1 : -(2 ^ 60) < i) (h2 : i < 2 ^ 60) : ("to " : Str).length + (toString i : Str).length ≤ sizeLine := by
  have e := PySem.int_text_length_le (a := i) (k := 1920) (by decide) (lg h1 h2)
  have a : (Str.ofString (toString i)).length = (toString i).length := PySem.ofString_length _
  have b : ("to " : Str).length = 3 := by decide +kernel
  have c : (toString i : Str).length = (toString i).length := a
  rw [b, c, sizeLine_eq]
  omega
theorem letters : ∀ r ∈ rws, r.2.2.2 ∈ (["-", "o", "k", "x", "n", "l", "j", "m", "c", "p"] : List Str) := by decide +kernel
theorem more_of : ∀ r ∈ rws, r.2.2.2 = "m" → ∃ z, valV (kv tM) (.inr r.1) = some (.str z) ∧ z.length ≤ 20 := by
  have h : ∀ r ∈ rws, r.2.2.2 = "m" → (match valV (kv tM) (.inr r.1) with | some (.str z) => decide (z.length ≤ 20) | _ => false) = true := by decide +kernel
  intro r hr e
  have g := h r hr e
  split at g
  · rename_i z e'
    exact ⟨z, e', of_decide_eq_true g⟩
  · cases g
def spMean (Cc Cn : Addr) : Sp := fun vs H Q E => ∃ (c : Addr) (r : Rw) (n : Nat) (e : Int) (D : CD) (m : Int), vs = [.ref c, .str r.1, .int (n : Int), .int e] ∧ r ∈ rws ∧ n < 4294967296 ∧ 0 ≤ e ∧ e < 2 ^ 40 ∧ CodeAt Cc H c D m ∧ D.consts = [.non, .int 5] ∧ isStrs D.names ∧ isStrs D.slots ∧
  (mOk D.consts.length D.names.length D.slots.length r.2.2.2 n → ∀ z H', Same H H' → Q (.str z) H') ∧ (¬ mOk D.consts.length D.names.length D.slots.length r.2.2.2 n → errAt Cn H E)
section
variable {P : Program} {w : World} {K : PySem.W.Frag} {mg : Str → Option Value} {base : Heap} {Cc Cn fI dN dW dC dS dM : Addr}
abbrev N_meaning : List Str := ["code", "word", "number", "end", "sort"]
theorem sc_meaning : FnScope N_meaning ["code", "word", "number", "end"] (defScope s_meaning) := ⟨rfl, rfl, rfl, by decide +kernel, rfl, by decide +kernel, by decide +kernel⟩
theorem ok_meaning {f : Addr} {fd : FuncData} (G : GlK P K mg Cc Cn fI) (GT : GlT K w mg dN dW dC dS) (T : GlM K w mg dM) (c_at : CalX P w K mg base 2 "at_index" (spAt Cn)) (c_told : CalX P w K mg base 1 "constant_told" spTold) (c_op : CalX P w K mg base 2 "operator_of" spOper) (c_num : CalX P w K mg base 1 "number_told" spOper)
    (F : DefX K mg "meaning" s_meaning ["code", "word", "number", "end"] f fd) : CalX P w K mg base 3 "meaning" (spMean Cc Cn) := by
  refine calr F sc_meaning (fun vs H Q E h => ?_) (fun cdv A outer s H vs Q E hr h => ?_)
  · obtain ⟨c, r, n, e, D, m, rfl, _⟩ := h
    rfl
  · obtain ⟨c, r, n, e, D, m, rfl, hr1, hn, e0, e1, hC, hcon, hnm, hsl, k, kE⟩ := h
    refine ⟨_, (pss_cons (ps_set (i := 4) sc_meaning.nd rfl (.inl rfl) (pe_mget2 GT.S (C8.pe_gc rfl GT.c_SORTS) (pv 1) pe_str ⟨rfl, rfl, rfl, rfl⟩))
    (pss_cons (ps_if (pt_cmpR op_eq (pv 4) pe_str (nomark _))
      (pss_one (ps_ret (pe_cx c_told hr (by decide) rfl (pa_cons (pe_cr c_at hr (by decide) rfl (passE (E := E) (takes_of rfl rfl rfl rfl)) (pa_cons (pe_fld (pv 0) rfl) (pa_cons (pv 2) pa_nil))) pa_nil))))
      pss_nil)
    (pss_cons (ps_if (pt_cmpR op_eq (pv 4) pe_str (nomark _))
      (pss_one (ps_ret (pe_cr c_at hr (by decide) rfl (passE (E := E) (takes_of rfl rfl rfl rfl)) (pa_cons (pe_fld (pv 0) rfl) (pa_cons (pv 2) pa_nil)))))
      pss_nil)
    (pss_cons (ps_if (pt_cmpR op_eq (pv 4) pe_str (nomark _))
      (pss_one (ps_ret (pe_op op_add_str (pe_cr c_at hr (by decide) rfl (passE (E := E) (takes_of rfl rfl rfl rfl)) (pa_cons (pe_fld (pv 0) rfl) (pa_cons (pe_op op_shr (pv 2) pe_int) pa_nil))) (pe_op op_smul (pe_ix (ix_m T.M) (C8.pe_gc rfl T.c_MORE) (pv 1) (fun _ _ => rfl)) (pe_op op_and (pv 2) pe_int)))))
      pss_nil)
    (pss_cons (ps_if (pt_cmpR op_eq (pv 4) pe_str (nomark _))
      (pss_one (ps_ret (pe_cr c_at hr (by decide) rfl (passE (E := E) (takes_of rfl rfl rfl rfl)) (pa_cons (pe_fld (pv 0) rfl) (pa_cons (pv 2) pa_nil)))))
      pss_nil)
    (pss_cons (ps_if (pt_cmpR op_eq (pv 4) pe_str (nomark _))
      (pss_one (ps_ret (pe_op op_add_str (pe_op op_add_str (pe_cr c_at hr (by decide) rfl (passE (E := E) (takes_of rfl rfl rfl rfl)) (pa_cons (pe_fld (pv 0) rfl) (pa_cons (pe_op op_shr (pv 2) pe_int) pa_nil))) pe_str) (pe_cr c_at hr (by decide) rfl (passE (E := E) (takes_of rfl rfl rfl rfl)) (pa_cons (pe_fld (pv 0) rfl) (pa_cons (pe_op op_and (pv 2) pe_int) pa_nil))))))
      pss_nil)
    (pss_cons (ps_if (pt_cmpR op_eq (pv 4) pe_str (nomark _))
      (pss_one (ps_ret (pe_op op_add_str pe_str (pe_callTy call_str_int (by rfl) T.n_str Boot.«str» (pa_cons (pe_ifExp (pt_cmpR op_in_str pe_str (pv 1) (by rfl)) (pe_op op_sub (pv 3) (pe_op op_mul pe_int (pv 2))) (pe_op op_add (pv 3) (pe_op op_mul pe_int (pv 2)))) pa_nil)))))
      pss_nil)
    (pss_one (ps_ret (pe_ifExp (pt_cmpR op_in_seq (pv 4) (pe_tup (pa_cons pe_str (pa_cons pe_str pa_nil))) (by rfl)) (pe_cx c_op hr (by decide) rfl (pa_cons (pv 1) (pa_cons (pv 2) pa_nil))) (pe_cx c_num hr (by decide) rfl (pa_cons (pv 1) (pa_cons (pv 2) pa_nil))))))))))))), ?_⟩
    refine ⟨rfl, _, rfl, .inr r.1, rfl, ?_⟩
    rw [s_of r hr1]
    obtain ⟨dx, fs, hc, _, _, _, _, _, ⟨tk, lk, hk⟩, ⟨tn, ln, hn'⟩, ⟨ts, ls, hs'⟩, _⟩ := hC
    have hl := letters r hr1
    simp only [List.mem_cons, List.mem_nil_iff, or_false] at hl
    rcases hl with e | e | e | e | e | e | e | e | e | e
    · have es : sortOf r.2.2.2 = "" := by
        rw [e]
        decide +kernel
      rw [es]
      have hm := (show mOk D.consts.length D.names.length D.slots.length r.2.2.2 n ↔ _ from e ▸ mOk_d)
      refine ⟨_, rfl, rfl, _, rfl, ite2 (fun z => absurd (of_decide_eq_true z) (by decide +kernel)) (fun _ => ?_)⟩
      refine ⟨_, rfl, rfl, _, rfl, ite2 (fun z => absurd (of_decide_eq_true z) (by decide +kernel)) (fun _ => ?_)⟩
      refine ⟨_, rfl, rfl, _, rfl, ite2 (fun z => absurd (of_decide_eq_true z) (by decide +kernel)) (fun _ => ?_)⟩
      refine ⟨_, rfl, rfl, _, rfl, ite2 (fun z => absurd (of_decide_eq_true z) (by decide +kernel)) (fun _ => ?_)⟩
      refine ⟨_, rfl, rfl, _, rfl, ite2 (fun z => absurd (of_decide_eq_true z) (by decide +kernel)) (fun _ => ?_)⟩
      refine ⟨_, rfl, rfl, _, rfl, ite2 (fun z => absurd (of_decide_eq_true z) (by decide +kernel)) (fun _ => ?_)⟩
      refine ⟨_, rfl, (by show 2 ≤ sizeLine; decide), ?_⟩
      walk_at "new1"
      refine ⟨p1, _, rfl, .inr (SqT.of h1), rfl, rfl, _, rfl, ite2 (fun _ => ?_) (fun _ => ?_)⟩
      · exact ⟨_, rfl, _, rfl, r.1, _, rfl, fun z J sJ => k (hm.mpr trivial) z J (s1.trans sJ)⟩
      · exact ⟨_, rfl, _, rfl, r.1, _, rfl, fun z J sJ => k (hm.mpr trivial) z J (s1.trans sJ)⟩
    · have es : sortOf r.2.2.2 = "operator" := by
        rw [e]
        decide +kernel
      rw [es]
      have hm := (show mOk D.consts.length D.names.length D.slots.length r.2.2.2 n ↔ _ from e ▸ mOk_o)
      refine ⟨_, rfl, rfl, _, rfl, ite2 (fun z => absurd (of_decide_eq_true z) (by decide +kernel)) (fun _ => ?_)⟩
      refine ⟨_, rfl, rfl, _, rfl, ite2 (fun z => absurd (of_decide_eq_true z) (by decide +kernel)) (fun _ => ?_)⟩
      refine ⟨_, rfl, rfl, _, rfl, ite2 (fun z => absurd (of_decide_eq_true z) (by decide +kernel)) (fun _ => ?_)⟩
      refine ⟨_, rfl, rfl, _, rfl, ite2 (fun z => absurd (of_decide_eq_true z) (by decide +kernel)) (fun _ => ?_)⟩
      refine ⟨_, rfl, rfl, _, rfl, ite2 (fun z => absurd (of_decide_eq_true z) (by decide +kernel)) (fun _ => ?_)⟩
      refine ⟨_, rfl, rfl, _, rfl, ite2 (fun z => absurd (of_decide_eq_true z) (by decide +kernel)) (fun _ => ?_)⟩
      refine ⟨_, rfl, (by show 2 ≤ sizeLine; decide), ?_⟩
      walk_at "new1"
      refine ⟨p1, _, rfl, .inr (SqT.of h1), rfl, rfl, _, rfl, ite2 (fun _ => ?_) (fun _ => ?_)⟩
      · exact ⟨_, rfl, _, rfl, r.1, _, rfl, fun z J sJ => k (hm.mpr trivial) z J (s1.trans sJ)⟩
      · exact ⟨_, rfl, _, rfl, r.1, _, rfl, fun z J sJ => k (hm.mpr trivial) z J (s1.trans sJ)⟩
    · have es : sortOf r.2.2.2 = "number" := by
        rw [e]
        decide +kernel
      rw [es]
      have hm := (show mOk D.consts.length D.names.length D.slots.length r.2.2.2 n ↔ _ from e ▸ mOk_k)
      refine ⟨_, rfl, rfl, _, rfl, ite2 (fun z => absurd (of_decide_eq_true z) (by decide +kernel)) (fun _ => ?_)⟩
      refine ⟨_, rfl, rfl, _, rfl, ite2 (fun z => absurd (of_decide_eq_true z) (by decide +kernel)) (fun _ => ?_)⟩
      refine ⟨_, rfl, rfl, _, rfl, ite2 (fun z => absurd (of_decide_eq_true z) (by decide +kernel)) (fun _ => ?_)⟩
      refine ⟨_, rfl, rfl, _, rfl, ite2 (fun z => absurd (of_decide_eq_true z) (by decide +kernel)) (fun _ => ?_)⟩
      refine ⟨_, rfl, rfl, _, rfl, ite2 (fun z => absurd (of_decide_eq_true z) (by decide +kernel)) (fun _ => ?_)⟩
      refine ⟨_, rfl, rfl, _, rfl, ite2 (fun z => absurd (of_decide_eq_true z) (by decide +kernel)) (fun _ => ?_)⟩
      refine ⟨_, rfl, (by show 2 ≤ sizeLine; decide), ?_⟩
      walk_at "new1"
      refine ⟨p1, _, rfl, .inr (SqT.of h1), rfl, rfl, _, rfl, ite2 (fun _ => ?_) (fun _ => ?_)⟩
      · exact ⟨_, rfl, _, rfl, r.1, _, rfl, fun z J sJ => k (hm.mpr trivial) z J (s1.trans sJ)⟩
      · exact ⟨_, rfl, _, rfl, r.1, _, rfl, fun z J sJ => k (hm.mpr trivial) z J (s1.trans sJ)⟩
    · have es : sortOf r.2.2.2 = "compare" := by
        rw [e]
        decide +kernel
      rw [es]
      have hm := (show mOk D.consts.length D.names.length D.slots.length r.2.2.2 n ↔ _ from e ▸ mOk_x)
      refine ⟨_, rfl, rfl, _, rfl, ite2 (fun z => absurd (of_decide_eq_true z) (by decide +kernel)) (fun _ => ?_)⟩
      refine ⟨_, rfl, rfl, _, rfl, ite2 (fun z => absurd (of_decide_eq_true z) (by decide +kernel)) (fun _ => ?_)⟩
      refine ⟨_, rfl, rfl, _, rfl, ite2 (fun z => absurd (of_decide_eq_true z) (by decide +kernel)) (fun _ => ?_)⟩
      refine ⟨_, rfl, rfl, _, rfl, ite2 (fun z => absurd (of_decide_eq_true z) (by decide +kernel)) (fun _ => ?_)⟩
      refine ⟨_, rfl, rfl, _, rfl, ite2 (fun z => absurd (of_decide_eq_true z) (by decide +kernel)) (fun _ => ?_)⟩
      refine ⟨_, rfl, rfl, _, rfl, ite2 (fun z => absurd (of_decide_eq_true z) (by decide +kernel)) (fun _ => ?_)⟩
      refine ⟨_, rfl, (by show 2 ≤ sizeLine; decide), ?_⟩
      walk_at "new1"
      refine ⟨p1, _, rfl, .inr (SqT.of h1), rfl, rfl, _, rfl, ite2 (fun _ => ?_) (fun _ => ?_)⟩
      · exact ⟨_, rfl, _, rfl, r.1, _, rfl, fun z J sJ => k (hm.mpr trivial) z J (s1.trans sJ)⟩
      · exact ⟨_, rfl, _, rfl, r.1, _, rfl, fun z J sJ => k (hm.mpr trivial) z J (s1.trans sJ)⟩
    · have es : sortOf r.2.2.2 = "name" := by
        rw [e]
        decide +kernel
      rw [es]
      have hm := (show mOk D.consts.length D.names.length D.slots.length r.2.2.2 n ↔ _ from e ▸ mOk_n)
      refine ⟨_, rfl, rfl, _, rfl, ite2 (fun z => absurd (of_decide_eq_true z) (by decide +kernel)) (fun _ => ?_)⟩
      refine ⟨_, rfl, rfl, _, rfl, ite2 (fun _ => ?_) (fun z => absurd (decide_eq_true rfl) z)⟩
      refine ⟨_, rfl, c, Cc, dx, fs, _, rfl, hc, G.ins.cl, G.na _ (by decide), ln, _, rfl, tn, _, n, rfl, hn', (fun q => kE fun y => absurd (hm.mp y) (by rw [List.length_map] at q; omega)), fun v hv => ?_⟩
      rw [List.getElem?_map] at hv
      obtain ⟨x, hx, rfl⟩ := Option.map_eq_some_iff.mp hv
      exact k (hm.mpr (List.getElem?_eq_some_iff.mp hx).1) x _ (Same.refl _)
    · have es : sortOf r.2.2.2 = "slot" := by
        rw [e]
        decide +kernel
      rw [es]
      have hm := (show mOk D.consts.length D.names.length D.slots.length r.2.2.2 n ↔ _ from e ▸ mOk_l)
      refine ⟨_, rfl, rfl, _, rfl, ite2 (fun z => absurd (of_decide_eq_true z) (by decide +kernel)) (fun _ => ?_)⟩
      refine ⟨_, rfl, rfl, _, rfl, ite2 (fun z => absurd (of_decide_eq_true z) (by decide +kernel)) (fun _ => ?_)⟩
      refine ⟨_, rfl, rfl, _, rfl, ite2 (fun z => absurd (of_decide_eq_true z) (by decide +kernel)) (fun _ => ?_)⟩
      refine ⟨_, rfl, rfl, _, rfl, ite2 (fun _ => ?_) (fun z => absurd (decide_eq_true rfl) z)⟩
      refine ⟨_, rfl, c, Cc, dx, fs, _, rfl, hc, G.ins.cl, G.na _ (by decide), ls, _, rfl, ts, _, n, rfl, hs', (fun q => kE fun y => absurd (hm.mp y) (by rw [List.length_map] at q; omega)), fun v hv => ?_⟩
      rw [List.getElem?_map] at hv
      obtain ⟨x, hx, rfl⟩ := Option.map_eq_some_iff.mp hv
      exact k (hm.mpr (List.getElem?_eq_some_iff.mp hx).1) x _ (Same.refl _)
    · have es : sortOf r.2.2.2 = "jump" := by
        rw [e]
        decide +kernel
      rw [es]
      have hm := (show mOk D.consts.length D.names.length D.slots.length r.2.2.2 n ↔ _ from e ▸ mOk_j)
      refine ⟨_, rfl, rfl, _, rfl, ite2 (fun z => absurd (of_decide_eq_true z) (by decide +kernel)) (fun _ => ?_)⟩
      refine ⟨_, rfl, rfl, _, rfl, ite2 (fun z => absurd (of_decide_eq_true z) (by decide +kernel)) (fun _ => ?_)⟩
      refine ⟨_, rfl, rfl, _, rfl, ite2 (fun z => absurd (of_decide_eq_true z) (by decide +kernel)) (fun _ => ?_)⟩
      refine ⟨_, rfl, rfl, _, rfl, ite2 (fun z => absurd (of_decide_eq_true z) (by decide +kernel)) (fun _ => ?_)⟩
      refine ⟨_, rfl, rfl, _, rfl, ite2 (fun z => absurd (of_decide_eq_true z) (by decide +kernel)) (fun _ => ?_)⟩
      refine ⟨_, rfl, rfl, _, rfl, ite2 (fun _ => ?_) (fun z => absurd (decide_eq_true rfl) z)⟩
      refine ⟨_, rfl, _, _, rfl, rfl, _, rfl, ite2 (fun _ => ?_) (fun _ => ?_)⟩
      · refine ⟨_, rfl, _, rfl, _, _, rfl, rfl, .inl ⟨by decide, by decide⟩, _, _, rfl, rfl, _, rfl, lg (by omega) (by omega), _, _, rfl, rfl, sl (by omega) (by omega), k (hm.mpr trivial) _ _ (Same.refl _)⟩
      · refine ⟨_, rfl, _, rfl, _, _, rfl, rfl, .inl ⟨by decide, by decide⟩, _, _, rfl, rfl, _, rfl, lg (by omega) (by omega), _, _, rfl, rfl, sl (by omega) (by omega), k (hm.mpr trivial) _ _ (Same.refl _)⟩
    · have es : sortOf r.2.2.2 = "more" := by
        rw [e]
        decide +kernel
      rw [es]
      have hm := (show mOk D.consts.length D.names.length D.slots.length r.2.2.2 n ↔ _ from e ▸ mOk_m)
      refine ⟨_, rfl, rfl, _, rfl, ite2 (fun z => absurd (of_decide_eq_true z) (by decide +kernel)) (fun _ => ?_)⟩
      refine ⟨_, rfl, rfl, _, rfl, ite2 (fun z => absurd (of_decide_eq_true z) (by decide +kernel)) (fun _ => ?_)⟩
      refine ⟨_, rfl, rfl, _, rfl, ite2 (fun _ => ?_) (fun z => absurd (decide_eq_true rfl) z)⟩
      obtain ⟨z, hz, zl⟩ := more_of r hr1 e
      refine ⟨_, rfl, c, Cc, dx, fs, _, rfl, hc, G.ins.cl, G.na _ (by decide), ln, _, rfl, _, _, rfl, rfl, (by show (0 : Int) ≤ 1; decide), tn, _, n / 2, congrArg (fun y => [V.ref tn, V.int y]) (shr1 n), hn', (fun q => kE fun y => absurd (hm.mp y) (by rw [List.length_map] at q; omega)), fun v hv => ?_⟩
      rw [List.getElem?_map] at hv
      obtain ⟨x, hx, rfl⟩ := Option.map_eq_some_iff.mp hv
      have hok := hm.mpr (List.getElem?_eq_some_iff.mp hx).1
      have xl : x.length ≤ 1000 := (hnm.1 x (List.mem_of_getElem? hx)).1
      refine ⟨_, rfl, .inr r.1, _, rfl, rfl, hz, _, rfl, _, _, rfl, rfl, z, _, rfl, rfl, ?_⟩
      rw [and1 n]
      rcases Nat.mod_two_eq_zero_or_one n with q | q
      · rw [q]
        exact .inl ⟨rfl, _, _, rfl, rfl, Nat.le_trans (Nat.add_le_add xl (Nat.zero_le 20)) (by decide), k hok _ _ (Same.refl _)⟩
      · rw [q]
        exact .inr ⟨rfl, _, _, rfl, rfl, Nat.le_trans (Nat.add_le_add xl zl) (by decide), k hok _ _ (Same.refl _)⟩
    · have es : sortOf r.2.2.2 = "constant" := by
        rw [e]
        decide +kernel
      rw [es]
      have hm := (show mOk D.consts.length D.names.length D.slots.length r.2.2.2 n ↔ _ from e ▸ mOk_c)
      refine ⟨_, rfl, rfl, _, rfl, ite2 (fun _ => ?_) (fun z => absurd (decide_eq_true rfl) z)⟩
      refine ⟨_, rfl, c, Cc, dx, fs, _, rfl, hc, G.ins.cl, G.na _ (by decide), lk, _, rfl, tk, D.consts, n, rfl, hk, (fun q => kE fun y => Nat.not_lt.mpr q (hm.mp y)), fun v hv => ?_⟩
      have hv2 : n < D.consts.length := (List.getElem?_eq_some_iff.mp hv).1
      refine ⟨v, rfl, ?_, fun z => k (hm.mpr hv2) z _ (Same.refl _)⟩
      rw [hcon] at hv
      match n, hv with
      | 0, hv => exact .inl (Option.some.inj hv).symm
      | 1, hv => exact .inr (Option.some.inj hv).symm
    · have es : sortOf r.2.2.2 = "pair" := by
        rw [e]
        decide +kernel
      rw [es]
      have hm := (show mOk D.consts.length D.names.length D.slots.length r.2.2.2 n ↔ _ from e ▸ mOk_p)
      refine ⟨_, rfl, rfl, _, rfl, ite2 (fun z => absurd (of_decide_eq_true z) (by decide +kernel)) (fun _ => ?_)⟩
      refine ⟨_, rfl, rfl, _, rfl, ite2 (fun z => absurd (of_decide_eq_true z) (by decide +kernel)) (fun _ => ?_)⟩
      refine ⟨_, rfl, rfl, _, rfl, ite2 (fun z => absurd (of_decide_eq_true z) (by decide +kernel)) (fun _ => ?_)⟩
      refine ⟨_, rfl, rfl, _, rfl, ite2 (fun z => absurd (of_decide_eq_true z) (by decide +kernel)) (fun _ => ?_)⟩
      refine ⟨_, rfl, rfl, _, rfl, ite2 (fun _ => ?_) (fun z => absurd (decide_eq_true rfl) z)⟩
      refine ⟨_, rfl, c, Cc, dx, fs, _, rfl, hc, G.ins.cl, G.na _ (by decide), ls, _, rfl, _, _, rfl, rfl, (by show (0 : Int) ≤ 4; decide), ts, _, n / 16, congrArg (fun y => [V.ref ts, V.int y]) (shr4 n), hs', (fun q => kE fun y => absurd (hm.mp y).1 (by rw [List.length_map] at q; omega)), fun v hv => ?_⟩
      rw [List.getElem?_map] at hv
      obtain ⟨x, hx, rfl⟩ := Option.map_eq_some_iff.mp hv
      have xl : x.length ≤ 1000 := (hsl.1 x (List.mem_of_getElem? hx)).1
      refine ⟨_, _, rfl, rfl, Nat.le_trans (Nat.add_le_add_right xl _) (by decide), ?_⟩
      refine ⟨_, rfl, c, Cc, dx, fs, _, rfl, hc, G.ins.cl, G.na _ (by decide), ls, _, rfl, _, _, rfl, rfl, ts, _, n % 16, congrArg (fun y => [V.ref ts, V.int y]) (and15 n), hs', (fun q => kE fun y => absurd (hm.mp y).2 (by rw [List.length_map] at q; omega)), fun v hv => ?_⟩
      rw [List.getElem?_map] at hv
      obtain ⟨y, hy, rfl⟩ := Option.map_eq_some_iff.mp hv
      have yl : y.length ≤ 1000 := (hsl.1 y (List.mem_of_getElem? hy)).1
      refine ⟨_, _, rfl, rfl, ?_, k (hm.mpr ⟨(List.getElem?_eq_some_iff.mp hx).1, (List.getElem?_eq_some_iff.mp hy).1⟩) _ _ (Same.refl _)⟩
      show (x.cps ++ (", " : Str).cps).size + y.cps.size ≤ sizeLine
      rw [Array.size_append]
      have xl : x.cps.size ≤ 1000 := xl
      have yl : y.cps.size ≤ 1000 := yl
      exact Nat.le_trans (Nat.add_le_add (Nat.add_le_add_right xl _) yl) (by decide +kernel)
end
end K58
set_option maxHeartbeats 4000000
set_option pp.maxSteps 600
namespace K58
open PySem PySem.Spec PyProof.Rows L2 Nd
/-! ### no lines: joined, line_rows, line_at -/
abbrev s_joined : Stmt := top 37
abbrev s_line_rows : Stmt := top 39
abbrev s_line_at : Stmt := top 49
def spJoin0 : Sp := fun vs H Q _ => ∃ a : Addr, vs = [.ref a] ∧ H a = some (.lst []) ∧ ∀ p H', Same H H' → H' p = some (.lst []) → Q (.ref p) H'
def spLines0 (Cc : Addr) : Sp := fun vs H Q _ => ∃ (c : Addr) (D : CD) (m : Int), vs = [.ref c] ∧ CodeAt Cc H c D m ∧ D.lines = [] ∧ ∀ p H', Same H H' → H' p = some (.lst []) → Q (.ref p) H'
def spLineAt0 : Sp := fun vs H Q _ => ∃ (a : Addr) (x : V), vs = [.ref a, x] ∧ H a = some (.lst []) ∧ ∀ H', Same H H' → Q .non H'
section
variable {P : Program} {w : World} {K : PySem.W.Frag} {mg : Str → Option Value} {base : Heap} {Cc Cn fI : Addr}
abbrev N_joined : List Str := ["rows", "found", "begin", "end", "line"]
theorem sc_joined : FnScope N_joined ["rows"] (defScope s_joined) := ⟨rfl, rfl, rfl, by decide +kernel, rfl, by decide +kernel, by decide +kernel⟩
theorem ok_joined {f : Addr} {fd : FuncData} (F : DefX K mg "joined" s_joined ["rows"] f fd) : CalX P w K mg base 1 "joined" spJoin0 := by
  refine calx F sc_joined (fun vs H Q E h => ?_) (fun cdv A outer s H vs Q E hr h => ?_)
  · obtain ⟨a, rfl, _⟩ := h
    rfl
  · obtain ⟨a, rfl, ha, k⟩ := h
    refine ⟨_, (pss_cons (ps_set (i := 1) sc_joined.nd rfl (.inl rfl) (pe_lst pa_nil))
    (pss_cons (ps_for PassesOwn.never rfl (pi_list (pv 0)) (pg_tup (by rfl) (pgs_cons (pg_name (i := 2) sc_joined.nd rfl (.inl rfl)) (pgs_cons (pg_name (i := 3) sc_joined.nd rfl (.inl rfl)) (pgs_cons (pg_name (i := 4) sc_joined.nd rfl (.inl rfl)) pgs_nil))))
      pss_never)
    (pss_one (ps_ret (pv 1))))), ?_⟩
    refine ⟨(by show 0 ≤ sizeLine; decide), ?_⟩
    walk_at "new1"
    have ha1 := s1 _ _ ha
    refine ⟨_, rfl, a, rfl, ⟨_, SqL.of ha1⟩, for_list (K := K) (a := a) (xs := []) (fun i σ H' => σ = [some (.ref a), some (.ref p1), none, none, none] ∧ H' = H1) ⟨rfl, rfl⟩ (fun i σ H' _ p => by rw [p.2]; exact SqL.of ha1) ?_ ?_⟩
    · rintro i x σ H' hi _
      simp at hi
    · rintro σ H' ⟨rfl, rfl⟩
      exact ⟨_, rfl, k p1 _ s1 h1⟩
abbrev N_line_rows : List Str := ["code", "found", "at", "begin", "line", "first", "sort", "end", "here", "more"]
theorem sc_line_rows : FnScope N_line_rows ["code"] (defScope s_line_rows) := ⟨rfl, rfl, rfl, by decide +kernel, rfl, by decide +kernel, by decide +kernel⟩
theorem ok_line_rows {f : Addr} {fd : FuncData} (T : GlU mg) (G : GlK P K mg Cc Cn fI) (c_want_code : CalX P w K mg base 2 "want_code" (spWant K Cc Cn)) (c_joined : CalX P w K mg base 1 "joined" spJoin0)
    (F : DefX K mg "line_rows" s_line_rows ["code"] f fd) : FnOk P w K mg base (L2.CX P w) 3 f fd ["code"] (spLines0 Cc) := by
  refine F.fn.ok sc_line_rows (fun vs H Q E h => ?_) (fun cdv A outer s H vs Q E hr h => ?_)
  · obtain ⟨c, D, m, rfl, _⟩ := h
    rfl
  · obtain ⟨c, D, m, rfl, hC, hl0, k⟩ := h
    obtain ⟨dx, fs, hc, _, _, _, _, _, _, _, _, _, _, _, hln, ⟨tl, ll, hl⟩, _⟩ := hC
    rw [hl0] at hl
    refine ⟨_, (pss_cons (ps_expr (pe_cr c_want_code hr (by decide) rfl (passE (E := E) (takes_of rfl rfl rfl rfl)) (pa_cons (pv 0) pa_nil)))
    (pss_cons (ps_set (i := 1) sc_line_rows.nd rfl (.inl rfl) (pe_lst pa_nil))
    (pss_cons (ps_par3 (i := 2) (j := 3) (l := 4) (by rfl) sc_line_rows.nd rfl rfl rfl (by decide) (by decide) (by decide) rfl rfl rfl (pa_cons pe_int (pa_cons pe_int (pa_cons (pe_fld (pv 0) rfl) pa_nil))) (by rfl))
    (pss_cons (ps_while (passes_of rfl) (pt_cmpR op_lt (pv 2) (pe_callB call_len_seq (by rfl) T.n_len Boot.«len» (pa_cons (pe_fld (pv 0) rfl) pa_nil)) (nomark _))
      pss_never)
    (pss_one (ps_ret (pe_cx c_joined hr (by decide) rfl (pa_cons (pv 1) pa_nil)))))))), ?_⟩
    refine ⟨_, rfl, _, rfl, .inl ⟨c, dx, fs, rfl, hc, ?_⟩⟩
    refine ⟨(by show 0 ≤ sizeLine; decide), ?_⟩
    walk_at "new1"
    refine ⟨_, rfl, c, Cc, dx, fs, _, rfl, s1 _ _ hc, G.ins.cl, G.na _ (by decide), hln, _, _, _, rfl, ?_⟩
    refine while_by (fun σ H' => σ = [some (.ref c), some (.ref p1), some (.int 0), some (.int 0), some (.int D.line), none, none, none, none, none] ∧ H' = H1) (fun _ _ => 0) ⟨rfl, rfl⟩ ?_ ?_
    · rintro σ H' ⟨rfl, rfl⟩
      refine ⟨_, rfl, _, rfl, c, Cc, dx, fs, _, rfl, s1 _ _ hc, G.ins.cl, G.na _ (by decide), ll, tl, _, rfl, .inr (SqT.of (s1 _ _ hl)), _, _, rfl, rfl, _, rfl, ?_⟩
      refine ite2 (fun z => absurd (of_decide_eq_true z) (by decide)) (fun _ => ?_)
      exact ⟨_, rfl, p1, rfl, h1, fun p J sJ hp => k p J (s1.trans sJ) hp⟩
    · rintro σ H' Q1 Q2 hq ⟨v1, e1, v2, e2, a1, a2, a3, a4, a5, e3, b1, b2, b3, b4, t1, x1, e4, sq, i1, i2, e5, e6, b5, e7, q⟩
      exact ⟨v1, e1, v2, e2, a1, a2, a3, a4, a5, e3, b1, b2, b3, b4, t1, x1, e4, sq, i1, i2, e5, e6, b5, e7, hq _ _ q⟩
abbrev N_line_at : List Str := ["rows", "offset", "found", "begin", "end", "line"]
theorem sc_line_at : FnScope N_line_at ["rows", "offset"] (defScope s_line_at) := ⟨rfl, rfl, rfl, by decide +kernel, rfl, by decide +kernel, by decide +kernel⟩
theorem ok_line_at {f : Addr} {fd : FuncData} (F : DefX K mg "line_at" s_line_at ["rows", "offset"] f fd) : CalX P w K mg base 1 "line_at" spLineAt0 := by
  refine calx F sc_line_at (fun vs H Q E h => ?_) (fun cdv A outer s H vs Q E hr h => ?_)
  · obtain ⟨a, x, rfl, _⟩ := h
    rfl
  · obtain ⟨a, x, rfl, ha, k⟩ := h
    refine ⟨_, (pss_cons (ps_setLc (i := 2) (y := "found") (own := [("begin", 3), ("end", 4), ("line", 5)]) (g := gTup K 3 (gCons (gName 3) (gCons (gName 4) (gCons (gName 5) gNil)))) rfl sc_line_at.nd rfl rfl (sw_true rfl rfl rfl (by decide +kernel)) (pi_list (pv 0)) (blkOk_by (own := [("begin", 3), ("end", 4), ("line", 5)]) (N := N_line_at) (sc := defScope s_line_at) (by decide +kernel)) (fun _ _ _ _ _ => (pg_tup rfl (pgs_cons (pg_name (i := 3) sc_line_at.nd rfl (Or.inl rfl)) (pgs_cons (pg_name (i := 4) sc_line_at.nd rfl (Or.inl rfl)) (pgs_cons (pg_name (i := 5) sc_line_at.nd rfl (Or.inl rfl)) pgs_nil))))) (fun _ _ _ _ _ => (pts_one (pt_chain op_le op_lt (pv 3) (pv 1) (pv 4)))) (fun _ _ _ _ _ => (pv 5)))
    (pss_one (ps_ret (pe_ifExp (pt_cmpR (op_neD hr.units) (pv 2) (pe_lst pa_nil) (nomark _)) (pe_ix ix_list (pv 2) pe_int (fun _ _ => rfl)) pe_non)))), ?_⟩
    refine ⟨_, rfl, a, rfl, ⟨_, SqL.of ha⟩, fun D nD => lc_list (K := K) (a := a) (xs := []) (fun i H' => Same H H' ∧ H' D = some (.lst [])) ⟨Same.new nD, upd_same⟩ (fun i H' _ p => SqL.of (p.1 _ _ ha)) ?_ ?_⟩
    · rintro i x H' hi _
      simp at hi
    · rintro H' ⟨s0, hD⟩
      refine ⟨_, rfl, (by show 0 ≤ sizeLine; decide), ?_⟩
      walk_at "new1"
      refine ⟨.list [], .list [], Dp.lst (SqL.of (s1 _ _ hD)) .nil, Dp.lst (SqL.of h1) .nil, rfl, rfl, _, rfl, ?_⟩
      exact iteF (k _ (s0.trans s1))
end
end K58
set_option maxHeartbeats 4000000
set_option pp.maxSteps 600
namespace K58
open PySem PySem.Spec PyProof.Rows L2 Nd
/-! ### lines_of, where there are none -/
abbrev s_lines_of : Stmt := top 48
section
variable {P : Program} {w : World} {K : PySem.W.Frag} {mg : Str → Option Value} {base : Heap} {Cc Ct : Addr}
abbrev N_lines_of : List Str := ["code"]
theorem sc_lines_of : FnScope N_lines_of ["code"] (defScope s_lines_of) := ⟨rfl, rfl, rfl, by decide +kernel, rfl, by decide +kernel, by decide +kernel⟩
theorem ok_lines_of {f : Addr} {fd : FuncData} (gT : mg "NoTable" = some (.ref Ct)) (c_line_rows : CalX P w K mg base 3 "line_rows" (spLines0 Cc)) (F : DefX K mg "lines_of" s_lines_of ["code"] f fd) : CalX P w K mg base 4 "lines_of" (spLines0 Cc) := by
  refine calx F sc_lines_of (fun vs H Q E h => ?_) (fun cdv A outer s H vs Q E hr h => ?_)
  · obtain ⟨c, D, m, rfl, _⟩ := h
    rfl
  · obtain ⟨c, D, m, rfl, hC, hl0, k⟩ := h
    refine ⟨_, pss_one (ps_try_only (X := (cxOf C8.CX0 P w K mg base N_lines_of "lines_of" (defScope s_lines_of) f cdv A outer s H C8.E0).nox) (c := .ref Ct) (Wout := fun _ _ _ _ => False) (tb := fun W D σ H => tRet (tCall (spLines0 Cc) [] E0 (tCons (tVar 0) tNil)) D σ H) (ts := fun _ _ _ => tNever)
      rfl rfl ⟨rfl, by decide, .inl gT⟩ LamX.takes0 (fun W pn xe tk _ => pss_one (ps_ret (pe_cx c_line_rows hr (by decide) rfl (pa_cons (pv 0) pa_nil)))) (fun a oe cls d pn _ _ => pss_never)), ?_⟩
    exact ⟨_, rfl, c, D, m, rfl, hC, hl0, fun p J sJ hp => k p J sJ hp⟩
end
end K58
set_option maxHeartbeats 4000000
set_option pp.maxSteps 600
namespace K58
open PySem PySem.Spec PyProof.Rows L2 Nd
/-! ### bounds of the numbers that are cut -/
theorem pw256 {a b : Nat} (h : a ≤ b) : (256 : Int) ^ a ≤ 256 ^ b := by
  have := Nat.pow_le_pow_right (n := 256) (by decide) h
  exact_mod_cast this
theorem xGo_n {d : List Int} {b : Nat} (by1 : Bys d) : ∀ (f i : Nat) (n : Int) (a : Nat) (m : Int), xGo d b f i n = some (a, m) → f ≤ 4 → 0 ≤ n → n + 256 ≤ 256 ^ (5 - f) → 0 ≤ m ∧ m + 256 ≤ 4294967296
  | 0, i, n, a, m, h, _, _, _ => by cases h
  | f + 1, i, n, a, m, h, hf, h0, h1 => by
    unfold xGo at h
    split at h
    · rename_i c
      split at h
      · cases h
      · obtain ⟨g0, g1⟩ := by1.g c.1
        refine xGo_n by1 f _ _ a m h (by omega) (by omega) ?_
        have e : (256 : Int) ^ (5 - f) = 256 ^ (5 - (f + 1)) * 256 := by
          rw [← Int.pow_succ]
          congr 1
          omega
        rw [e]
        have h2 : n + g d (i + 1) + 1 ≤ 256 ^ (5 - (f + 1)) := by omega
        have h3 := Int.mul_le_mul_of_nonneg_right h2 (by decide : (0 : Int) ≤ 256)
        omega
    · injection h with h
      injection h with _ h
      subst h
      have := pw256 (a := 5 - (f + 1)) (b := 4) (by omega)
      exact ⟨h0, by omega⟩
theorem oneC_n {d : List Int} {b a : Nat} {r : Rw} {n : Int} (by1 : Bys d) (h : oneC d b = some (a, r, n)) : 0 ≤ n ∧ n < 4294967296 := by
  cases hx : xGo d b 4 b 0 with
  | none => rw [oneC_x hx] at h; cases h
  | some p =>
    obtain ⟨a', n'⟩ := p
    obtain ⟨l0, l1⟩ := xGo_n by1 _ _ _ _ _ hx (Nat.le_refl _) (Int.le_refl _) (by decide)
    rw [oneC_s hx] at h
    split at h
    · cases h
    · rename_i c1
      cases hr : rowOf (g d a') with
      | none => rw [hr] at h; cases h
      | some r' =>
        rw [hr] at h
        dsimp only at h
        split at h
        · cases h
        · injection h with h
          injection h with h1 h
          injection h with h2 h3
          have c2 : a' + 1 < d.length := Nat.lt_of_not_le c1
          obtain ⟨g0, g1⟩ := by1.g c2
          omega
/-- words of extension: three at most -/
theorem xGo_ev {d : List Int} {b : Nat} : ∀ (f i : Nat) (n : Int) (a : Nat) (m : Int), xGo d b f i n = some (a, m) → ∃ t, a = i + 2 * t ∧ t < f
  | 0, i, n, a, m, h => by cases h
  | f + 1, i, n, a, m, h => by
    unfold xGo at h
    split at h
    · split at h
      · cases h
      · obtain ⟨t, e, l⟩ := xGo_ev f _ _ a m h
        exact ⟨t + 1, by omega, by omega⟩
    · injection h with h
      injection h with h _
      exact ⟨0, by omega, by omega⟩
theorem oneC_ev {d : List Int} {b a : Nat} {r : Rw} {n : Int} (h : oneC d b = some (a, r, n)) : ∃ t, a = b + 2 * t ∧ t < 4 := by
  cases hx : xGo d b 4 b 0 with
  | none => rw [oneC_x hx] at h; cases h
  | some p =>
    obtain ⟨a', n'⟩ := p
    have l := xGo_ev _ _ _ _ _ hx
    rw [oneC_s hx] at h
    split at h
    · cases h
    · cases hr : rowOf (g d a') with
      | none => rw [hr] at h; cases h
      | some r' =>
        rw [hr] at h
        dsimp only at h
        split at h
        · cases h
        · injection h with h
          injection h with h1 h
          subst h1
          exact l
theorem cutGo_mem {d : List Int} : ∀ (f i : Nat) (acc : List Cr), (∀ c ∈ acc, oneC d c.b = some (c.a, c.r, c.n)) → ∀ c ∈ (cutGo d f i acc).1, oneC d c.b = some (c.a, c.r, c.n)
  | 0, i, acc, h => h
  | f + 1, i, acc, h => by
    unfold cutGo
    split
    · cases e : oneC d i with
      | none => exact h
      | some p =>
        obtain ⟨a, r, n⟩ := p
        refine cutGo_mem f _ _ fun c hc => ?_
        rcases List.mem_append.mp hc with z | z
        · exact h c z
        · rw [List.mem_singleton.mp z]
          exact e
    · exact h
theorem cut_mem {d : List Int} {c : Cr} (h : c ∈ (cutAll d).1) : oneC d c.b = some (c.a, c.r, c.n) := cutGo_mem _ _ [] (fun c hc => by cases hc) c h
theorem cutGo_len {d : List Int} : ∀ (f i : Nat) (acc : List Cr), i ≤ d.length → (cutGo d f i acc).1.length ≤ acc.length + (d.length - i)
  | 0, i, acc, _ => Nat.le_add_right _ _
  | f + 1, i, acc, hi => by
    unfold cutGo
    split
    · cases e : oneC d i with
      | none => exact Nat.le_add_right _ _
      | some p =>
        obtain ⟨a, r, n⟩ := p
        obtain ⟨b1, b2, _⟩ := oneC_bd e
        have hg := endOf_gt a r
        have := cutGo_len f (endOf a r) (acc ++ [⟨i, a, r, n⟩]) b2
        rw [List.length_append] at this
        have e1 : ([⟨i, a, r, n⟩] : List Cr).length = 1 := rfl
        dsimp only
        omega
    · exact Nat.le_add_right _ _
theorem cut_len (d : List Int) : (cutAll d).1.length ≤ d.length := by
  have := cutGo_len (d := d) (d.length + 1) 0 [] (Nat.zero_le _)
  have e : ([] : List Cr).length = 0 := rfl
  unfold cutAll
  omega
theorem rg2 {b a : Int} {t : Nat} (h0 : 0 ≤ b) (h1 : b ≤ 100000) (ht : t < 4) (e : a = b + 2 * (t : Int)) : RgC b a 2 t := by
  subst e
  have hs : Builtin.Range.rangeSize b (b + 2 * (t : Int)) 2 = t := by
    unfold Builtin.Range.rangeSize
    rw [if_pos (by decide)]
    split <;> omega
  refine ⟨by decide, by decide, ?_, hs⟩
  unfold Builtin.Range.small
  rw [hs]
  simp only [Builtin.Range.rangeFitsLong, beq_iff_eq, Bool.or_eq_true, decide_eq_true_eq, Bool.and_eq_true, show (2 : Int) > 0 from by decide, if_true]
  omega
end K58
set_option maxHeartbeats 4000000
set_option pp.maxSteps 600
namespace K58
open PySem PySem.Spec PyProof.Rows L2 Nd
/-! ### instructions, where there are no lines -/
abbrev s_instructions : Stmt := top 50
def rowOk (D : CD) (c : Cr) : Prop := mOk D.consts.length D.names.length D.slots.length c.r.2.2.2 c.n.toNat
def spInstr (K : PySem.W.Frag) (Cc Cn : Addr) : Sp := fun vs H Q E => ∃ x : V, vs = [x] ∧ ((Odd K H x ∧ errAt Cn H E) ∨ ∃ (c : Addr) (D : CD) (m : Int), x = .ref c ∧ CodeAt Cc H c D m ∧ Bys D.code ∧ D.lines = [] ∧ D.consts = [.non, .int 5] ∧ isStrs D.names ∧ isStrs D.slots ∧
  ((cutAll D.code).2 = none → (∀ x ∈ (cutAll D.code).1, rowOk D x) → ∀ p xs H', Same H H' → H' p = some (.lst xs) → (cutAll D.code).1.length ≤ xs.length → Q (.ref p) H') ∧
  ((cutAll D.code).2 ≠ none ∨ (∃ x ∈ (cutAll D.code).1, ¬ rowOk D x) → errAt Cn H E))
section
variable {P : Program} {w : World} {K : PySem.W.Frag} {mg : Str → Option Value} {base : Heap} {Cc Cn fI dN dW dC dS : Addr}
abbrev N_instructions : List Str := ["code", "rows", "wrong", "lines", "found", "begin", "offset", "word", "number", "end", "at", "argument"]
theorem sc_instructions : FnScope N_instructions ["code"] (defScope s_instructions) := ⟨rfl, rfl, rfl, by decide +kernel, rfl, by decide +kernel, by decide +kernel⟩
theorem ok_instructions {f : Addr} {fd : FuncData} (n_range : mg "range" = none) (G : GlK P K mg Cc Cn fI) (GT : GlT K w mg dN dW dC dS) (c_want_code : CalX P w K mg base 2 "want_code" (spWant K Cc Cn)) (c_cut : CalX P w K mg base 2 "cut" (spCut K)) (c_lines_of : CalX P w K mg base 4 "lines_of" (spLines0 Cc))
    (c_line_at : CalX P w K mg base 1 "line_at" spLineAt0) (c_meaning : CalX P w K mg base 3 "meaning" (spMean Cc Cn)) (F : DefX K mg "instructions" s_instructions ["code"] f fd) : FnOk P w K mg base (L2.CX P w) 5 f fd ["code"] (spInstr K Cc Cn) := by
  refine F.fn.ok sc_instructions (fun vs H Q E h => ?_) (fun cdv A outer s H vs Q E hr h => ?_)
  · obtain ⟨x, rfl, _⟩ := h
    rfl
  · obtain ⟨x, rfl, h⟩ := h
    refine ⟨_, (pss_cons (ps_expr (pe_cr c_want_code hr (by decide) rfl (passE (E := E) (takes_of rfl rfl rfl rfl)) (pa_cons (pv 0) pa_nil)))
    (pss_cons (ps_asg (pe_cx c_cut hr (by decide) rfl (pa_cons (pe_fld (pv 0) rfl) pa_nil)) (pg_tup (by rfl) (pgs_cons (pg_name (i := 1) sc_instructions.nd rfl (.inl rfl)) (pgs_cons (pg_name (i := 2) sc_instructions.nd rfl (.inl rfl)) pgs_nil))))
    (pss_cons (ps_if (pt_cmpR op_notN (pv 2) pe_non (nomark _))
      (pss_one (ps_raise rfl (takes_of rfl rfl rfl rfl) (pmk_nx G.nx hr (pa_cons pe_str pa_nil) rfl G.gN)))
      pss_nil)
    (pss_cons (ps_set (i := 3) sc_instructions.nd rfl (.inl rfl) (pe_cx c_lines_of hr (by decide) rfl (pa_cons (pv 0) pa_nil)))
    (pss_cons (ps_set (i := 4) sc_instructions.nd rfl (.inl rfl) (pe_lst pa_nil))
    (pss_cons (ps_for (passes_of rfl) rfl (pi_list (pv 1)) (pg_tup (by rfl) (pgs_cons (pg_name (i := 5) sc_instructions.nd rfl (.inl rfl)) (pgs_cons (pg_name (i := 6) sc_instructions.nd rfl (.inl rfl)) (pgs_cons (pg_name (i := 7) sc_instructions.nd rfl (.inl rfl)) (pgs_cons (pg_name (i := 8) sc_instructions.nd rfl (.inl rfl)) (pgs_cons (pg_name (i := 9) sc_instructions.nd rfl (.inl rfl)) pgs_nil))))))
      (pss_cons (ps_for (passes_of rfl) rfl (pi_range3 (by rfl) n_range (pa_cons (pv 5) (pa_cons (pv 6) (pa_cons pe_int pa_nil)))) (pg_name (i := 10) sc_instructions.nd rfl (.inl rfl))
      (pss_one (ps_expr (pe_bm PySem.F.plainAttrs_list PySem.F.slot_list_append PySem.F.type_list_append mt_append (pv 4) (pa_cons (pe_tup (pa_cons (pv 10) (pa_cons pe_str (pa_cons (pe_ix ix_tup (pe_fld (pv 0) rfl) (pe_op op_add (pv 10) pe_int) (fun _ _ => rfl)) (pa_cons pe_str (pa_cons (pe_cx c_line_at hr (by decide) rfl (pa_cons (pv 3) (pa_cons (pv 10) pa_nil))) pa_nil)))))) pa_nil)))))
    (pss_cons (ps_set (i := 11) sc_instructions.nd rfl (.inl rfl) (pe_ifExp (pt_cmpR op_eq (pe_mget2 GT.S (C8.pe_gc rfl GT.c_SORTS) (pv 7) pe_str ⟨rfl, rfl, rfl, rfl⟩) pe_str (nomark _)) pe_non (pv 8)))
    (pss_one (ps_expr (pe_bm PySem.F.plainAttrs_list PySem.F.slot_list_append PySem.F.type_list_append mt_append (pv 4) (pa_cons (pe_tup (pa_cons (pv 6) (pa_cons (pv 7) (pa_cons (pv 11) (pa_cons (pe_cr c_meaning hr (by decide) rfl (passE (E := E) (takes_of rfl rfl rfl rfl)) (pa_cons (pv 0) (pa_cons (pv 7) (pa_cons (pv 8) (pa_cons (pv 9) pa_nil))))) (pa_cons (pe_cx c_line_at hr (by decide) rfl (pa_cons (pv 3) (pa_cons (pv 6) pa_nil))) pa_nil)))))) pa_nil)))))))
    (pss_one (ps_ret (pv 4))))))))), ?_⟩
    rcases h with ⟨odd, er⟩ | ⟨c, D, m, rfl, hC, by1, hl0, hcon, hnm, hsl, k, kE⟩
    · exact ⟨_, rfl, x, rfl, .inr ⟨odd, fun d hd => er d H (Same.refl _) hd⟩⟩
    have hC0 := hC
    obtain ⟨dx, fs, hc, _, _, _, _, ⟨tc, lc, hcode⟩, _⟩ := hC
    refine ⟨_, rfl, _, rfl, .inl ⟨c, dx, fs, rfl, hc, ?_⟩⟩
    refine ⟨_, rfl, c, Cc, dx, fs, _, rfl, hc, G.ins.cl, G.na _ (by decide), lc, tc, D.code, rfl, hcode, by1, fun q f0 xs H1 s1 hq hf hT => ?_⟩
    refine ⟨q, _, rfl, SqT.of hq, rfl, _, _, rfl, _, _, rfl, rfl, ?_⟩
    cases ew : (cutAll D.code).2 with
    | some i =>
      refine ⟨_, rfl, rfl, _, rfl, iteT ?_⟩
      exact ⟨_, rfl, fun d hd => kE (.inl (by rw [ew]; simp)) d H1 s1 hd⟩
    | none =>
      refine ⟨_, rfl, rfl, _, rfl, iteF ?_⟩
      refine ⟨_, rfl, c, D, m, rfl, hC0.same s1, hl0, fun pl J sl hpl => ?_⟩
      refine ⟨(by show 0 ≤ sizeLine; decide), ?_⟩
      walk_at "new2"
      have SJ := s1.trans sl
      have hcJ : ∀ {A : Hp}, Same J A → A c = some (.ins Cc dx fs) := fun u => u _ _ (SJ _ _ hc)
      have hrows := hT.same sl
      have hxl := hT.len
      have bound : (cutAll D.code).1.length ≤ 100000 := Nat.le_trans (cut_len _) by1.2
      refine ⟨_, rfl, f0, rfl, ⟨_, SqL.of (s2 _ _ (sl _ _ hf))⟩, for_list (K := K) (a := f0) (xs := xs) (fun i σ H' => (∃ v5 v6 v7 v8 v9 v10 v11 ys, σ = [some (.ref c), some (.ref f0), some .non, some (.ref pl), some (.ref p2), v5, v6, v7, v8, v9, v10, v11] ∧ H' p2 = some (.lst ys) ∧ i ≤ ys.length ∧ ys.length ≤ 4 * i) ∧ Same J H' ∧ ∀ x ∈ (cutAll D.code).1.take i, rowOk D x)
        ⟨⟨_, _, _, _, _, _, _, [], rfl, h2, Nat.le_refl _, Nat.le_refl _⟩, s2, (fun x hx => by simp at hx)⟩ (fun i σ H' _ p => SqL.of (p.2.1 _ _ (sl _ _ hf))) ?_ ?_⟩
      · rintro i x σ H' hi ⟨⟨v5, v6, v7, v8, v9, v10, v11, ys, rfl, hys, l1, l2⟩, sJ, hok⟩
        obtain ⟨pr, cr, hr0, rfl, hpr⟩ := hrows.get hi
        have hmem := List.mem_of_getElem? hr0
        have hone := cut_mem hmem
        obtain ⟨t, et, lt⟩ := oneC_ev hone
        obtain ⟨b1, b2, b3⟩ := oneC_bd hone
        obtain ⟨n0, n1⟩ := oneC_n by1 hone
        have hge := endOf_gt cr.a cr.r
        have il : i < (cutAll D.code).1.length := (List.getElem?_eq_some_iff.mp hr0).1
        have blen := by1.2
        refine ⟨pr, _, rfl, SqT.of (sJ _ _ hpr), rfl, _, _, rfl, _, _, rfl, _, _, rfl, _, _, rfl, _, _, rfl, rfl, ?_⟩
        refine ⟨_, rfl, _, rfl, _, _, _, t, rfl, rg2 (by omega) (by omega) lt (by omega), for_rangeC (lo := (cr.b : Int)) (c := 2) (n := t) (fun j σ H'' => (∃ v10 v11 ys', σ = [some (.ref c), some (.ref f0), some .non, some (.ref pl), some (.ref p2), some (.int (cr.b : Int)), some (.int ((cr.a : Nat) : Int)), some (.str cr.r.1), some (.int cr.n), some (.int ((cr.e : Nat) : Int)), v10, v11] ∧ H'' p2 = some (.lst ys') ∧ i ≤ ys'.length ∧ ys'.length ≤ 4 * i + j) ∧ Same J H'')
          ⟨⟨_, _, ys, rfl, hys, l1, l2⟩, sJ⟩ ?_ ?_⟩
        · rintro j σ H'' hj ⟨⟨v10, v11, ys', rfl, hy, m1, m2⟩, sJ2⟩
          have hcl : cr.e ≤ D.code.length := b2
          have hix : (cr.b + j * 2 + 1 : Nat) < D.code.length := by
            have : cr.a < cr.e := hge
            omega
          refine ⟨_, rfl, .inl ⟨rfl, _, SqL.of hy⟩, _, rfl, _, rfl, c, Cc, dx, fs, _, rfl, hcJ sJ2, G.ins.cl, G.na _ (by decide), lc, _, rfl, _, _, rfl, rfl, tc, _, _, _, rfl, rfl, SqT.of (sJ2 _ _ (SJ _ _ hcode)), (by rw [show ((cr.b : Int) + (j : Nat) * 2 + 1) = ((cr.b + j * 2 + 1 : Nat) : Int) from by omega]; exact g_at hix), _, rfl, _, rfl, pl, _, rfl, sJ2 _ _ hpl, fun J3 s3 => ?_⟩
          refine ⟨(by show 5 ≤ sizeLine; decide), ?_⟩
          walk_at "new4"
          have hy4 := s4 _ _ (s3 _ _ hy)
          refine ⟨_, _, _, rfl, rfl, hy4, Nat.lt_of_le_of_lt (by omega : ys'.length ≤ 500000) (by decide), ?_⟩
          refine ⟨⟨_, _, ys' ++ [.ref p4], rfl, upd_same, ?_, ?_⟩, Same.mut ((sJ2.trans s3).trans s4) n2⟩
          · rw [List.length_append]
            omega
          · rw [List.length_append]
            show ys'.length + 1 ≤ 4 * i + (j + 1)
            omega
        · rintro σ H'' ⟨⟨v10, v11, ys', rfl, hy, m1, m2⟩, sJ2⟩
          have hcl : cr.e ≤ D.code.length := b2
          refine ⟨rfl, _, rfl, .inr cr.r.1, rfl, ?_⟩
          rw [s_of cr.r b3]
          refine ⟨rfl, _, rfl, ite2 (fun _ => ?_) (fun _ => ?_)⟩
          · refine ⟨_, rfl, .inl ⟨rfl, _, SqL.of hy⟩, _, rfl, _, rfl, _, rfl, _, rfl, _, rfl, _, rfl, _, rfl, c, cr.r, cr.n.toNat, ((cr.e : Nat) : Int), D, m, (by rw [Int.toNat_of_nonneg n0] <;> rfl), b3, (by omega), by omega, by omega, (hC0.same SJ).same sJ2, hcon, hnm, hsl, fun hmk z J3 s3 => ?_, fun hmk d H3 s3 hd => kE (.inr ⟨cr, hmem, hmk⟩) d H3 ((SJ.trans sJ2).trans s3) hd⟩
            refine ⟨_, rfl, _, rfl, pl, _, rfl, s3 _ _ (sJ2 _ _ hpl), fun J4 s4 => ?_⟩
            refine ⟨(by show 5 ≤ sizeLine; decide), ?_⟩
            walk_at "new5"
            have hy5 := s5 _ _ (s4 _ _ (s3 _ _ hy))
            refine ⟨_, _, _, rfl, rfl, hy5, Nat.lt_of_le_of_lt (by omega : ys'.length ≤ 500000) (by decide), ?_⟩
            refine ⟨⟨_, _, _, _, _, _, _, ys' ++ [.ref p5], rfl, upd_same, ?_, ?_⟩, Same.mut (((sJ2.trans s3).trans s4).trans s5) n2, ?_⟩
            · rw [List.length_append]
              show i + 1 ≤ ys'.length + 1
              omega
            · rw [List.length_append]
              show ys'.length + 1 ≤ 4 * (i + 1)
              omega
            · intro y hy0
              rw [List.take_add_one, hr0] at hy0
              rcases List.mem_append.mp hy0 with q | q
              · exact hok y q
              · have : y = cr := by simpa using q
                rw [this]
                exact hmk
          · refine ⟨_, rfl, ?_⟩
            refine ⟨_, rfl, .inl ⟨rfl, _, SqL.of hy⟩, _, rfl, _, rfl, _, rfl, _, rfl, _, rfl, _, rfl, _, rfl, c, cr.r, cr.n.toNat, ((cr.e : Nat) : Int), D, m, (by rw [Int.toNat_of_nonneg n0] <;> rfl), b3, (by omega), by omega, by omega, (hC0.same SJ).same sJ2, hcon, hnm, hsl, fun hmk z J3 s3 => ?_, fun hmk d H3 s3 hd => kE (.inr ⟨cr, hmem, hmk⟩) d H3 ((SJ.trans sJ2).trans s3) hd⟩
            refine ⟨_, rfl, _, rfl, pl, _, rfl, s3 _ _ (sJ2 _ _ hpl), fun J4 s4 => ?_⟩
            refine ⟨(by show 5 ≤ sizeLine; decide), ?_⟩
            walk_at "new5"
            have hy5 := s5 _ _ (s4 _ _ (s3 _ _ hy))
            refine ⟨_, _, _, rfl, rfl, hy5, Nat.lt_of_le_of_lt (by omega : ys'.length ≤ 500000) (by decide), ?_⟩
            refine ⟨⟨_, _, _, _, _, _, _, ys' ++ [.ref p5], rfl, upd_same, ?_, ?_⟩, Same.mut (((sJ2.trans s3).trans s4).trans s5) n2, ?_⟩
            · rw [List.length_append]
              show i + 1 ≤ ys'.length + 1
              omega
            · rw [List.length_append]
              show ys'.length + 1 ≤ 4 * (i + 1)
              omega
            · intro y hy0
              rw [List.take_add_one, hr0] at hy0
              rcases List.mem_append.mp hy0 with q | q
              · exact hok y q
              · have : y = cr := by simpa using q
                rw [this]
                exact hmk
      · rintro σ H' ⟨⟨v5, v6, v7, v8, v9, v10, v11, ys, rfl, hys, l1, l2⟩, sJ, hok⟩
        rw [hxl] at l1
        rw [hxl, List.take_length] at hok
        exact ⟨_, rfl, k ew hok p2 ys H' (SJ.trans sJ) hys l1⟩
end
end K58
set_option maxHeartbeats 4000000
set_option pp.maxSteps 600
namespace K58
open PySem PySem.Spec PyProof.Rows L2 Nd
abbrev s_law_table : Stmt := top 55
def sm : List Str := (["BEFORE_WITH 2 0 - BINARY_SLICE 4 0 - BINARY_SUBSCR 5 1 - CHECK_EXC_MATCH 7 0 - CLEANUP_THROW 8 0 -", "DELETE_SUBSCR 9 0 - END_FOR 11 0 - END_SEND 12 0 - GET_ITER 19 0 - GET_YIELD_FROM_ITER 21 0 -", "LOAD_ASSERTION_ERROR 23 0 - LOAD_BUILD_CLASS 24 0 - LOAD_LOCALS 25 0 - MAKE_FUNCTION 26 0 -", "NOP 30 0 - POP_EXCEPT 31 0 - POP_TOP 32 0 - PUSH_EXC_INFO 33 0 - PUSH_NULL 34 0 -", "RETURN_GENERATOR 35 0 - RETURN_VALUE 36 0 - STORE_SLICE 38 0 - STORE_SUBSCR 39 1 - TO_BOOL 40 3 -", "UNARY_INVERT 41 0 - UNARY_NEGATIVE 42 0 - UNARY_NOT 43 0 - WITH_EXCEPT_START 44 0 - BINARY_OP 45 1 o", "BUILD_CONST_KEY_MAP 46 0 k BUILD_LIST 47 0 k BUILD_MAP 48 0 k BUILD_TUPLE 52 0 k CALL 53 3 k", "CALL_FUNCTION_EX 54 0 k CALL_INTRINSIC_1 55 0 k CALL_KW 57 0 k COMPARE_OP 58 1 x CONTAINS_OP 59 1 k", "COPY 61 0 k COPY_FREE_VARS 62 0 k DELETE_ATTR 63 0 n DELETE_DEREF 64 0 l DELETE_FAST 65 0 l", "DELETE_GLOBAL 66 0 n DELETE_NAME 67 0 n DICT_MERGE 68 0 k FOR_ITER 72 1 j IS_OP 76 0 k"] : List Str) ++ (["JUMP_BACKWARD 77 1 j JUMP_BACKWARD_NO_INTERRUPT 78 0 j JUMP_FORWARD 79 0 j LIST_APPEND 80 0 k", "LIST_EXTEND 81 0 k LOAD_ATTR 82 9 m LOAD_CONST 83 0 c LOAD_DEREF 84 0 l LOAD_FAST 85 0 l", "LOAD_FAST_CHECK 87 0 l LOAD_FAST_LOAD_FAST 88 0 p LOAD_FROM_DICT_OR_DEREF 89 0 l LOAD_GLOBAL 91 4 m", "LOAD_NAME 92 0 n MAKE_CELL 94 0 l MAP_ADD 95 0 k POP_JUMP_IF_FALSE 97 1 j POP_JUMP_IF_NONE 98 1 j", "POP_JUMP_IF_NOT_NONE 99 1 j POP_JUMP_IF_TRUE 100 1 j RAISE_VARARGS 101 0 k RERAISE 102 0 k", "RETURN_CONST 103 0 c SEND 104 1 j SET_FUNCTION_ATTRIBUTE 106 0 k STORE_ATTR 108 4 n", "STORE_DEREF 109 0 l STORE_FAST 110 0 l STORE_FAST_LOAD_FAST 111 0 p STORE_FAST_STORE_FAST 112 0 p", "STORE_GLOBAL 113 0 n STORE_NAME 114 0 n SWAP 115 0 k UNPACK_EX 116 0 k UNPACK_SEQUENCE 117 1 k", "YIELD_VALUE 118 0 k RESUME 149 0 k"] : List Str)
def wl0 : List Str := ["BEFORE_WITH", "2", "0", "-", "BINARY_SLICE", "4", "0", "-", "BINARY_SUBSCR", "5", "1", "-", "CHECK_EXC_MATCH", "7", "0", "-", "CLEANUP_THROW", "8", "0", "-", "DELETE_SUBSCR", "9", "0", "-"]
def wl1 : List Str := ["END_FOR", "11", "0", "-", "END_SEND", "12", "0", "-", "GET_ITER", "19", "0", "-", "GET_YIELD_FROM_ITER", "21", "0", "-", "LOAD_ASSERTION_ERROR", "23", "0", "-", "LOAD_BUILD_CLASS", "24", "0", "-"]
def wl2 : List Str := ["LOAD_LOCALS", "25", "0", "-", "MAKE_FUNCTION", "26", "0", "-", "NOP", "30", "0", "-", "POP_EXCEPT", "31", "0", "-", "POP_TOP", "32", "0", "-", "PUSH_EXC_INFO", "33", "0", "-"]
def wl3 : List Str := ["PUSH_NULL", "34", "0", "-", "RETURN_GENERATOR", "35", "0", "-", "RETURN_VALUE", "36", "0", "-", "STORE_SLICE", "38", "0", "-", "STORE_SUBSCR", "39", "1", "-", "TO_BOOL", "40", "3", "-"]
def wl4 : List Str := ["UNARY_INVERT", "41", "0", "-", "UNARY_NEGATIVE", "42", "0", "-", "UNARY_NOT", "43", "0", "-", "WITH_EXCEPT_START", "44", "0", "-", "BINARY_OP", "45", "1", "o", "BUILD_CONST_KEY_MAP", "46", "0", "k"]
def wl5 : List Str := ["BUILD_LIST", "47", "0", "k", "BUILD_MAP", "48", "0", "k", "BUILD_TUPLE", "52", "0", "k", "CALL", "53", "3", "k", "CALL_FUNCTION_EX", "54", "0", "k", "CALL_INTRINSIC_1", "55", "0", "k"]
def wl6 : List Str := ["CALL_KW", "57", "0", "k", "COMPARE_OP", "58", "1", "x", "CONTAINS_OP", "59", "1", "k", "COPY", "61", "0", "k", "COPY_FREE_VARS", "62", "0", "k", "DELETE_ATTR", "63", "0", "n"]
def wl7 : List Str := ["DELETE_DEREF", "64", "0", "l", "DELETE_FAST", "65", "0", "l", "DELETE_GLOBAL", "66", "0", "n", "DELETE_NAME", "67", "0", "n", "DICT_MERGE", "68", "0", "k", "FOR_ITER", "72", "1", "j"]
def wl8 : List Str := ["IS_OP", "76", "0", "k", "JUMP_BACKWARD", "77", "1", "j", "JUMP_BACKWARD_NO_INTERRUPT", "78", "0", "j", "JUMP_FORWARD", "79", "0", "j", "LIST_APPEND", "80", "0", "k", "LIST_EXTEND", "81", "0", "k"]
def wl9 : List Str := ["LOAD_ATTR", "82", "9", "m", "LOAD_CONST", "83", "0", "c", "LOAD_DEREF", "84", "0", "l", "LOAD_FAST", "85", "0", "l", "LOAD_FAST_CHECK", "87", "0", "l", "LOAD_FAST_LOAD_FAST", "88", "0", "p"]
def wl10 : List Str := ["LOAD_FROM_DICT_OR_DEREF", "89", "0", "l", "LOAD_GLOBAL", "91", "4", "m", "LOAD_NAME", "92", "0", "n", "MAKE_CELL", "94", "0", "l", "MAP_ADD", "95", "0", "k", "POP_JUMP_IF_FALSE", "97", "1", "j"]
def wl11 : List Str := ["POP_JUMP_IF_NONE", "98", "1", "j", "POP_JUMP_IF_NOT_NONE", "99", "1", "j", "POP_JUMP_IF_TRUE", "100", "1", "j", "RAISE_VARARGS", "101", "0", "k", "RERAISE", "102", "0", "k", "RETURN_CONST", "103", "0", "c"]
def wl12 : List Str := ["SEND", "104", "1", "j", "SET_FUNCTION_ATTRIBUTE", "106", "0", "k", "STORE_ATTR", "108", "4", "n", "STORE_DEREF", "109", "0", "l", "STORE_FAST", "110", "0", "l", "STORE_FAST_LOAD_FAST", "111", "0", "p"]
def wl13 : List Str := ["STORE_FAST_STORE_FAST", "112", "0", "p", "STORE_GLOBAL", "113", "0", "n", "STORE_NAME", "114", "0", "n", "SWAP", "115", "0", "k", "UNPACK_EX", "116", "0", "k", "UNPACK_SEQUENCE", "117", "1", "k"]
def wl14 : List Str := ["YIELD_VALUE", "118", "0", "k", "RESUME", "149", "0", "k"]
def wl : List Str := wl0 ++ wl1 ++ wl2 ++ wl3 ++ wl4 ++ wl5 ++ wl6 ++ wl7 ++ wl8 ++ wl9 ++ wl10 ++ wl11 ++ wl12 ++ wl13 ++ wl14
theorem join_tl : TL.joinL [32] (sm.map TL.tl) = TL.joinL [32] (wl.map TL.tl) := by decide +kernel
theorem wl_no : ∀ p ∈ wl, 32 ∉ TL.tl p := by decide +kernel
theorem wl_len : wl.length = 344 := by decide +kernel
theorem spc : TL.tl (" " : Str) = [32] := by decide +kernel
theorem sm_join : Txt.join " " sm = Txt.join " " wl := TL.ext_tl (by rw [TL.join_eq, TL.join_eq, TL.tl_join, TL.tl_join, spc, join_tl])
theorem split_ok : Txt.split (Txt.join " " sm) " " = wl := by
  rw [sm_join]
  exact TL.split_join (s := 32) (S := []) spc (by decide +kernel) (fun z => by
    have h := wl_len
    rw [z] at h
    cases h) wl_no
def wlB : Bool := (List.range 86).all fun j => match rws[j]? with
  | some r => decide (wl[4 * j]? = some r.1) && ((match wl[4 * j + 1]? with
    | some x => decide (PySem.intText? x = some r.2.1) && decide (x.length ≤ 640)
    | none => false) && ((match wl[4 * j + 2]? with
    | some x => decide (PySem.intText? x = some ((r.2.2.1 : Nat) : Int)) && decide (x.length ≤ 640)
    | none => false) && decide (wl[4 * j + 3]? = some r.2.2.2)))
  | none => false
theorem wlB_ok : wlB = true := by decide +kernel
theorem wl_at {j : Nat} (hj : j < 86) : ∃ r x y, rws[j]? = some r ∧ wl[4 * j]? = some r.1 ∧ wl[4 * j + 1]? = some x ∧ PySem.intText? x = some r.2.1 ∧ x.length ≤ 640 ∧ wl[4 * j + 2]? = some y ∧ PySem.intText? y = some ((r.2.2.1 : Nat) : Int) ∧ y.length ≤ 640 ∧ wl[4 * j + 3]? = some r.2.2.2 := by
  have h := List.all_eq_true.mp wlB_ok j (List.mem_range.mpr hj)
  cases e : rws[j]? with
  | none =>
    rw [e] at h
    cases h
  | some r =>
    rw [e] at h
    obtain ⟨h1, h⟩ := He.ba h
    obtain ⟨h2, h⟩ := He.ba h
    obtain ⟨h3, h4⟩ := He.ba h
    cases e1 : wl[4 * j + 1]? with
    | none =>
      rw [e1] at h2
      cases h2
    | some x =>
      rw [e1] at h2
      cases e2 : wl[4 * j + 2]? with
      | none =>
        rw [e2] at h3
        cases h3
      | some y =>
        rw [e2] at h3
        obtain ⟨a1, a2⟩ := He.ba h2
        obtain ⟨b1, b2⟩ := He.ba h3
        exact ⟨r, x, y, rfl, of_decide_eq_true h1, rfl, of_decide_eq_true a1, of_decide_eq_true a2, rfl, of_decide_eq_true b1, of_decide_eq_true b2, of_decide_eq_true h4⟩
theorem rws_len : rws.length = 86 := by decide +kernel
theorem rws_nd : (rws.map (·.1)).Nodup := by decide +kernel
theorem sm_fit : (sm.map (·.length)).sum + sm.length * (" " : Str).length ≤ 16777216 := by decide +kernel
theorem sm_sz : (TL.joinL [32] (sm.map TL.tl)).length ≤ 2000 := by decide +kernel
theorem sm_len : (Txt.join " " sm).length + 2 ≤ sizeLine := by
  have h := sm_sz
  rw [TL.len_tl, TL.join_eq, TL.tl_join, spc, sizeLine_eq]
  omega
/-! ### the table in the heap -/
def rowT (r : Rw) : List V := [.int r.2.1, .int ((r.2.2.1 : Nat) : Int), .str r.2.2.2]
def KvAt (H : Hp) : List (Key × V) → List Rw → Prop
  | [], [] => True
  | kv :: kvs, r :: rs => (kv.1 = Sum.inr r.1 ∧ ∃ q, kv.2 = .ref q ∧ H q = some (.tup (rowT r))) ∧ KvAt H kvs rs
  | _, _ => False
theorem KvAt.same {H H' : Hp} (s : Same H H') : ∀ {kvs : List (Key × V)} {rs : List Rw}, KvAt H kvs rs → KvAt H' kvs rs
  | [], [], _ => trivial
  | _ :: _, _ :: _, ⟨⟨e, q, e2, h⟩, t⟩ => ⟨⟨e, q, e2, s _ _ h⟩, KvAt.same s t⟩
  | [], _ :: _, h => h.elim
  | _ :: _, [], h => h.elim
theorem KvAt.mono {H H' : Hp} (s : ∀ q xs, H q = some (.tup xs) → H' q = some (.tup xs)) : ∀ {kvs : List (Key × V)} {rs : List Rw}, KvAt H kvs rs → KvAt H' kvs rs
  | [], [], _ => trivial
  | _ :: _, _ :: _, ⟨⟨e, q, e2, h⟩, t⟩ => ⟨⟨e, q, e2, s _ _ h⟩, KvAt.mono s t⟩
  | [], _ :: _, h => h.elim
  | _ :: _, [], h => h.elim
theorem KvAt.keys {H : Hp} : ∀ {kvs : List (Key × V)} {rs : List Rw}, KvAt H kvs rs → kvs.map (·.1) = (rs.map (·.1)).map Sum.inr
  | [], [], _ => rfl
  | _ :: _, _ :: _, ⟨⟨e, _⟩, t⟩ => by
    rw [List.map_cons, List.map_cons, List.map_cons, e, KvAt.keys t]
  | [], _ :: _, h => h.elim
  | _ :: _, [], h => h.elim
theorem KvAt.snoc {H : Hp} {r : Rw} {q : Addr} (hq : H q = some (.tup (rowT r))) : ∀ {kvs : List (Key × V)} {rs : List Rw}, KvAt H kvs rs → KvAt H (kvs ++ [(Sum.inr r.1, .ref q)]) (rs ++ [r])
  | [], [], _ => ⟨⟨rfl, q, rfl, hq⟩, trivial⟩
  | _ :: _, _ :: _, ⟨h, t⟩ => ⟨h, KvAt.snoc hq t⟩
  | [], _ :: _, h => h.elim
  | _ :: _, [], h => h.elim
theorem KvAt.new {H : Hp} {x : Str} : ∀ {kvs : List (Key × V)} {rs : List Rw}, KvAt H kvs rs → x ∉ rs.map (·.1) → valV kvs (Sum.inr x) = none
  | [], [], _, _ => rfl
  | kv :: kvs, r :: rs, ⟨⟨e, _⟩, t⟩, h => by
    rw [valV_neg (p := kv) (by
      rw [e]
      intro z
      exact h (by simp [Sum.inr.inj z]))]
    exact KvAt.new t fun z => h (by rw [List.map_cons]; exact List.mem_cons_of_mem _ z)
  | [], _ :: _, h, _ => h.elim
  | _ :: _, [], h, _ => h.elim
theorem KvAt.get {H : Hp} {r : Rw} : ∀ {kvs : List (Key × V)} {rs : List Rw}, KvAt H kvs rs → (rs.map (·.1)).Nodup → r ∈ rs → ∃ q, valV kvs (Sum.inr r.1) = some (.ref q) ∧ H q = some (.tup (rowT r))
  | [], [], _, _, h => absurd h (by simp)
  | kv :: kvs, r' :: rs, ⟨⟨e, q, e2, hq⟩, t⟩, nd, h => by
    rw [List.map_cons, List.nodup_cons] at nd
    rcases List.mem_cons.mp h with z | z
    · subst z
      exact ⟨q, by rw [valV_pos (p := kv) e, e2], hq⟩
    · obtain ⟨q', h1, h2⟩ := KvAt.get t nd.2 z
      refine ⟨q', ?_, h2⟩
      rw [valV_neg (p := kv) (by
        rw [e]
        intro y
        exact nd.1 (List.mem_map.mpr ⟨r, z, (Sum.inr.inj y).symm⟩))]
      exact h1
  | [], _ :: _, h, _, _ => h.elim
  | _ :: _, [], h, _, _ => h.elim
/-- the law's table lies at p -/
def TabAt (H : Hp) (p : Addr) : Prop := ∃ kvs, H p = some (.dK kvs) ∧ KvAt H kvs rws
theorem TabAt.same {H H' : Hp} {p : Addr} (s : Same H H') (h : TabAt H p) : TabAt H' p := by
  obtain ⟨kvs, h1, h2⟩ := h
  exact ⟨kvs, s _ _ h1, h2.same s⟩
def spTable : Sp := fun vs H Q _ => vs = [] ∧ ∀ p H', H p = none → Same H H' → TabAt H' p → Q (.ref p) H'
theorem rg86 : RgC 0 (((wl.map V.str).length : Nat) : Int) 4 86 := by
  rw [List.length_map, wl_len]
  exact ⟨by decide, by decide, by decide +kernel, by decide +kernel⟩
end K58
set_option maxHeartbeats 4000000
set_option pp.maxSteps 600
namespace K58
open PySem PySem.Spec PyProof.Rows L2 Nd
theorem not_before {i : Nat} {r : Rw} (h : rws[i]? = some r) : r.1 ∉ (rws.take i).map (·.1) := by
  obtain ⟨hi, e⟩ := List.getElem?_eq_some_iff.mp h
  have nd := rws_nd
  rw [← List.take_append_drop i rws, List.drop_eq_getElem_cons hi, e, List.map_append, List.map_cons] at nd
  exact fun z => (List.nodup_append.mp nd).2.2 _ z _ List.mem_cons_self rfl
section
variable {P : Program} {w : World} {K : PySem.W.Frag} {mg : Str → Option Value} {base : Heap}
abbrev N_law_table : List Str := ["some", "words", "found", "k"]
theorem sc_law_table : FnScope N_law_table [] (defScope s_law_table) := ⟨rfl, rfl, rfl, by decide +kernel, rfl, by decide +kernel, by decide +kernel⟩
theorem ok_law_table {f : Addr} {fd : FuncData} (T : Gl0 mg) (F : DefX K mg "_law_table" s_law_table [] f fd) : CalX P w K mg base 1 "_law_table" spTable := by
  refine calx F sc_law_table (fun vs H Q E h => ?_) (fun cdv A outer s H vs Q E hr h => ?_)
  · obtain ⟨rfl, _⟩ := h
    rfl
  · obtain ⟨rfl, k⟩ := h
    refine ⟨_, (pss_cons (ps_set (i := 0) sc_law_table.nd rfl (.inl rfl) (pe_lst (pa_cons pe_str (pa_cons pe_str (pa_cons pe_str (pa_cons pe_str (pa_cons pe_str (pa_cons pe_str (pa_cons pe_str (pa_cons pe_str (pa_cons pe_str (pa_cons pe_str (pa_cons pe_str (pa_cons pe_str (pa_cons pe_str (pa_cons pe_str (pa_cons pe_str (pa_cons pe_str (pa_cons pe_str (pa_cons pe_str (pa_cons pe_str pa_nil)))))))))))))))))))))
    (pss_cons (ps_par (i := 1) (j := 2) (by rfl) sc_law_table.nd rfl rfl (by decide) rfl rfl (pa_cons (pe_split (pe_join pe_str (pv 0)) pe_str) (pa_cons pe_dnewK pa_nil)) (by rfl))
    (pss_cons (ps_for PassesOwn.never rfl (pi_range3 (by rfl) T.n_range (pa_cons pe_int (pa_cons (pe_callB call_len_seq (by rfl) T.n_len Boot.«len» (pa_cons (pv 1) pa_nil)) (pa_cons pe_int pa_nil)))) (pg_name (i := 3) sc_law_table.nd rfl (.inl rfl))
      (pss_one (ps_dput (Nat.lt_of_le_of_lt (Nat.add_le_add_left (by decide : 1 ≤ 64) _) hr.units) (pv 2) (pe_ix ix_list (pv 1) (pv 3) (fun _ _ => rfl)) (pe_tup (pa_cons (pe_callTy call_int_str (by rfl) T.n_int Boot.«int» (pa_cons (pe_ix ix_list (pv 1) (pe_op op_add (pv 3) pe_int) (fun _ _ => rfl)) pa_nil)) (pa_cons (pe_callTy call_int_str (by rfl) T.n_int Boot.«int» (pa_cons (pe_ix ix_list (pv 1) (pe_op op_add (pv 3) pe_int) (fun _ _ => rfl)) pa_nil)) (pa_cons (pe_ix ix_list (pv 1) (pe_op op_add (pv 3) pe_int) (fun _ _ => rfl)) pa_nil)))) rfl)))
    (pss_one (ps_ret (pv 2)))))), ?_⟩
    refine ⟨(by show 19 ≤ sizeLine; decide), ?_⟩
    walk_at "new1"
    replace h1 : H1 p1 = some (.lst (sm.map V.str)) := h1
    refine ⟨⟨_, rfl⟩, _, rfl, " ", p1, sm, rfl, rfl, .inl (SqL.of h1), sm_fit, ⟨_, rfl⟩, _, " ", rfl, rfl, by decide +kernel, sm_len, ?_⟩
    rw [split_ok]
    walk_at "new2"
    walk_at "new3"
    refine ⟨_, _, rfl, ?_⟩
    have h2' := s3 _ _ h2
    refine ⟨_, rfl, p2, _, rfl, .inl (SqL.of h2'), 0, _, 4, 86, rfl, rg86, ?_⟩
    refine for_rangeC (fun i σ H' => (∃ v3, σ = [some (.ref p1), some (.ref p2), some (.ref p3), v3]) ∧ Same H2 H' ∧ ∃ kvs, H' p3 = some (.dK kvs) ∧ KvAt H' kvs (rws.take i)) ⟨⟨_, rfl⟩, s3, [], h3, trivial⟩ ?_ ?_
    · rintro i σ H' hi ⟨⟨v3, rfl⟩, t, kvs, hd, hk⟩
      obtain ⟨r, x, y, er, w0, w1, ex, xl, w2, ey, yl, w3⟩ := wl_at hi
      have hw := SqL.of (K := K) (t _ _ h2)
      have at_ : ∀ {m : Nat} {z : Str} {q : Int}, wl[m]? = some z → q = (m : Int) → atI (wl.map V.str) q = some (V.str z) := fun e eq => by
        subst eq
        exact atI_nat (by rw [List.getElem?_map, e]; rfl)
      -- the value
      refine ⟨_, rfl, _, rfl, _, _, rfl, rfl, p2, _, _, _, rfl, rfl, hw, at_ w1 ?_, x, _, rfl, ex, xl, ?_⟩
      · show (0 : Int) + (i : Nat) * 4 + 1 = _
        omega
      refine ⟨_, rfl, _, rfl, _, _, rfl, rfl, p2, _, _, _, rfl, rfl, hw, at_ w2 ?_, y, _, rfl, ey, yl, ?_⟩
      · show (0 : Int) + (i : Nat) * 4 + 2 = _
        omega
      refine ⟨_, rfl, _, rfl, _, _, rfl, rfl, p2, _, _, _, rfl, rfl, hw, at_ w3 ?_, ?_⟩
      · show (0 : Int) + (i : Nat) * 4 + 3 = _
        omega
      refine ⟨(by show 3 ≤ sizeLine; decide), ?_⟩
      walk_at "new4"
      have hk4 := hk.same s4
      have hd4 := s4 _ _ hd
      have hw4 := SqL.of (K := K) ((t.trans s4) _ _ h2)
      refine ⟨_, rfl, _, rfl, _, rfl, p2, _, _, _, rfl, rfl, hw4, at_ w0 ?_, p3, _, rfl, DPut.k (k := Sum.inr r.1) hd4 ?_, ?_⟩
      · show (0 : Int) + (i : Nat) * 4 = _
        omega
      · have h9 := congrArg List.length hk4.keys
        rw [List.length_map, List.length_map, List.length_map, List.length_take] at h9
        rw [h9, sizeLine_eq]
        omega
      refine ⟨⟨_, rfl⟩, Same.mut (t.trans s4) n3, _, upd_same, ?_⟩
      have hnew : valV kvs (Sum.inr r.1) = none := hk4.new (not_before er)
      rw [putK_new _ hnew, List.take_add_one, er]
      refine KvAt.snoc ?_ (hk4.mono fun q xs e => ?_)
      · rw [upd_ne (fun z => by
          rw [z, hd4] at h4
          cases h4)]
        exact h4
      · rw [upd_ne (fun z => by
          rw [z, hd4] at e
          cases e)]
        exact e
    · rintro σ H' ⟨⟨v3, rfl⟩, t, kvs, hd, hk⟩
      rw [show rws.take 86 = rws from by rw [← rws_len, List.take_length]] at hk
      exact ⟨_, rfl, k p3 H' (s1.free (s2.free n3)) ((s1.trans s2).trans t) ⟨kvs, hd, hk⟩⟩
end
end K58
set_option maxHeartbeats 4000000
set_option pp.maxSteps 600
namespace K58
open PySem PySem.Spec PyProof.Rows L2 Nd
/-! ### the module's tables -/
section
variable {K : PySem.W.Frag} {w : World} {mg : Str → Option Value} {dN dC dS : Addr}
end
/-! ### how wide a number is -/
def wd (n : Nat) : Nat := if n < 256 then 1 else if n < 65536 then 2 else if n < 16777216 then 3 else 4
theorem wd_ok {n : Nat} (h : n < 4294967296) : (if ((PySem.Builtin.Int.intBits (n : Int) : Nat) : Int) + 7 > 15 then ((PySem.Builtin.Int.intBits (n : Int) : Nat) : Int) else 0) ≤ 32 := by
  have a := (PySem.intBits_le_iff (m := 32) (x := (n : Int))).mpr (by rw [Int.natAbs_natCast]; exact h)
  split <;> omega
theorem wd_max {n : Nat} (h : n < 4294967296) : (if (((PySem.Builtin.Int.intBits (n : Int) : Nat) : Int) + 7) / 8 > 1 then (((PySem.Builtin.Int.intBits (n : Int) : Nat) : Int) + 7) / 8 else 1) = ((wd n : Nat) : Int) := by
  have a1 : PySem.Builtin.Int.intBits (n : Int) ≤ 8 ↔ n < 2 ^ 8 := by
    rw [PySem.intBits_le_iff (m := 8) (x := (n : Int)), Int.natAbs_natCast]
  have a2 : PySem.Builtin.Int.intBits (n : Int) ≤ 16 ↔ n < 2 ^ 16 := by
    rw [PySem.intBits_le_iff (m := 16) (x := (n : Int)), Int.natAbs_natCast]
  have a3 : PySem.Builtin.Int.intBits (n : Int) ≤ 24 ↔ n < 2 ^ 24 := by
    rw [PySem.intBits_le_iff (m := 24) (x := (n : Int)), Int.natAbs_natCast]
  have a4 : PySem.Builtin.Int.intBits (n : Int) ≤ 32 ↔ n < 2 ^ 32 := by
    rw [PySem.intBits_le_iff (m := 32) (x := (n : Int)), Int.natAbs_natCast]
  generalize PySem.Builtin.Int.intBits (n : Int) = b at a1 a2 a3 a4 ⊢
  unfold wd
  split
  · split
    · omega
    · split
      · omega
      · split <;> omega
  · split
    · rfl
    · omega
theorem wd_rg (n : Nat) : 1 ≤ wd n ∧ wd n ≤ 4 := by
  unfold wd
  split
  · omega
  · split
    · omega
    · split <;> omega
section
variable {P : Program} {w : World} {K : PySem.W.Frag} {mg : Str → Option Value} {base : Heap} {dN dC dS : Addr}
/-! ### an instruction's bytes -/
def exI (n i : Nat) : List Int := (List.range i).flatMap fun j => [71, ((n / 256 ^ (wd n - 1 - j) % 256 : Nat) : Int)]
def ext (n : Nat) : List Int := exI n (wd n - 1)
theorem exI_len (n : Nat) : ∀ i, (exI n i).length = 2 * i
  | 0 => rfl
  | i + 1 => by
    have h := exI_len n i
    unfold exI at h ⊢
    rw [List.range_succ, List.flatMap_append, List.length_append, h]
    simp
    omega
theorem exI_succ (n i : Nat) : exI n (i + 1) = exI n i ++ [71, ((n / 256 ^ (wd n - 1 - i) % 256 : Nat) : Int)] := by
  unfold exI
  rw [List.range_succ, List.flatMap_append]
  simp
def pk (r : Rw) (n : Nat) : List Int := ext n ++ [r.2.1, ((n % 256 : Nat) : Int)] ++ List.replicate (2 * r.2.2.1) 0
theorem and255 (m : Nat) : Builtin.bitAnd (m : Int) 255 = ((m % 256 : Nat) : Int) := by
  have h := Bits.bitAnd_mask (x := (m : Int)) 8 (Int.natCast_nonneg _)
  have e : (2 : Int) ^ 8 - 1 = 255 := by decide
  have e2 : (2 : Int) ^ 8 = 256 := by decide
  rw [e, e2] at h
  rw [h]
  omega
theorem shr_place (n k i : Nat) (h : i < k) : (n : Int) / 2 ^ ((8 : Int) * ((k : Int) + (i : Int) * -1)).toNat = ((n / 256 ^ (k - i) : Nat) : Int) := by
  have e : ((8 : Int) * ((k : Int) + (i : Int) * -1)).toNat = 8 * (k - i) := by omega
  have e2 : (2 : Int) ^ (8 * (k - i)) = ((256 ^ (k - i) : Nat) : Int) := by
    rw [two_pow_cast]
    exact congrArg Nat.cast (Nat.pow_mul 2 8 (k - i))
  rw [e, e2]
  exact (Int.natCast_ediv _ _).symm
theorem rep1 (x : V) : ∀ m : Nat, (List.replicate m [x]).flatten = List.replicate m x
  | 0 => rfl
  | m + 1 => by rw [List.replicate_succ, List.flatten_cons, rep1 x m]; rfl
theorem cac_small : ∀ r ∈ rws, r.2.2.1 ≤ 9 := by decide +kernel
end
end K58
set_option maxHeartbeats 4000000
set_option pp.maxSteps 600
namespace K58
open PySem PySem.Spec PyProof.Rows L2 Nd
abbrev s_law_packed : Stmt := top 56
theorem NoSl_name {x : Str} {p : Pos} : NoSl (.Name x p) := fun _ _ => rfl
def plc : List Int := [16777216, 65536, 256]
def lx (n : Nat) (ps : List Int) : List Int := ps.flatMap fun p => if p ≤ (n : Int) then [71, (n : Int) / p % 256] else []
theorem lx_ext {n : Nat} (h : n < 4294967296) : lx n plc = ext n := by
  unfold lx plc ext exI wd
  by_cases c1 : n < 256
  · rw [if_pos c1]
    simp only [List.flatMap_cons, List.flatMap_nil, Nat.sub_self, List.range_zero]
    rw [if_neg (by omega), if_neg (by omega), if_neg (by omega)]
    rfl
  · rw [if_neg c1]
    by_cases c2 : n < 65536
    · rw [if_pos c2]
      simp only [List.flatMap_cons, List.flatMap_nil]
      rw [if_neg (by omega), if_neg (by omega), if_pos (by omega)]
      simp [List.range_succ]
    · rw [if_neg c2]
      by_cases c3 : n < 16777216
      · rw [if_pos c3]
        simp only [List.flatMap_cons, List.flatMap_nil]
        rw [if_neg (by omega), if_pos (by omega), if_pos (by omega)]
        simp [List.range_succ]
      · rw [if_neg c3]
        simp only [List.flatMap_cons, List.flatMap_nil]
        rw [if_pos (by omega), if_pos (by omega), if_pos (by omega)]
        simp [List.range_succ]
theorem lx_len (n : Nat) : ∀ (ps : List Int) {m : Nat}, ps.length ≤ m → m ≤ 3 → (lx n ps).length ≤ 6 := by
  intro ps m h hm
  have key : (lx n ps).length ≤ 2 * ps.length := by
    clear h
    induction ps with
    | nil => exact Nat.le_refl _
    | cons p ps ih =>
      unfold lx at ih ⊢
      rw [List.flatMap_cons, List.length_append, List.length_cons]
      split
      · show 2 + _ ≤ _
        omega
      · show 0 + _ ≤ _
        omega
  omega
def spLPacked : Sp := fun vs H Q _ => ∃ (t : Addr) (r : Rw) (n : Nat), vs = [.ref t, .str r.1, .int (n : Int)] ∧ TabAt H t ∧ r ∈ rws ∧ n < 4294967296 ∧ ∀ p H', H p = none → Same H H' → H' p = some (.lst ((pk r n).map V.int)) → Q (.ref p) H'
section
variable {P : Program} {w : World} {K : PySem.W.Frag} {mg : Str → Option Value} {base : Heap}
theorem u1 {k : Nat} {A : Around} (hr : Room k A) : A.units + 1 < cLine := Nat.lt_of_le_of_lt (Nat.add_le_add_left (by decide : 1 ≤ 64) _) hr.units
abbrev N_law_packed : List Str := ["table", "word", "number", "found", "place"]
theorem sc_law_packed : FnScope N_law_packed ["table", "word", "number"] (defScope s_law_packed) := ⟨rfl, rfl, rfl, by decide +kernel, rfl, by decide +kernel, by decide +kernel⟩
theorem ok_law_packed {f : Addr} {fd : FuncData} (T : Gl0 mg) (F : DefX K mg "_law_packed" s_law_packed ["table", "word", "number"] f fd) : CalX P w K mg base 1 "_law_packed" spLPacked := by
  refine calx F sc_law_packed (fun vs H Q E h => ?_) (fun cdv A outer s H vs Q E hr h => ?_)
  · obtain ⟨t, r, n, rfl, _⟩ := h
    rfl
  · obtain ⟨t, r, n, rfl, hT, hrow, hn, k⟩ := h
    refine ⟨_, (pss_cons (ps_set (i := 3) sc_law_packed.nd rfl (.inl rfl) (pe_lst pa_nil))
    (pss_cons (ps_for PassesOwn.never rfl (pi_tup (pe_tup (pa_cons pe_int (pa_cons pe_int (pa_cons pe_int pa_nil))))) (pg_name (i := 4) sc_law_packed.nd rfl (.inl rfl))
      (pss_one (ps_if (pt_cmpR op_ge (pv 2) (pv 4) (nomark _))
      (pss_one (ps_expr (pe_bm PySem.F.plainAttrs_list PySem.F.slot_list_extend PySem.F.type_list_extend mt_extend (pv 3) (pa_cons (pe_lst (pa_cons pe_int (pa_cons (pe_op op_mod (pe_callTy call_int1 (by rfl) T.n_int Boot.«int» (pa_cons (pe_op op_fdiv (pv 2) (pv 4)) pa_nil)) pe_int) pa_nil))) pa_nil))))
      pss_nil)))
    (pss_one (ps_ret (pe_op op_cat (pe_op op_cat (pv 3) (pe_lst (pa_cons (pe_ix ix_tup (pe_dget (u1 hr) (pv 0) (pv 1) NoSl_name) pe_int (fun _ _ => rfl)) (pa_cons (pe_op op_mod (pe_callTy call_int1 (by rfl) T.n_int Boot.«int» (pa_cons (pv 2) pa_nil)) pe_int) pa_nil)))) (pe_op op_rep (pe_lst (pa_cons pe_int pa_nil)) (pe_op op_mul pe_int (pe_ix ix_tup (pe_dget (u1 hr) (pv 0) (pv 1) NoSl_name) pe_int (fun _ _ => rfl))))))))), ?_⟩
    refine ⟨(by show 0 ≤ sizeLine; decide), ?_⟩
    walk_at "new1"
    refine ⟨(by show 3 ≤ sizeLine; decide), ?_⟩
    walk_at "new2"
    replace h2 : H2 p2 = some (.tup (plc.map V.int)) := h2
    refine ⟨p2, rfl, ⟨_, SqT.of h2⟩, for_tup (K := K) (a := p2) (xs := plc.map V.int) (fun i σ H' => (∃ v4, σ = [some (.ref t), some (.str r.1), some (.int (n : Int)), some (.ref p1), v4]) ∧ Same H H' ∧ H' p2 = some (.tup (plc.map V.int)) ∧ i ≤ 3 ∧ H' p1 = some (.lst ((lx n (plc.take i)).map V.int)))
      ⟨⟨_, rfl⟩, s1.trans s2, h2, Nat.zero_le _, s2 _ _ h1⟩ (fun i σ H' _ p => SqT.of p.2.2.1) ?_ ?_⟩
    · rintro i x σ H' hx ⟨⟨v4, rfl⟩, u, hp, hi, hf⟩
      rw [List.getElem?_map] at hx
      obtain ⟨p, hpl, rfl⟩ : ∃ p, plc[i]? = some p ∧ x = .int p := by
        cases e : plc[i]? with
        | none => rw [e] at hx; cases hx
        | some p => rw [e] at hx; exact ⟨p, rfl, (Option.some.inj hx).symm⟩
      have hi3 : i < 3 := (List.getElem?_eq_some_iff.mp hpl).1
      have hpp : 0 < p ∧ p < 1073741824 := by
        have h9 := List.mem_of_getElem? hpl
        simp only [plc, List.mem_cons, List.mem_nil_iff, or_false] at h9
        omega
      have hnx : lx n (plc.take (i + 1)) = lx n (plc.take i) ++ (if p ≤ (n : Int) then [71, (n : Int) / p % 256] else []) := by
        rw [List.take_add_one, hpl]
        unfold lx
        rw [List.flatMap_append]
        simp
      have hln : (lx n (plc.take i)).length ≤ 6 := lx_len n (plc.take i) (by rw [List.length_take]; exact Nat.min_le_left _ _) hi
      refine ⟨_, rfl, _, rfl, _, _, rfl, rfl, _, rfl, ite2 (fun c => ?_) (fun c => ?_)⟩
      · have c := of_decide_eq_true c
        refine ⟨_, rfl, .inl ⟨rfl, _, SqL.of hf⟩, _, rfl, _, rfl, _, _, rfl, rfl, hpp, .inl ⟨_, rfl, _, _, rfl, rfl, (by show (0 : Int) < 256; decide), ?_⟩⟩
        refine ⟨(by show 2 ≤ sizeLine; decide), ?_⟩
        walk_at "new3"
        refine ⟨p1, p3, _, _, rfl, rfl, s3 _ _ hf, h3, ?_, ⟨_, rfl⟩, Same.mut (u.trans s3) n1, ?_, hi3, ?_⟩
        · rw [List.length_map, sizeLine_eq]
          show (lx n (plc.take i)).length + 2 ≤ _
          omega
        · rw [upd_ne (fun z => by rw [z, hf] at hp; cases hp)]
          exact s3 _ _ hp
        · rw [upd_same, hnx, if_pos c, List.map_append]
          rfl
      · rw [hnx, if_neg (fun z => c (decide_eq_true z)), List.append_nil]
        exact ⟨⟨_, rfl⟩, u, hp, hi3, hf⟩
    · rintro σ H' ⟨⟨v4, rfl⟩, u, hp, hi, hf⟩
      rw [show plc.take (plc.map V.int).length = plc from rfl, lx_ext hn] at hf
      obtain ⟨kvs, hd, hk⟩ := hT.same u
      obtain ⟨q, hv, hq⟩ := hk.get rws_nd hrow
      refine ⟨_, rfl, _, rfl, _, rfl, t, _, rfl, (show DGet H' t (.str r.1) (some (.ref q)) from hv ▸ DGet.k (k := Sum.inr r.1) hd), q, _, _, _, rfl, rfl, SqT.of hq, rfl, ?_⟩
      refine ⟨_, rfl, .inl ⟨_, rfl, _, _, rfl, rfl, (by show (0 : Int) < 256; decide), ?_⟩⟩
      refine ⟨(by show 2 ≤ sizeLine; decide), ?_⟩
      walk_at "new3"
      refine ⟨p1, p3, _, _, rfl, rfl, s3 _ _ hf, h3, ?_, ?_⟩
      · rw [List.length_map, sizeLine_eq]
        have h9 := lx_len n plc (Nat.le_refl 3) (Nat.le_refl 3)
        rw [lx_ext hn] at h9
        show (ext n).length + 2 ≤ _
        omega
      walk_at "new4"
      refine ⟨(by show 1 ≤ sizeLine; decide), ?_⟩
      walk_at "new5"
      have u5 := ((u.trans s3).trans s4).trans s5
      have hd5 := ((s3.trans s4).trans s5) _ _ hd
      have hq5 := ((s3.trans s4).trans s5) _ _ hq
      have hsm := cac_small r hrow
      refine ⟨_, rfl, _, rfl, t, _, rfl, (show DGet H5 t (.str r.1) (some (.ref q)) from hv ▸ DGet.k (k := Sum.inr r.1) hd5), q, _, _, _, rfl, rfl, SqT.of hq5, rfl, ?_⟩
      refine ⟨_, _, rfl, rfl, .inl ⟨by decide, by decide⟩, p5, _, _, rfl, rfl, h5, (by omega), (by omega), ?_, ?_⟩
      · show 1 * ((2 : Int) * ((r.2.2.1 : Nat) : Int)).toNat ≤ sizeLine
        rw [sizeLine_eq]
        omega
      walk_at "new6"
      refine ⟨p4, p6, _, _, rfl, rfl, (s5.trans s6) _ _ h4, h6, ?_, ?_⟩
      · rw [List.length_append, List.length_map, rep1, List.length_replicate, sizeLine_eq]
        have h9 := lx_len n plc (Nat.le_refl 3) (Nat.le_refl 3)
        rw [lx_ext hn] at h9
        show (ext n).length + 2 + _ ≤ _
        omega
      walk_at "new7"
      refine k p7 H7 (u5.free (s6.free n7)) ((u5.trans s6).trans s7) ?_
      rw [h7, rep1, pk]
      have e9 : ((2 : Int) * ((r.2.2.1 : Nat) : Int)).toNat = 2 * r.2.2.1 := by omega
      rw [e9]
      simp
end
end K58
set_option maxHeartbeats 4000000
set_option pp.maxSteps 600
namespace K58
open PySem PySem.Spec PyProof.Rows L2 Nd
/-! ### what is cut of bytes, wherever they stand -/
theorem g_app {p e : List Int} {j : Nat} : g (p ++ e) (p.length + j) = g e j := by
  unfold g
  rw [List.getD_eq_getElem?_getD, List.getD_eq_getElem?_getD, List.getElem?_append_right (Nat.le_add_right _ _), Nat.add_sub_cancel_left]
theorem g_drop {e : List Int} {a j : Nat} : g e (a + j) = g (e.drop a) j := by
  unfold g
  rw [List.getD_eq_getElem?_getD, List.getD_eq_getElem?_getD, List.getElem?_drop]
theorem xGo_sh (p e : List Int) : ∀ (f i : Nat) (n : Int), xGo (p ++ e) p.length f (p.length + i) n = (xGo e 0 f i n).map fun z => (p.length + z.1, z.2)
  | 0, i, n => rfl
  | f + 1, i, n => by
    unfold xGo
    have e1 : g (p ++ e) (p.length + i) = g e i := g_app
    have e2 : g (p ++ e) (p.length + i + 1) = g e (i + 1) := by rw [Nat.add_assoc]; exact g_app
    have e3 := xGo_sh p e f (i + 2) ((n + g e (i + 1)) * 256)
    rw [← Nat.add_assoc] at e3
    rw [e1, e2, e3, List.length_append]
    have c1 : (p.length + i + 1 < p.length + e.length ∧ g e i = 71) ↔ (i + 1 < e.length ∧ g e i = 71) := by omega
    have c2 : (p.length + i = p.length + 6 ∨ (p.length + i = p.length ∧ g e (i + 1) = 0)) ↔ (i = 0 + 6 ∨ (i = 0 ∧ g e (i + 1) = 0)) := by omega
    simp only [c1, c2]
    split
    · split <;> rfl
    · rfl
theorem oneC_sh (p e : List Int) : oneC (p ++ e) p.length = (oneC e 0).map fun z => (p.length + z.1, z.2.1, z.2.2) := by
  have h := xGo_sh p e 4 0 0
  rw [Nat.add_zero] at h
  cases hx : xGo e 0 4 0 0 with
  | none =>
    rw [hx] at h
    rw [oneC_x hx, oneC_x h]
    rfl
  | some z =>
    obtain ⟨a, n⟩ := z
    rw [hx] at h
    rw [oneC_s hx, oneC_s (a := p.length + a) (n := n) h, g_app, List.length_append]
    have e2 : g (p ++ e) (p.length + a + 1) = g e (a + 1) := by rw [Nat.add_assoc]; exact g_app
    have c1 : (p.length + e.length ≤ p.length + a + 1) ↔ (e.length ≤ a + 1) := by omega
    rw [e2]
    simp only [c1]
    split
    · rfl
    · cases rowOf (g e a) with
      | none => rfl
      | some r =>
        have e3 : endOf (p.length + a) r = p.length + endOf a r := by
          unfold endOf
          omega
        have e4 : (p ++ e).drop (p.length + a + 2) = e.drop (a + 2) := by
          rw [Nat.add_assoc, ← List.drop_drop, List.drop_left]
        have e5 : p.length + endOf a r - (p.length + a + 2) = endOf a r - (a + 2) := by omega
        dsimp only
        rw [e3, e4, e5]
        have c2 : (p.length + e.length < p.length + endOf a r) ↔ (e.length < endOf a r) := by omega
        simp only [c2]
        split <;> rfl
theorem x_step {d : List Int} {b f i : Nat} {n : Int} (h1 : i + 1 < d.length) (h2 : g d i = 71) (h3 : ¬ (i = b + 6 ∨ (i = b ∧ g d (i + 1) = 0))) : xGo d b (f + 1) i n = xGo d b f (i + 2) ((n + g d (i + 1)) * 256) := by
  conv => lhs; unfold xGo
  rw [if_pos ⟨h1, h2⟩, if_neg h3]
theorem x_stop {d : List Int} {b f i : Nat} {n : Int} (h : ¬ (i + 1 < d.length ∧ g d i = 71)) : xGo d b (f + 1) i n = some (i, n) := by
  conv => lhs; unfold xGo
  rw [if_neg h]
theorem x_wrong {d : List Int} {b f i : Nat} {n : Int} (h1 : i + 1 < d.length) (h2 : g d i = 71) (h3 : i = b + 6 ∨ (i = b ∧ g d (i + 1) = 0)) : xGo d b (f + 1) i n = none := by
  conv => lhs; unfold xGo
  rw [if_pos ⟨h1, h2⟩, if_pos h3]
theorem row_self : ∀ r ∈ rws, rowOf r.2.1 = some r := by decide +kernel
theorem row_not71 : ∀ r ∈ rws, r.2.1 ≠ 71 := by decide +kernel
theorem one_core {e rest : List Int} {a : Nat} {m x : Int} {r : Rw} (hr : r ∈ rws) (hx : xGo e 0 4 0 0 = some (a, m)) (he : e.drop a = r.2.1 :: x :: (List.replicate (2 * r.2.2.1) 0 ++ rest)) : oneC e 0 = some (a, r, m + x) := by
  have hl := congrArg List.length he
  simp only [List.length_drop, List.length_cons, List.length_append, List.length_replicate] at hl
  have g0 : g e a = r.2.1 := by
    have := g_drop (e := e) (a := a) (j := 0)
    rw [Nat.add_zero, he] at this
    exact this
  have g1 : g e (a + 1) = x := by
    rw [g_drop, he]
    rfl
  have e2 : e.drop (a + 2) = List.replicate (2 * r.2.2.1) 0 ++ rest := by
    rw [← List.drop_drop, he]
    rfl
  have e3 : endOf a r - (a + 2) = 2 * r.2.2.1 := by
    unfold endOf
    omega
  rw [oneC_s hx, if_neg (by omega), g0, row_self r hr, g1]
  dsimp only
  rw [e2, e3, List.take_left' (by rw [List.length_replicate])]
  rw [if_neg]
  rintro (z | z)
  · unfold endOf at z
    omega
  · rw [List.any_eq_true] at z
    obtain ⟨y, hy, z⟩ := z
    rw [List.eq_of_mem_replicate hy] at z
    exact absurd z (by decide)
theorem ext_1 {n : Nat} (h : n < 256) : ext n = [] := by
  rw [← lx_ext (by omega)]
  unfold lx plc
  simp only [List.flatMap_cons, List.flatMap_nil]
  rw [if_neg (by omega), if_neg (by omega), if_neg (by omega)]
  rfl
theorem ext_2 {n : Nat} (h0 : 256 ≤ n) (h : n < 65536) : ext n = [71, (n : Int) / 256 % 256] := by
  rw [← lx_ext (by omega)]
  unfold lx plc
  simp only [List.flatMap_cons, List.flatMap_nil]
  rw [if_neg (by omega), if_neg (by omega), if_pos (by omega)]
  rfl
theorem ext_3 {n : Nat} (h0 : 65536 ≤ n) (h : n < 16777216) : ext n = [71, (n : Int) / 65536 % 256, 71, (n : Int) / 256 % 256] := by
  rw [← lx_ext (by omega)]
  unfold lx plc
  simp only [List.flatMap_cons, List.flatMap_nil]
  rw [if_neg (by omega), if_pos (by omega), if_pos (by omega)]
  rfl
theorem ext_4 {n : Nat} (h0 : 16777216 ≤ n) (h : n < 4294967296) : ext n = [71, (n : Int) / 16777216 % 256, 71, (n : Int) / 65536 % 256, 71, (n : Int) / 256 % 256] := by
  rw [← lx_ext h]
  unfold lx plc
  simp only [List.flatMap_cons, List.flatMap_nil]
  rw [if_pos (by omega), if_pos (by omega), if_pos (by omega)]
  rfl
theorem pk_app (r : Rw) (n : Nat) (post : List Int) : pk r n ++ post = ext n ++ (r.2.1 :: ((n % 256 : Nat) : Int) :: (List.replicate (2 * r.2.2.1) 0 ++ post)) := by
  unfold pk
  simp
theorem g_0 (x : Int) (l : List Int) : g (x :: l) 0 = x := rfl
theorem g_s (x : Int) (l : List Int) (i : Nat) : g (x :: l) (i + 1) = g l i := rfl
theorem xo {x : Int} {l : List Int} (h : x ≠ 71) (b f i : Nat) (n : Int) {e : List Int} (he : g e i = x) : xGo e b (f + 1) i n = some (i, n) := x_stop fun z => h (he.symm.trans z.2)
theorem one_pk {r : Rw} {n : Nat} {post : List Int} (hr : r ∈ rws) (hn : n < 4294967296) : oneC (pk r n ++ post) 0 = some ((ext n).length, r, (n : Int)) := by
  have h71 := row_not71 r hr
  rw [pk_app]
  generalize hx : ((n % 256 : Nat) : Int) = x
  generalize ht : (r.2.1 :: x :: (List.replicate (2 * r.2.2.1) 0 ++ post)) = t
  have gt : g t 0 = r.2.1 := by rw [← ht]; rfl
  have tl : 2 ≤ t.length := by rw [← ht]; simp
  by_cases c1 : n < 256
  · rw [ext_1 c1]
    have h := one_core (e := t) (a := 0) (m := 0) (x := x) (rest := post) hr (x_stop (fun z => h71 (gt.symm.trans z.2))) ht.symm
    refine Eq.trans h ?_
    refine congrArg some (Prod.ext rfl (Prod.ext rfl ?_))
    show (0 : Int) + x = n
    omega
  by_cases c2 : n < 65536
  · rw [ext_2 (by omega) c2]
    have hx1 : ¬ (n : Int) / 256 % 256 = 0 := by omega
    generalize hx3 : (n : Int) / 256 % 256 = x3 at hx1
    have h := one_core (e := 71 :: x3 :: t) (a := 2) (m := (0 + x3) * 256) (x := x) (rest := post) hr
      (Eq.trans (x_step (by simp) rfl (fun z => z.elim (fun z => by omega) fun z => hx1 z.2)) (x_stop (fun z => h71 (gt.symm.trans z.2)))) ht.symm
    refine Eq.trans h ?_
    refine congrArg some (Prod.ext rfl (Prod.ext rfl ?_))
    show (0 + x3) * 256 + x = n
    omega
  by_cases c3 : n < 16777216
  · rw [ext_3 (by omega) c3]
    have hx1 : ¬ (n : Int) / 65536 % 256 = 0 := by omega
    generalize hx3 : (n : Int) / 65536 % 256 = x3 at hx1
    generalize hx4 : (n : Int) / 256 % 256 = x4
    have h := one_core (e := 71 :: x3 :: 71 :: x4 :: t) (a := 4) (m := ((0 + x3) * 256 + x4) * 256) (x := x) (rest := post) hr
      (Eq.trans (x_step (by simp) rfl (fun z => z.elim (fun z => by omega) fun z => hx1 z.2)) (Eq.trans (x_step (by simp) rfl (fun z => z.elim (fun z => by omega) fun z => by omega)) (x_stop (fun z => h71 (gt.symm.trans z.2))))) ht.symm
    refine Eq.trans h ?_
    refine congrArg some (Prod.ext rfl (Prod.ext rfl ?_))
    show ((0 + x3) * 256 + x4) * 256 + x = n
    omega
  · rw [ext_4 (by omega) hn]
    have hx1 : ¬ (n : Int) / 16777216 % 256 = 0 := by omega
    generalize hx3 : (n : Int) / 16777216 % 256 = x3 at hx1
    generalize hx4 : (n : Int) / 65536 % 256 = x4
    generalize hx5 : (n : Int) / 256 % 256 = x5
    have h := one_core (e := 71 :: x3 :: 71 :: x4 :: 71 :: x5 :: t) (a := 6) (m := (((0 + x3) * 256 + x4) * 256 + x5) * 256) (x := x) (rest := post) hr
      (Eq.trans (x_step (by simp) rfl (fun z => z.elim (fun z => by omega) fun z => hx1 z.2)) (Eq.trans (x_step (by simp) rfl (fun z => z.elim (fun z => by omega) fun z => by omega)) (Eq.trans (x_step (by simp) rfl (fun z => z.elim (fun z => by omega) fun z => by omega)) (x_stop (fun z => h71 (gt.symm.trans z.2)))))) ht.symm
    refine Eq.trans h ?_
    refine congrArg some (Prod.ext rfl (Prod.ext rfl ?_))
    show (((0 + x3) * 256 + x4) * 256 + x5) * 256 + x = n
    omega
/-! ### chunks -/
abbrev mK (z : Str) (n : Nat) : Prop := mOk 2 3 4 z n
def ChOk (c : Rw × Nat) : Prop := c.1 ∈ rws ∧ c.2 < 4294967296 ∧ mK c.1.2.2.2 c.2
def chs (cs : List (Rw × Nat)) : List Int := cs.flatMap fun c => pk c.1 c.2
theorem pk_len (r : Rw) (n : Nat) : (pk r n).length = (ext n).length + 2 + 2 * r.2.2.1 := by
  unfold pk
  simp
  omega
theorem cut_chs : ∀ (cs : List (Rw × Nat)) (p e : List Int) (f : Nat) (acc : List Cr), (∀ c ∈ cs, ChOk c) → (chs cs).length + e.length < f →
    ∃ (acc' : List Cr) (f' : Nat), cutGo (p ++ (chs cs ++ e)) f p.length acc = cutGo (p ++ (chs cs ++ e)) f' (p ++ chs cs).length (acc ++ acc') ∧ e.length < f' ∧ acc'.length = cs.length ∧ ∀ x ∈ acc', mK x.r.2.2.2 x.n.toNat
  | [], p, e, f, acc, _, hf => ⟨[], f, by rw [List.append_nil]; show _ = cutGo _ f (p ++ []).length acc; rw [List.append_nil], by have : (chs []).length = 0 := rfl; omega, rfl, fun x hx => by cases hx⟩
  | c :: t, p, e, f, acc, h, hf => by
    obtain ⟨f, rfl⟩ : ∃ f', f = f' + 1 := ⟨f - 1, by omega⟩
    obtain ⟨h1, h2, h3⟩ := h c (List.mem_cons_self ..)
    have ec : chs (c :: t) = pk c.1 c.2 ++ chs t := rfl
    have hpl := pk_len c.1 c.2
    rw [ec, List.length_append] at hf
    obtain ⟨acc', f', q1, q2, q3, q4⟩ := cut_chs t (p ++ pk c.1 c.2) e f (acc ++ [⟨p.length, p.length + (ext c.2).length, c.1, (c.2 : Int)⟩]) (fun x hx => h x (List.mem_cons_of_mem _ hx)) (by omega)
    refine ⟨⟨p.length, p.length + (ext c.2).length, c.1, (c.2 : Int)⟩ :: acc', f', ?_, q2, by simp [q3], fun x hx => ?_⟩
    · have ed : p ++ (chs (c :: t) ++ e) = p ++ pk c.1 c.2 ++ (chs t ++ e) := by rw [ec]; simp
      have e1 : oneC (p ++ pk c.1 c.2 ++ (chs t ++ e)) p.length = some (p.length + (ext c.2).length, c.1, (c.2 : Int)) := by
        rw [List.append_assoc, oneC_sh, one_pk h1 h2]
        rfl
      have e2 : endOf (p.length + (ext c.2).length) c.1 = (p ++ pk c.1 c.2).length := by
        rw [List.length_append, hpl]
        unfold endOf
        omega
      rw [ed]
      conv => lhs; unfold cutGo
      rw [if_pos (by simp only [List.length_append, hpl]; omega), e1]
      dsimp only
      rw [e2, q1, ec]
      simp
    · rcases List.mem_cons.mp hx with z | z
      · rw [z]
        exact h3
      · exact q4 x z
theorem cutGo_acc {d : List Int} {x : Cr} : ∀ (f i : Nat) (acc : List Cr), x ∈ acc → x ∈ (cutGo d f i acc).1
  | 0, i, acc, h => h
  | f + 1, i, acc, h => by
    unfold cutGo
    split
    · cases oneC d i with
      | none => exact h
      | some z =>
        obtain ⟨a, r, n⟩ := z
        exact cutGo_acc f _ _ (List.mem_append_left _ h)
    · exact h
/-- what is wrong where it stands -/
def Bad (e : List Int) : Prop := e ≠ [] ∧ (oneC e 0 = none ∨ ∃ a r n, oneC e 0 = some (a, r, n) ∧ ¬ mK r.2.2.2 n.toNat)
theorem cut_good {cs : List (Rw × Nat)} (h : ∀ c ∈ cs, ChOk c) (hn : cs ≠ []) : (cutAll (chs cs)).2 = none ∧ (cutAll (chs cs)).1.length = cs.length ∧ ∀ x ∈ (cutAll (chs cs)).1, mK x.r.2.2.2 x.n.toNat := by
  obtain ⟨acc', f', q1, q2, q3, q4⟩ := cut_chs cs [] [] ((chs cs).length + 1) [] h (by simp)
  simp only [List.nil_append, List.append_nil] at q1
  unfold cutAll
  rw [show (0 : Nat) = ([] : List Int).length from rfl, q1]
  obtain ⟨f', rfl⟩ : ∃ f'', f' = f'' + 1 := ⟨f' - 1, by simp at q2; omega⟩
  have na : acc' ≠ [] := fun z => by
    rw [z] at q3
    exact hn (List.eq_nil_of_length_eq_zero q3.symm)
  unfold cutGo
  rw [if_neg (Nat.lt_irrefl _), if_neg na]
  exact ⟨rfl, q3, q4⟩
theorem cut_bad {cs : List (Rw × Nat)} {e : List Int} (h : ∀ c ∈ cs, ChOk c) (hb : Bad e) : (cutAll (chs cs ++ e)).2 ≠ none ∨ ∃ x ∈ (cutAll (chs cs ++ e)).1, ¬ mK x.r.2.2.2 x.n.toNat := by
  obtain ⟨ne, hb⟩ := hb
  have he : 0 < e.length := List.length_pos_iff.mpr ne
  obtain ⟨acc', f', q1, q2, q3, q4⟩ := cut_chs cs [] e ((chs cs ++ e).length + 1) [] h (by rw [List.length_append]; omega)
  simp only [List.nil_append] at q1
  unfold cutAll
  rw [show (0 : Nat) = ([] : List Int).length from rfl, q1]
  obtain ⟨f', rfl⟩ : ∃ f'', f' = f'' + 1 := ⟨f' - 1, by omega⟩
  have e0 : cutGo (chs cs ++ e) (f' + 1) (chs cs).length acc' = match oneC (chs cs ++ e) (chs cs).length with
    | none => (acc', some (chs cs).length)
    | some (a, r, n) => cutGo (chs cs ++ e) f' (endOf a r) (acc' ++ [⟨(chs cs).length, a, r, n⟩]) := by
    conv => lhs; unfold cutGo
    rw [if_pos (by rw [List.length_append]; omega)] <;> (cases oneC (chs cs ++ e) (chs cs).length <;> rfl)
  rw [e0, oneC_sh]
  rcases hb with z | ⟨a, r, n, z, hm⟩
  · rw [z]
    exact .inl (by simp)
  · rw [z]
    exact .inr ⟨⟨(chs cs).length, (chs cs).length + a, r, n⟩, cutGo_acc _ _ _ (by simp), hm⟩
theorem cut_none : (cutAll []).2 ≠ none := by decide +kernel
/-- wrong wherever an instruction may begin -/
def Wrong (v : List Int) : Prop := ∀ post, Bad (v ++ post)
theorem bad_row {e : List Int} {a : Nat} {n : Int} (ne : e ≠ []) (hx : xGo e 0 4 0 0 = some (a, n)) (hr : rowOf (g e a) = none) : Bad e := by
  refine ⟨ne, .inl ?_⟩
  rw [oneC_s hx, hr]
  split <;> rfl
theorem bad_x {e : List Int} (ne : e ≠ []) (hx : xGo e 0 4 0 0 = none) : Bad e := ⟨ne, .inl (oneC_x hx)⟩
theorem bad_short {e : List Int} {a : Nat} {n : Int} (ne : e ≠ []) (hx : xGo e 0 4 0 0 = some (a, n)) (hl : e.length ≤ a + 1) : Bad e := by
  refine ⟨ne, .inl ?_⟩
  rw [oneC_s hx, if_pos hl]
theorem bad_cache {e : List Int} {a : Nat} {n : Int} {r : Rw} (ne : e ≠ []) (hx : xGo e 0 4 0 0 = some (a, n)) (hr : rowOf (g e a) = some r) (hc : e.length < endOf a r ∨ ((e.drop (a + 2)).take (endOf a r - (a + 2))).any (fun n => n != 0) = true) : Bad e := by
  refine ⟨ne, .inl ?_⟩
  rw [oneC_s hx, hr]
  split
  · rfl
  · dsimp only
    rw [if_pos hc]
theorem wr_unknown {u x : Int} (h : rowOf u = none) (h71 : u ≠ 71) : Wrong [u, x] := fun post => bad_row (List.cons_ne_nil _ _) (x_stop (fun z => h71 z.2)) h
theorem wr_pk {r : Rw} {n : Nat} (hr : r ∈ rws) (hn : n < 4294967296) (hm : ¬ mK r.2.2.2 n) : Wrong (pk r n) := fun post => ⟨fun z => by
  have := congrArg List.length z
  rw [List.length_append, pk_len] at this
  simp at this, .inr ⟨_, r, n, one_pk hr hn, hm⟩⟩
theorem wr_a : Wrong [0, 0] := fun post => bad_row (List.cons_ne_nil _ _) (x_stop (fun z => absurd z.2 (by decide : ¬ (0 : Int) = 71))) row_zero
theorem wr_b (x : Int) : Wrong [71, 1, 0, x] := fun post => bad_row (a := 2) (List.cons_ne_nil _ _)
  (Eq.trans (x_step (by simp) rfl (fun z => z.elim (fun z => by omega) fun z => absurd z.2 (by decide : ¬ (1 : Int) = 0))) (x_stop (fun z => absurd z.2 (by decide : ¬ (0 : Int) = 71)))) row_zero
theorem wr_c : Wrong [71, 1, 71, 1, 71, 1, 71, 1, 30, 0] := fun post => bad_x (List.cons_ne_nil _ _)
  (Eq.trans (x_step (by simp) rfl (fun z => z.elim (fun z => by omega) fun z => absurd z.2 (by decide : ¬ (1 : Int) = 0))) (Eq.trans (x_step (by simp) rfl (fun z => z.elim (fun z => by omega) fun z => by omega)) (Eq.trans (x_step (by simp) rfl (fun z => z.elim (fun z => by omega) fun z => by omega)) (x_wrong (by simp) rfl (.inl rfl)))))
theorem wr_d (l : List Int) : Wrong (71 :: 0 :: l) := fun post => bad_x (List.cons_ne_nil _ _) (x_wrong (by simp) rfl (.inr ⟨rfl, rfl⟩))
theorem r45 : rowOf 45 = some (("BINARY_OP", 45, 1, "o") : Rw) := by decide +kernel
theorem r82 : rowOf 82 = some (("LOAD_ATTR", 82, 9, "m") : Rw) := by decide +kernel
theorem r40 : rowOf 40 = some (("TO_BOOL", 40, 3, "-") : Rw) := by decide +kernel
theorem wr_e {x y : Int} (h : x ≠ 0 ∨ y ≠ 0) : Wrong [45, 0, x, y] := fun post => bad_cache (List.cons_ne_nil _ _) (x_stop (fun z => absurd z.2 (by decide : ¬ (45 : Int) = 71))) r45 (.inr (by
  show ([x, y] : List Int).any (fun n => n != 0) = true
  simp only [List.any_cons, List.any_nil, Bool.or_false, Bool.or_eq_true, bne_iff_ne]
  exact h))
theorem wr_f : Wrong ([82, 0] ++ List.replicate 17 0 ++ [9]) := fun post => bad_cache (List.cons_ne_nil _ _) (x_stop (fun z => absurd z.2 (by decide : ¬ (82 : Int) = 71))) r82 (.inr (by
  show ((List.replicate 17 0 ++ [9] : List Int)).any (fun n => n != 0) = true
  decide))
def tails : List (List Int) := [[30], [71], [71, 1], [71, 2, 71, 3], [45, 0], [45, 0, 0], [82, 0] ++ List.replicate 16 0, [40, 0, 0, 0, 0]]
theorem tails_bad : ∀ e ∈ tails, Bad e := by
  have h : ∀ e ∈ tails, e ≠ [] ∧ oneC e 0 = none := by decide +kernel
  exact fun e he => ⟨(h e he).1, .inl (h e he).2⟩
end K58
set_option maxHeartbeats 4000000
set_option pp.maxSteps 600
namespace K58
open PySem PySem.Spec PyProof.Rows L2 Nd
/-! ### a code of these bytes -/
abbrev s_law_made : Stmt := top 58
def cdOf (d : List Int) : CD := ⟨0, 0, 1, 0, d, [.non, .int 5], ["a", "b", "c"], ["p", "q", "r", "s"], [32, 32, 32, 32], "f", "f", 1, [], []⟩
def okC (c : Nat) : Bool := !decide ((⟨#[c]⟩ : Str).cps.toList < (" " : Str).cps.toList) && !decide (("~" : Str).cps.toList < (⟨#[c]⟩ : Str).cps.toList) && decide (((⟨#[c]⟩ : Str).cps.getD 0 0 : Int) ≠ 37)
theorem okS_of {x : Str} (h : x.cps.toList.all okC = true) : OkS x := by
  intro i c hc
  have hm : c ∈ x.cps.toList := by
    rw [← Array.getElem?_toList] at hc
    exact List.mem_of_getElem? hc
  have h2 := List.all_eq_true.mp h c hm
  unfold okC at h2
  rw [Bool.and_eq_true, Bool.and_eq_true, Bool.not_eq_true', Bool.not_eq_true'] at h2
  exact ⟨h2.1.1, h2.1.2, of_decide_eq_true h2.2⟩
theorem num_of {i : Int} (h0 : 0 ≤ i) (h1 : i ≤ 2147483647) : isNum (.int i) := ⟨i, rfl, h0, h1⟩
theorem txt_f : isTxt (.str "f") := ⟨"f", rfl, by decide +kernel, okS_of (by decide +kernel)⟩
theorem strs_of {xs : List Str} (h : xs.all (fun x => decide (x.cps.size ≤ 1000) && x.cps.toList.all okC) = true) (hl : xs.length ≤ 100000) : isStrs xs := by
  refine ⟨fun x hx => ?_, hl⟩
  have h2 := List.all_eq_true.mp h x hx
  rw [Bool.and_eq_true] at h2
  exact ⟨of_decide_eq_true h2.1, okS_of h2.2⟩
theorem cd_ok {Cc : Addr} {H : Hp} {d : List Int} (h : isBts d) : CdOk Cc 0 H (cdOf d) where
  n1 := num_of (i := 0) (by decide) (by decide)
  n2 := num_of (i := 0) (by decide) (by decide)
  n3 := num_of (i := 1) (by decide) (by decide)
  n4 := num_of (i := 0) (by decide) (by decide)
  code := h
  consts := fun x hx => by
    simp only [cdOf, List.mem_cons, List.mem_nil_iff, or_false] at hx
    rcases hx with rfl | rfl
    · exact .inl .non
    · exact .inl (.int 5)
  clen := (by decide : 2 ≤ 100000)
  names := strs_of (xs := ["a", "b", "c"]) (by decide +kernel) (by decide)
  slots := strs_of (xs := ["p", "q", "r", "s"]) (by decide +kernel) (by decide)
  kinds := (by decide : (∀ n ∈ ([32, 32, 32, 32] : List Int), 0 ≤ n ∧ n ≤ 255) ∧ ([32, 32, 32, 32] : List Int).length ≤ 100000)
  klen := rfl
  name := txt_f
  path := txt_f
  line := num_of (i := 1) (by decide) (by decide)
  lines := (by decide : (∀ n ∈ ([] : List Int), 0 ≤ n ∧ n ≤ 255) ∧ ([] : List Int).length ≤ 100000)
  handlers := (by decide : (∀ n ∈ ([] : List Int), 0 ≤ n ∧ n ≤ 255) ∧ ([] : List Int).length ≤ 100000)
def spMade (Cc : Addr) : Sp := fun vs H Q _ => ∃ (d : Addr) (code : List Int), vs = [.ref d] ∧ H d = some (.lst (code.map V.int)) ∧ isBts code ∧ ∀ c H' m, Same H H' → CodeAt Cc H' c (cdOf code) m → Q (.ref c) H'
section
variable {P : Program} {w : World} {K : PySem.W.Frag} {mg : Str → Option Value} {base : Heap} {Cc Cn fI : Addr}
theorem GlK.gC (G : GlK P K mg Cc Cn fI) : mg "Code" = some (.ref Cc) := by
  obtain ⟨u, e, r⟩ := G.c_Code
  rw [e]
  exact congrArg some r
abbrev N_law_made : List Str := ["data"]
theorem sc_law_made : FnScope N_law_made ["data"] (defScope s_law_made) := ⟨rfl, rfl, rfl, by decide +kernel, rfl, by decide +kernel, by decide +kernel⟩
theorem ok_law_made {f fN : Addr} {fd fdN : FuncData} {ps : List Str} (G : GlK P K mg Cc Cn fI) (M : Mk K Cc fN) (FN : FnOk P w K mg base (L2.CX P w) 5 fN fdN ps (spInit Cc 0)) (BN : Binds K fdN ps [])
    (F : DefX K mg "_law_made" s_law_made ["data"] f fd) : CalX P w K mg base 7 "_law_made" (spMade Cc) := by
  refine calx F sc_law_made (fun vs H Q E h => ?_) (fun cdv A outer s H vs Q E hr h => ?_)
  · obtain ⟨d, code, rfl, _⟩ := h
    rfl
  · obtain ⟨d, code, rfl, hd, hb, k⟩ := h
    refine ⟨_, (pss_one (ps_ret (pe_make M FN hr rfl G.gC BN .nil passL (pa_cons pe_int (pa_cons pe_int (pa_cons pe_int (pa_cons pe_int (pa_cons (pv 0) (pa_cons (pe_lst (pa_cons pe_non (pa_cons pe_int pa_nil))) (pa_cons (pe_lst (pa_cons pe_str (pa_cons pe_str (pa_cons pe_str pa_nil)))) (pa_cons (pe_lst (pa_cons pe_str (pa_cons pe_str (pa_cons pe_str (pa_cons pe_str pa_nil))))) (pa_cons (pe_op op_rep (pe_lst (pa_cons pe_int pa_nil)) pe_int) (pa_cons pe_str (pa_cons pe_str (pa_cons pe_int (pa_cons (pe_lst pa_nil) (pa_cons (pe_lst pa_nil) pa_nil))))))))))))))))), ?_⟩
    refine ⟨_, rfl, (by show 2 ≤ sizeLine; decide), ?_⟩
    walk_at "new1"
    refine ⟨(by show 3 ≤ sizeLine; decide), ?_⟩
    walk_at "new2"
    refine ⟨(by show 4 ≤ sizeLine; decide), ?_⟩
    walk_at "new3"
    refine ⟨(by show 1 ≤ sizeLine; decide), ?_⟩
    walk_at "new4"
    refine ⟨p4, _, _, rfl, rfl, h4, by decide, by decide, by decide, ?_⟩
    walk_at "new5"
    refine ⟨(by show 0 ≤ sizeLine; decide), ?_⟩
    walk_at "new6"
    refine ⟨(by show 0 ≤ sizeLine; decide), ?_⟩
    walk_at "new7"
    have S := (((((s1.trans s2).trans s3).trans s4).trans s5).trans s6).trans s7
    intro x dx nx nd ne
    have hsx : upd (upd H7 dx (.own x)) x (.ins Cc dx []) x = some (.ins Cc dx []) := upd_same
    have S8 : Same H7 (upd (upd H7 dx (.own x)) x (.ins Cc dx [])) := fun b o e => by
      rw [upd_ne (ne_of_none e nx), upd_ne (ne_of_none e nd)]
      exact e
    generalize upd (upd H7 dx (.own x)) x (.ins Cc dx []) = H8 at hsx S8
    refine ⟨x, dx, d, p1, p2, p3, p5, p6, p7, cdOf code, rfl, hsx, cd_ok hb, .inl ((S.trans S8) _ _ hd), .inl ((((((s2.trans s3).trans s4).trans s5).trans s6).trans (s7.trans S8)) _ _ h1), .inl (((((s3.trans s4).trans s5).trans s6).trans (s7.trans S8)) _ _ h2),
      .inl ((((s4.trans s5).trans s6).trans (s7.trans S8)) _ _ h3), .inl ((s6.trans (s7.trans S8)) _ _ h5), .inl ((s7.trans S8) _ _ h6), .inl (S8 _ _ h7), fun H' m B _ hC => ?_⟩
    exact ⟨rfl, k x H' m (fun b o e => B b o (ne_of_none (S _ _ e) nx) ((S.trans S8) _ _ e)) hC⟩
end
end K58
set_option maxHeartbeats 4000000
set_option pp.maxSteps 600
namespace K58
open PySem PySem.Spec PyProof.Rows L2 Nd
/-! ### a good instruction -/
abbrev s_law_good : Stmt := top 59
theorem TabAt.but {H H' : Hp} {a t : Addr} {ys : List V} (b : But a H H') (ha : H a = some (.lst ys)) (h : TabAt H t) : TabAt H' t := by
  obtain ⟨kvs, h1, h2⟩ := h
  refine ⟨kvs, b _ _ (fun z => ?_) h1, h2.mono fun q xs e => b _ _ (fun z => ?_) e⟩
  · rw [z, ha] at h1
    cases h1
  · rw [z, ha] at e
    cases e
theorem but_free {H H' : Hp} {a p : Addr} (b : But a H H') (s : Src H' a) (n : H' p = none) : H p = none := by
  cases e : H p with
  | none => rfl
  | some o =>
    have z := b p o (s.ne0 n) e
    rw [n] at z
    cases z
def mostK : List (Key × V) := [(.inr "c", .int 2), (.inr "n", .int 3), (.inr "m", .int 6), (.inr "l", .int 4)]
def mostOf (z : Str) : Int := if z = "c" then 2 else if z = "n" then 3 else if z = "m" then 6 else if z = "l" then 4 else 1000
theorem most_ok : ∀ z ∈ (["-", "o", "k", "x", "n", "l", "j", "m", "c", "p"] : List Str), (valV (mergeK [] mostK) (.inr z)).getD (.int 1000) = .int (mostOf z) := by decide +kernel
theorem most_rg (z : Str) : 0 < mostOf z ∧ mostOf z ≤ 1000 := by
  unfold mostOf
  split
  · omega
  · split
    · omega
    · split
      · omega
      · split <;> omega
theorem good_m {z : Str} {n : Nat} (hz : z ∈ (["-", "o", "k", "x", "n", "l", "j", "m", "c", "p"] : List Str)) (hp : z ≠ "p") (h : (n : Int) < mostOf z) : mK z n := by
  simp only [List.mem_cons, List.mem_nil_iff, or_false] at hz
  rcases hz with rfl | rfl | rfl | rfl | rfl | rfl | rfl | rfl | rfl | rfl
  · exact mOk_d.mpr trivial
  · exact mOk_o.mpr trivial
  · exact mOk_k.mpr trivial
  · exact mOk_x.mpr trivial
  · rw [show mostOf "n" = 3 by decide +kernel] at h
    exact mOk_n.mpr (by omega)
  · rw [show mostOf "l" = 4 by decide +kernel] at h
    exact mOk_l.mpr (by omega)
  · exact mOk_j.mpr trivial
  · rw [show mostOf "m" = 6 by decide +kernel] at h
    exact mOk_m.mpr (by omega)
  · rw [show mostOf "c" = 2 by decide +kernel] at h
    exact mOk_c.mpr (by omega)
  · exact absurd rfl hp
def spLGood : Sp := fun vs H Q _ => ∃ a t : Addr, vs = [.ref a, .ref t] ∧ Src H a ∧ TabAt H t ∧ ∀ (p : Addr) (c : Rw × Nat) H', ChOk c → H p = none → But a H H' → Src H' a → H' p = some (.lst ((pk c.1 c.2).map V.int)) → Q (.ref p) H'
structure Gg (mg : Str → Option Value) : Prop where
  n_sorted : mg "sorted" = none
section
variable {P : Program} {w : World} {K : PySem.W.Frag} {mg : Str → Option Value} {base : Heap}
abbrev COne (P : Program) (w : World) (K : PySem.W.Frag) (mg : Str → Option Value) (base : Heap) : Prop := CalX P w K mg base 2 "_law_one" (fun vs H Q E => spOne K vs H Q E ∧ ∀ a b, vs = [.ref a, .ref b] → b ≠ a)
abbrev N_law_good : List Str := ["source", "table", "word", "most", "number"]
theorem sc_law_good : FnScope N_law_good ["source", "table"] (defScope s_law_good) := ⟨rfl, rfl, rfl, by decide +kernel, rfl, by decide +kernel, by decide +kernel⟩
theorem ok_law_good {f : Addr} {fd : FuncData} (T : Gg mg) (c_law_next : CalX P w K mg base 1 "_law_next" spNext) (c_law_one : COne P w K mg base) (c_law_packed : CalX P w K mg base 1 "_law_packed" spLPacked) (F : DefX K mg "_law_good" s_law_good ["source", "table"] f fd) : CalX P w K mg base 3 "_law_good" spLGood := by
  refine calx F sc_law_good (fun vs H Q E h => ?_) (fun cdv A outer s H vs Q E hr h => ?_)
  · obtain ⟨a, t, rfl, _⟩ := h
    rfl
  · obtain ⟨a, t, rfl, src, hT, k⟩ := h
    refine ⟨_, (pss_cons (ps_set (i := 2) sc_law_good.nd rfl (.inl rfl) (pe_cx c_law_one hr (by decide) rfl (pa_cons (pv 0) (pa_cons (pe_callB (call_sortedDA rfl) (by rfl) T.n_sorted Boot.«sorted» (pa_cons (pv 1) pa_nil)) pa_nil))))
    (pss_cons (ps_set (i := 3) sc_law_good.nd rfl (.inl rfl) (pe_dget2 (u1 hr) (pe_disp (pps_cons pe_str pe_int (pps_cons pe_str pe_int (pps_cons pe_str pe_int (pps_cons pe_str pe_int pps_nil)))) (by rfl) (by rfl) (fun z => by cases z) (by decide)) (pe_ix ix_tup (pe_dget (u1 hr) (pv 1) (pv 2) NoSl_name) pe_int (fun _ _ => rfl)) pe_int ⟨rfl, rfl, rfl, rfl⟩))
    (pss_cons (ps_set (i := 4) sc_law_good.nd rfl (.inl rfl) (pe_ifExp (pt_cmpR op_eq (pe_ix ix_tup (pe_dget (u1 hr) (pv 1) (pv 2) NoSl_name) pe_int (fun _ _ => rfl)) pe_str (nomark _)) (pe_op op_add (pe_op op_mul pe_int (pe_cx c_law_next hr (by decide) rfl (pa_cons (pv 0) (pa_cons pe_int pa_nil)))) (pe_cx c_law_next hr (by decide) rfl (pa_cons (pv 0) (pa_cons pe_int pa_nil)))) (pe_cx c_law_next hr (by decide) rfl (pa_cons (pv 0) (pa_cons (pv 3) pa_nil)))))
    (pss_one (ps_ret (pe_cx c_law_packed hr (by decide) rfl (pa_cons (pv 1) (pa_cons (pv 2) (pa_cons (pe_ifExp (pt_cmpR op_eq (pe_ix ix_tup (pe_dget (u1 hr) (pv 1) (pv 2) NoSl_name) pe_int (fun _ _ => rfl)) pe_str (nomark _)) pe_int (pv 4)) pa_nil))))))))), ?_⟩
    obtain ⟨kvs, hd, hk⟩ := id hT
    have hl : (rws.map (·.1)).length = 86 := by rw [List.length_map, rws_len]
    refine ⟨_, rfl, _, rfl, t, kvs, rws.map (·.1), rfl, .inl hd, hk.keys, by rw [hl]; decide, fun ys p1 hp n1 => ?_⟩
    have s1 : Same H (upd H p1 (.lst (ys.map V.str))) := Same.new n1
    have h1 : upd H p1 (.lst (ys.map V.str)) p1 = some (.lst (ys.map V.str)) := upd_same
    generalize upd H p1 (.lst (ys.map V.str)) = H1 at s1 h1 ⊢
    have yl : ys.length = 86 := hp.length_eq.trans hl
    refine ⟨⟨a, p1, _, rfl, src.same s1, h1, fun z => ?_, by rw [List.length_map, yl]; decide, fun v H2 hv b2 t2 => ?_⟩, fun b c e => by cases e; exact src.ne0 n1⟩
    · have := congrArg List.length z
      rw [List.length_map, yl] at this
      cases this
    obtain ⟨x, hx, rfl⟩ := List.mem_map.mp hv
    obtain ⟨r, hrow, rfl⟩ := List.mem_map.mp (hp.mem_iff.mp hx)
    have B2 : But a H H2 := (But.of s1).trans b2
    obtain ⟨sx, sy, sz, hps, _⟩ := id src
    have hT2 := hT.but B2 hps
    clear hd hk kvs
    have look : ∀ {J : Hp}, TabAt J t → ∃ (kvs : List (Key × V)) (q : Addr), DGet J t (.str r.1) (some (.ref q)) ∧ J q = some (.tup (rowT r)) := by
      intro J hJ
      obtain ⟨kvs2, hd2, hk2⟩ := hJ
      obtain ⟨q, hv2, hq2⟩ := hk2.get rws_nd hrow
      exact ⟨kvs2, q, (show DGet J t (.str r.1) (some (.ref q)) from hv2 ▸ DGet.k (k := Sum.inr r.1) hd2), hq2⟩
    intro pd nd
    have sd : Same H2 (upd H2 pd (.dK [])) := Same.new nd
    have hpd : upd H2 pd (.dK []) pd = some (.dK []) := upd_same
    generalize upd H2 pd (.dK []) = H3 at sd hpd ⊢
    refine ⟨hpd, mostK, rfl, by decide, ?_⟩
    have s4 : Same H2 (upd H3 pd (.dK (mergeK [] mostK))) := Same.mut sd nd
    have h4 : upd H3 pd (.dK (mergeK [] mostK)) pd = some (.dK (mergeK [] mostK)) := upd_same
    generalize upd H3 pd (.dK (mergeK [] mostK)) = H4 at s4 h4 ⊢
    have hlet := letters r hrow
    have hT4 := hT2.same s4
    have t4 := t2.same s4
    obtain ⟨_, q, hg, hq⟩ := look hT4
    refine ⟨pd, rfl, .inl ⟨_, .inl h4⟩, _, rfl, _, rfl, t, _, rfl, hg, q, _, _, _, rfl, rfl, SqT.of hq, rfl, _, DGet.k (k := Sum.inr r.2.2.2) h4, ?_⟩
    rw [most_ok _ hlet]
    obtain ⟨mr0, mr1⟩ := most_rg r.2.2.2
    have B4 := B2.trans (But.of s4)
    obtain ⟨_, _, _, hps4, _⟩ := id t4
    refine ⟨_, rfl, _, rfl, t, _, rfl, hg, q, _, _, _, rfl, rfl, SqT.of hq, rfl, rfl, _, rfl, ?_⟩
    -- the rest
    have fin : ∀ (n : Nat) (J : Hp), n < 4294967296 → mK r.2.2.2 n → But a H4 J → Src J a → ∃ (kvs : List (Key × V)) (q : Addr), DGet J t (.str r.1) (some (.ref q)) ∧ J q = some (.tup (rowT r)) ∧ ∀ m : Nat, (m = n ∨ m = 0 ∧ r.2.2.2 = "-") → spLPacked [.ref t, .str r.1, .int (m : Int)] J Q E := by
      intro n J hn hm bJ tJ
      have hTJ := hT4.but bJ hps4
      obtain ⟨kv, q, hg, hq⟩ := look hTJ
      refine ⟨kv, q, hg, hq, fun m hmn => ⟨t, r, m, rfl, hTJ, hrow, ?_, fun p H' np sJ hp => ?_⟩⟩
      · rcases hmn with e | ⟨e, _⟩
        · rw [e]
          exact hn
        · rw [e]
          decide
      · refine k p (r, m) H' ⟨hrow, ?_, ?_⟩ (but_free (B4.trans bJ) tJ np) ((B4.trans bJ).trans (But.of sJ)) (tJ.same sJ) hp
        · rcases hmn with e | ⟨e, _⟩
          · rw [e]
            exact hn
          · rw [e]
            exact (by decide : (0 : Nat) < 4294967296)
        · rcases hmn with e | ⟨_, z⟩
          · rw [e]
            exact hm
          · show mK r.2.2.2 m
            rw [z]
            exact mOk_d.mpr trivial
    have tail : ∀ (n : Nat) (J : Hp), n < 4294967296 → mK r.2.2.2 n → But a H4 J → Src J a → _ := fun n J hn hm bJ tJ => fin n J hn hm bJ tJ
    refine ite2 (fun c => ?_) (fun c => ?_)
    · have hs : r.2.2.2 = "p" := by
        have z := of_decide_eq_true c
        injection z
      refine ⟨_, rfl, a, 4, rfl, t4, by decide, by decide, fun v J1 v0 v1 b1 t1 => ?_⟩
      refine ⟨_, _, rfl, rfl, .inl ⟨by decide, by decide⟩, _, rfl, a, 4, rfl, t1, by decide, by decide, fun u J2 u0 u1 b2 t2 => ?_⟩
      refine ⟨_, _, rfl, rfl, ?_⟩
      obtain ⟨n, en, hn, hm⟩ : ∃ n : Nat, 16 * v + u = (n : Int) ∧ n < 4294967296 ∧ mK r.2.2.2 n := by
        refine ⟨(16 * v + u).toNat, by omega, by omega, ?_⟩
        rw [hs]
        exact mOk_p.mpr ⟨by omega, by omega⟩
      show gName 4 (V.int (16 * v + u)) _ _ _
      rw [en]
      obtain ⟨_, q, hg, hq, f⟩ := fin n J2 hn hm (b1.trans b2) t2
      refine ⟨_, rfl, _, rfl, _, rfl, _, rfl, t, _, rfl, hg, q, _, _, _, rfl, rfl, SqT.of hq, rfl, rfl, _, rfl, ?_⟩
      refine ite2 (fun c => ?_) (fun c => ?_)
      · refine f 0 (.inr ⟨rfl, ?_⟩)
        have z := of_decide_eq_true c
        injection z
      · exact ⟨_, rfl, f n (.inl rfl)⟩
    · have hs : r.2.2.2 ≠ "p" := fun z => c (by rw [z]; rfl)
      refine ⟨_, rfl, _, rfl, a, _, rfl, t4, mr0, ?_, fun v J1 v0 v1 b1 t1 => ?_⟩
      · exact Nat.lt_of_le_of_lt (by omega : _ ≤ 1000) (by decide)
      obtain ⟨n, rfl⟩ : ∃ n : Nat, v = (n : Int) := ⟨v.toNat, by omega⟩
      obtain ⟨_, q, hg, hq, f⟩ := fin n J1 (by omega) (good_m hlet hs v1) b1 t1
      refine ⟨_, rfl, _, rfl, _, rfl, _, rfl, t, _, rfl, hg, q, _, _, _, rfl, rfl, SqT.of hq, rfl, rfl, _, rfl, ?_⟩
      refine ite2 (fun c => ?_) (fun c => ?_)
      · refine f 0 (.inr ⟨rfl, ?_⟩)
        have z := of_decide_eq_true c
        injection z
      · exact ⟨_, rfl, f n (.inl rfl)⟩
end
end K58
set_option maxHeartbeats 4000000
set_option pp.maxSteps 600
namespace K58
open PySem PySem.Spec PyProof.Rows L2 Nd
/-! ### a wrong instruction -/
abbrev s_law_wrong : Stmt := top 60
theorem ext_len (n : Nat) (hn : n < 4294967296) : (ext n).length ≤ 6 := by
  rw [← lx_ext hn]
  exact lx_len n plc (Nat.le_refl 3) (Nat.le_refl 3)
theorem num_rg : ∀ r ∈ rws, 0 ≤ r.2.1 ∧ r.2.1 ≤ 255 := by decide +kernel
theorem pk_byte {r : Rw} {n : Nat} (hr : r ∈ rws) : ∀ x ∈ pk r n, 0 ≤ x ∧ x ≤ 255 := by
  intro x hx
  unfold pk at hx
  rcases List.mem_append.mp hx with h | h
  · rcases List.mem_append.mp h with h | h
    · unfold ext exI at h
      obtain ⟨j, _, h⟩ := List.mem_flatMap.mp h
      simp only [List.mem_cons, List.mem_nil_iff, or_false] at h
      rcases h with rfl | rfl
      · exact ⟨by decide, by decide⟩
      · have : n / 256 ^ (wd n - 1 - j) % 256 < 256 := Nat.mod_lt _ (by decide)
        omega
    · simp only [List.mem_cons, List.mem_nil_iff, or_false] at h
      rcases h with rfl | rfl
      · exact num_rg r hr
      · have : n % 256 < 256 := Nat.mod_lt _ (by decide)
        omega
  · rw [List.eq_of_mem_replicate h]
    exact ⟨by decide, by decide⟩
theorem pk_short {r : Rw} {n : Nat} (hr : r ∈ rws) (hn : n < 4294967296) : (pk r n).length ≤ 26 := by
  have h1 := ext_len n hn
  have h2 := cac_small r hr
  rw [pk_len]
  omega
/-- a list of bytes that is wrong wherever it stands -/
def WAt (a : Addr) (H : Hp) (x : V) : Prop := ∃ (p : Addr) (v : List Int), x = .ref p ∧ p ≠ a ∧ H p = some (.lst (v.map V.int)) ∧ Wrong v ∧ (∀ n ∈ v, 0 ≤ n ∧ n ≤ 255) ∧ v.length ≤ 40
theorem WAt.but {a : Addr} {H H' : Hp} {x : V} (h : WAt a H x) (b : But a H H') : WAt a H' x := by
  obtain ⟨p, v, e, n, hp, w⟩ := h
  exact ⟨p, v, e, n, b _ _ n hp, w⟩
theorem WAt.same {a : Addr} {H H' : Hp} {x : V} (h : WAt a H x) (s : Same H H') : WAt a H' x := h.but (But.of s)
theorem WAt.of {a p : Addr} {H H' : Hp} {v : List Int} (src : Src H a) (np : H p = none) (hp : H' p = some (.lst (v.map V.int))) (w : Wrong v) (b : ∀ n ∈ v, 0 ≤ n ∧ n ≤ 255) (l : v.length ≤ 40) : WAt a H' (.ref p) := ⟨p, v, rfl, src.ne0 np, hp, w, b, l⟩
def WsAt (a : Addr) (H : Hp) (xs : List V) : Prop := ∀ x ∈ xs, WAt a H x
theorem WsAt.but {a : Addr} {H H' : Hp} {xs : List V} (h : WsAt a H xs) (b : But a H H') : WsAt a H' xs := fun x hx => (h x hx).but b
theorem WsAt.same {a : Addr} {H H' : Hp} {xs : List V} (h : WsAt a H xs) (s : Same H H') : WsAt a H' xs := h.but (But.of s)
theorem WsAt.app {a : Addr} {H : Hp} {xs ys : List V} (h : WsAt a H xs) (g : WsAt a H ys) : WsAt a H (xs ++ ys) := fun x hx => (List.mem_append.mp hx).elim (h x) (g x)
theorem WsAt.nil {a : Addr} {H : Hp} : WsAt a H [] := fun x hx => by cases hx
theorem WsAt.cons {a : Addr} {H : Hp} {x : V} {xs : List V} (h : WAt a H x) (g : WsAt a H xs) : WsAt a H (x :: xs) := fun y hy => by
  rcases List.mem_cons.mp hy with e | e
  · rw [e]
    exact h
  · exact g y e
def nums : List Int := rws.map (·.2.1) ++ [71]
theorem nums_in {u : Int} (h : inV (.int u) (nums.map V.int) = false) : rowOf u = none ∧ u ≠ 71 := by
  have hn : ∀ y ∈ nums, y ≠ u := fun y hy e => by
    have : inV (.int u) (nums.map V.int) = true := List.any_eq_true.mpr ⟨.int y, List.mem_map_of_mem hy, by show (y == u) = true; rw [e]; exact beq_self_eq_true u⟩
    rw [h] at this
    cases this
  refine ⟨?_, fun e => hn 71 (List.mem_append_right _ (List.mem_singleton.mpr rfl)) e.symm⟩
  cases hr : rowOf u with
  | none => rfl
  | some r =>
    obtain ⟨h1, h2⟩ := rowOf_mem hr
    exact absurd h2 (hn _ (List.mem_append_left _ (List.mem_map_of_mem h1)))
theorem nums_0 : inV (.int 0) (nums.map V.int) = false := by decide +kernel
theorem nums_flat : (nums.map V.int).all flatV = true := by
  rw [List.all_map]
  exact List.all_eq_true.mpr fun x _ => rfl
def wA : List (Rw × Nat) := [(("LOAD_CONST", 83, 0, "c"), 2), (("RETURN_CONST", 103, 0, "c"), 256), (("LOAD_NAME", 92, 0, "n"), 3), (("STORE_ATTR", 108, 4, "n"), 300)]
def wB : List (Rw × Nat) := [(("LOAD_GLOBAL", 91, 4, "m"), 6), (("LOAD_ATTR", 82, 9, "m"), 7), (("LOAD_FAST", 85, 0, "l"), 4), (("MAKE_CELL", 94, 0, "l"), 70000)]
def wp (c : Rw × Nat) : List V := [.str c.1.1, .int (c.2 : Int)]
theorem wA_in : ∀ c ∈ wA, c.1 ∈ rws ∧ c.2 ≤ 70000 := by decide +kernel
theorem wB_in : ∀ c ∈ wB, c.1 ∈ rws ∧ c.2 ≤ 70000 := by decide +kernel
theorem wA_no {c : Rw × Nat} (h : c ∈ wA) (d : Nat) : ¬ mK c.1.2.2.2 (c.2 + d) := by
  simp only [wA, List.mem_cons, List.mem_nil_iff, or_false] at h
  rcases h with rfl | rfl | rfl | rfl
  · exact fun z => absurd (mOk_c.mp z) (by omega)
  · exact fun z => absurd (mOk_c.mp z) (by omega)
  · exact fun z => absurd (mOk_n.mp z) (by omega)
  · exact fun z => absurd (mOk_n.mp z) (by omega)
theorem wB_no {c : Rw × Nat} (h : c ∈ wB) : ¬ mK c.1.2.2.2 c.2 := by
  simp only [wB, List.mem_cons, List.mem_nil_iff, or_false] at h
  rcases h with rfl | rfl | rfl | rfl
  · exact fun z => absurd (mOk_m.mp z) (by omega)
  · exact fun z => absurd (mOk_m.mp z) (by omega)
  · exact fun z => absurd (mOk_l.mp z) (by omega)
  · exact fun z => absurd (mOk_l.mp z) (by omega)
def rLL : Rw := ("LOAD_FAST_LOAD_FAST", 88, 0, "p")
theorem rLL_in : rLL ∈ rws := by decide +kernel
theorem pair_no {v : V} (h : v ∈ ([.int 64, .int 4, .int 79, .int 1024, .int 15] : List V)) : ∃ n : Nat, v = .int (n : Int) ∧ n ≤ 1024 ∧ ¬ mK "p" n := by
  simp only [List.mem_cons, List.mem_nil_iff, or_false] at h
  rcases h with rfl | rfl | rfl | rfl | rfl
  · exact ⟨64, rfl, by omega, fun z => absurd (mOk_p.mp z) (by omega)⟩
  · exact ⟨4, rfl, by omega, fun z => absurd (mOk_p.mp z) (by omega)⟩
  · exact ⟨79, rfl, by omega, fun z => absurd (mOk_p.mp z) (by omega)⟩
  · exact ⟨1024, rfl, by omega, fun z => absurd (mOk_p.mp z) (by omega)⟩
  · exact ⟨15, rfl, by omega, fun z => absurd (mOk_p.mp z) (by omega)⟩
theorem pick {f : (Rw × Nat) → List V} {H : Hp} {xs : List V} {rs : List (Rw × Nat)} {v : V} (h : TupsAt f H xs rs) (hv : v ∈ xs) : ∃ p c, c ∈ rs ∧ v = .ref p ∧ H p = some (.tup (f c)) := by
  obtain ⟨i, hi⟩ := List.mem_iff_getElem?.mp hv
  obtain ⟨p, c, h1, h2, h3⟩ := h.get hi
  exact ⟨p, c, List.mem_of_getElem? h1, h2, h3⟩
theorem KvAt.at_ {H : Hp} {kk : Key} {x : V} : ∀ {kvs : List (Key × V)} {rs : List Rw} {i : Nat}, KvAt H kvs rs → kvs[i]? = some (kk, x) → ∃ r, rs[i]? = some r ∧ ∃ q, x = .ref q ∧ H q = some (.tup (rowT r))
  | kv :: kvs, r :: rs, 0, ⟨⟨_, q, e2, h⟩, _⟩, hi => by
    have e : kv = (kk, x) := Option.some.inj hi
    rw [e] at e2
    exact ⟨r, rfl, q, e2, h⟩
  | kv :: kvs, r :: rs, i + 1, ⟨_, t⟩, hi => KvAt.at_ (i := i) t hi
  | [], [], i, _, hi => by simp at hi
def spLWrong : Sp := fun vs H Q _ => ∃ a t : Addr, vs = [.ref a, .ref t] ∧ Src H a ∧ TabAt H t ∧ ∀ (p : Addr) (v : List Int) H', Wrong v → (∀ n ∈ v, 0 ≤ n ∧ n ≤ 255) → v.length ≤ 40 → p ≠ a → But a H H' → Src H' a → H' p = some (.lst (v.map V.int)) → Q (.ref p) H'
section
variable {P : Program} {w : World} {K : PySem.W.Frag} {mg : Str → Option Value} {base : Heap}
abbrev N_law_wrong : List Str := ["source", "table", "numbers", "unknown", "some", "word", "number", "pair", "one"]
theorem sc_law_wrong : FnScope N_law_wrong ["source", "table"] (defScope s_law_wrong) := ⟨rfl, rfl, rfl, by decide +kernel, rfl, by decide +kernel, by decide +kernel⟩
theorem ok_law_wrong {f : Addr} {fd : FuncData} (T : Gl0 mg) (c_law_next : CalX P w K mg base 1 "_law_next" spNext) (c_law_one : COne P w K mg base) (c_law_packed : CalX P w K mg base 1 "_law_packed" spLPacked) (F : DefX K mg "_law_wrong" s_law_wrong ["source", "table"] f fd) : CalX P w K mg base 3 "_law_wrong" spLWrong := by
  refine calx F sc_law_wrong (fun vs H Q E h => ?_) (fun cdv A outer s H vs Q E hr h => ?_)
  · obtain ⟨a, t, rfl, _⟩ := h
    rfl
  · obtain ⟨a, t, rfl, src, hT, k⟩ := h
    refine ⟨_, (pss_cons (ps_set (i := 2) sc_law_wrong.nd rfl (.inr rfl) (pe_op op_cat (pe_lock (pe_lc (own := [("one", 8)]) (g := gName 8) (tt := tYes) rfl sc_law_wrong.nd (pi_values (pv 1)) (blkOk_by (own := [("one", 8)]) (N := N_law_wrong) (sc := defScope s_law_wrong) (by decide +kernel)) (fun _ _ _ _ _ => (pg_name (i := 8) sc_law_wrong.nd rfl (Or.inl rfl))) (fun _ _ _ _ _ => pts_nil) (fun _ _ _ _ _ => (pe_ix (show IxR _ (rIxT K) from ix_tup) (pv 8) pe_int (fun _ _ => rfl))))) (pe_lst (pa_cons pe_int pa_nil))))
    (pss_cons (ps_setLc (i := 3) (y := "unknown") (own := [("number", 6)]) (g := gName 6) rfl sc_law_wrong.nd rfl rfl (sw_true rfl rfl rfl (by decide +kernel)) (pi_range1 (by rfl) T.n_range (pa_cons pe_int pa_nil)) (blkOk_by (own := [("number", 6)]) (N := N_law_wrong) (sc := defScope s_law_wrong) (by decide +kernel)) (fun _ _ _ _ _ => (pg_name (i := 6) sc_law_wrong.nd rfl (Or.inl rfl))) (fun _ _ _ _ _ => (pts_one (pt_cmpR (show OpR _ _ (rIn K true) from op_notIn_seq) (pv 6) (pv 2) (by rfl)))) (fun _ _ _ _ _ => (pv 6)))
    (pss_cons (ps_set (i := 4) sc_law_wrong.nd rfl (.inl rfl) (pe_lst (pa_cons (pe_lst (pa_cons (pe_cx c_law_one hr (by decide) rfl (pa_cons (pv 0) (pa_cons (pv 3) pa_nil))) (pa_cons (pe_cx c_law_next hr (by decide) rfl (pa_cons (pv 0) (pa_cons pe_int pa_nil))) pa_nil))) (pa_cons (pe_lst (pa_cons pe_int (pa_cons pe_int pa_nil))) (pa_cons (pe_lst (pa_cons pe_int (pa_cons pe_int (pa_cons pe_int (pa_cons pe_int pa_nil))))) (pa_cons (pe_op op_cat (pe_op op_rep (pe_lst (pa_cons pe_int (pa_cons pe_int pa_nil))) pe_int) (pe_lst (pa_cons pe_int (pa_cons pe_int pa_nil)))) pa_nil))))))
    (pss_cons (ps_set (i := 4) sc_law_wrong.nd rfl (.inl rfl) (pe_op op_cat (pv 4) (pe_lst (pa_cons (pe_lst (pa_cons pe_int (pa_cons pe_int (pa_cons pe_int (pa_cons pe_int pa_nil))))) (pa_cons (pe_lst (pa_cons pe_int (pa_cons pe_int (pa_cons pe_int (pa_cons pe_int pa_nil))))) (pa_cons (pe_lst (pa_cons pe_int (pa_cons pe_int (pa_cons pe_int (pa_cons pe_int pa_nil))))) (pa_cons (pe_lst (pa_cons pe_int (pa_cons pe_int (pa_cons pe_int (pa_cons pe_int pa_nil))))) (pa_cons (pe_lst (pa_cons pe_int (pa_cons pe_int (pa_cons pe_int (pa_cons pe_int (pa_cons pe_int (pa_cons pe_int pa_nil))))))) pa_nil))))))))
    (pss_cons (ps_set (i := 4) sc_law_wrong.nd rfl (.inl rfl) (pe_op op_cat (pv 4) (pe_lst (pa_cons (pe_op op_cat (pe_op op_cat (pe_lst (pa_cons pe_int (pa_cons pe_int pa_nil))) (pe_op op_rep (pe_lst (pa_cons pe_int pa_nil)) pe_int)) (pe_lst (pa_cons pe_int pa_nil))) pa_nil))))
    (pss_cons (ps_asg (pe_cx c_law_one hr (by decide) rfl (pa_cons (pv 0) (pa_cons (pe_lst (pa_cons (pe_tup (pa_cons pe_str (pa_cons pe_int pa_nil))) (pa_cons (pe_tup (pa_cons pe_str (pa_cons pe_int pa_nil))) (pa_cons (pe_tup (pa_cons pe_str (pa_cons pe_int pa_nil))) (pa_cons (pe_tup (pa_cons pe_str (pa_cons pe_int pa_nil))) pa_nil))))) pa_nil))) (pg_tup (by rfl) (pgs_cons (pg_name (i := 5) sc_law_wrong.nd rfl (.inl rfl)) (pgs_cons (pg_name (i := 6) sc_law_wrong.nd rfl (.inl rfl)) pgs_nil))))
    (pss_cons (ps_set (i := 4) sc_law_wrong.nd rfl (.inl rfl) (pe_op op_cat (pv 4) (pe_lst (pa_cons (pe_cx c_law_packed hr (by decide) rfl (pa_cons (pv 1) (pa_cons (pv 5) (pa_cons (pe_op op_add (pv 6) (pe_cx c_law_next hr (by decide) rfl (pa_cons (pv 0) (pa_cons pe_int pa_nil)))) pa_nil)))) pa_nil))))
    (pss_cons (ps_asg (pe_cx c_law_one hr (by decide) rfl (pa_cons (pv 0) (pa_cons (pe_lst (pa_cons (pe_tup (pa_cons pe_str (pa_cons pe_int pa_nil))) (pa_cons (pe_tup (pa_cons pe_str (pa_cons pe_int pa_nil))) (pa_cons (pe_tup (pa_cons pe_str (pa_cons pe_int pa_nil))) (pa_cons (pe_tup (pa_cons pe_str (pa_cons pe_int pa_nil))) pa_nil))))) pa_nil))) (pg_tup (by rfl) (pgs_cons (pg_name (i := 5) sc_law_wrong.nd rfl (.inl rfl)) (pgs_cons (pg_name (i := 6) sc_law_wrong.nd rfl (.inl rfl)) pgs_nil))))
    (pss_cons (ps_set (i := 4) sc_law_wrong.nd rfl (.inl rfl) (pe_op op_cat (pv 4) (pe_lst (pa_cons (pe_cx c_law_packed hr (by decide) rfl (pa_cons (pv 1) (pa_cons (pv 5) (pa_cons (pv 6) pa_nil)))) pa_nil))))
    (pss_cons (ps_set (i := 7) sc_law_wrong.nd rfl (.inl rfl) (pe_cx c_law_one hr (by decide) rfl (pa_cons (pv 0) (pa_cons (pe_lst (pa_cons pe_int (pa_cons pe_int (pa_cons pe_int (pa_cons pe_int (pa_cons pe_int pa_nil)))))) pa_nil))))
    (pss_one (ps_ret (pe_cx c_law_one hr (by decide) rfl (pa_cons (pv 0) (pa_cons (pe_op op_cat (pv 4) (pe_op op_rep (pe_lst (pa_cons (pe_cx c_law_packed hr (by decide) rfl (pa_cons (pv 1) (pa_cons pe_str (pa_cons (pv 7) pa_nil)))) pa_nil)) pe_int)) pa_nil))))))))))))))), ?_⟩
    -- numbers
    obtain ⟨kvs, hd, hk⟩ := id hT
    refine ⟨t, _, hd, trivial, fun od => ?_⟩
    refine ⟨_, rfl, t, od, kvs, rfl, upd_same, fun D nD => lc_it walk_values (fun i H' => Same (upd H t (.frz od (.dK kvs))) H' ∧ H' D = some (.lst (((rws.take i).map (·.2.1)).map V.int))) ⟨Same.new nD, upd_same⟩ (fun i H' _ p => p.1 _ _ upd_same) ?_ ?_⟩
    · rintro i x H' H'' hi ⟨s, hD⟩ ⟨rfl, kk, hkv⟩
      have hil : i < rws.length := by
        have h9 := congrArg List.length hk.keys
        rw [List.length_map, List.length_map, List.length_map] at h9
        omega
      obtain ⟨r, hr0, q, rfl, hq⟩ := hk.at_ hkv
      have hq' : H'' q = some (.tup (rowT r)) := s _ _ (by
        rw [upd_ne (fun z => by rw [z, hd] at hq; cases hq)]
        exact hq)
      refine ⟨rfl, _, rfl, q, _, _, _, rfl, rfl, SqT.of hq', rfl, _, hD, ?_, Same.mut s nD, ?_⟩
      · rw [List.length_map, List.length_map, List.length_take]
        exact Nat.lt_of_le_of_lt (Nat.min_le_right _ _) (by rw [rws_len, sizeLine_eq]; decide)
      · rw [upd_same, List.take_add_one, hr0, List.map_append, List.map_append]
        rfl
    · rintro H' ⟨s, hD⟩
      refine ⟨s _ _ upd_same, ?_⟩
      have nDt : D ≠ t := fun z => by
        rw [z, upd_same] at nD
        cases nD
      have S : Same H (upd H' t (.dK kvs)) := fun b o e => by
        by_cases c : b = t
        · rw [c, upd_same]
          rw [c, hd] at e
          exact e
        · rw [upd_ne c]
          exact s _ _ (by rw [upd_ne c]; exact e)
      have hD' : upd H' t (.dK kvs) D = some (.lst ((rws.map (·.2.1)).map V.int)) := by
        rw [upd_ne nDt, hD]
        have h9 := congrArg List.length hk.keys
        rw [List.length_map, List.length_map, List.length_map] at h9
        rw [h9, List.take_length]
      generalize upd H' t (.dK kvs) = J at S hD' ⊢
      clear hD s nD hd hk
      refine ⟨(by show 1 ≤ sizeLine; decide), ?_⟩
      walk_at "new1"
      refine ⟨D, p1, _, _, rfl, rfl, s1 _ _ hD', h1, ?_, ?_⟩
      · rw [List.length_map, List.length_map, rws_len]
        exact (by rw [sizeLine_eq]; decide)
      walk_at "new2"
      have h2 : H2 p2 = some (.lst (nums.map V.int)) := by
        rw [h2]
        unfold nums
        rw [List.map_append]
        rfl
      have u2 := (S.trans s1).trans s2
      clear hD' h1 S s1 s2 n1 n2
      have src := src.same u2
      have hT := hT.same u2
      have B := But.of (a := a) u2
      -- unknown
      refine ⟨256, rfl, by decide, by decide, fun D nD => lc_range (lo := 0) (n := 256) (fun i H' => ∃ us : List Int, H' D = some (.lst (us.map V.int)) ∧ Same H2 H' ∧ us.length ≤ i ∧ (∀ u ∈ us, rowOf u = none ∧ u ≠ 71 ∧ 0 ≤ u ∧ u ≤ 255) ∧ (1 ≤ i → us ≠ [])) ⟨[], upd_same, Same.new nD, Nat.le_refl _, (fun u hu => by cases hu), fun z => absurd z (by decide)⟩ ?_ ?_⟩
      · rintro i H' hi ⟨us, hD, s, hl, hu, hne⟩
        refine ⟨rfl, _, rfl, _, rfl, p2, _, rfl, .inl (SqL.of (s _ _ h2)), rfl, nums_flat, _, rfl, ite2 (fun c => ?_) (fun c => ?_)⟩
        · have c : inV (.int (0 + (i : Int))) (nums.map V.int) = false := by simpa using c
          obtain ⟨g1, g2⟩ := nums_in c
          refine ⟨_, rfl, _, hD, ?_, us ++ [0 + (i : Int)], ?_, Same.mut s nD, ?_, ?_, ?_⟩
          · rw [List.length_map]
            exact Nat.lt_of_le_of_lt hl (Nat.lt_of_lt_of_le hi (by decide))
          · rw [upd_same, List.map_append]
            rfl
          · rw [List.length_append]
            exact Nat.succ_le_succ hl
          · intro u hm
            rcases List.mem_append.mp hm with z | z
            · exact hu u z
            · rw [List.mem_singleton.mp z]
              exact ⟨g1, g2, by omega, by omega⟩
          · simp
        · refine ⟨us, hD, s, Nat.le_succ_of_le hl, hu, fun _ => ?_⟩
          cases i with
          | zero => exact absurd nums_0 (by
              have c : inV (.int (0 + ((0 : Nat) : Int))) (nums.map V.int) = true := by simpa using c
              rw [show (0 : Int) + ((0 : Nat) : Int) = 0 from rfl] at c
              rw [c]
              decide)
          | succ i => exact hne (by omega)
      · rintro H3 ⟨us, hD, s3, hl, hu, hne⟩
        have hne := hne (by decide)
        have nDa := src.ne0 nD
        have src := src.same s3
        have hT := hT.same s3
        have B := B.trans (But.of s3)
        clear h2 u2 s3 nD
        -- some
        refine ⟨_, rfl, _, rfl, ⟨a, D, _, rfl, src, hD, (fun z => hne (List.map_eq_nil_iff.mp z)), ?_, fun v J hv b t1 => ?_⟩, fun b c e => by cases e; exact nDa⟩
        · rw [List.length_map]
          exact Nat.le_trans hl (by decide)
        obtain ⟨u, hu', rfl⟩ := List.mem_map.mp hv
        obtain ⟨u1', u2', u3', u4'⟩ := hu u hu'
        refine ⟨_, rfl, a, 256, rfl, t1, by decide, by decide, fun x J2 x0 x1 b2 t2 => ?_⟩
        obtain ⟨_, _, _, ea, _⟩ := id src
        have hT := hT.but (b.trans b2) ea
        have B := B.trans (b.trans b2)
        clear hD hl hu hne hv hu' b b2 t1 nDa src ea
        refine ⟨(by show 2 ≤ sizeLine; decide), ?_⟩
        walk_at "new1"
        have w1 : WAt a H1 (.ref p1) := WAt.of t2 n1 (v := [u, x]) h1 (wr_unknown u1' u2') (by
          intro n hn
          simp only [List.mem_cons, List.mem_nil_iff, or_false] at hn
          rcases hn with rfl | rfl <;> omega) (by show 2 ≤ 40; decide)
        refine ⟨(by show 2 ≤ sizeLine; decide), ?_⟩
        walk_at "new2"
        have t3 := t2.same s1
        have w2 : WAt a H2 (.ref p2) := WAt.of t3 n2 (v := [0, 0]) h2 wr_a (by decide) (by decide)
        refine ⟨(by show 4 ≤ sizeLine; decide), ?_⟩
        walk_at "new3"
        have t4 := t3.same s2
        have w3 : WAt a H3 (.ref p3) := WAt.of t4 n3 (v := [71, 1, 0, 0]) h3 (wr_b 0) (by decide) (by decide)
        refine ⟨(by show 2 ≤ sizeLine; decide), ?_⟩
        walk_at "new4"
        refine ⟨p4, _, _, rfl, rfl, h4, by decide, by decide, by decide, ?_⟩
        walk_at "new5"
        refine ⟨(by show 2 ≤ sizeLine; decide), ?_⟩
        walk_at "new6"
        refine ⟨p5, p6, _, _, rfl, rfl, s6 _ _ h5, h6, by decide, ?_⟩
        walk_at "new7"
        have t7 := (((t4.same s3).same s4).same s5).same s6
        have w7 : WAt a H7 (.ref p7) := WAt.of t7 n7 (v := [71, 1, 71, 1, 71, 1, 71, 1, 30, 0]) h7 wr_c (by decide) (by decide)
        refine ⟨(by show 4 ≤ sizeLine; decide), ?_⟩
        walk_at "new8"
        have ss := ((s4.trans s5).trans s6).trans (s7.trans s8)
        have W : WsAt a H8 [.ref p1, .ref p2, .ref p3, .ref p7] := .cons (w1.same ((s2.trans s3).trans ss)) (.cons (w2.same (s3.trans ss)) (.cons (w3.same ss) (.cons (w7.same s8) .nil)))
        have sA := ((s1.trans s2).trans s3).trans ss
        have src := t2.same sA
        have hT := hT.same sA
        have B := B.trans (But.of sA)
        obtain ⟨xs, hS, W, lS, nS⟩ : ∃ xs : List V, H8 p8 = some (.lst xs) ∧ WsAt a H8 xs ∧ xs.length ≤ 4 ∧ xs ≠ [] := ⟨_, h8, W, (by show 4 ≤ 4; decide), List.cons_ne_nil _ _⟩
        clear w1 w2 w3 w7 t3 t4 t7 ss sA h1 h2 h3 h4 h5 h6 h7 h8 n1 n2 n3 n4 n5 n6 n7 n8 s1 s2 s3 s4 s5 s6 s7 s8 t2
        -- five more
        refine ⟨_, rfl, (by show 4 ≤ sizeLine; decide), ?_⟩
        walk_at "new1"
        have w1 : WAt a H1 (.ref p1) := WAt.of src n1 (v := [71, 0, 30, 0]) h1 (wr_d _) (by decide) (by decide)
        refine ⟨(by show 4 ≤ sizeLine; decide), ?_⟩
        walk_at "new2"
        have t2 := src.same s1
        have w2 : WAt a H2 (.ref p2) := WAt.of t2 n2 (v := [71, 1, 0, 5]) h2 (wr_b 5) (by decide) (by decide)
        refine ⟨(by show 4 ≤ sizeLine; decide), ?_⟩
        walk_at "new3"
        have t3 := t2.same s2
        have w3 : WAt a H3 (.ref p3) := WAt.of t3 n3 (v := [45, 0, 0, 1]) h3 (wr_e (.inr (by decide))) (by decide) (by decide)
        refine ⟨(by show 4 ≤ sizeLine; decide), ?_⟩
        walk_at "new4"
        have t4 := t3.same s3
        have w4 : WAt a H4 (.ref p4) := WAt.of t4 n4 (v := [45, 0, 1, 0]) h4 (wr_e (.inl (by decide))) (by decide) (by decide)
        refine ⟨(by show 6 ≤ sizeLine; decide), ?_⟩
        walk_at "new5"
        have t5 := t4.same s4
        have w5 : WAt a H5 (.ref p5) := WAt.of t5 n5 (v := [71, 0, 71, 1, 30, 0]) h5 (wr_d _) (by decide) (by decide)
        refine ⟨(by show 5 ≤ sizeLine; decide), ?_⟩
        walk_at "new6"
        have ss := ((((s1.trans s2).trans s3).trans s4).trans s5).trans s6
        refine ⟨p8, p6, _, _, rfl, rfl, ss _ _ hS, h6, Nat.le_trans (Nat.add_le_add_right lS 5) (by decide), ?_⟩
        walk_at "new7"
        have sB := ss.trans s7
        have W : WsAt a H7 (xs ++ [.ref p1, .ref p2, .ref p3, .ref p4, .ref p5]) := (W.same sB).app (.cons (w1.same ((((s2.trans s3).trans s4).trans s5).trans (s6.trans s7))) (.cons (w2.same (((s3.trans s4).trans s5).trans (s6.trans s7))) (.cons (w3.same ((s4.trans s5).trans (s6.trans s7))) (.cons (w4.same (s5.trans (s6.trans s7))) (.cons (w5.same (s6.trans s7)) .nil)))))
        have src := src.same sB
        have hT := hT.same sB
        have B := B.trans (But.of sB)
        obtain ⟨xs2, hS2, W, lS, nS⟩ : ∃ xs : List V, H7 p7 = some (.lst xs) ∧ WsAt a H7 xs ∧ xs.length ≤ 9 ∧ xs ≠ [] := ⟨_, h7, W, by rw [List.length_append]; exact Nat.add_le_add_right lS 5, by simp⟩
        clear hS w1 w2 w3 w4 w5 t2 t3 t4 t5 ss sB h1 h2 h3 h4 h5 h6 h7 n1 n2 n3 n4 n5 n6 n7 s1 s2 s3 s4 s5 s6 s7
        -- LOAD_ATTR, the last cache wrong
        refine ⟨_, rfl, (by show 2 ≤ sizeLine; decide), ?_⟩
        walk_at "new1"
        refine ⟨(by show 1 ≤ sizeLine; decide), ?_⟩
        walk_at "new2"
        refine ⟨p2, _, _, rfl, rfl, h2, by decide, by decide, by decide, ?_⟩
        walk_at "new3"
        refine ⟨p1, p3, _, _, rfl, rfl, (s2.trans s3) _ _ h1, h3, by decide, ?_⟩
        walk_at "new4"
        refine ⟨(by show 1 ≤ sizeLine; decide), ?_⟩
        walk_at "new5"
        refine ⟨p4, p5, _, _, rfl, rfl, s5 _ _ h4, h5, by decide, ?_⟩
        walk_at "new6"
        have t6 := ((((src.same s1).same s2).same s3).same s4).same s5
        have w6 : WAt a H6 (.ref p6) := WAt.of t6 n6 (v := [82, 0] ++ List.replicate 17 0 ++ [9]) (by rw [h6]; rfl) wr_f (by decide) (by decide)
        refine ⟨(by show 1 ≤ sizeLine; decide), ?_⟩
        walk_at "new8"
        have ss := (((((s1.trans s2).trans s3).trans s4).trans s5).trans s6).trans s8
        refine ⟨p7, p8, _, _, rfl, rfl, ss _ _ hS2, h8, Nat.le_trans (Nat.add_le_add_right lS 1) (by decide), ?_⟩
        walk_at "new9"
        have sB := ss.trans s9
        have W : WsAt a H9 (xs2 ++ [.ref p6]) := (W.same sB).app (.cons (w6.same (s8.trans s9)) .nil)
        have src := src.same sB
        have hT := hT.same sB
        have B := B.trans (But.of sB)
        obtain ⟨xs3, hS3, W, lS, nS⟩ : ∃ xs : List V, H9 p9 = some (.lst xs) ∧ WsAt a H9 xs ∧ xs.length ≤ 10 ∧ xs ≠ [] := ⟨_, h9, W, by rw [List.length_append]; exact Nat.add_le_add_right lS 1, by simp⟩
        clear hS2 w6 t6 ss sB h1 h2 h3 h4 h5 h6 h8 h9 n1 n2 n3 n4 n5 n6 n8 n9 s1 s2 s3 s4 s5 s6 s8 s9
        -- a word and a number too great
        refine ⟨_, rfl, (by show 2 ≤ sizeLine; decide), ?_⟩
        walk_at "new1"
        refine ⟨(by show 2 ≤ sizeLine; decide), ?_⟩
        walk_at "new2"
        refine ⟨(by show 2 ≤ sizeLine; decide), ?_⟩
        walk_at "new3"
        refine ⟨(by show 2 ≤ sizeLine; decide), ?_⟩
        walk_at "new4"
        refine ⟨(by show 4 ≤ sizeLine; decide), ?_⟩
        walk_at "new5"
        have tA : TupsAt wp H5 [.ref p1, .ref p2, .ref p3, .ref p4] wA := ⟨⟨p1, rfl, (((s2.trans s3).trans s4).trans s5) _ _ h1⟩, ⟨p2, rfl, ((s3.trans s4).trans s5) _ _ h2⟩, ⟨p3, rfl, (s4.trans s5) _ _ h3⟩, ⟨p4, rfl, s5 _ _ h4⟩, trivial⟩
        have s14 := ((s1.trans s2).trans s3).trans s4
        have sA := s14.trans s5
        have src5 := src.same sA
        refine ⟨⟨a, p5, _, rfl, src5, h5, List.cons_ne_nil _ _, (by show 4 ≤ 1000; decide), fun v J hv b t1 => ?_⟩, fun b c e => by cases e; exact (src.same s14).ne0 n5⟩
        obtain ⟨_, _, _, ea, _⟩ := id src5
        obtain ⟨q, c, hc, rfl, hq⟩ := pick (tA.but b ea) hv
        obtain ⟨cr, cn⟩ := wA_in c hc
        refine ⟨q, _, rfl, SqT.of hq, rfl, _, _, rfl, _, _, rfl, rfl, ?_⟩
        have bb := (But.of (a := a) sA).trans b
        have n9 : p9 ≠ a := fun z => by
          obtain ⟨x1, x2, x3, e, _⟩ := id src
          obtain ⟨x, hx⟩ := List.exists_mem_of_ne_nil _ nS
          obtain ⟨_, _, e2, _⟩ := W x hx
          rw [← z, hS3] at e
          injection e with e
          injection e with e
          rw [e] at hx
          simp only [List.mem_cons, List.mem_nil_iff, or_false] at hx
          rcases hx with rfl | rfl | rfl <;> cases e2
        have hS3 := bb _ _ n9 hS3
        have W := W.but bb
        obtain ⟨_, _, _, esa, _⟩ := id src
        have hT := hT.but bb esa
        clear esa
        have B := B.trans bb
        clear hq hv tA src5 ea b bb sA s14 h1 h2 h3 h4 h5 n1 n2 n3 n4 n5 s1 s2 s3 s4 s5 src
        -- packed
        refine ⟨_, rfl, _, rfl, _, rfl, _, rfl, _, rfl, a, 3, rfl, t1, by decide, by decide, fun x J2 x0 x1 b2 t2 => ?_⟩
        obtain ⟨d, rfl⟩ : ∃ d : Nat, x = (d : Int) := ⟨x.toNat, by omega⟩
        obtain ⟨_, _, _, ea, _⟩ := id t1
        have hT := hT.but b2 ea
        have W := W.but b2
        have hS3 := b2 _ _ n9 hS3
        have B := B.trans b2
        refine ⟨_, _, rfl, rfl, t, c.1, c.2 + d, rfl, hT, cr, by omega, fun p1 H1 n1 s1 h1 => ?_⟩
        have w1 : WAt a H1 (.ref p1) := WAt.of t2 n1 h1 (wr_pk cr (by omega) (wA_no hc d)) (pk_byte cr) (Nat.le_trans (pk_short cr (by omega)) (by decide))
        refine ⟨(by show 1 ≤ sizeLine; decide), ?_⟩
        walk_at "new2"
        refine ⟨p9, p2, _, _, rfl, rfl, (s1.trans s2) _ _ hS3, h2, Nat.le_trans (Nat.add_le_add_right lS 1) (by decide), ?_⟩
        walk_at "new3"
        have sB := (s1.trans s2).trans s3
        have W : WsAt a H3 (xs3 ++ [.ref p1]) := (W.same sB).app (.cons (w1.same (s2.trans s3)) .nil)
        have src := t2.same sB
        have hT := hT.same sB
        have B := B.trans (But.of sB)
        have n3a : p3 ≠ a := (t2.same (s1.trans s2)).ne0 n3
        obtain ⟨xs4, hS4, W, lS, nS⟩ : ∃ xs : List V, H3 p3 = some (.lst xs) ∧ WsAt a H3 xs ∧ xs.length ≤ 11 ∧ xs ≠ [] := ⟨_, h3, W, by rw [List.length_append]; exact Nat.add_le_add_right lS 1, by simp⟩
        clear hS3 w1 h1 h2 h3 n1 n2 n3 s1 s2 s3 sB t1 t2 b2 ea n9 cr cn hc x0 x1
        -- the same once more
        refine ⟨_, rfl, (by show 2 ≤ sizeLine; decide), ?_⟩
        walk_at "new1"
        refine ⟨(by show 2 ≤ sizeLine; decide), ?_⟩
        walk_at "new2"
        refine ⟨(by show 2 ≤ sizeLine; decide), ?_⟩
        walk_at "new4"
        refine ⟨(by show 2 ≤ sizeLine; decide), ?_⟩
        walk_at "new5"
        refine ⟨(by show 4 ≤ sizeLine; decide), ?_⟩
        walk_at "new6"
        have tA : TupsAt wp H6 [.ref p1, .ref p2, .ref p4, .ref p5] wB := ⟨⟨p1, rfl, (((s2.trans s4).trans s5).trans s6) _ _ h1⟩, ⟨p2, rfl, ((s4.trans s5).trans s6) _ _ h2⟩, ⟨p4, rfl, (s5.trans s6) _ _ h4⟩, ⟨p5, rfl, s6 _ _ h5⟩, trivial⟩
        have s14 := ((s1.trans s2).trans s4).trans s5
        have sA := s14.trans s6
        have src5 := src.same sA
        refine ⟨⟨a, p6, _, rfl, src5, h6, List.cons_ne_nil _ _, (by show 4 ≤ 1000; decide), fun v J hv b t1 => ?_⟩, fun b c e => by cases e; exact (src.same s14).ne0 n6⟩
        obtain ⟨_, _, _, ea, _⟩ := id src5
        obtain ⟨q, c, hc, rfl, hq⟩ := pick (tA.but b ea) hv
        obtain ⟨cr, cn⟩ := wB_in c hc
        refine ⟨q, _, rfl, SqT.of hq, rfl, _, _, rfl, _, _, rfl, rfl, ?_⟩
        have bb := (But.of (a := a) sA).trans b
        have hS4 := bb _ _ n3a hS4
        have W := W.but bb
        obtain ⟨_, _, _, esa, _⟩ := id src
        have hT := hT.but bb esa
        clear esa
        have B := B.trans bb
        clear hq hv tA src5 ea b bb sA s14 h1 h2 h4 h5 h6 n1 n2 n4 n5 n6 s1 s2 s4 s5 s6 src
        refine ⟨_, rfl, _, rfl, _, rfl, _, rfl, t, c.1, c.2, rfl, hT, cr, by omega, fun p1 H1 n1 s1 h1 => ?_⟩
        have w1 : WAt a H1 (.ref p1) := WAt.of t1 n1 h1 (wr_pk cr (by omega) (wB_no hc)) (pk_byte cr) (Nat.le_trans (pk_short cr (by omega)) (by decide))
        refine ⟨(by show 1 ≤ sizeLine; decide), ?_⟩
        walk_at "new2"
        refine ⟨p3, p2, _, _, rfl, rfl, (s1.trans s2) _ _ hS4, h2, Nat.le_trans (Nat.add_le_add_right lS 1) (by decide), ?_⟩
        walk_at "new4"
        have sB := (s1.trans s2).trans s4
        have W : WsAt a H4 (xs4 ++ [.ref p1]) := (W.same sB).app (.cons (w1.same (s2.trans s4)) .nil)
        have src := t1.same sB
        have hT := hT.same sB
        have B := B.trans (But.of sB)
        have n4a : p4 ≠ a := (t1.same (s1.trans s2)).ne0 n4
        obtain ⟨xs5, hS5, W, lS, nS⟩ : ∃ xs : List V, H4 p4 = some (.lst xs) ∧ WsAt a H4 xs ∧ xs.length ≤ 12 ∧ xs ≠ [] := ⟨_, h4, W, by rw [List.length_append]; exact Nat.add_le_add_right lS 1, by simp⟩
        clear hS4 w1 h1 h2 h4 n1 n2 n4 s1 s2 s4 sB t1 n3a cr cn hc
        -- a pair
        refine ⟨_, rfl, (by show 5 ≤ sizeLine; decide), ?_⟩
        walk_at "new1"
        refine ⟨⟨a, p1, _, rfl, src.same s1, h1, List.cons_ne_nil _ _, (by show 5 ≤ 1000; decide), fun v J hv b t1 => ?_⟩, fun b c e => by cases e; exact src.ne0 n1⟩
        obtain ⟨n, rfl, hn, nm⟩ := pair_no hv
        have bb := (But.of (a := a) s1).trans b
        have hS5 := bb _ _ n4a hS5
        have W := W.but bb
        obtain ⟨_, _, _, esa, _⟩ := id src
        have hT := hT.but bb esa
        clear esa
        have B := B.trans bb
        clear hv b bb s1 h1 n1 src
        refine ⟨_, rfl, _, rfl, _, rfl, _, rfl, t, rLL, n, rfl, hT, rLL_in, by omega, fun p1 H1 n1 s1 h1 => ?_⟩
        have w1 : WAt a H1 (.ref p1) := WAt.of t1 n1 h1 (wr_pk rLL_in (by omega) nm) (pk_byte rLL_in) (Nat.le_trans (pk_short rLL_in (by omega)) (by decide))
        refine ⟨(by show 1 ≤ sizeLine; decide), ?_⟩
        walk_at "new2"
        refine ⟨p2, _, _, rfl, rfl, h2, by decide, by decide, (by show 1 * 2 ≤ sizeLine; decide), ?_⟩
        walk_at "new3"
        refine ⟨p4, p3, _, _, rfl, rfl, ((s1.trans s2).trans s3) _ _ hS5, h3, Nat.le_trans (Nat.add_le_add_right lS 2) (by decide), ?_⟩
        walk_at "new5"
        have s13 := (s1.trans s2).trans s3
        have sB := s13.trans s5
        have W : WsAt a H5 (xs5 ++ [.ref p1, .ref p1]) := (W.same sB).app (.cons (w1.same ((s2.trans s3).trans s5)) (.cons (w1.same ((s2.trans s3).trans s5)) .nil))
        refine ⟨⟨a, p5, _, rfl, t1.same sB, h5, ?_, ?_, fun v J2 hv b2 t2 => ?_⟩, fun b c e => by cases e; exact (t1.same s13).ne0 n5⟩
        · simp [nS]
        · rw [List.length_append]
          exact Nat.le_trans (Nat.add_le_add_right lS 2) (by decide)
        obtain ⟨p, l, rfl, pa, hp, wr, wb, wl⟩ := W v hv
        exact k p l J2 wr wb wl pa ((B.trans (But.of sB)).trans b2) t2 (b2 _ _ pa hp)
end
end K58
set_option maxHeartbeats 4000000
/-! ### what laws with lambdas and slices need -/
namespace Nd
open PySem PySem.Spec PyProof.Rows L2
theorem cut_take (xs : List V) {k : Nat} (h : k ≤ xs.length) : cutV xs none (some (k : Int)) = xs.take k := by
  unfold cutV
  rw [HT.sIx_none, HT.sIx_nat]
  simp [Nat.min_eq_left h]
theorem cut_drop (xs : List V) {k : Nat} (h : k ≤ xs.length) : cutV xs (some (k : Int)) none = xs.drop k := by
  unfold cutV
  rw [HT.sIx_none, HT.sIx_nat, Nat.min_eq_left h]
  exact List.take_of_length_le (by rw [List.length_drop]; exact Nat.le_refl _)
theorem TupsAt.takeN {α : Type} {f : α → List V} {H : Hp} : ∀ {xs : List V} {rs : List α} (k : Nat), TupsAt f H xs rs → TupsAt f H (xs.take k) (rs.take k)
  | _, _, 0, _ => trivial
  | [], [], _ + 1, _ => trivial
  | [], _ :: _, _ + 1, h => False.elim h
  | _ :: _, [], _ + 1, h => False.elim h
  | x :: xs, r :: rs, k + 1, ⟨h, t⟩ => ⟨h, TupsAt.takeN k t⟩
theorem pe_cx0 {X : Cx} {k j : Nat} {x : Str} {sp : Sp} {p pos : Pos} (c : CalX X.prog X.w X.K X.mg X.base k x sp) (hr : Room j X.A) (hk : k ≤ j) (hg : Gl X x) (hdb : (x == ("__debug__" : Str)) = false := by decide) :
    PE X (.Call (.Name x p) [] [] pos) (tCall sp [] E0 tNil) := by
  obtain ⟨f, fd, ps, F, hm, kp, b⟩ := c.ex
  exact pe_call0 F (hr.mono hk) hg hm kp b .nil passL hdb
theorem Tabs_but {H H' : Hp} {T : List (Addr × Str)} {a : Addr} {ys : List V} (h : LamX.Tabs T H) (b : But a H H') (ha : H a = some (.lst ys)) : LamX.Tabs T H' := fun p hp => by
  obtain ⟨ps, h1, h2, h3⟩ := h p hp
  refine ⟨ps, b _ _ (fun z => by rw [z, ha] at h1; cases h1) h1, h2, fun pos cv hc => ?_⟩
  obtain ⟨c, e1, e2⟩ := h3 pos cv hc
  exact ⟨c, e1, b _ _ (fun z => by rw [z, ha] at e2; cases e2) e2⟩
theorem TyX.ext {K : PySem.W.Frag} {H H' : Hp} {x : V} {t : Value} (s : LamX.ExtN H H') (h : TyX K H x t) : TyX K H' x t := by
  cases h with
  | base b =>
    refine .base ?_
    cases b with
    | non => exact .non
    | bl y => exact .bl y
    | int i => exact .int i
    | str y => exact .str y
    | flt y => exact .flt y
    | lst e => exact .lst (s _ _ e fun _ z => by cases z)
    | frz e => exact .frz (s _ _ e fun _ z => by cases z)
    | tup e => exact .tup (s _ _ e fun _ z => by cases z)
    | dK e => exact .dK (s _ _ e fun _ z => by cases z)
    | dT e => exact .dT (s _ _ e fun _ z => by cases z)
    | ins e c1 c2 c3 c4 c5 => exact .ins (s _ _ e fun _ z => by cases z) c1 c2 c3 c4 c5
  | byt b => exact .byt b
  | set e => exact .set (s _ _ e fun _ z => by cases z)
  | kList e c => exact .kList e c
  | kTuple e c => exact .kTuple e c
  | kDict e c => exact .kDict e c
  | fTuple e => exact .fTuple (s _ _ e fun _ z => by cases z)
  | fDict e => exact .fDict (s _ _ e fun _ z => by cases z)
theorem cutV_mem {l : List V} {lo hi : Option Int} {x : V} (h : x ∈ cutV l lo hi) : x ∈ l := by
  unfold cutV at h
  exact List.mem_of_mem_drop (List.mem_of_mem_take h)
theorem ScrL.same {K : PySem.W.Frag} {H H' : Hp} {a : Addr} {xs : List V} (s : Same H H') (h : ScrL K H a xs) : ScrL K H' a xs := by
  rcases h with ⟨vs, h⟩ | h
  · exact .inl ⟨vs, s _ _ h⟩
  · exact .inr h
end Nd
set_option maxHeartbeats 4000000
set_option pp.maxSteps 600
namespace K58
open PySem PySem.Spec PyProof.Rows L2 Nd
abbrev s_law_caught : Stmt := top 57
/-- what is asked of the errors -/
structure GlE (K : PySem.W.Frag) (mg : Str → Option Value) (Cn : Addr) : Prop where
  exc : ExcC K Cn
  xf : XfC K Cn
  ce : ∃ CE : Addr, mg "CodeError" = some (.ref CE) ∧ PySem.W.kitOne K (.ref Cn) (.ref CE) = some true
  kV : PySem.W.kitOne K (.ref Cn) (.type "ValueError") = some true
  n_ValueError : mg "ValueError" = none
  n_isinstance : mg "isinstance" = none
  exm : PySem.W.exmOne K (.ref Cn) (.ref Cn) = some true
  gT : ∃ c : Addr, mg "NoTable" = some (.ref c)
  gR : ∃ c : Addr, mg "NoRows" = some (.ref c)
  gB : ∃ c : Addr, mg "NoBytes" = some (.ref c)
/-- told of «code» -/
def errTold (Cn : Addr) (Q : VK) : XK := fun cls d H' => cls = .ref Cn ∧ ∃ dd, d = some dd ∧ H' dd = some (.xd [("field", .str "code")]) ∧ ∀ p, H' p = none → Q (.ref p) (upd H' p (.tup [.str "code", .str "code"]))
def TTc (Cn : Addr) : (XK → Hp → VK → Prop) → Hp → VK → Prop := fun tl H Q => tl (errTold Cn Q) H (fun _ H' => Q .non H')
abbrev N_law_caught : List Str := ["ask", "e"]
theorem sc_law_caught : FnScope N_law_caught ["ask"] (defScope s_law_caught) := ⟨rfl, rfl, rfl, by decide +kernel, rfl, by decide +kernel, by decide +kernel⟩
theorem caught_gives {X : Cx} {g : Addr} {cdg : Value} {q : Str} {P : Program} {Cc Cn fI : Addr} (G : GlK P X.K X.mg Cc Cn fI) (GE : GlE X.K X.mg Cn) :
    LamX.GivesTo X N_law_caught "_law_caught" (defScope s_law_caught) g cdg (defBody s_law_caught) "ask" q (TTc Cn) := by
  obtain ⟨CE, gCE, kCE⟩ := GE.ce
  obtain ⟨cT, gT⟩ := GE.gT
  obtain ⟨cR, gR⟩ := GE.gR
  obtain ⟨cB, gB⟩ := GE.gB
  intro f c' s H Q tl act hc h
  refine ⟨_, pss_cons (ps_try_all (X := (cxOf C8.CX0 X.prog X.w X.K X.mg X.base N_law_caught "_law_caught" (defScope s_law_caught) g cdg X.A X.stack s H C8.E0).nox) (i := 1) (n := "e") (Wout := fun _ _ _ _ => False)
      (tb := fun W D σ H => ∃ Ech : XK, (∀ cls d σ' H', Ech cls d H' → W cls d σ' H') ∧ σ[0]? = some (some (.ref f)) ∧ H c' = some (LamX.CodeO c' q) ∧ tl Ech H (fun _ H' => D.nx σ H'))
      rfl rfl sc_law_caught.nd rfl rfl LamX.takes0 (fun W pn xe tk _ => ?_)
      (HdAs.cons (c := .ref Cn) ⟨rfl, by decide, .inl G.gN⟩ (fun a oe cls d pn hz hf => pss_one (ps_ret (pe_ifExp (PW.pt (pw_and (pt_val (pe_callB (call_isX hz hf) (by rfl) GE.n_isinstance Boot.«isinstance» (pa_cons (pv 1) (pa_cons (C8.pe_gc (v := .ref CE) rfl ⟨_, gCE, rfl⟩) pa_nil))))
          (pw_and1 (pt_val (pe_callB (call_isX hz hf) (by rfl) GE.n_isinstance Boot.«isinstance» (pa_cons (pv 1) (pa_cons (pe_bltn (v := .ty "ValueError") (by rfl) GE.n_ValueError Boot.«ValueError» rfl) pa_nil)))))))
          (pe_tup (pa_cons pe_str (pa_cons (pe_xf GE.xf G.nx.noN hz hf (pv 1)) pa_nil))) pe_non)))
      (HdAs.cons (c := .ref cT) ⟨rfl, by decide, .inl gT⟩ (fun a oe cls d pn hz hf => pss_never)
      (HdAs.cons (c := .ref cR) ⟨rfl, by decide, .inl gR⟩ (fun a oe cls d pn hz hf => pss_never)
      (HdAs.cons (c := .ref cB) ⟨rfl, by decide, .inl gB⟩ (fun a oe cls d pn hz hf => pss_never) .nil)))))
      (pss_one (ps_ret pe_non)), ?_⟩
  · refine ⟨fun pins s' σ H' D I h' => ?_⟩
    obtain ⟨Ech, hW, h1, h2, h3⟩ := h'
    exact (pss_one (ps_expr (act W pn xe Ech _ _ tk hW))).run pins s' σ H' D I ⟨h1, h2, h3⟩
  · refine ⟨errTold Cn Q, fun cls d σ' H' ⟨e1, dd, e2, e3, e4⟩ => ?_, rfl, hc, h⟩
    subst e1
    refine ⟨true, GE.exm, fun _ a na hlen => ?_, fun z => by cases z⟩
    obtain ⟨y0, y1, rfl⟩ : ∃ y0 y1, σ' = [y0, y1] := by
      match σ', hlen with
      | [y0, y1], _ => exact ⟨y0, y1, rfl⟩
    refine ⟨_, rfl, Cn, dd, _, V.ref CE, .ref CE, true, rfl, GE.exc, e2, e3, rfl, fun u r => r, kCE, _, rfl, iteT ?_⟩
    refine ⟨_, rfl, Cn, dd, _, V.ty "ValueError", .type "ValueError", true, rfl, GE.exc, e2, e3, rfl, fun u r => r, GE.kV, _, rfl, iteT ?_⟩
    exact ⟨_, rfl, rfl, rfl, dd, _, _, e2, e3, rfl, (by show 2 ≤ sizeLine; decide), fun p np => e4 p np⟩
theorem Odd.ext {K : PySem.W.Frag} {H H' : Hp} {x : V} (s : LamX.ExtN H H') (h : Odd K H x) : Odd K H' x := by
  obtain ⟨t, m, h⟩ := h
  exact ⟨t, m, TyX.ext s h⟩
end K58
set_option maxHeartbeats 4000000
set_option pp.maxSteps 600
namespace K58
open PySem PySem.Spec PyProof.Rows L2 Nd
/-! ### the law -/
abbrev s_law : Stmt := top 61
theorem TabAt.ext {H H' : Hp} {t : Addr} (s : LamX.ExtN H H') (h : TabAt H t) : TabAt H' t := by
  obtain ⟨kvs, t1, t2⟩ := h
  exact ⟨kvs, s _ _ t1 (fun _ z => by cases z), t2.mono fun _ _ e => s _ _ e (fun _ z => by cases z)⟩
theorem CodeAt.ext {Cc : Addr} {H H' : Hp} {c : Addr} {D : CD} {m : Int} (s : LamX.ExtN H H') (h : CodeAt Cc H c D m) : CodeAt Cc H' c D m := by
  obtain ⟨dx, fs, h0, h1, h2, h3, h4, ⟨t5, h5, g5⟩, ⟨t6, h6, g6⟩, ⟨t7, h7, g7⟩, ⟨t8, h8, g8⟩, ⟨t9, h9, g9⟩, h10, h11, h12, ⟨t13, h13, g13⟩, ⟨t14, h14, g14⟩, h15⟩ := h
  exact ⟨dx, fs, s _ _ h0 (fun _ z => by cases z), h1, h2, h3, h4, ⟨t5, h5, s _ _ g5 (fun _ z => by cases z)⟩, ⟨t6, h6, s _ _ g6 (fun _ z => by cases z)⟩, ⟨t7, h7, s _ _ g7 (fun _ z => by cases z)⟩, ⟨t8, h8, s _ _ g8 (fun _ z => by cases z)⟩, ⟨t9, h9, s _ _ g9 (fun _ z => by cases z)⟩, h10, h11, h12, ⟨t13, h13, s _ _ g13 (fun _ z => by cases z)⟩, ⟨t14, h14, s _ _ g14 (fun _ z => by cases z)⟩, h15⟩
def lamQ : Str := (envOfC "law" (defScope s_law) 0 0 .none).qual ++ "<lambda>"
abbrev Zc : Type := Addr × (Rw × Nat)
/-- the chunks of the law -/
def ChAt (a D : Addr) (H : Hp) (z : Zc) : Prop := z.1 ≠ a ∧ z.1 ≠ D ∧ H z.1 = some (.lst ((pk z.2.1 z.2.2).map V.int)) ∧ ChOk z.2
def zV (zs : List Zc) : List V := zs.map fun z => .ref z.1
def zL (zs : List Zc) : List (Addr × List V) := zs.map fun z => (z.1, (pk z.2.1 z.2.2).map V.int)
def zC (zs : List Zc) : List Int := chs (zs.map (·.2))
theorem zL_flat : ∀ zs : List Zc, ((zL zs).map (·.2)).flatten = (zC zs).map V.int
  | [] => rfl
  | z :: t => by
    have h := zL_flat t
    show (pk z.2.1 z.2.2).map V.int ++ ((zL t).map (·.2)).flatten = (pk z.2.1 z.2.2 ++ zC t).map V.int
    rw [h, List.map_append]
theorem zL_V (zs : List Zc) : (zL zs).map (fun p => V.ref p.1) = zV zs := by
  unfold zL zV
  rw [List.map_map]
  rfl
theorem pk_bts {c : Rw × Nat} (h : ChOk c) : ∀ x ∈ pk c.1 c.2, 0 ≤ x ∧ x ≤ 255 := pk_byte h.1
theorem zC_ok : ∀ {zs : List Zc}, (∀ z ∈ zs, ChOk z.2) → (∀ x ∈ zC zs, 0 ≤ x ∧ x ≤ 255) ∧ (zC zs).length ≤ 26 * zs.length
  | [], _ => ⟨(fun x hx => by cases hx), Nat.le_refl _⟩
  | z :: t, h => by
    obtain ⟨h1, h2⟩ := zC_ok (zs := t) fun y hy => h y (List.mem_cons_of_mem _ hy)
    obtain ⟨g1, g2, g3⟩ := h z (List.mem_cons_self ..)
    refine ⟨fun x hx => ?_, ?_⟩
    · rcases List.mem_append.mp (show x ∈ pk z.2.1 z.2.2 ++ zC t from hx) with q | q
      · exact pk_byte g1 x q
      · exact h1 x q
    · show (pk z.2.1 z.2.2 ++ zC t).length ≤ _
      have := pk_short g1 g2
      rw [List.length_append, List.length_cons]
      omega
structure St (Pt pl t ps D : Addr) (cells : List V) (zs : List Zc) (H : Hp) : Prop where
  np : pl ≠ ps
  nd : D ≠ ps
  nl : D ≠ pl
  L : H pl = some (.lst cells)
  T : TabAt H t
  S : Src H ps
  G : H D = some (.lst (zV zs))
  R : ∀ z ∈ zs, ChAt ps D H z
  B : LamX.Tabs [(Pt, lamQ)] H
section
variable {Pt pl t ps D : Addr} {cells : List V} {zs : List Zc} {H H' : Hp}
theorem St.ext (h : St Pt pl t ps D cells zs H) (s : LamX.ExtN H H') (B' : LamX.Tabs [(Pt, lamQ)] H') : St Pt pl t ps D cells zs H' := by
  obtain ⟨np, nd, nl, L, T, ⟨x, y, z, e, q⟩, G, R, B⟩ := h
  exact ⟨np, nd, nl, s _ _ L (fun _ z => by cases z), T.ext s, ⟨x, y, z, s _ _ e (fun _ z => by cases z), q⟩, s _ _ G (fun _ z => by cases z), fun z hz => ⟨(R z hz).1, (R z hz).2.1, s _ _ (R z hz).2.2.1 (fun _ z => by cases z), (R z hz).2.2.2⟩, B'⟩
theorem St.same (h : St Pt pl t ps D cells zs H) (s : Same H H') : St Pt pl t ps D cells zs H' := h.ext (LamX.ExtN.of s) (h.B.ext s)
theorem St.but (h : St Pt pl t ps D cells zs H) (b : But ps H H') (s : Src H' ps) : St Pt pl t ps D cells zs H' := by
  obtain ⟨np, nd, nl, L, T, S, G, R, B⟩ := h
  obtain ⟨x, y, z, e, _⟩ := id S
  exact ⟨np, nd, nl, b _ _ np L, T.but b e, s, b _ _ nd G, fun z hz => ⟨(R z hz).1, (R z hz).2.1, b _ _ (R z hz).1 (R z hz).2.2.1, (R z hz).2.2.2⟩, Tabs_but B b e⟩
theorem St.snoc {z : Zc} (h : St Pt pl t ps D cells zs H) (hz : ChAt ps D H z) : St Pt pl t ps D cells (zs ++ [z]) (upd H D (.lst (zV zs ++ [.ref z.1]))) := by
  obtain ⟨np, nd, nl, L, T, ⟨x, y, z0, e0, q⟩, G, R, B⟩ := h
  have b : But D H (upd H D (.lst (zV zs ++ [.ref z.1]))) := fun q o n e => by rw [upd_ne n]; exact e
  refine ⟨np, nd, nl, b _ _ nl.symm L, T.but b G, ⟨x, y, z0, b _ _ nd.symm e0, q⟩, ?_, fun y hy => ?_, Tabs_but B b G⟩
  · rw [upd_same]
    unfold zV
    rw [List.map_append]
    rfl
  · rcases List.mem_append.mp hy with u | u
    · exact ⟨(R y u).1, (R y u).2.1, b _ _ (R y u).2.1 (R y u).2.2.1, (R y u).2.2.2⟩
    · rw [List.mem_singleton.mp u]
      exact ⟨hz.1, hz.2.1, b _ _ hz.2.1 hz.2.2.1, hz.2.2.2⟩
theorem St.ok (h : St Pt pl t ps D cells zs H) : ∀ z ∈ zs, ChOk z.2 := fun z hz => (h.R z hz).2.2.2
theorem St.lists (h : St Pt pl t ps D cells zs H) : ∀ p ∈ zL zs, H p.1 = some (.lst p.2) := fun p hp => by
  obtain ⟨z, hz, rfl⟩ := List.mem_map.mp hp
  exact (h.R z hz).2.2.1
end
/-- all that the law calls -/
structure Cals (P : Program) (w : World) (K : PySem.W.Frag) (mg : Str → Option Value) (base : Heap) (Cc Cn : Addr) : Prop where
  table : CalX P w K mg base 1 "_law_table" spTable
  source_of : CalX P w K mg base 1 "_law_source_of" spSource
  next : CalX P w K mg base 1 "_law_next" spNext
  good : CalX P w K mg base 3 "_law_good" spLGood
  wrong : CalX P w K mg base 3 "_law_wrong" spLWrong
  made : CalX P w K mg base 7 "_law_made" (spMade Cc)
  instr : CalX P w K mg base 5 "instructions" (spInstr K Cc Cn)
structure Gw (mg : Str → Option Value) : Prop where
  n_sum : mg "sum" = none
def spLaw (K : PySem.W.Frag) (Pt : Addr) : Sp := fun vs H Q _ => ∃ (a : Addr) (ns : List Int), vs = [.ref a] ∧ ScrL K H a (ns.map V.int) ∧ ns.length ≤ 100000 ∧ LamX.Tabs [(Pt, lamQ)] H ∧ ∀ H', Q (.bl true) H'
abbrev N_law : List Str := ["script", "table", "cell", "source", "chunks", "turn", "at", "bad", "tail", "odd", "k"]
theorem sc_law : FnScope N_law ["script"] (defScope s_law) := ⟨rfl, rfl, rfl, by decide +kernel, rfl, by decide +kernel, by decide +kernel⟩
theorem room10 : Room 10 callerA := ⟨rfl, by decide, by decide⟩
/-- a code that cannot be told -/
def BadCode (d : List Int) : Prop := (cutAll d).2 ≠ none ∨ ∃ x ∈ (cutAll d).1, ¬ mK x.r.2.2.2 x.n.toNat
theorem BadCode.no {d : List Int} (h : BadCode d) (e1 : (cutAll d).2 = none) (e2 : ∀ x ∈ (cutAll d).1, rowOk (cdOf d) x) : False := h.elim (fun z => z e1) fun ⟨x, hx, z⟩ => z (e2 x hx)
theorem strs_a : isStrs ["a", "b", "c"] := strs_of (by decide +kernel) (by decide)
theorem strs_p : isStrs ["p", "q", "r", "s"] := strs_of (by decide +kernel) (by decide)
theorem tails_rg : ∀ e ∈ tails, (∀ x ∈ e, 0 ≤ x ∧ x ≤ 255) ∧ e.length ≤ 20 := by decide +kernel
theorem cc_eqv : PyData.eqv (.tuple [.str "code", .str "code"]) (.tuple [.str "code", .str "code"]) = true := by decide +kernel
section
variable {P : Program} {w : World} {K : PySem.W.Frag} {mg : Str → Option Value} {base : Heap} {Cc Cn fI fa c Pt : Addr}
theorem ok_law {g : Addr} {fdg : FuncData} {dV kV doc pm ct oc : Value} {an od : Option Addr} {osl : Array (Option Value)} (T : Gl0 mg) (T1 : Gw mg) (G : GlK P K mg Cc Cn fI) (GE : GlE K mg Cn) (C : Cals P w K mg base Cc Cn)
    (Fg : DefX K mg "_law_caught" s_law_caught ["ask"] g fdg)
    (lk : K.lookup fa = some ⟨oc, od, .func (PySem.W.fnOf "law" "law" (defArgs s_law) (defBody s_law) (defScope s_law) dV kV doc pm an (.ref c) ct), osl⟩) (hcd : PySem.W.codeIn K (.ref c) "law" = true)
    (hb : ∀ (s : Shared) (us : List Value), us.length = 1 → BindsTo s (PySem.W.fnOf "law" "law" (defArgs s_law) (defBody s_law) (defScope s_law) dV kV doc pm an (.ref c) ct) ⟨us, []⟩ ((["script"] : List Str).zip us))
    (TB : LamX.TabB base mg c Pt) : RunsAt P w K mg base fa (spLaw K Pt) := by
  obtain ⟨ocg, odg, dVg, kVg, docg, pmg, ang, cdg, ctg, oslg, rfl, lkg, hcg, _, _⟩ := Fg.fn.ex
  intro a s H e0 h
  refine LamX.run_ofS (CX := CX0) (N := N_law) (ps := ["script"]) (us := [.ref a]) (vs := [.ref a]) lk hcd sc_law (A := callerA) (outer := []) room10 e0 (hb s [.ref a] rfl) (.cons rfl .nil) rfl fun hr => ?_
  obtain ⟨a', ns, ea, hs, hlen, hT, k⟩ := h
  cases ea
  refine ⟨_, PSs.nox (pss_cons (ps_set (i := 1) sc_law.nd rfl (.inr rfl) (pe_cx0 C.table hr (by decide) rfl))
    (pss_cons (ps_for PassesOwn.never rfl (pi_list (pe_slice sl_list (pe_op op_catS (pv 0) (pe_lst (pa_cons pe_int pa_nil))) po_none (po_some pe_int))) (pg_name (i := 2) sc_law.nd rfl (.inl rfl))
      (pss_cons (ps_set (i := 3) sc_law.nd rfl (.inr rfl) (pe_cx C.source_of hr (by decide) rfl (pa_cons (pv 2) pa_nil)))
    (pss_cons (ps_setLc (i := 4) (y := "chunks") (own := [("k", 10)]) (g := gName 10) (tt := tYes) rfl sc_law.nd rfl rfl (sw_true rfl rfl rfl (by decide +kernel)) (pi_range1 (by rfl) T.n_range (pa_cons (pe_op op_add pe_int (pe_cx C.next hr (by decide) rfl (pa_cons (pv 3) (pa_cons pe_int pa_nil)))) pa_nil)) (blkOk_by (own := [("k", 10)]) (N := N_law) (sc := defScope s_law) (by decide +kernel)) (fun _ _ _ _ _ => (pg_name (i := 10) sc_law.nd rfl (Or.inl rfl))) (fun _ _ _ _ _ => pts_nil) (fun _ _ _ _ _ => (pe_cx C.good hr (by decide) rfl (pa_cons (pv 3) (pa_cons (pv 1) pa_nil)))))
    (pss_cons (ps_if (pt_cmpR op_lt (pe_callB call_len_seq (by rfl) T.n_len Boot.«len» (pa_cons (pe_cx C.instr hr (by decide) rfl (pa_cons (pe_cx C.made hr (by decide) rfl (pa_cons (pe_callB (cr_sumL rfl) (by rfl) T1.n_sum Boot.«sum» (pa_cons (pv 4) (pa_cons (pe_lst pa_nil) pa_nil))) pa_nil)) pa_nil)) pa_nil)) (pe_callB call_len_seq (by rfl) T.n_len Boot.«len» (pa_cons (pv 4) pa_nil)) (nomark _))
      (pss_one (ps_ret pe_bl))
      pss_nil)
    (pss_cons (ps_for PassesOwn.never rfl (pi_range1 (by rfl) T.n_range (pa_cons pe_int pa_nil)) (pg_name (i := 5) sc_law.nd rfl (.inl rfl))
      (pss_cons (ps_set (i := 6) sc_law.nd rfl (.inl rfl) (pe_cx C.next hr (by decide) rfl (pa_cons (pv 3) (pa_cons (pe_op op_add (pe_callB call_len_seq (by rfl) T.n_len Boot.«len» (pa_cons (pv 4) pa_nil)) pe_int) pa_nil))))
    (pss_cons (ps_set (i := 7) sc_law.nd rfl (.inr rfl) (pe_cx C.made hr (by decide) rfl (pa_cons (pe_callB (cr_sumL rfl) (by rfl) T1.n_sum Boot.«sum» (pa_cons (pe_op op_cat (pe_op op_cat (pe_slice sl_list (pv 4) po_none (po_some (pv 6))) (pe_lst (pa_cons (pe_cx C.wrong hr (by decide) rfl (pa_cons (pv 3) (pa_cons (pv 1) pa_nil))) pa_nil))) (pe_slice sl_list (pv 4) (po_some (pv 6)) po_none)) (pa_cons (pe_lst pa_nil) pa_nil))) pa_nil)))
    (pss_one (ps_if (pt_cmpR (op_neD hr.units) (LamX.pe_lamcall (k := 7) (T := [(Pt, lamQ)]) (TT := TTc Cn) (Ng := N_law_caught) (a := "ask") rfl Fg.mgf Fg.fn.kp lkg hcg Fg.bi sc_law_caught rfl (.inl rfl) (caught_gives G GE) TB rfl (List.mem_singleton.mpr rfl) (fun p hp _ => by rw [List.mem_singleton.mp hp]; rfl) hr (LamX.lamS_by (sc := defScope s_law) (by decide +kernel)) rfl (fun _ _ _ _ _ => rfl)
        (fun A outer s H E f c' hr' => pe_cr (E := E) C.instr hr' (by decide) rfl (passE (takes_of rfl rfl rfl rfl)) (pa_cons (pv 7) pa_nil))) (pe_tup (pa_cons pe_str (pa_cons pe_str pa_nil))) (nomark _))
      (pss_one (ps_ret pe_bl))
      pss_nil)))))
    (pss_cons (ps_for PassesOwn.never rfl (pi_tup (pe_tup (pa_cons (pe_lst (pa_cons pe_int pa_nil)) (pa_cons (pe_lst (pa_cons pe_int pa_nil)) (pa_cons (pe_lst (pa_cons pe_int (pa_cons pe_int pa_nil))) (pa_cons (pe_lst (pa_cons pe_int (pa_cons pe_int (pa_cons pe_int (pa_cons pe_int pa_nil))))) (pa_cons (pe_lst (pa_cons pe_int (pa_cons pe_int pa_nil))) (pa_cons (pe_lst (pa_cons pe_int (pa_cons pe_int (pa_cons pe_int pa_nil)))) (pa_cons (pe_op op_cat (pe_lst (pa_cons pe_int (pa_cons pe_int pa_nil))) (pe_op op_rep (pe_lst (pa_cons pe_int pa_nil)) pe_int)) (pa_cons (pe_lst (pa_cons pe_int (pa_cons pe_int (pa_cons pe_int (pa_cons pe_int (pa_cons pe_int pa_nil)))))) pa_nil)))))))))) (pg_name (i := 8) sc_law.nd rfl (.inl rfl))
      (pss_cons (ps_set (i := 7) sc_law.nd rfl (.inr rfl) (pe_cx C.made hr (by decide) rfl (pa_cons (pe_op op_cat (pe_callB (cr_sumL rfl) (by rfl) T1.n_sum Boot.«sum» (pa_cons (pv 4) (pa_cons (pe_lst pa_nil) pa_nil))) (pv 8)) pa_nil)))
    (pss_one (ps_if (pt_cmpR (op_neD hr.units) (LamX.pe_lamcall (k := 7) (T := [(Pt, lamQ)]) (TT := TTc Cn) (Ng := N_law_caught) (a := "ask") rfl Fg.mgf Fg.fn.kp lkg hcg Fg.bi sc_law_caught rfl (.inl rfl) (caught_gives G GE) TB rfl (List.mem_singleton.mpr rfl) (fun p hp _ => by rw [List.mem_singleton.mp hp]; rfl) hr (LamX.lamS_by (sc := defScope s_law) (by decide +kernel)) rfl (fun _ _ _ _ _ => rfl)
        (fun A outer s H E f c' hr' => pe_cr (E := E) C.instr hr' (by decide) rfl (passE (takes_of rfl rfl rfl rfl)) (pa_cons (pv 7) pa_nil))) (pe_tup (pa_cons pe_str (pa_cons pe_str pa_nil))) (nomark _))
      (pss_one (ps_ret pe_bl))
      pss_nil))))
    (pss_one (ps_for PassesOwn.never rfl (pi_tup (pe_tup (pa_cons pe_non (pa_cons pe_int (pa_cons pe_str (pa_cons (pe_lst pa_nil) (pa_cons (pe_lst (pa_cons pe_int (pa_cons pe_int pa_nil))) (pa_cons pe_bl (pa_cons pe_dnewK pa_nil))))))))) (pg_name (i := 9) sc_law.nd rfl (.inr rfl))
      (pss_one (ps_if (pt_cmpR (op_neD hr.units) (LamX.pe_lamcall (k := 7) (T := [(Pt, lamQ)]) (TT := TTc Cn) (Ng := N_law_caught) (a := "ask") rfl Fg.mgf Fg.fn.kp lkg hcg Fg.bi sc_law_caught rfl (.inl rfl) (caught_gives G GE) TB rfl (List.mem_singleton.mpr rfl) (fun p hp _ => by rw [List.mem_singleton.mp hp]; rfl) hr (LamX.lamS_by (sc := defScope s_law) (by decide +kernel)) rfl (fun _ _ _ _ _ => rfl)
        (fun A outer s H E f c' hr' => pe_cr (E := E) C.instr hr' (by decide) rfl (passE (takes_of rfl rfl rfl rfl)) (pa_cons (pv 9) pa_nil))) (pe_tup (pa_cons pe_str (pa_cons pe_str pa_nil))) (nomark _))
      (pss_one (ps_ret pe_bl))
      pss_nil))))))))))
    (pss_one (ps_ret (pe_cmpR (op_eqD hr.units) (LamX.pe_lamcall (k := 7) (T := [(Pt, lamQ)]) (TT := TTc Cn) (Ng := N_law_caught) (a := "ask") rfl Fg.mgf Fg.fn.kp lkg hcg Fg.bi sc_law_caught rfl (.inl rfl) (caught_gives G GE) TB rfl (List.mem_singleton.mpr rfl) (fun p hp _ => by rw [List.mem_singleton.mp hp]; rfl) hr (LamX.lamS_by (sc := defScope s_law) (by decide +kernel)) rfl (fun _ _ _ _ _ => rfl)
        (fun A outer s H E f c' hr' => pe_cr (E := E) C.instr hr' (by decide) rfl (passE (takes_of rfl rfl rfl rfl)) (pa_cons (pe_cx C.made hr' (by decide) rfl (pa_cons (pe_lst pa_nil) pa_nil)) pa_nil))) (pe_tup (pa_cons pe_str (pa_cons pe_str pa_nil))) (nomark _)))))), ?_⟩
  refine ⟨rfl, fun t Ht nt st hTab => ?_⟩
  have hs := ScrL.same st hs
  have hT := hT.ext fun b o e => st _ _ e
  clear st nt
  refine ⟨_, rfl, (by show 1 ≤ sizeLine; decide), ?_⟩
  walk_at "new1"
  refine ⟨a, p1, _, _, rfl, rfl, ScrL.same s1 hs, h1, (by rw [List.length_map]; exact Nat.le_trans (Nat.add_le_add_right hlen 1) (by decide)), ?_⟩
  walk_at "new2"
  refine ⟨_, rfl, p2, _, rfl, SqL.of h2, ?_⟩
  intro pl nl
  have s3 : Same H2 (upd H2 pl (.lst (cutV (ns.map V.int ++ [V.int 0]) none (some 5)))) := Same.new nl
  have h3 : upd H2 pl (.lst (cutV (ns.map V.int ++ [V.int 0]) none (some 5))) pl = some (.lst (cutV (ns.map V.int ++ [V.int 0]) none (some 5))) := upd_same
  generalize upd H2 pl (.lst (cutV (ns.map V.int ++ [V.int 0]) none (some 5))) = H3 at s3 h3 ⊢
  have hcell : ∀ x ∈ cutV (ns.map V.int ++ [V.int 0]) none (some 5), ∃ i : Int, x = .int i := by
    intro x hx
    have hx := cutV_mem hx
    rcases List.mem_append.mp hx with z | z
    · obtain ⟨i, _, e⟩ := List.mem_map.mp z
      exact ⟨i, e.symm⟩
    · exact ⟨0, by simpa using z⟩
  have hT3 : LamX.Tabs [(Pt, lamQ)] H3 := hT.ext fun b o e => s3 _ _ (s2 _ _ (s1 _ _ e))
  have hTab3 : TabAt H3 t := hTab.same ((s1.trans s2).trans s3)
  clear s1 s2 s3 h1 h2 n1 n2 nl hT hs hTab
  generalize cutV (ns.map V.int ++ [V.int 0]) none (some 5) = cells at h3 hcell ⊢
  -- what a caught error is
  have caught : ∀ {Q : VK} {K1 He : Hp} {de : Addr}, Same K1 He → He de = none → (∀ (p : Addr) (K2 : Hp), Same K1 K2 → K2 p = some (.tup [.str "code", .str "code"]) → Q (.ref p) K2) → errTold Cn Q (.ref Cn) (some de) (upd He de (.xd [("field", .str "code")])) := by
    intro Q K1 He de se nde q
    refine ⟨rfl, de, rfl, upd_same, fun p np => q p _ ((se.trans (Same.new nde)).trans (Same.new np)) upd_same⟩
  refine ⟨pl, rfl, ⟨_, SqL.of h3⟩, for_list (K := K) (a := pl) (xs := cells) (fun i σ H' => (∃ v2 v3 v4 v5 v6 v7 v8 v9 v10, σ = [some (.ref a), some (.ref t), v2, v3, v4, v5, v6, v7, v8, v9, v10]) ∧ H' pl = some (.lst cells) ∧ TabAt H' t ∧ LamX.Tabs [(Pt, lamQ)] H')
    ⟨⟨none, none, none, none, none, none, none, none, none, rfl⟩, h3, hTab3, hT3⟩ (fun i σ H' _ p => SqL.of p.2.1) ?_ ?_⟩
  · rintro i x σ H0 hi ⟨⟨v2, v3, v4, v5, v6, v7, v8, v9, v10, rfl⟩, hL, hTab, hT⟩
    clear h3 hT3 hTab3
    obtain ⟨cv, rfl⟩ := hcell x (List.mem_of_getElem? hi)
    -- source
    refine ⟨_, rfl, cv, rfl, fun ps H1 n1 s1 src1 => ?_⟩
    have npl : pl ≠ ps := ne_of_none hL n1
    -- chunks
    refine ⟨_, rfl, ps, _, rfl, src1, (by decide), (by decide), fun m J1 m0 m1 b1 t1 => ?_⟩
    refine ⟨_, _, rfl, rfl, ?_⟩
    refine ⟨1 + m, rfl, by omega, Int.lt_trans (by omega : 1 + m < 14) (by decide), fun D nD => ?_⟩
    have ndp : D ≠ ps := t1.ne0 nD
    obtain ⟨y1, y2, y3, hy, _⟩ := id src1
    have hTabJ : TabAt J1 t := (hTab.same s1).but b1 hy
    have hLJ : J1 pl = some (.lst cells) := b1 _ _ npl (s1 _ _ hL)
    have hTJ : LamX.Tabs [(Pt, lamQ)] J1 := hT.ext fun b o e => b1 b o (ne_of_none e n1) (s1 _ _ e)
    clear hy
    refine lc_range (lo := 0) (n := (1 + m).toNat) (fun i H' => ∃ zs : List Zc, St Pt pl t ps D cells zs H' ∧ zs.length = i) ?_ ?_ ?_
    · have sD : Same J1 (upd J1 D (.lst [])) := Same.new nD
      exact ⟨[], ⟨npl, ndp, (fun z => by rw [z, hLJ] at nD; cases nD), sD _ _ hLJ, hTabJ.same sD, t1.same sD, upd_same, (fun z hz => by cases hz), hTJ.ext sD⟩, rfl⟩
    · rintro i H' hi ⟨zs, ST, hl⟩
      refine ⟨rfl, ?_⟩
      refine ⟨_, rfl, _, rfl, ps, t, rfl, ST.S, ST.T, fun p e H2 oke n2 b2 t2 hp => ?_⟩
      have ST2 := ST.but b2 t2
      have pD : p ≠ D := fun z => by rw [z, ST.G] at n2; cases n2
      have pp : p ≠ ps := ST.S.ne0 n2
      refine ⟨zV zs, ST2.G, ?_, zs ++ [(p, e)], ST2.snoc (z := (p, e)) ⟨pp, pD, hp, oke⟩, by rw [List.length_append, hl]; rfl⟩
      unfold zV
      rw [List.length_map, hl]
      exact Nat.lt_of_lt_of_le (by omega : i < 14) (by decide)
    rintro Hc ⟨zs, ST, hl⟩
    have zn : zs ≠ [] := fun z => by
      rw [z] at hl
      have : ([] : List Zc).length = 0 := rfl
      omega
    have z13 : zs.length ≤ 13 := by omega
    have csn : zs.map (·.2) ≠ [] := fun z => zn (List.map_eq_nil_iff.mp z)
    have cso : ∀ c ∈ zs.map (·.2), ChOk c := fun c hc => by
      obtain ⟨z, hz, rfl⟩ := List.mem_map.mp hc
      exact ST.ok z hz
    have vl : (zV zs).length = zs.length := List.length_map _
    obtain ⟨by0, by1⟩ := zC_ok ST.ok
    have byz : isBts (zC zs) := ⟨by0, by omega⟩
    clear hL hTab hT hLJ hTabJ hTJ nD t1 b1 src1 s1 n1
    -- the good ones
    refine ⟨_, rfl, (by show 0 ≤ sizeLine; decide), ?_⟩
    walk_at "new1"
    refine ⟨D, p1, zL zs, rfl, (by rw [zL_V]; exact SqL.of (s1 _ _ ST.G)), h1, (fun p hp => s1 _ _ (ST.lists p hp)), (fun z => zn (List.map_eq_nil_iff.mp z)), (by rw [zL_flat, List.length_map]; exact Nat.le_trans (byz.2) (by decide)), ?_⟩
    walk_at "new2"
    rw [zL_flat] at h2
    refine ⟨p2, zC zs, rfl, h2, byz, fun c3 J3 m3 s3 hC => ?_⟩
    obtain ⟨g1, g2, g3⟩ := cut_good cso csn
    refine ⟨_, rfl, .inr ⟨c3, cdOf (zC zs), m3, rfl, hC, byz, rfl, rfl, strs_a, strs_p, fun _ _ q xs J4 s4 hq hlq => ?_, fun z => (z.elim (fun z => z g1) fun ⟨x, hx, z⟩ => z (g3 x hx)).elim⟩⟩
    refine ⟨q, _, rfl, .inl (SqL.of hq), ?_⟩
    have u4 := ((s1.trans s2).trans s3).trans s4
    refine ⟨_, rfl, D, _, rfl, .inl (SqL.of (u4 _ _ ST.G)), _, _, rfl, rfl, _, rfl, ite2 (fun c => absurd (of_decide_eq_true c) ?_) (fun _ => ?_)⟩
    · have hlq : (cutAll (zC zs)).1.length ≤ xs.length := hlq
      have : zs.length ≤ xs.length := by
        have e : (cutAll (zC zs)).1.length = (zs.map (·.2)).length := g2
        rw [List.length_map] at e
        omega
      rw [vl]
      omega
    have ST := ST.same u4
    clear h1 h2 n1 n2 s1 s2 s3 s4 u4 hC hq hlq g1 g2 g3
    -- the turns
    refine ⟨8, rfl, by decide, by decide, for_range (lo := 0) (n := 8) (fun i σ H' => (∃ v5 v6 v7, σ = [some (.ref a), some (.ref t), some (.int cv), some (.ref ps), some (.ref D), v5, v6, v7, v8, v9, v10]) ∧ St Pt pl t ps D cells zs H') ⟨⟨_, _, _, rfl⟩, ST⟩ ?_ ?_⟩
    · rintro j σ H' hj ⟨⟨v5', v6', v7', rfl⟩, ST⟩
      refine ⟨_, rfl, _, rfl, D, _, rfl, .inl (SqL.of ST.G), _, _, rfl, rfl, ps, _, rfl, ST.S, ?_, ?_, fun av J a0 a1 b t' => ?_⟩
      · omega
      · rw [vl]
        exact Nat.lt_of_le_of_lt (m := 14) (by omega) (by decide)
      have ST := ST.but b t'
      obtain ⟨at', rfl⟩ : ∃ n : Nat, av = (n : Int) := ⟨av.toNat, by omega⟩
      have ha : at' ≤ (zV zs).length := by omega
      clear a0 a1 b t'
      refine ⟨_, rfl, _, rfl, _, rfl, D, _, rfl, SqL.of ST.G, ?_⟩
      walk_at "new2"
      try dsimp only at h2
      rw [cut_take _ ha] at h2
      have ST := ST.same s2
      refine ⟨_, rfl, _, rfl, ps, t, rfl, ST.S, ST.T, fun pw v J3 wr wb wl pa b3 t3 hw => ?_⟩
      have ST' := ST.but b3 t3
      have n2a : p2 ≠ ps := fun z => by
        obtain ⟨_, _, _, e, _⟩ := id ST.S
        rw [← z, h2] at e
        have : ∀ x ∈ (zV zs).take at', ∃ q, x = V.ref q := fun x hx => by
          obtain ⟨z, _, rfl⟩ := List.mem_map.mp (List.mem_of_mem_take hx)
          exact ⟨_, rfl⟩
        injection e with e
        injection e with e
        rw [e] at this
        obtain ⟨q, hq⟩ := this _ (List.mem_cons_self ..)
        cases hq
      have h2 := b3 _ _ n2a h2
      have ST := ST'
      refine ⟨(by show 1 ≤ sizeLine; decide), ?_⟩
      walk_at "new4"
      refine ⟨p2, p4, _, _, rfl, rfl, s4 _ _ h2, h4, ?_, ?_⟩
      · rw [List.length_take]
        exact Nat.le_trans (by show _ + 1 ≤ 14; omega) (by decide)
      walk_at "new5"
      refine ⟨_, rfl, _, rfl, _, rfl, D, _, rfl, SqL.of ((s4.trans s5) _ _ ST.G), ?_⟩
      walk_at "new6"
      try dsimp only at h6
      rw [cut_drop _ ha] at h6
      refine ⟨p5, p6, _, _, rfl, rfl, s6 _ _ h5, h6, ?_, ?_⟩
      · rw [List.length_append, List.length_take, List.length_drop]
        exact Nat.le_trans (by show _ + 1 + _ ≤ 40; omega) (by decide)
      walk_at "new7"
      refine ⟨(by show 0 ≤ sizeLine; decide), ?_⟩
      walk_at "new8"
      have u8 := (((s4.trans s5).trans s6).trans s7).trans s8
      have ST := ST.same u8
      have hw := u8 _ _ hw
      have efl : ((zL (zs.take at') ++ [(pw, v.map V.int)] ++ zL (zs.drop at')).map (·.2)).flatten = (chs ((zs.take at').map (·.2)) ++ (v ++ zC (zs.drop at'))).map V.int := by
        rw [List.map_append, List.map_append, List.flatten_append, List.flatten_append, zL_flat, zL_flat, List.map_append, List.map_append, List.append_assoc]
        simp [zC]
      have okT : ∀ z ∈ zs.take at', ChOk z.2 := fun z hz => ST.ok z (List.mem_of_mem_take hz)
      have okD : ∀ z ∈ zs.drop at', ChOk z.2 := fun z hz => ST.ok z (List.mem_of_mem_drop hz)
      have bT := zC_ok okT
      have bD := zC_ok okD
      have byb : isBts (chs ((zs.take at').map (·.2)) ++ (v ++ zC (zs.drop at'))) := by
        refine ⟨fun x hx => ?_, ?_⟩
        · rcases List.mem_append.mp hx with q | q
          · exact bT.1 x q
          · rcases List.mem_append.mp q with q | q
            · exact wb x q
            · exact bD.1 x q
        · have e1 := bT.2
          have e2 := bD.2
          unfold zC at e1
          rw [List.length_append, List.length_append]
          rw [List.length_take] at e1
          rw [List.length_drop] at e2
          omega
      refine ⟨p7, p8, zL (zs.take at') ++ [(pw, v.map V.int)] ++ zL (zs.drop at'), rfl, ?_, h8, ?_, (by simp), ?_, ?_⟩
      · rw [List.map_append, List.map_append, zL_V, zL_V]
        have e9 : zV (zs.take at') ++ [V.ref pw] ++ zV (zs.drop at') = (zV zs).take at' ++ [V.ref pw] ++ (zV zs).drop at' := by
          unfold zV
          rw [List.map_take, List.map_drop]
        exact SqL.of (by rw [s8 _ _ h7]; exact congrArg (fun l => some (HO.lst l)) e9.symm)
      · intro p hp
        rcases List.mem_append.mp hp with q | q
        · rcases List.mem_append.mp q with q | q
          · obtain ⟨z, hz, rfl⟩ := List.mem_map.mp q
            exact (ST.R z (List.mem_of_mem_take hz)).2.2.1
          · rw [List.mem_singleton.mp q]
            exact hw
        · obtain ⟨z, hz, rfl⟩ := List.mem_map.mp q
          exact (ST.R z (List.mem_of_mem_drop hz)).2.2.1
      · rw [efl, List.length_map]
        exact Nat.le_trans byb.2 (by decide)
      walk_at "new9"
      rw [efl] at h9
      have ST := ST.same s9
      refine ⟨p9, _, rfl, h9, byb, fun c3 J4 m3 s10 hC => ?_⟩
      have ST := ST.same s10
      have bad : BadCode (chs ((zs.take at').map (·.2)) ++ (v ++ zC (zs.drop at'))) := cut_bad (fun c hc => by
        obtain ⟨z, hz, rfl⟩ := List.mem_map.mp hc
        exact okT z hz) (wr _)
      refine ⟨ST.B, fun K1 ext hT1 => ?_⟩
      have ST := ST.ext ext hT1
      have hC := hC.ext ext
      refine ⟨_, rfl, _, rfl, .inr ⟨c3, cdOf _, m3, rfl, hC, byb, rfl, rfl, strs_a, strs_p, fun e1 e2 => (bad.no e1 e2).elim, fun _ de He se nde => caught se nde fun p K2 f1 g1 => ?_⟩⟩
      refine ⟨(by show 2 ≤ sizeLine; decide), ?_⟩
      walk_at "new11"
      refine ⟨_, _, Dp.tup (SqT.of (s11 _ _ g1)) (.cons (.str _) (.cons (.str _) .nil)), Dp.tup (SqT.of h11) (.cons (.str _) (.cons (.str _) .nil)), by decide +kernel, by decide +kernel, _, rfl, ?_⟩
      rw [cc_eqv]
      exact iteF ⟨⟨_, _, _, rfl⟩, ST.same (f1.trans s11)⟩
    rintro σ H8 ⟨⟨v5', v6', v7', rfl⟩, ST⟩
    -- the tails
    refine ⟨(by show 1 ≤ sizeLine; decide), ?_⟩
    walk_at "new1"
    refine ⟨(by show 1 ≤ sizeLine; decide), ?_⟩
    walk_at "new2"
    refine ⟨(by show 2 ≤ sizeLine; decide), ?_⟩
    walk_at "new3"
    refine ⟨(by show 4 ≤ sizeLine; decide), ?_⟩
    walk_at "new4"
    refine ⟨(by show 2 ≤ sizeLine; decide), ?_⟩
    walk_at "new5"
    refine ⟨(by show 3 ≤ sizeLine; decide), ?_⟩
    walk_at "new6"
    refine ⟨(by show 2 ≤ sizeLine; decide), ?_⟩
    walk_at "new7"
    refine ⟨(by show 1 ≤ sizeLine; decide), ?_⟩
    walk_at "new8"
    refine ⟨p8, _, _, rfl, rfl, h8, by decide, by decide, by decide, ?_⟩
    walk_at "new9"
    refine ⟨p7, p9, _, _, rfl, rfl, (s8.trans s9) _ _ h7, h9, by decide, ?_⟩
    walk_at "new10"
    refine ⟨(by show 5 ≤ sizeLine; decide), ?_⟩
    walk_at "new11"
    refine ⟨(by show 8 ≤ sizeLine; decide), ?_⟩
    walk_at "new12"
    have q6 := (((s7.trans s8).trans s9).trans s10).trans (s11.trans s12)
    have q5 := s6.trans q6
    have q4 := s5.trans q5
    have q3 := s4.trans q4
    have q2 := s3.trans q3
    have q1 := s2.trans q2
    have tls : ∀ x ∈ ([.ref p1, .ref p2, .ref p3, .ref p4, .ref p5, .ref p6, .ref p10, .ref p11] : List V), ∃ (q : Addr) (e : List Int), x = .ref q ∧ e ∈ tails ∧ H12 q = some (.lst (e.map V.int)) := by
      intro x hx
      simp only [List.mem_cons, List.mem_nil_iff, or_false] at hx
      rcases hx with rfl | rfl | rfl | rfl | rfl | rfl | rfl | rfl
      · exact ⟨p1, [30], rfl, by decide, q1 _ _ h1⟩
      · exact ⟨p2, [71], rfl, by decide, q2 _ _ h2⟩
      · exact ⟨p3, [71, 1], rfl, by decide, q3 _ _ h3⟩
      · exact ⟨p4, [71, 2, 71, 3], rfl, by decide, q4 _ _ h4⟩
      · exact ⟨p5, [45, 0], rfl, by decide, q5 _ _ h5⟩
      · exact ⟨p6, [45, 0, 0], rfl, by decide, q6 _ _ h6⟩
      · exact ⟨p10, [82, 0] ++ List.replicate 16 0, rfl, by decide, by rw [(s11.trans s12) _ _ h10]; rfl⟩
      · exact ⟨p11, [40, 0, 0, 0, 0], rfl, by decide, s12 _ _ h11⟩
    have ST := ST.same (s1.trans q1)
    clear q1 q2 q3 q4 q5 q6 h1 h2 h3 h4 h5 h6 h7 h8 h9 h10 h11 s1 s2 s3 s4 s5 s6 s7 s8 s9 s10 s11 s12 n1 n2 n3 n4 n5 n6 n7 n8 n9 n10 n11 n12
    refine ⟨p12, rfl, ⟨_, SqT.of h12⟩, for_tup (K := K) (a := p12) (xs := [.ref p1, .ref p2, .ref p3, .ref p4, .ref p5, .ref p6, .ref p10, .ref p11]) (fun i σ H' => (∃ v7 v8, σ = [some (.ref a), some (.ref t), some (.int cv), some (.ref ps), some (.ref D), v5', v6', v7, v8, v9, v10]) ∧ LamX.ExtN H12 H' ∧ LamX.Tabs [(Pt, lamQ)] H')
      ⟨⟨_, _, rfl⟩, LamX.ExtN.refl _, ST.B⟩ (fun i σ H' _ p => SqT.of (p.2.1 _ _ h12 fun _ z => by cases z)) ?_ ?_⟩
    · rintro j x σ H' hj ⟨⟨v7', v8', rfl⟩, ex, hT'⟩
      obtain ⟨q, e, rfl, he, hq⟩ := tls x (List.mem_of_getElem? hj)
      have ST := ST.ext ex hT'
      have hq := ex _ _ hq (fun _ z => by cases z)
      refine ⟨_, rfl, (by show 0 ≤ sizeLine; decide), ?_⟩
      walk_at "new13"
      refine ⟨D, p13, zL zs, rfl, (by rw [zL_V]; exact SqL.of (s13 _ _ ST.G)), h13, (fun p hp => s13 _ _ (ST.lists p hp)), (fun z => zn (List.map_eq_nil_iff.mp z)), (by rw [zL_flat, List.length_map]; exact Nat.le_trans (byz.2) (by decide)), ?_⟩
      walk_at "new14"
      rw [zL_flat] at h14
      have et := tails_rg e he
      refine ⟨_, rfl, p14, q, _, _, rfl, rfl, h14, (s13.trans s14) _ _ hq, ?_, ?_⟩
      · rw [List.length_map, List.length_map]
        exact Nat.le_trans (Nat.add_le_add byz.2 et.2) (by decide)
      walk_at "new15"
      have byb : isBts (zC zs ++ e) := ⟨fun x hx => (List.mem_append.mp hx).elim (byz.1 x) (et.1 x), by rw [List.length_append]; omega⟩
      refine ⟨p15, zC zs ++ e, rfl, (by rw [h15, List.map_append]), byb, fun c3 J4 m3 s16 hC => ?_⟩
      have ST := (((ST.same s13).same s14).same s15).same s16
      have u := LamX.ExtN.of (((s13.trans s14).trans s15).trans s16)
      have bad : BadCode (zC zs ++ e) := cut_bad cso (tails_bad e he)
      refine ⟨ST.B, fun K1 ext hT1 => ?_⟩
      have hC := hC.ext ext
      refine ⟨_, rfl, _, rfl, .inr ⟨c3, cdOf _, m3, rfl, hC, byb, rfl, rfl, strs_a, strs_p, fun e1 e2 => (bad.no e1 e2).elim, fun _ de He se nde => caught se nde fun p K2 f1 g1 => ?_⟩⟩
      refine ⟨(by show 2 ≤ sizeLine; decide), ?_⟩
      walk_at "new16"
      refine ⟨_, _, Dp.tup (SqT.of (s16 _ _ g1)) (.cons (.str _) (.cons (.str _) .nil)), Dp.tup (SqT.of h16) (.cons (.str _) (.cons (.str _) .nil)), by decide +kernel, by decide +kernel, _, rfl, ?_⟩
      rw [cc_eqv]
      have f2 := f1.trans s16
      exact iteF ⟨⟨_, _, rfl⟩, ((ex.trans u).trans ext).trans (LamX.ExtN.of f2), hT1.ext f2⟩
    rintro σ H' ⟨⟨v7', v8', rfl⟩, ex, hT'⟩
    have ST := ST.ext ex hT'
    clear tls h12 ex hT'
    -- odd things
    refine ⟨(by show 0 ≤ sizeLine; decide), ?_⟩
    walk_at "new1"
    refine ⟨(by show 2 ≤ sizeLine; decide), ?_⟩
    walk_at "new2"
    intro dd ndd
    have s3 : Same H2 (upd H2 dd (.dK [])) := Same.new ndd
    have h3 : upd H2 dd (.dK []) dd = some (.dK []) := upd_same
    generalize upd H2 dd (.dK []) = H3 at s3 h3 ⊢
    refine ⟨(by show 7 ≤ sizeLine; decide), ?_⟩
    walk_at "new4"
    have ST := ST.same (((s1.trans s2).trans s3).trans s4)
    have hodd : ∀ x, x ∈ [V.non, .int 5, .str "ab", .ref p1, .ref p2, .bl true, .ref dd] → Odd K H4 x := by
      intro x hx
      simp only [List.mem_cons, List.mem_nil_iff, or_false] at hx
      rcases hx with rfl | rfl | rfl | rfl | rfl | rfl | rfl
      · exact ⟨"NoneType", by decide, .base .non⟩
      · exact ⟨"int", by decide, .base (.int 5)⟩
      · exact ⟨"str", by decide, .base (.str _)⟩
      · exact ⟨"list", by decide, .base (.lst (((s2.trans s3).trans s4) _ _ h1))⟩
      · exact ⟨"list", by decide, .base (.lst ((s3.trans s4) _ _ h2))⟩
      · exact ⟨"bool", by decide, .base (.bl true)⟩
      · exact ⟨"dict", by decide, .base (.dK (s4 _ _ h3))⟩
    refine ⟨p4, rfl, ⟨_, SqT.of h4⟩, for_tup (K := K) (a := p4) (xs := [.non, .int 5, .str "ab", .ref p1, .ref p2, .bl true, .ref dd]) (fun i σ H' => (∃ v9, σ = [some (.ref a), some (.ref t), some (.int cv), some (.ref ps), some (.ref D), v5', v6', v7', v8', v9, v10]) ∧ LamX.ExtN H4 H' ∧ LamX.Tabs [(Pt, lamQ)] H')
      ⟨⟨_, rfl⟩, LamX.ExtN.refl _, ST.B⟩ (fun i σ H' _ p => SqT.of (p.2.1 _ _ h4 fun _ z => by cases z)) ?_ ?_⟩
    · rintro j x σ H' hj ⟨⟨v9', rfl⟩, ex, hT'⟩
      have ho := hodd x (List.mem_of_getElem? hj)
      refine ⟨hT', fun K1 ext hT1 => ?_⟩
      refine ⟨_, rfl, x, rfl, .inl ⟨ho.ext (ex.trans ext), fun de He se nde => caught se nde fun p K2 f1 g1 => ?_⟩⟩
      refine ⟨(by show 2 ≤ sizeLine; decide), ?_⟩
      walk_at "new5"
      refine ⟨_, _, Dp.tup (SqT.of (s5 _ _ g1)) (.cons (.str _) (.cons (.str _) .nil)), Dp.tup (SqT.of h5) (.cons (.str _) (.cons (.str _) .nil)), by decide +kernel, by decide +kernel, _, rfl, ?_⟩
      rw [cc_eqv]
      have f2 := f1.trans s5
      exact iteF ⟨⟨_, rfl⟩, (ex.trans ext).trans (LamX.ExtN.of f2), hT1.ext f2⟩
    rintro σ H' ⟨⟨v9', rfl⟩, ex, hT'⟩
    have ST := ST.ext ex hT'
    exact ⟨⟨_, _, _, _, _, _, _, _, _, rfl⟩, ST.L, ST.T, ST.B⟩
  · rintro σ H' ⟨⟨v2, v3, v4, v5, v6, v7, v8, v9, v10, rfl⟩, _, _, hT⟩
    refine ⟨hT, fun K1 ext hT1 => ?_⟩
    refine ⟨(by show 0 ≤ sizeLine; decide), ?_⟩
    walk_at "new1"
    refine ⟨p1, [], rfl, h1, ⟨(fun x hx => by cases hx), (by decide)⟩, fun c3 J4 m3 s10 hC => ?_⟩
    refine ⟨_, rfl, .inr ⟨c3, cdOf _, m3, rfl, hC, ⟨(fun x hx => by cases hx), (by decide)⟩, rfl, rfl, strs_a, strs_p, fun e1 e2 => (BadCode.no (.inl cut_none) e1 e2).elim, fun _ de He se nde => caught se nde fun p K2 f1 g1 => ?_⟩⟩
    refine ⟨(by show 2 ≤ sizeLine; decide), ?_⟩
    walk_at "new2"
    refine ⟨_, _, Dp.tup (SqT.of (s2 _ _ g1)) (.cons (.str _) (.cons (.str _) .nil)), Dp.tup (SqT.of h2) (.cons (.str _) (.cons (.str _) .nil)), by decide +kernel, by decide +kernel, ?_⟩
    rw [cc_eqv]
    try exact k H2
end
end K58
set_option maxHeartbeats 0
/-! ### the head -/
namespace K58
open PySem PySem.Spec PyProof.Rows L2 Nd
def dD (x : Str) (st : Stmt) : He.DefD := ⟨(x, none), x, x, defArgs st, defBody st, defScope st, [], []⟩
def dM (C m q : Str) (st : Stmt) : He.DefD := ⟨(C, some m), m, q, defArgs st, defBody st, defScope st, [], []⟩
def fn : List He.DefD := [dD "cut_one" s_cut_one, dD "cut" s_cut, dD "joined" s_joined, dD "line_rows" s_line_rows, dD "want_code" s_want_code, dD "is_number" s_is_number, dD "is_string" s_is_string, dD "is_byte" s_is_byte, dD "are_bytes" s_are_bytes, dD "are_strings" s_are_strings, dD "is_constant" s_is_constant, dD "are_constants" s_are_constants, dD "at_index" s_at_index, dD "word_of" s_word_of, dD "operator_of" s_operator_of, dD "constant_told" s_constant_told, dD "number_told" s_number_told, dD "meaning" s_meaning, dD "lines_of" s_lines_of, dD "line_at" s_line_at, dD "instructions" s_instructions, dD "_law_source_of" s_law_source_of, dD "_law_next" s_law_next, dD "_law_one" s_law_one, dD "_law_table" s_law_table, dD "_law_packed" s_law_packed, dD "_law_made" s_law_made, dD "_law_good" s_law_good, dD "_law_wrong" s_law_wrong, dD "_law_caught" s_law_caught, dD "law" s_law, dM "Code" "__init__" "Code.__init__" s_Code_init, dM "Code" "look" "Code.look" s_Code_look]
def fa : List He.Fa := ([.glo "cut_one", .glo "cut", .glo "joined", .glo "line_rows", .glo "want_code", .glo "is_number", .glo "is_string", .glo "is_byte", .glo "are_bytes", .glo "are_strings", .glo "is_constant", .glo "are_constants", .glo "at_index", .glo "word_of", .glo "operator_of", .glo "constant_told", .glo "number_told", .glo "meaning", .glo "lines_of", .glo "line_at", .glo "instructions", .glo "_law_source_of", .glo "_law_next", .glo "_law_one", .glo "_law_table", .glo "_law_packed", .glo "_law_made", .glo "_law_good", .glo "_law_wrong", .glo "_law_caught", .glo "law", .glo "Code", .glo "NoCode", .glo "CodeError", .glo "NoTable", .glo "NoRows", .glo "NoBytes", .glo "NUMBERS", .glo "WORDS", .glo "CACHES"] : List He.Fa) ++ ([.glo "SORTS", .glo "OPERATORS", .glo "COMPARES", .glo "INTRINSICS", .glo "ATTRIBUTES", .glo "MORE", .free "int", .free "len", .free "range", .free "tuple", .free "isinstance", .free "bool", .free "str", .free "all", .free "any", .free "ord", .free "list", .free "dict", .free "max", .free "repr", .free "sorted", .free "sum", .free "ValueError", .free "super", .int "MOST_NUMBER" 2147483647, .int "MOST_NESTED" 100, .int "IN_PLACE" 13, .int "TRUTH" 16, .cls "Code", .mkr "Code", .meth "Code" "look", .noat "Code" "argcount", .noat "Code" "onlycount", .noat "Code" "stacksize", .noat "Code" "flags", .noat "Code" "code", .noat "Code" "constants", .noat "Code" "names", .noat "Code" "slots", .noat "Code" "kinds"] : List He.Fa) ++ ([.noat "Code" "name", .noat "Code" "path", .noat "Code" "line", .noat "Code" "lines", .noat "Code" "handlers", .noat "Code" "nested"] : List He.Fa)
def ex (K : PySem.W.Frag) : Bool := nxB "/claim/cut.py" K (He.ga K "NoCode") (He.ma K (He.ga K "NoCode") "__init__") && (insB K (He.ga K "Code") && ((oddT.all fun t => decide (PySem.W.kitOne K (.type t) (.ref (He.ga K "Code")) = some false)) && (excCB K (He.ga K "NoCode") && (xfB K (He.ga K "NoCode") && (decide (PySem.W.kitOne K (.ref (He.ga K "NoCode")) (.ref (He.ga K "CodeError")) = some true) && (decide (PySem.W.kitOne K (.ref (He.ga K "NoCode")) (.type "ValueError") = some true) && (decide (PySem.W.exmOne K (.ref (He.ga K "NoCode")) (.ref (He.ga K "NoCode")) = some true) && (decide (PySem.W.kitOne K (.ref (He.ga K "Code")) (.type "tuple") = some false)))))))))
abbrev Bt : Type := List NxV × List (Option (List (Option (Str × Int)))) × (List (Option (List (Option (Key × Int × Vo)))))
def nxo (K : PySem.W.Frag) : Bt := ([nxObs "NoCode" K], [], [dicM K (He.ga K "NUMBERS"), dicM K (He.ga K "WORDS"), dicM K (He.ga K "CACHES"), dicM K (He.ga K "SORTS"), dicM K (He.ga K "OPERATORS"), dicM K (He.ga K "COMPARES"), dicM K (He.ga K "INTRINSICS"), dicM K (He.ga K "ATTRIBUTES"), dicM K (He.ga K "MORE")])
def nv (w : World) : Bt := ([nxVal ⟨6, 17, 6, 21⟩ ⟨6, 23, 6, 28⟩ (PySem.Nx.iB ⟨7, 8, 7, 13⟩ ⟨7, 8, 7, 15⟩ ⟨7, 8, 7, 24⟩ ⟨7, 25, 7, 30⟩ ⟨7, 8, 7, 31⟩ ⟨7, 8, 7, 31⟩ ⟨8, 8, 8, 12⟩ ⟨8, 8, 8, 18⟩ ⟨8, 21, 8, 26⟩ ⟨8, 8, 8, 26⟩)], [], [some (exM w.params tN), some (exM w.params tW), some (exM w.params tC), some (exM w.params tS), some (exM w.params tO), some (exM w.params tP), some (exM w.params tI), some (exM w.params tA), some (exM w.params tM)])
abbrev R : PySem.W.OpenRow := PySem.W.OpenLaw.row PySem.Challenge.rw_codewalk_k58_instructions_that_cannot_be
def tf : List He.Defn := [("law", none)]
abbrev hk : PySem.W.Hook := hookN 5 fa fn tf ex nxo nv
def ob (s : PySem.W.SharedT) : (He.AlD × Bool) × Bt := obsN 5 fa fn tf ex nxo (HandSHeadRun.getT s)
theorem ob_eq (s : PySem.W.SharedT) : ob s = hk.obs s.abs := obsN_eq (HandSHeadRun.getT_eq s)
def loose : List Str := (["CodeError", "NoCode", "NoTable", "NoBytes", "NoRows", "MOST_NUMBER", "MOST_NESTED", "is_number", "is_string", "is_byte", "are_bytes", "are_strings", "is_constant", "are_constants", "are_same", "Code"] : List Str) ++ (["want_code", "NUMBERS", "WORDS", "CACHES", "SORTS", "OPERATORS", "IN_PLACE", "COMPARES", "TRUTH", "INTRINSICS", "ATTRIBUTES", "cut_one", "cut", "MARK", "FURTHER", "NO_LINE"] : List Str) ++ (["ONE_LINE", "joined", "signed_at", "line_rows", "MORE", "at_index", "word_of", "operator_of", "constant_told", "number_told", "meaning", "lines_of", "line_at", "instructions", "_law_source_of", "_law_next"] : List Str) ++ (["_law_one", "_law_table", "_law_packed", "_law_caught", "_law_made", "_law_good", "_law_wrong"] : List Str)
theorem run_false1 (w : World) (os : OsState) : (Nd.runX R 8000 (w.withFollow "special-get-raises" false) os).map (fun s => (HandSHeadRun.looksF R.prog (PySem.W.boot_heap (w.withFollow "special-get-raises" false).params) s.abs, (HandSHeadRun.seenQ (PySem.W.view R.prog [61]) loose (PySem.importedModules R.prog.main.body) (fun s => PySem.W.xlAt (PySem.W.view R.prog [61]) [] s && PySem.W.recOk R.toRowW.records s) s.abs).1)) = some (true, (PySem.W.openGood (PySem.W.view R.prog [61]) loose).1) := by
  kernel_rfl
theorem run_false2 (w : World) (os : OsState) : (Nd.runX R 8000 (w.withFollow "special-get-raises" false) os).map (fun s => (HandSHeadRun.seenQ (PySem.W.view R.prog [61]) loose (PySem.importedModules R.prog.main.body) (fun s => PySem.W.xlAt (PySem.W.view R.prog [61]) [] s && PySem.W.recOk R.toRowW.records s) s.abs).2) = some (PySem.W.openGood (PySem.W.view R.prog [61]) loose).2 := by
  kernel_rfl
theorem run_false3 (w : World) (os : OsState) : (Nd.runX R 8000 (w.withFollow "special-get-raises" false) os).map (fun s => (ob s).1) = some (hk.val (w.withFollow "special-get-raises" false)).1 := by
  kernel_rfl
theorem run_false4 (w : World) (os : OsState) : (Nd.runX R 8000 (w.withFollow "special-get-raises" false) os).map (fun s => (ob s).2) = some (hk.val (w.withFollow "special-get-raises" false)).2 := by
  kernel_rfl
theorem run_false (w : World) : HandSHeadRun.RunEq R (PySem.W.view R.prog [61]) hk ob 8000 loose (w.withFollow "special-get-raises" false) := runS Prod.fst Prod.snd (fun _ _ => Prod.ext) (run_false1 w) (run_false2 w) (run_false3 w) (run_false4 w)
theorem run_true1 (w : World) (os : OsState) : (Nd.runX R 8000 (w.withFollow "special-get-raises" true) os).map (fun s => (HandSHeadRun.looksF R.prog (PySem.W.boot_heap (w.withFollow "special-get-raises" true).params) s.abs, (HandSHeadRun.seenQ (PySem.W.view R.prog [61]) loose (PySem.importedModules R.prog.main.body) (fun s => PySem.W.xlAt (PySem.W.view R.prog [61]) [] s && PySem.W.recOk R.toRowW.records s) s.abs).1)) = some (true, (PySem.W.openGood (PySem.W.view R.prog [61]) loose).1) := by
  kernel_rfl
theorem run_true2 (w : World) (os : OsState) : (Nd.runX R 8000 (w.withFollow "special-get-raises" true) os).map (fun s => (HandSHeadRun.seenQ (PySem.W.view R.prog [61]) loose (PySem.importedModules R.prog.main.body) (fun s => PySem.W.xlAt (PySem.W.view R.prog [61]) [] s && PySem.W.recOk R.toRowW.records s) s.abs).2) = some (PySem.W.openGood (PySem.W.view R.prog [61]) loose).2 := by
  kernel_rfl
theorem run_true3 (w : World) (os : OsState) : (Nd.runX R 8000 (w.withFollow "special-get-raises" true) os).map (fun s => (ob s).1) = some (hk.val (w.withFollow "special-get-raises" true)).1 := by
  kernel_rfl
theorem run_true4 (w : World) (os : OsState) : (Nd.runX R 8000 (w.withFollow "special-get-raises" true) os).map (fun s => (ob s).2) = some (hk.val (w.withFollow "special-get-raises" true)).2 := by
  kernel_rfl
theorem run_true (w : World) : HandSHeadRun.RunEq R (PySem.W.view R.prog [61]) hk ob 8000 loose (w.withFollow "special-get-raises" true) := runS Prod.fst Prod.snd (fun _ _ => Prod.ext) (run_true1 w) (run_true2 w) (run_true3 w) (run_true4 w)
theorem run (w : World) : HandSHeadRun.RunEq R (PySem.W.view R.prog [61]) hk ob 8000 loose w := PySem.W.byRow2 "special-get-raises" (P := fun w => HandSHeadRun.RunEq R (PySem.W.view R.prog [61]) hk ob 8000 loose w) run_false run_true w
end K58
set_option maxHeartbeats 4000000
namespace K58
open PySem PySem.Spec PyProof.Rows L2 Nd
abbrev l : PySem.W.OpenLaw := PySem.Challenge.rw_codewalk_k58_instructions_that_cannot_be
theorem hev0 (env : Env) : ∃ pl : Sem Bool, eval (.Call (.Attribute (.Call (.Name "super" ⟨7, 8, 7, 13⟩) [] [] ⟨7, 8, 7, 15⟩) "__init__" ⟨7, 8, 7, 24⟩) [.Name "field" ⟨7, 25, 7, 30⟩] [] ⟨7, 8, 7, 31⟩) env = (do
      let ov ← attributeBase (.Call (.Name "super" ⟨7, 8, 7, 13⟩) [] [] ⟨7, 8, 7, 15⟩) "__init__" env (eval (.Call (.Name "super" ⟨7, 8, 7, 13⟩) [] [] ⟨7, 8, 7, 15⟩) env)
      standAt (⟨7, 8, 7, 24⟩ : Pos).atName
      let (f, first) ← holding [ov] (getMethod ov "__init__" pl)
      callWith ⟨7, 8, 7, 31⟩ f first (backTo ⟨7, 8, 7, 31⟩ (starEach [.Name "field" ⟨7, 25, 7, 30⟩] env)) []) := ⟨_, rfl⟩
theorem facts {w : World} {K : PySem.W.Frag} {h : Heap} {mg : Str → Option Value} {f : Addr} (X : K.In h) (G : h.Ns mainGlobals mg) (hfa : mg ("law" : Str) = some (.ref f)) (c : SaysN fa fn tf ex nxo (nv w) h K) : LawHas l w K 63 mg f h := by
  have e := hfa.symm.trans (He.glo_ok X G (c.t.fact 30 (f := .glo "law") rfl))
  cases e
  obtain ⟨fd0, F0⟩ := c.t.def_ 0 (d := dD "cut_one" s_cut_one) rfl
  have D0 : DefX K mg "cut_one" s_cut_one ["data", "begin"] (He.ga K "cut_one") fd0 := dfx X G F0 (c.t.fact 0 (f := .glo "cut_one") rfl) (fun _ _ _ _ _ _ us hl => match us, hl with | [_, _], _ => rfl)
  obtain ⟨fd1, F1⟩ := c.t.def_ 1 (d := dD "cut" s_cut) rfl
  have D1 : DefX K mg "cut" s_cut ["data"] (He.ga K "cut") fd1 := dfx X G F1 (c.t.fact 1 (f := .glo "cut") rfl) (fun _ _ _ _ _ _ us hl => match us, hl with | [_], _ => rfl)
  obtain ⟨fd2, F2⟩ := c.t.def_ 2 (d := dD "joined" s_joined) rfl
  have D2 : DefX K mg "joined" s_joined ["rows"] (He.ga K "joined") fd2 := dfx X G F2 (c.t.fact 2 (f := .glo "joined") rfl) (fun _ _ _ _ _ _ us hl => match us, hl with | [_], _ => rfl)
  obtain ⟨fd3, F3⟩ := c.t.def_ 3 (d := dD "line_rows" s_line_rows) rfl
  have D3 : DefX K mg "line_rows" s_line_rows ["code"] (He.ga K "line_rows") fd3 := dfx X G F3 (c.t.fact 3 (f := .glo "line_rows") rfl) (fun _ _ _ _ _ _ us hl => match us, hl with | [_], _ => rfl)
  obtain ⟨fd4, F4⟩ := c.t.def_ 4 (d := dD "want_code" s_want_code) rfl
  have D4 : DefX K mg "want_code" s_want_code ["value"] (He.ga K "want_code") fd4 := dfx X G F4 (c.t.fact 4 (f := .glo "want_code") rfl) (fun _ _ _ _ _ _ us hl => match us, hl with | [_], _ => rfl)
  obtain ⟨fd5, F5⟩ := c.t.def_ 5 (d := dD "is_number" s_is_number) rfl
  have D5 : DefX K mg "is_number" s_is_number ["value"] (He.ga K "is_number") fd5 := dfx X G F5 (c.t.fact 5 (f := .glo "is_number") rfl) (fun _ _ _ _ _ _ us hl => match us, hl with | [_], _ => rfl)
  obtain ⟨fd6, F6⟩ := c.t.def_ 6 (d := dD "is_string" s_is_string) rfl
  have D6 : DefX K mg "is_string" s_is_string ["value"] (He.ga K "is_string") fd6 := dfx X G F6 (c.t.fact 6 (f := .glo "is_string") rfl) (fun _ _ _ _ _ _ us hl => match us, hl with | [_], _ => rfl)
  obtain ⟨fd7, F7⟩ := c.t.def_ 7 (d := dD "is_byte" s_is_byte) rfl
  have D7 : DefX K mg "is_byte" s_is_byte ["value"] (He.ga K "is_byte") fd7 := dfx X G F7 (c.t.fact 7 (f := .glo "is_byte") rfl) (fun _ _ _ _ _ _ us hl => match us, hl with | [_], _ => rfl)
  obtain ⟨fd8, F8⟩ := c.t.def_ 8 (d := dD "are_bytes" s_are_bytes) rfl
  have D8 : DefX K mg "are_bytes" s_are_bytes ["value"] (He.ga K "are_bytes") fd8 := dfx X G F8 (c.t.fact 8 (f := .glo "are_bytes") rfl) (fun _ _ _ _ _ _ us hl => match us, hl with | [_], _ => rfl)
  obtain ⟨fd9, F9⟩ := c.t.def_ 9 (d := dD "are_strings" s_are_strings) rfl
  have D9 : DefX K mg "are_strings" s_are_strings ["value"] (He.ga K "are_strings") fd9 := dfx X G F9 (c.t.fact 9 (f := .glo "are_strings") rfl) (fun _ _ _ _ _ _ us hl => match us, hl with | [_], _ => rfl)
  obtain ⟨fd10, F10⟩ := c.t.def_ 10 (d := dD "is_constant" s_is_constant) rfl
  have D10 : DefX K mg "is_constant" s_is_constant ["value", "nested"] (He.ga K "is_constant") fd10 := dfx X G F10 (c.t.fact 10 (f := .glo "is_constant") rfl) (fun _ _ _ _ _ _ us hl => match us, hl with | [_, _], _ => rfl)
  obtain ⟨fd11, F11⟩ := c.t.def_ 11 (d := dD "are_constants" s_are_constants) rfl
  have D11 : DefX K mg "are_constants" s_are_constants ["value"] (He.ga K "are_constants") fd11 := dfx X G F11 (c.t.fact 11 (f := .glo "are_constants") rfl) (fun _ _ _ _ _ _ us hl => match us, hl with | [_], _ => rfl)
  obtain ⟨fd12, F12⟩ := c.t.def_ 12 (d := dD "at_index" s_at_index) rfl
  have D12 : DefX K mg "at_index" s_at_index ["row", "number"] (He.ga K "at_index") fd12 := dfx X G F12 (c.t.fact 12 (f := .glo "at_index") rfl) (fun _ _ _ _ _ _ us hl => match us, hl with | [_, _], _ => rfl)
  obtain ⟨fd13, F13⟩ := c.t.def_ 13 (d := dD "word_of" s_word_of) rfl
  have D13 : DefX K mg "word_of" s_word_of ["known", "number"] (He.ga K "word_of") fd13 := dfx X G F13 (c.t.fact 13 (f := .glo "word_of") rfl) (fun _ _ _ _ _ _ us hl => match us, hl with | [_, _], _ => rfl)
  obtain ⟨fd14, F14⟩ := c.t.def_ 14 (d := dD "operator_of" s_operator_of) rfl
  have D14 : DefX K mg "operator_of" s_operator_of ["word", "number"] (He.ga K "operator_of") fd14 := dfx X G F14 (c.t.fact 14 (f := .glo "operator_of") rfl) (fun _ _ _ _ _ _ us hl => match us, hl with | [_, _], _ => rfl)
  obtain ⟨fd15, F15⟩ := c.t.def_ 15 (d := dD "constant_told" s_constant_told) rfl
  have D15 : DefX K mg "constant_told" s_constant_told ["value"] (He.ga K "constant_told") fd15 := dfx X G F15 (c.t.fact 15 (f := .glo "constant_told") rfl) (fun _ _ _ _ _ _ us hl => match us, hl with | [_], _ => rfl)
  obtain ⟨fd16, F16⟩ := c.t.def_ 16 (d := dD "number_told" s_number_told) rfl
  have D16 : DefX K mg "number_told" s_number_told ["word", "number"] (He.ga K "number_told") fd16 := dfx X G F16 (c.t.fact 16 (f := .glo "number_told") rfl) (fun _ _ _ _ _ _ us hl => match us, hl with | [_, _], _ => rfl)
  obtain ⟨fd17, F17⟩ := c.t.def_ 17 (d := dD "meaning" s_meaning) rfl
  have D17 : DefX K mg "meaning" s_meaning ["code", "word", "number", "end"] (He.ga K "meaning") fd17 := dfx X G F17 (c.t.fact 17 (f := .glo "meaning") rfl) (fun _ _ _ _ _ _ us hl => match us, hl with | [_, _, _, _], _ => rfl)
  obtain ⟨fd18, F18⟩ := c.t.def_ 18 (d := dD "lines_of" s_lines_of) rfl
  have D18 : DefX K mg "lines_of" s_lines_of ["code"] (He.ga K "lines_of") fd18 := dfx X G F18 (c.t.fact 18 (f := .glo "lines_of") rfl) (fun _ _ _ _ _ _ us hl => match us, hl with | [_], _ => rfl)
  obtain ⟨fd19, F19⟩ := c.t.def_ 19 (d := dD "line_at" s_line_at) rfl
  have D19 : DefX K mg "line_at" s_line_at ["rows", "offset"] (He.ga K "line_at") fd19 := dfx X G F19 (c.t.fact 19 (f := .glo "line_at") rfl) (fun _ _ _ _ _ _ us hl => match us, hl with | [_, _], _ => rfl)
  obtain ⟨fd20, F20⟩ := c.t.def_ 20 (d := dD "instructions" s_instructions) rfl
  have D20 : DefX K mg "instructions" s_instructions ["code"] (He.ga K "instructions") fd20 := dfx X G F20 (c.t.fact 20 (f := .glo "instructions") rfl) (fun _ _ _ _ _ _ us hl => match us, hl with | [_], _ => rfl)
  obtain ⟨fd21, F21⟩ := c.t.def_ 21 (d := dD "_law_source_of" s_law_source_of) rfl
  have D21 : DefX K mg "_law_source_of" s_law_source_of ["cell"] (He.ga K "_law_source_of") fd21 := dfx X G F21 (c.t.fact 21 (f := .glo "_law_source_of") rfl) (fun _ _ _ _ _ _ us hl => match us, hl with | [_], _ => rfl)
  obtain ⟨fd22, F22⟩ := c.t.def_ 22 (d := dD "_law_next" s_law_next) rfl
  have D22 : DefX K mg "_law_next" s_law_next ["source", "many"] (He.ga K "_law_next") fd22 := dfx X G F22 (c.t.fact 22 (f := .glo "_law_next") rfl) (fun _ _ _ _ _ _ us hl => match us, hl with | [_, _], _ => rfl)
  obtain ⟨fd23, F23⟩ := c.t.def_ 23 (d := dD "_law_one" s_law_one) rfl
  have D23 : DefX K mg "_law_one" s_law_one ["source", "some"] (He.ga K "_law_one") fd23 := dfx X G F23 (c.t.fact 23 (f := .glo "_law_one") rfl) (fun _ _ _ _ _ _ us hl => match us, hl with | [_, _], _ => rfl)
  obtain ⟨fd24, F24⟩ := c.t.def_ 24 (d := dD "_law_table" s_law_table) rfl
  have D24 : DefX K mg "_law_table" s_law_table [] (He.ga K "_law_table") fd24 := dfx X G F24 (c.t.fact 24 (f := .glo "_law_table") rfl) (fun _ _ _ _ _ _ us hl => match us, hl with | [], _ => rfl)
  obtain ⟨fd25, F25⟩ := c.t.def_ 25 (d := dD "_law_packed" s_law_packed) rfl
  have D25 : DefX K mg "_law_packed" s_law_packed ["table", "word", "number"] (He.ga K "_law_packed") fd25 := dfx X G F25 (c.t.fact 25 (f := .glo "_law_packed") rfl) (fun _ _ _ _ _ _ us hl => match us, hl with | [_, _, _], _ => rfl)
  obtain ⟨fd26, F26⟩ := c.t.def_ 26 (d := dD "_law_made" s_law_made) rfl
  have D26 : DefX K mg "_law_made" s_law_made ["data"] (He.ga K "_law_made") fd26 := dfx X G F26 (c.t.fact 26 (f := .glo "_law_made") rfl) (fun _ _ _ _ _ _ us hl => match us, hl with | [_], _ => rfl)
  obtain ⟨fd27, F27⟩ := c.t.def_ 27 (d := dD "_law_good" s_law_good) rfl
  have D27 : DefX K mg "_law_good" s_law_good ["source", "table"] (He.ga K "_law_good") fd27 := dfx X G F27 (c.t.fact 27 (f := .glo "_law_good") rfl) (fun _ _ _ _ _ _ us hl => match us, hl with | [_, _], _ => rfl)
  obtain ⟨fd28, F28⟩ := c.t.def_ 28 (d := dD "_law_wrong" s_law_wrong) rfl
  have D28 : DefX K mg "_law_wrong" s_law_wrong ["source", "table"] (He.ga K "_law_wrong") fd28 := dfx X G F28 (c.t.fact 28 (f := .glo "_law_wrong") rfl) (fun _ _ _ _ _ _ us hl => match us, hl with | [_, _], _ => rfl)
  obtain ⟨fd29, F29⟩ := c.t.def_ 29 (d := dD "_law_caught" s_law_caught) rfl
  have D29 : DefX K mg "_law_caught" s_law_caught ["ask"] (He.ga K "_law_caught") fd29 := dfx X G F29 (c.t.fact 29 (f := .glo "_law_caught") rfl) (fun _ _ _ _ _ _ us hl => match us, hl with | [_], _ => rfl)
  obtain ⟨fd30, F30⟩ := c.t.def_ 30 (d := dD "law" s_law) rfl
  have D30 : DefX K mg "law" s_law ["script"] (He.ga K "law") fd30 := dfx X G F30 (c.t.fact 30 (f := .glo "law") rfl) (fun _ _ _ _ _ _ us hl => match us, hl with | [_], _ => rfl)
  obtain ⟨fdI, FI⟩ := c.t.def_ 31 (d := dM "Code" "__init__" "Code.__init__" s_Code_init) rfl
  have DI : MetX K "__init__" "Code.__init__" s_Code_init ["self", "argcount", "onlycount", "stacksize", "flags", "code", "constants", "names", "slots", "kinds", "name", "path", "line", "lines", "handlers"] (He.ma K (He.ga K "Code") "__init__") fdI := metx FI (fun _ _ _ _ _ _ us hl => match us, hl with | [_, _, _, _, _, _, _, _, _, _, _, _, _, _, _], _ => rfl)
  obtain ⟨fdL, FL⟩ := c.t.def_ 32 (d := dM "Code" "look" "Code.look" s_Code_look) rfl
  have DL : MetX K "look" "Code.look" s_Code_look ["self"] (He.ma K (He.ga K "Code") "look") fdL := metx FL (fun _ _ _ _ _ _ us hl => match us, hl with | [_], _ => rfl)
  have cl : Cls K (He.ga K "Code") := He.cls_ok (c.t.fact 68 (f := .cls "Code") rfl)
  obtain ⟨x1, xr⟩ := He.ba c.more
  obtain ⟨x2, xr⟩ := He.ba xr
  obtain ⟨x3, xr⟩ := He.ba xr
  obtain ⟨x4, xr⟩ := He.ba xr
  obtain ⟨x5, xr⟩ := He.ba xr
  obtain ⟨x6, xr⟩ := He.ba xr
  obtain ⟨x7, xr⟩ := He.ba xr
  obtain ⟨x8, x9⟩ := He.ba xr
  have cx0 : nxObs "NoCode" K = (nv w).1.getD 0 none := congrArg (fun z : Bt => z.1.getD 0 none) c.nx
  have nx0 : PySem.Nx.Txt l.prog K mg (He.ga K "NoCode") (He.ma K (He.ga K "NoCode") "__init__") := nx_txt x1 cx0 (by rfl) (He.free_ok X G (c.t.fact 63 (f := .free "super") rfl)) (by rfl) hev0
  have gC : mg "Code" = some (.ref (He.ga K "Code")) := (He.glo_ok X G (c.t.fact 31 (f := .glo "Code") rfl))
  have na : ∀ f ∈ flds, NoAttr K (He.ga K "Code") f := by
    intro f hf
    simp only [flds, List.mem_cons, List.mem_nil_iff, or_false] at hf
    rcases hf with rfl | rfl | rfl | rfl | rfl | rfl | rfl | rfl | rfl | rfl | rfl | rfl | rfl | rfl | rfl
    · exact He.noat_ok (c.t.fact 71 (f := .noat "Code" "argcount") rfl)
    · exact He.noat_ok (c.t.fact 72 (f := .noat "Code" "onlycount") rfl)
    · exact He.noat_ok (c.t.fact 73 (f := .noat "Code" "stacksize") rfl)
    · exact He.noat_ok (c.t.fact 74 (f := .noat "Code" "flags") rfl)
    · exact He.noat_ok (c.t.fact 75 (f := .noat "Code" "code") rfl)
    · exact He.noat_ok (c.t.fact 76 (f := .noat "Code" "constants") rfl)
    · exact He.noat_ok (c.t.fact 77 (f := .noat "Code" "names") rfl)
    · exact He.noat_ok (c.t.fact 78 (f := .noat "Code" "slots") rfl)
    · exact He.noat_ok (c.t.fact 79 (f := .noat "Code" "kinds") rfl)
    · exact He.noat_ok (c.t.fact 80 (f := .noat "Code" "name") rfl)
    · exact He.noat_ok (c.t.fact 81 (f := .noat "Code" "path") rfl)
    · exact He.noat_ok (c.t.fact 82 (f := .noat "Code" "line") rfl)
    · exact He.noat_ok (c.t.fact 83 (f := .noat "Code" "lines") rfl)
    · exact He.noat_ok (c.t.fact 84 (f := .noat "Code" "handlers") rfl)
    · exact He.noat_ok (c.t.fact 85 (f := .noat "Code" "nested") rfl)
  have GK : GlK l.prog K mg (He.ga K "Code") (He.ga K "NoCode") (He.ma K (He.ga K "NoCode") "__init__") := ⟨⟨_, gC, rfl⟩, insB_ok cl x2, na, fun t ht => of_decide_eq_true (List.all_eq_true.mp x3 t ht), nx0, (He.glo_ok X G (c.t.fact 32 (f := .glo "NoCode") rfl)), (He.free_ok X G (c.t.fact 50 (f := .free "isinstance") rfl))⟩
  have MK : Mk K (He.ga K "Code") (He.ma K (He.ga K "Code") "__init__") := He.mkr_ok (c.t.fact 69 (f := .mkr "Code") rfl)
  have ML : Meth K (He.ga K "Code") "look" (He.ma K (He.ga K "Code") "look") := He.meth_ok (c.t.fact 70 (f := .meth "Code" "look") rfl)
  have T0 : Gl0 mg := ⟨(He.free_ok X G (c.t.fact 46 (f := .free "int") rfl)), (He.free_ok X G (c.t.fact 47 (f := .free "len") rfl)), (He.free_ok X G (c.t.fact 48 (f := .free "range") rfl))⟩
  have T2 : Gl2 mg := ⟨(He.free_ok X G (c.t.fact 50 (f := .free "isinstance") rfl)), (He.free_ok X G (c.t.fact 46 (f := .free "int") rfl)), (He.free_ok X G (c.t.fact 51 (f := .free "bool") rfl)), (He.free_ok X G (c.t.fact 52 (f := .free "str") rfl)), (He.free_ok X G (c.t.fact 53 (f := .free "all") rfl)), (He.free_ok X G (c.t.fact 55 (f := .free "ord") rfl)), (He.free_ok X G (c.t.fact 56 (f := .free "list") rfl)), (He.free_ok X G (c.t.fact 49 (f := .free "tuple") rfl)), (int_rel X G (c.t.fact 64 (f := .int "MOST_NUMBER" 2147483647) rfl)), (int_rel X G (c.t.fact 65 (f := .int "MOST_NESTED" 100) rfl))⟩
  have T3 : Gl3 mg := ⟨(He.free_ok X G (c.t.fact 58 (f := .free "max") rfl))⟩
  have TU : GlU mg := ⟨(He.free_ok X G (c.t.fact 47 (f := .free "len") rfl)), (He.free_ok X G (c.t.fact 54 (f := .free "any") rfl))⟩
  have GT : GlT K w mg (He.ga K "NUMBERS") (He.ga K "WORDS") (He.ga K "CACHES") (He.ga K "SORTS") := ⟨⟨_, (He.glo_ok X G (c.t.fact 37 (f := .glo "NUMBERS") rfl)), rfl⟩, ⟨_, (He.glo_ok X G (c.t.fact 38 (f := .glo "WORDS") rfl)), rfl⟩, ⟨_, (He.glo_ok X G (c.t.fact 39 (f := .glo "CACHES") rfl)), rfl⟩, ⟨_, (He.glo_ok X G (c.t.fact 40 (f := .glo "SORTS") rfl)), rfl⟩, (dicM_ok (congrArg (fun z : Bt => z.2.2.getD 0 none) c.nx) (by decide +kernel) (by decide +kernel)), (dicM_ok (congrArg (fun z : Bt => z.2.2.getD 1 none) c.nx) (by decide +kernel) (by decide +kernel)), (dicM_ok (congrArg (fun z : Bt => z.2.2.getD 2 none) c.nx) (by decide +kernel) (by decide +kernel)), (dicM_ok (congrArg (fun z : Bt => z.2.2.getD 3 none) c.nx) (by decide +kernel) (by decide +kernel))⟩
  have GO : GlO K w mg (He.ga K "OPERATORS") (He.ga K "COMPARES") (He.ga K "INTRINSICS") (He.ga K "ATTRIBUTES") := ⟨⟨_, (He.glo_ok X G (c.t.fact 41 (f := .glo "OPERATORS") rfl)), rfl⟩, ⟨_, (He.glo_ok X G (c.t.fact 42 (f := .glo "COMPARES") rfl)), rfl⟩, ⟨_, (He.glo_ok X G (c.t.fact 43 (f := .glo "INTRINSICS") rfl)), rfl⟩, ⟨_, (He.glo_ok X G (c.t.fact 44 (f := .glo "ATTRIBUTES") rfl)), rfl⟩, (dicM_ok (congrArg (fun z : Bt => z.2.2.getD 4 none) c.nx) (by decide +kernel) (by decide +kernel)), (dicM_ok (congrArg (fun z : Bt => z.2.2.getD 5 none) c.nx) (by decide +kernel) (by decide +kernel)), (dicM_ok (congrArg (fun z : Bt => z.2.2.getD 6 none) c.nx) (by decide +kernel) (by decide +kernel)), (dicM_ok (congrArg (fun z : Bt => z.2.2.getD 7 none) c.nx) (by decide +kernel) (by decide +kernel)), (int_rel X G (c.t.fact 66 (f := .int "IN_PLACE" 13) rfl)), (int_rel X G (c.t.fact 67 (f := .int "TRUTH" 16) rfl)), (He.free_ok X G (c.t.fact 57 (f := .free "dict") rfl)), (He.free_ok X G (c.t.fact 59 (f := .free "repr") rfl))⟩
  have GM : GlM K w mg (He.ga K "MORE") := ⟨⟨_, (He.glo_ok X G (c.t.fact 45 (f := .glo "MORE") rfl)), rfl⟩, (dicM_ok (congrArg (fun z : Bt => z.2.2.getD 8 none) c.nx) (by decide +kernel) (by decide +kernel)), (He.free_ok X G (c.t.fact 52 (f := .free "str") rfl))⟩
  have TG : Gg mg := ⟨(He.free_ok X G (c.t.fact 60 (f := .free "sorted") rfl))⟩
  have TW : Gw mg := ⟨(He.free_ok X G (c.t.fact 61 (f := .free "sum") rfl))⟩
  have GE : GlE K mg (He.ga K "NoCode") := ⟨excCB_ok x4, xfB_ok x5, ⟨_, (He.glo_ok X G (c.t.fact 33 (f := .glo "CodeError") rfl)), of_decide_eq_true x6⟩, of_decide_eq_true x7, (He.free_ok X G (c.t.fact 62 (f := .free "ValueError") rfl)), (He.free_ok X G (c.t.fact 50 (f := .free "isinstance") rfl)), of_decide_eq_true x8, ⟨_, (He.glo_ok X G (c.t.fact 34 (f := .glo "NoTable") rfl))⟩, ⟨_, (He.glo_ok X G (c.t.fact 35 (f := .glo "NoRows") rfl))⟩, ⟨_, (He.glo_ok X G (c.t.fact 36 (f := .glo "NoBytes") rfl))⟩⟩
  have GC : GlC K (He.ga K "Code") := ⟨of_decide_eq_true x9⟩
  obtain ⟨oc, od, dV, kV, doc, pm, an, cdv, ct, osl, efd, lk, hcd, _, _⟩ := F30.ex
  have hb := FunD.bindsA (ps := ["script"]) F30 (fun _ _ _ _ _ _ us hl => match us, hl with | [_], _ => rfl)
  obtain ⟨c', rfl⟩ := He.codeIn_ref hcd
  have ec : He.codeOf K ("law", none) = c' := He.codeOf_eq (p := ("law", none)) (efd ▸ lk) rfl
  subst efd
  have eT : (He.cT K ("law", none)).1 = c' := ec
  refine ⟨[He.cT K ("law", none)], spLaw K (He.cT K ("law", none)).2, fun p hp => ?_, fun p hp => ?_, fun p hp => ?_, fun H a ns hl _ hH hS => ?_, fun base KB GB hTB => ?_⟩
  · rw [List.mem_singleton.mp hp]
    exact c.empty _ (List.mem_singleton.mpr rfl)
  · rw [List.mem_singleton.mp hp]
    exact c.out _ (List.mem_singleton.mpr rfl)
  · rw [List.mem_singleton.mp hp]
    exact PySem.W.codeHd_of_K X (c.hd _ (List.mem_singleton.mpr rfl))
  · refine ⟨a, ns, rfl, hS, Nat.le_trans hl (by decide), fun p hp => ?_, fun _ => rfl⟩
    rw [List.mem_singleton.mp hp]
    exact LamX.TabS.nil (hH _ (List.mem_singleton.mpr rfl))
  · have TB := hTB _ (List.mem_singleton.mpr rfl)
    rw [eT] at TB
    have c_wc := ok_want_code (P := l.prog) (w := w) (base := base) GK D4
    have c_co := ok_cut_one (P := l.prog) (w := w) (base := base) TU GT D0
    have c_cut := ok_cut TU c_co D1
    have c_jo := ok_joined (P := l.prog) (w := w) (base := base) D2
    have f_lr := ok_line_rows TU GK c_wc c_jo D3
    have c_lo := ok_lines_of (He.glo_ok X G (c.t.fact 34 (f := .glo "NoTable") rfl)) (D3.cal f_lr) D18
    have c_la := ok_line_at (P := l.prog) (w := w) (base := base) D19
    have c_at := ok_at_index (P := l.prog) (w := w) (base := base) TU GK D12
    have c_wo := ok_word_of (P := l.prog) (w := w) (base := base) D13
    have c_op := ok_operator_of GO c_wo D14
    have c_nt := ok_number_told (P := l.prog) (w := w) (base := base) GO D16
    have c_ct := ok_constant_told (P := l.prog) (w := w) (base := base) GO GK D15
    have c_me := ok_meaning GK GT GM c_at c_ct c_op c_nt D17
    have f_in := ok_instructions (He.free_ok X G (c.t.fact 48 (f := .free "range") rfl)) GK GT c_wc c_cut c_lo c_la c_me D20
    have c_isn := ok_is_number (P := l.prog) (w := w) (base := base) T2 D5
    have c_iss := ok_is_string (P := l.prog) (w := w) (base := base) T2 D6
    have c_isb := ok_is_byte (P := l.prog) (w := w) (base := base) T2 D7
    have c_arb := ok_are_bytes T2 c_isb D8
    have c_ars := ok_are_strings T2 c_iss D9
    have c_isc := ok_is_constant T2 GK GC c_iss D10 0
    have c_arc := ok_are_constants T2 (by decide) c_isc D11
    have c_look := ok_Code_look T0 GK c_isn c_iss c_arb c_ars c_arc DL
    have c_init := ok_Code_init T0 T2 T3 GK ML c_look DL.bi DI
    have c_made := ok_law_made GK MK c_init DI.bi D26
    have c_so := ok_law_source_of (P := l.prog) (w := w) (base := base) T0 D21
    have c_next := ok_law_next (P := l.prog) (w := w) (base := base) T0 D22
    have c_one := ok_law_one T0 c_next D23
    have c_tb := ok_law_table (P := l.prog) (w := w) (base := base) T0 D24
    have c_lp := ok_law_packed (P := l.prog) (w := w) (base := base) T0 D25
    have c_good := ok_law_good TG c_next c_one c_lp D27
    have c_wr := ok_law_wrong T0 c_next c_one c_lp D28
    have C := (⟨c_tb, c_so, c_next, c_good, c_wr, c_made, D20.cal f_in⟩ : Cals l.prog w K mg base (He.ga K "Code") (He.ga K "NoCode"))
    exact ok_law T0 TW GK GE C D29 lk hcd hb TB
end K58
open PySem PySem.W PySem.Calls PyProof.Rows
theorem PySem.Challenge.cw_codewalk_k58_instructions_that_cannot_be_holds : PySem.Challenge.rw_codewalk_k58_instructions_that_cannot_be.Holds := by
  w_on; o_law
  refine HandSHeadRun.head_any (r := OpenLaw.row PySem.Challenge.rw_codewalk_k58_instructions_that_cannot_be) (q := view (OpenLaw.row PySem.Challenge.rw_codewalk_k58_instructions_that_cannot_be).prog [61]) (H := K58.hk) (ob := K58.ob) (M := 8000) (loose := K58.loose) (d := HandSHeadRun.topDef (OpenLaw.row PySem.Challenge.rw_codewalk_k58_instructions_that_cannot_be).prog 61) (kwd := []) K58.ob_eq
    (by kernel_rfl) (fun s => by kernel_rfl) K58.run (by kernel_rfl) (by kernel_rfl) (by kernel_rfl) (by rfl) (by first | assumption | decide +kernel) (by decide +kernel) ⟨rfl, rfl, rfl, rfl, rfl, by decide +kernel⟩ ?hw ?hc
  case hw => w_witness2
  case hc =>
    refine Nd.walk_at (l := PySem.Challenge.rw_codewalk_k58_instructions_that_cannot_be) (n := 63) rfl (by decide) (by kernel_rfl) ?F
    intro w mg fa h Y G hmg0
    obtain ⟨K, KX, c⟩ := Y
    have hmg : mg ("law" : PySem.Str) = some (.ref fa) := by
      have e : (HandSHeadRun.topDef (OpenLaw.row PySem.Challenge.rw_codewalk_k58_instructions_that_cannot_be).prog 61).name = ("law" : PySem.Str) := by kernel_rfl
      rw [← e]
      exact hmg0
    exact ⟨K, KX, K58.facts KX G hmg c⟩
