import PyProof.Rows.All
import Wide.All
import OpenK.AllK
import Wide.FinOn
import KE.KExcSuper
import HandS.ForMost
import HandS.Exc
import HandS.ExcInit
import HandS.TryMany
import HandS.ExcIs
import HandS.IsInst
import HandS.Lambda
import HandS.Style
import HandS.Wide
import HandS.Defaults
import PyProof.ReprRoads
import KE.KExcIs
import HandS.EndTab
import HandS.EndOwn
import HandS.HeadWalk
import PyProof.ReprText
import KE.BitLaws
import HandS.WordsExc
import HandS.Head0
import HandS.Head1
import HandS.Head2
import HandS.HeadEnd
import HandS.HeadHook4
import HandS.ExcField
import HandS.MakeKwOnly
import HandS.Codes
import HandS.Walk
import HandS.LawCells
import PyProof.FitsInt
import PyProof.P3Eq
import HandS.More
import KE.GoesEnum
import PyProof.EvalArms
import HandS.Dict
import HandS.List
import KE.KDictOf
import PyProof.WalksMore
import PyProof.SumWalk
import PyProof.ListOps
import PyProof.StrOps2
import HandS.Comp
import Wide.Once
import HandS.SortInts
import HandS.Iter
import HandS.RaiseMore
import HandS.TryOnly
import HandS.ExcOwn
import HandS.Text
import HandS.WideBits
import KE.IntBitsLaws
import PyProof.StrLawsRepr
import PySem.Challenge.RW_codewalk_k57_instructions_told_as_dis_te
set_option Elab.async false
set_option linter.all false
set_option maxRecDepth 100000
set_option maxHeartbeats 4000000
/-! ### own exceptions whose __init__ is: super().__init__(field); self.field = field -/
namespace PySem
namespace Nx
open PySem.W PySem.Calls PyProof.Rows PySem.HandSPX
def iA (p1 p2 : Pos) : Arguments := { posonlyargs := [], args := [{ arg := "self", annotation := none, pos := p1 }, { arg := "field", annotation := none, pos := p2 }], vararg := none, kwonlyargs := [], kw_defaults := [], kwarg := none, defaults := [] }
def iB (q1 q2 q3 q4 q5 q6 q7 q8 q9 q10 : Pos) : List Stmt :=
  [.Expr (.Call (.Attribute (.Call (.Name "super" q1) [] [] q2) "__init__" q3) [.Name "field" q4] [] q5) q6, .Assign [.Attribute (.Name "self" q7) "field" q8] (.Name "field" q9) q10]
def iS : Scope := { kind := .function, names := [(PySem.Str.ofString "self", .local), (PySem.Str.ofString "field", .local), (PySem.Str.ofString "__class__", .free), (PySem.Str.ofString "super", .globalImplicit)], isGenerator := false, isCoroutine := false, more := [] }
/-- what the written part says of the class at C and of its __init__ at fI -/
structure Txt (P : Program) (K : Frag) (mg : Str → Option Value) (C fI : Addr) : Prop where
  ox : L2.OexC K C
  noN : findIn K (.ref C) "field" = some none
  iC : findIn K (.ref C) "__init__" = some (some (.ref fI))
  tI : typeIn K (.ref fI) = some (.type "function")
  sup : ks_superIn K C C "__init__" = some (some (.builtin "ValueError.__init__"))
  sub : mroIn K C (.ref C) = some true
  isB : subIn K (.ref C) (.type "ValueError") = some true
  tp : nsIn K cStatics "thirdparty.any" = some none
  noS : mg "super" = none
  top : (P.main.scope.names.lookup ("super" : Str)).isSome = false
  fn : ∃ (qn : Str) (oc ccl cl ct doc pm : Value) (od cdd cld an : Option Addr) (osl ccs csl : Array (Option Value)) (cda cc : Addr) (vs : Array Value) (file : Str) (tf : Tok) (p1 p2 q1 q2 q3 q4 q5 q6 q7 q8 q9 q10 : Pos),
    K.lookup fI = some ⟨oc, od, .func (ksFn "__init__" qn (iA p1 p2) (iB q1 q2 q3 q4 q5 q6 q7 q8 q9 q10) iS .none .none doc pm an (.ref cda) ct cc), osl⟩ ∧ codeIn K (.ref cda) qn = true ∧
    K.lookup cda = some ⟨ccl, cdd, .fields vs, ccs⟩ ∧ vs[2]? = some (.str file tf) ∧ ((P.main.file : Str) == file) = true ∧
    K.lookup cc = some ⟨cl, cld, .cell (some (.ref C)), csl⟩ ∧
    (∀ env : Env, ∃ pl : Sem Bool, eval (.Call (.Attribute (.Call (.Name "super" q1) [] [] q2) "__init__" q3) [.Name "field" q4] [] q5) env = (do
      let ov ← attributeBase (.Call (.Name "super" q1) [] [] q2) "__init__" env (eval (.Call (.Name "super" q1) [] [] q2) env)
      standAt q3.atName
      let (f, first) ← holding [ov] (getMethod ov "__init__" pl)
      callWith q5 f first (backTo q5 (starEach [.Name "field" q4] env)) []))
section
variable {prog : Program} {w : World} {A : Around} {R : Result → Shared → Prop} {s : Shared} {K : Frag} {mg mb : Str → Option Value} {C fI : Addr}
/-- what __init__ leaves of a fresh exception at x -/
structure InitEnd (h h' : Heap) (x C dx t1 : Addr) (v : Value) : Prop where
  keep : ∀ b o, b ≠ x → h.get? b = some o → h'.get? b = some o
  obj : h'.get? x = some { cls := .ref C, dict := some dx, data := .fields #[.ref t1, .none, .none, .none, .bool false, .none] }
  dbig : h.objs.size ≤ dx
  dne : dx ≠ x
  ns : h'.Ns1 dx (fun y => if y = "field" then some v else none)
theorem init_ok (T : Txt prog K mg C fI) {x t0 : Addr} {v : Value} (X : K.In s.heap) (hns : s.heap.Ns mainGlobals mg) (hbl : s.heap.Ns builtinsNs mb) (hbb : ∀ x : Str, x ≠ "__name__" → mb x = bootBuiltins x) (hlim : s.heap.NoLimit)
    (hx : s.heap.get? x = some (excO C t0)) (hnx : K.lookup x = none) (hroom : A.depth < recursionLimit)
    (hq : ∀ h' tk dx t1, InitEnd s.heap h' x C dx t1 v → R (.ok (.ret .none)) { s with heap := h', toks := tk }) :
    codeAny (model prog w) A (.call (.ref fI) ⟨[.ref x, v], []⟩) R s := by
  obtain ⟨qn, oc, ccl, cl, ct, doc, pm, od, cdd, cld, an, osl, ccs, csl, cda, cc, vs, file, tf, p1, p2, q1, q2, q3, q4, q5, q6, q7, q8, q9, q10, ho, hcd, hcode, hvs, hfile, hcell, hev⟩ := T.fn
  obtain ⟨nm, q, N, bs, bm, sn, sub, ab, col, dd, k0, k1, k2, k3, k5, hC, hbm⟩ := T.ox.cls
  have hcl : clsIn K C = some { name := nm, bases := bs, mro := .ref C :: bm, ns := N, qualname := q, hasDict := true, slotNames := sn, subclasses := sub, abstract := ab, collection := col, hasDel := false } := by unfold clsIn; rw [hC] <;> rfl
  refine ks_codeAny_call_defAt (fd := ksFn "__init__" qn (iA p1 p2) (iB q1 q2 q3 q4 q5 q6 q7 q8 q9 q10) iS .none .none doc pm an (.ref cda) ct cc) (body := iB q1 q2 q3 q4 q5 q6 q7 q8 q9 q10) (binds := [("self", .ref x), ("field", v)])
    hroom (X _ _ ho) rfl hlim (codeRec_of X hcd) rfl (BindsTo.of_eq (by first | rfl | with_unfolding_all rfl)) (show ∀ x ∈ iS.names, x.2 ≠ NameKind.cell from by decide +kernel) (by
      intro y hy
      rcases List.mem_cons.mp hy with rfl | hy
      · exact (show iS.names.lookup ("self" : Str) = some .local from by decide +kernel)
      · rcases List.mem_cons.mp hy with rfl | hy
        · exact (show iS.names.lookup ("field" : Str) = some .local from by decide +kernel)
        · cases hy) (fun h₁ hn₁ k₁ => ?_)
  have X₁ : K.In h₁ := X.keeps k₁
  have hx₁ := k₁ _ _ hx
  obtain ⟨hp, g, dr, tk, os⟩ := s
  -- super().__init__(field)
  obtain ⟨pl, he⟩ := hev (ksEnv qn iS hp.objs.size fI (.ref cda) cc)
  refine ks_wpAt_execs_cons (ks_wpAt_Expr_any (ks_wpAt_MethodCall (pl := pl) ?_ he))
  refine ks_wpAt_super_base (env := ksEnv qn iS hp.objs.size fI (.ref cda) cc) rfl rfl (by decide +kernel) rfl (X₁ _ _ ho) rfl rfl rfl (X₁ _ _ hcode) rfl hvs hfile T.top ?_
  refine ks_loadName_global rfl rfl (loadGlobal_builtin (env := ksEnv qn iS hp.objs.size fI (.ref cda) cc) (hns.keeps k₁) T.noS (hbl.keeps k₁) ((hbb _ (by decide +kernel)).trans Boot.«super») ⟨rfl, ?_⟩)
  refine wpAny_loadName_free rfl rfl rfl ⟨_, X₁ _ _ hcell, rfl⟩ ?_
  refine wpAny_loadName_local rfl rfl hn₁ rfl ?_
  refine ks_wpAny_isType_cls (X₁ _ _ hC) rfl ⟨rfl, ?_⟩
  refine ks_wpAny_call_super (X₁ _ _ hC) rfl hx₁ rfl (fun c e => by cases e) (looks_mroIn X₁ T.sub) (fun h₂ e₂ k₂ => ?_)
  have X₂ : K.In h₂ := X₁.keeps k₂
  have hx₂ := k₂ _ _ hx₁
  have hm : alongIn K "__init__" (((Value.ref C :: bm).dropWhile (· != .ref C)).drop 1) = some (some (.builtin "ValueError.__init__")) := by
    have z := T.sup
    unfold ks_superIn at z
    rw [hcl] at z
    exact z
  have hI : Looks (model prog w) h₂ (isInstance (.ref x) (.type "ValueError")) true := (show InstAt h₂ x (excO C t0) C none from ⟨hx₂, rfl, rfl, trivial⟩).type.andThen (looks_subIn X₂ T.isB)
  have nxC : x ≠ C := by
    rintro rfl
    have z := X₂ _ _ hC
    rw [hx₂] at z
    cases z
  refine kxs_getMethod kxs_ValueError e₂ (looks_opaque X₂ T.tp) (l₀ := .ref C :: bm) (fun A Q E s k q => wpAny_bind ((looks_clsIn X₂ hcl) A _ E s k (wpAny_pure q))) rfl X₂ hm hI nxC (by decide +kernel) ?_
  have k₃ : ∀ b o, h₂.get? b = some o → (h₂.push (kxs_mw "ValueError.__init__" x)).get? b = some o := fun b o e => Heap.get?_push_of_some _ e
  have e₃ : (h₂.push (kxs_mw "ValueError.__init__" x)).get? h₂.objs.size = some (kxs_mw "ValueError.__init__" x) := Heap.get?_push_at rfl rfl
  have n₃ := (hn₁.keeps k₂).keeps k₃
  have X₃ := X₂.keeps k₃
  have hx₃ := k₃ _ _ hx₂
  refine kxs_callWith (i := "ValueError.__init__") (x := x) (by rfl) (evalArgs_plain ?_)
  show wpAny _ _ (spliced ((false, eval (.Name "field" q4) (ksEnv qn iS hp.objs.size fI (.ref cda) cc)) :: backTo q5 (starEach [] (ksEnv qn iS hp.objs.size fI (.ref cda) cc)))) _ _ _
  refine Calls.spliced_cons (wpAny_Name (wpAny_loadName_local rfl rfl n₃ rfl ?_) (by decide +kernel))
  refine Calls.spliced_nil ⟨e₃, ?_⟩
  show wpAny _ _ (call (.ref h₂.objs.size) [v]) _ _ _
  refine wpAny_call (codeAny_of_tree ?_)
  show wpAny _ _ (callAny (.ref h₂.objs.size) ⟨[v], []⟩) _ _ _
  simp only [callAny]
  refine wpAny_bind (wpAny_load e₃ ?_)
  simp only [kxs_mw, show (Value.type "method-wrapper" == Value.type "method" || Value.type "method-wrapper" == Value.type "builtin_function_or_method" || Value.type "method-wrapper" == Value.type "method-wrapper") = true by decide, if_true]
  refine KFB.if_so (by decide) ?_
  refine wpAny_bind (check_bound_init PySem.F.excBase_ValueError.toExcCallFacts (X₃ _ _ hC) hx₃ rfl ?_)
  refine wpAny_bind (wpAny_pure (wpAny_pure ?_))
  refine ⟨plainId_quiet PySem.F.excBase_ValueError.init.plain _, codeAny_builtin PySem.F.excBase_ValueError.initEntry ?_⟩
  refine exc_init_tree (e := x) (cls := .ref C) (dv := none) (c2 := .none) (c3 := .none) (b4 := .bool false) hx₃ (by show 1 ≤ sizeLine; rw [sizeLine_eq]; decide) (fun h₄ k₄ hx₄ _ => ?_)
  have X₄ : K.In h₄ := fun b o e => k₄ b o (fun z => by rw [z, hnx] at e; cases e) (X₃ b o e)
  have xL : hp.objs.size ≠ x := Nat.ne_of_gt (Heap.lt_size hx)
  have n₄ : h₄.Ns hp.objs.size (fun y => List.lookup y [(("self" : Str), Value.ref x), (("field" : Str), v)].reverse) := by
    obtain ⟨o, es, ep, e, r⟩ := n₃
    exact ⟨o, es, ep, k₄ _ _ xL e, r⟩
  -- self.field = field
  refine wpAt_of_wpAny (wpAny_execs_cons (plainObj_wpAny_Assign_Attribute ?_))
  refine wpAny_Name (wpAny_loadName_local rfl rfl n₄ rfl (wpAny_Name (wpAny_loadName_local rfl rfl n₄ rfl ?_) (by decide +kernel))) (by decide +kernel)
  refine set_plain X₄ (ox := excO C (h₂.push (kxs_mw "ValueError.__init__" x)).objs.size) (od := none) ⟨hx₄, rfl, rfl, trivial⟩ T.ox.sa ?_
  refine exc_osa X₄ hx₄ hcl (show refsVE (.ref C :: bm) = true from hbm) rfl T.noN (fun h₅ tk₅ dx k₅ dn dne hx₅ hn₅ => ?_)
  have old : ∀ b o, b ≠ x → hp.get? b = some o → h₅.get? b = some o := fun b o hb e => k₅ b o hb (k₄ b o hb (k₃ b o (k₂ b o (k₁ b o e))))
  have big : hp.objs.size ≤ dx := by
    obtain ⟨o, es, ep, e, r⟩ := n₄
    exact Nat.le_of_lt (Nat.lt_of_lt_of_le (Heap.lt_size e) dn)
  exact wpAny_execs_nil (hq h₅ tk₅ dx _ ⟨old, hx₅, big, dne, hn₅⟩)
end
end Nx
end PySem
set_option maxHeartbeats 4000000
namespace PySem
namespace Nx
open PySem.W PySem.Calls PyProof.Rows PySem.HandSPX
section
variable {prog : Program} {w : World} {A : Around} {R : Result → Shared → Prop} {s : Shared} {K : Frag} {mg mb : Str → Option Value} {C fI : Addr}
/-- a made exception -/
structure Made (h h' : Heap) (e C d : Addr) (v : Value) : Prop where
  keep : ∀ b o, h.get? b = some o → h'.get? b = some o
  new : h.objs.size ≤ e
  obj : ∃ oe vs, h'.get? e = some oe ∧ oe.cls = .ref C ∧ oe.dict = some d ∧ oe.data = .fields vs ∧ vs[1]? = some .none
  dbig : h.objs.size ≤ d
  dne : d ≠ e
  ns : h'.Ns1 d (fun y => if y = "field" then some v else none)
theorem made_ok (T : Txt prog K mg C fI) {v : Value} (X : K.In s.heap) (hns : s.heap.Ns mainGlobals mg) (hbl : s.heap.Ns builtinsNs mb) (hbb : ∀ x : Str, x ≠ "__name__" → mb x = bootBuiltins x) (hlim : s.heap.NoLimit) (hroom : A.depth + 1 < recursionLimit)
    (hq : ∀ h' tk e d, Made s.heap h' e C d v → R (.ok (.ret (.ref e))) { s with heap := h', toks := tk }) :
    codeAny (model prog w) A (.call (.ref C) ⟨[v], []⟩) R s := by
  obtain ⟨nm, q, N, bs, bm, sn, sub, ab, col, dd, k0, k1, k2, k3, k5, hC, hbm⟩ := T.ox.cls
  obtain ⟨hp, g, dr, tk, os⟩ := s
  have k : ∀ b o, hp.get? b = some o → ((hp.push (kdv_tup [v])).push (excO C hp.objs.size)).get? b = some o := fun b o e => Heap.get?_push_of_some _ (Heap.get?_push_of_some _ e)
  have hget : ((hp.push (kdv_tup [v])).push (excO C hp.objs.size)).get? (hp.objs.size + 1) = some (excO C hp.objs.size) := by heap_get
  have hnx : K.lookup (hp.objs.size + 1) = none := by
    cases e : K.lookup (hp.objs.size + 1) with
    | none => rfl
    | some o =>
      have z : hp.get? (hp.objs.size + 1) = some o := X _ _ e
      exact absurd (Nat.lt_of_succ_lt (Heap.lt_size z)) (Nat.lt_irrefl _)
  have one : [v].length ≤ sizeLine := by
    show 1 ≤ sizeLine
    rw [sizeLine_eq]
    decide
  refine call_own PySem.F.excBase_ValueError (fun X => refsVE_contains X bm hbm) (X _ _ hC) (looks_findIn X T.iC) (fun self => bind_fn X self T.tI) one ?_
  refine init_ok (s := ⟨(hp.push (kdv_tup [v])).push (excO C hp.objs.size), g, dr, tk, os⟩) T (X.keeps k) (hns.keeps k) (hbl.keeps k) hbb (hlim.keeps k) hget hnx ?_ fun h' tk' dx t1 ⟨k', hx, dn, dne, hns'⟩ => ?_
  · show A.depth + 1 < recursionLimit
    exact hroom
  · have old : ∀ b o, hp.get? b = some o → h'.get? b = some o := fun b o e => k' b o (Nat.ne_of_lt (Nat.lt_succ_of_lt (Heap.lt_size e))) (k b o e)
    have z : hp.objs.size + 1 + 1 ≤ dx := by
      first
        | (simpa only [Heap.size_push] using dn)
        | exact dn
        | (have q := dn; rw [Heap.size_push, Heap.size_push] at q; exact q)
    exact ⟨rfl, hq h' tk' (hp.objs.size + 1) dx ⟨old, Nat.le_succ _, ⟨_, _, hx, rfl, rfl, rfl, rfl⟩, Nat.le_trans (Nat.le_trans (Nat.le_succ _) (Nat.le_succ _)) z, dne, hns'⟩⟩
end
end Nx
end PySem
namespace L2
open PySem PySem.Spec PyProof.Rows
theorem relO_one {f : Str} {v : V} {v' : Value} (r : RelV v v') (g : Str) : RelO (List.lookup g [(f, v)]) (if g = f then some v' else none) := by
  rw [lookup_put]
  by_cases h : g = f
  · rw [if_pos h, if_pos h]
    exact r
  · rw [if_neg h, if_neg h]
    trivial
section
variable {X : Cx} {C fI : Addr}
/-- NoX(e), the class at C -/
def tMkNx (f : Str) (C : Addr) (ta : TA) : St → Hp → XK → Prop := fun σ H Q => ta σ H fun vs H1 => ∃ v, vs = [v] ∧ ∀ d, H1 d = none → Q (.ref C) (some d) (upd H1 d (.xd [(f, v)]))
theorem pmk_nx {a : Expr} {ta : TA} {x : Str} {p pos : Pos} {k : Nat} (T : PySem.Nx.Txt X.prog X.K X.mg C fI) (hr : Room k X.A) (ha : PA X [a] ta) (hg : Gl X x) (hm : X.mg x = some (.ref C)) (hdb : (x == ("__debug__" : Str)) = false := by decide)
    (he : starEach (a :: []) X.env = (false, eval a X.env) :: starEach [] X.env := by rfl) (hpl : (backTo pos (starEach [] X.env)).any (·.1) = false := by rfl) :
    PMk X (.Call (.Name x p) [a] [] pos) (tMkNx "field" C ta) := by
  intro pins s σ H Q I h
  refine wpAny_Call_Name_kw (ld_glob I hg hm ?_ hdb)
  refine PySem.W.callWith_K (h₀ := X.base) I.ok.mod.kin T.ox.kC (thn (ha.run pos pins s σ H _ I h) fun us s1 hh => ?_) he hpl
  obtain ⟨vs, H1, I1, r1, v, ev, q1⟩ := hh
  subst ev
  refine ⟨I1.kIn, ?_⟩
  cases r1 with
  | cons rv rn =>
    rename_i v' us'
    cases rn
    show wpAny _ _ (call (.ref C) [v']) _ _ _
    have hlim := I1.nolimit
    obtain ⟨mb, hb1, hb2⟩ := I1.ok.mod.blt
    have hns := I1.ok.mod.glob.keeps I1.bk
    have hbl := hb1.keeps I1.bk
    obtain ⟨hp, g, dr, tk, os⟩ := s1
    refine wpAny_call (PySem.Nx.made_ok T I1.kIn hns hbl hb2 hlim (by have := hr.dp; omega) fun h' tk' e d M => ?_)
    show MkP X pins σ Q (.ref e) ⟨h', g, dr, tk', os⟩
    obtain ⟨oe, fv, hoe, hc, hd, hdat, h1⟩ := M.obj
    have hns := M.ns
    obtain ⟨G', g1, g2⟩ := restrict h' fun b => decide (b ≠ e)
    have gk : ∀ b, b ≠ e → G'.get? b = h'.get? b := fun b hb => g1 b (decide_eq_true hb)
    have ge : G'.get? e = none := g2 e (by simp)
    have old : ∀ b o, hp.get? b = some o → G'.get? b = some o := fun b o q => (gk b (Nat.ne_of_lt (Nat.lt_of_lt_of_le (Heap.lt_size q) M.new))).trans (M.keep b o q)
    have ob : ObjOk X.prog X.w (upd H1 d (.xd [(("field" : Str), v)])) G' d (.xd [(("field" : Str), v)]) :=
      ⟨_, hns.at (fun o q => (gk d M.dne).trans q), fun f => relO_one rv f⟩
    have J : Inv X pins σ (upd H1 d (.xd [(("field" : Str), v)])) ⟨G', g, dr, tk', os⟩ := I1.laid (t' := tk') old M.dbig ob
    refine ⟨e, oe, fv, ⟨G', g, dr, tk', os⟩, _, .ref C, some d, rfl, J, fun b o q => ?_, ge, hoe, ⟨hc, hd⟩, hdat, h1, ?_, rfl, I1.bare, raises_own T.ox.exC T.ox.tyC, q1 d (I1.hok.fresh M.dbig)⟩
    · by_cases hb : b = e
      · have q' : G'.get? b = some o := q
        rw [hb, ge] at q'; cases q'
      · exact (gk b hb).symm.trans q
    · rw [upd_ne (Ne.symm M.dne)]
      exact I1.hok.fresh M.new
/-- isinstance(e, c), e the exception that the suite holds (at a; its class cls, its dict d) -/
def rIsX (K : PySem.W.Frag) (a : Addr) (cls : Value) (d : Option Addr) : List V → Hp → VK → Prop := fun xs H Q =>
  ∃ (D dd : Addr) (fs : List (Str × V)) (c : V) (cv : Value) (b : Bool), cls = .ref D ∧ ExcC K D ∧ d = some dd ∧ H dd = some (.xd fs) ∧ xs = [.ref a, c] ∧ (∀ u, RelV c u → u = cv) ∧ PySem.W.kitOne K (.ref D) cv = some b ∧ Q (.bl b) H
theorem call_isX {a : Addr} {oe : Obj} {cls : Value} {d : Option Addr} {pn : List (Addr × Obj)} (hz : Zc cls d oe) (hf : ∃ vs, oe.data = .fields vs) : CallR (X.suite a ((a, oe) :: pn)) (.builtin "isinstance") (rIsX X.K a cls d) := by
  intro pins s σ H xs us Q I r h
  obtain ⟨D, dd, fs, c, cv, b, rfl, T, rfl, hdd, rfl, hcv, e, q⟩ := h
  cases r with
  | cons rx rr =>
    cases rr with
    | cons rt rr =>
      cases rr
      cases rx
      have ec := hcv _ rt
      subst ec
      obtain ⟨hget, _⟩ := I.pin (a, oe) (List.mem_append.mpr (.inl List.mem_cons_self))
      obtain ⟨vs, hv⟩ := hf
      have hx : ObjOk X.prog X.w H s.heap dd (.xd fs) := I.hok dd _ hdd
      obtain ⟨mA, hns, hr⟩ := hx
      obtain ⟨od, ho, hl⟩ := lookIn_ns hns
      have J : PySem.W.InstAt s.heap a oe D (some od) := ⟨hget, hz.1, by unfold PySem.W.notCls; rw [hv] <;> rfl, by rw [hz.2]; exact ho⟩
      have hcl : (PySem.W.clsIn X.K D).isSome = true := by
        obtain ⟨cd, hc, _⟩ := PySem.W.any_some T.hd
        rw [hc] <;> rfl
      exact PySem.W.kia_one (PySem.W.kitx_exc hcl T.hg T.hk T.hs T.ha T.hn T.ht T.hm) I.kIn J e (fun z => nomatch z) fun tk => ⟨.bl b, H, I.kept (t' := tk) fun _ _ z => z, rfl, q⟩
end
end L2
set_option maxHeartbeats 4000000
namespace L2
open PySem PySem.Spec PyProof.Rows
/-- behind a suite with a name: slot i is gone -/
def goneE (D : Ends) (i : Nat) : Ends := { nx := fun σ H => D.nx (σ.set i none) H, rt := D.rt, bk := fun σ H => D.bk (σ.set i none) H, ct := fun σ H => D.ct (σ.set i none) H }
/-- the clauses «except c as n: ..» one after the other, each n at slot i -/
def wAll (K : PySem.W.Frag) (m i : Nat) (Wout : WX) (D : Ends) : List (Value × (Addr → Value → Option Addr → TS)) → WX
  | [] => Wout
  | (c, ts) :: r => fun cls d σ H => ∃ b, PySem.W.exmOne K cls c = some b ∧ (b = true → ∀ a, H a = none → σ.length = m → ts a cls d (goneE D i) (σ.set i (some (.ref a))) H) ∧ (b = false → wAll K m i Wout D r cls d σ H)
inductive HdAs (X : Cx) (n : Str) : List ExceptHandler → List (Value × (Addr → Value → Option Addr → TS)) → Prop
  | nil : HdAs X n [] []
  | cons {x : Str} {c : Value} {ts : Addr → Value → Option Addr → TS} {st : Stmt} {sts : List Stmt} {np p : Pos} {hds : List ExceptHandler} {l : List (Value × (Addr → Value → Option Addr → TS))} (hc : Names X x c)
      (hsu : ∀ (a : Addr) (oe : Obj) (cls : Value) (d : Option Addr) (pn : List (Addr × Obj)), Zc cls d oe → (∃ vs, oe.data = .fields vs) → PSs (X.suite a ((a, oe) :: pn)) (st :: sts) (ts a cls d)) (r : HdAs X n hds l) :
      HdAs X n (.ExceptHandler (some (.Name x np)) (some n) (st :: sts) p :: hds) ((c, ts) :: l)
section
variable {X : Cx} {n : Str} {i : Nat} {body : List Stmt} {h₀ : ExceptHandler} {hds : List ExceptHandler} {l : List (Value × (Addr → Value → Option Addr → TS))} {pos : Pos} {tb : WX → TS} {Wout : WX}
/-- one after the other, the exception being on the ground -/
theorem all_handled {pins : List (Addr × Obj)} {sI s' : Shared} {B : Heap} {σ' : St} {H' : Hp} {a : Addr} {cls : Value} {d : Option Addr} {D : Ends} {h3 : Heap} (hs : X.stack = X.env :: X.outer) (hf : X.env.frame = some X.env.locals) (hN : X.N.Nodup) (hi : X.N[i]? = some n)
    (hln : X.env.kindOf n = some .local) (tk : Takes X Wout) (ok : X.Ok) (J : Inv X pins σ' H' sI) (nb : ∀ b o, sI.heap.get? b = some o → b ∉ frs X.stack → B.get? b = some o) (up : sI.heap.UpToSlots h3) (na : H' a = none) (os : s'.os = sI.os) (ag : AllBare s'.gens)
    (fl3 : HandSPX.FlyingZ B (X.env :: X.outer) a (Zc cls d) h3) : ∀ {hds' : List ExceptHandler} {l' : List (Value × (Addr → Value → Option Addr → TS))}, HdAs X n hds' l' → wAll X.K X.N.length i Wout D l' cls d σ' H' →
      wpAny (model X.prog X.w) X.A (handleBy (.ref a) X.env hds') (SP X pins D) X.xe { s' with heap := h3 } := by
  have J3 : Inv X pins σ' H' { s' with heap := h3 } := J.landed nb fl3.1 up os ag
  obtain ⟨oe3, vs3, he3, hz3, hd3⟩ := fl3.there
  have nfr : a ∉ frs (X.env :: X.outer) := fun hm => by
    obtain ⟨_, o', e', hnf⟩ := fl3.2.2.1.mem hm
    rw [he3] at e'
    cases e'
    exact hnf _ hd3
  have nL : a ≠ X.env.locals := fun z => nfr (List.mem_filterMap.mpr ⟨X.env, List.mem_cons_self, by rw [hf, z]⟩)
  have nF : a ∉ X.fs := fun hm => by
    obtain ⟨e, he, q⟩ := List.mem_filterMap.mp hm
    exact nfr (List.mem_filterMap.mpr ⟨e, List.mem_cons_of_mem _ he, q⟩)
  have S3 := J3.suite he3 hd3 na nL nF
  intro hds' l' hk
  induction hk with
  | nil =>
    intro w
    obtain ⟨k1, k2, k3, oe, vs, T, oT, ts', he, hz, hd, h1, hr⟩ := id fl3
    refine wpAny_handleBy_nil ?_
    unfold PySem.passOn
    refine wpAny_bind (wpAny_field he hd h1 ?_)
    rw [if_neg (show ¬ ((Value.ref T == Value.none) = true) from by simp)]
    have fin : wpAny (model X.prog X.w) X.A (setFlight (.ref a) X.env.frame) (fun _ s4 => wpAny (model X.prog X.w) X.A (throw (.ref a) : Sem Flow) (SP X pins D) X.xe s4) X.xe { s' with heap := h3 } := by
      rw [hf]
      exact HandSPX.setFlight_upZ fl3 fun h4 hh4 up4 => wpAny_throw (tk _ _ ⟨a, B, sI, pins, σ', H', cls, d, rfl, J, nb, up.trans up4, .inr (.inr (by rw [hs]; exact hh4)), na, os, ag, w⟩)
    first
      | exact wpAny_bind (wpAny_pure (wpAny_bind fin))
      | exact wpAny_bind fin
  | @cons x c ts st sts np p hds2 l2 hc hsu r ih =>
    intro w
    obtain ⟨b, hb1, hyes, hno⟩ := w
    refine wpAny_handleBy_cons (codeAny_handlers_test ?_) (by intro q; cases q)
    have LT : PySem.W.Looks (model X.prog X.w) h3 (typeOf (.ref a)) cls := fun A Q E s k q => wpAny_typeOf_ref (k _ _ he3) (by rw [hz3.1]; exact q)
    have LM := PySem.W.exm_one (M := model X.prog X.w) (J3.kIn) LT hb1
    have test : ∀ {Q : Value → Shared → Prop} {E : Value → Shared → Prop}, Q c { s' with heap := h3 } → wpAny (model X.prog X.w) (X.A.mark (some (.ref a))) (eval (.Name x np) X.env) Q E { s' with heap := h3 } := fun {Q E} q => by
      obtain ⟨hg, hdbg, hm | ⟨hm, hv, hnn⟩⟩ := hc
      · exact ld_glob (X := X.suite a ((a, oe3) :: (X.pn ++ pins))) S3 hg hm q hdbg
      · exact ld_blt (X := X.suite a ((a, oe3) :: (X.pn ++ pins))) S3 hg hm hv q hnn hdbg
    refine test (LM.here ?_)
    cases b with
    | false =>
      show wpAny _ X.A (handleBy (.ref a) X.env hds2) _ _ _
      exact ih (hno rfl)
    | true =>
      refine codeAny_handlers_suite_as ?_
      refine HandSPX.lands_againZ fl3 fun h4 fl4 up4 => ?_
      have J4 : Inv X pins σ' H' { s' with heap := h4 } := J.landed nb fl4.1 (up.trans up4) os ag
      obtain ⟨oe4, vs4, he4, hz4, hd4⟩ := fl4.there
      have S4 := J4.suite he4 hd4 na nL nF
      refine store_ok (X := X.suite a ((a, oe4) :: (X.pn ++ pins))) (v := .ref a) S4 hN hi (.inl hln) rfl (fun s5 S5 => ?_) (.inr hln)
      refine wpAny_mono ((hsu a oe4 cls d (X.pn ++ pins) hz4 ⟨_, hd4⟩).run [] s5 _ H' _ S5 (hyes rfl a na J.len)) (fun f s6 hsp => ?_) (fun _ _ z => False.elim z)
      have end_ : ∀ {σ6 : St} {H6 : Hp} {Q : Shared → Prop}, Inv (X.suite a ((a, oe4) :: (X.pn ++ pins))) [] σ6 H6 s6 → (∀ s7, Inv X pins (σ6.set i none) H6 s7 → Q s7) →
          wpAny (model X.prog X.w) X.A (do bindName X.env n .none; unbindBehindTheSuite X.env n p) (fun _ s7 => Q s7) X.xe s6 := fun {σ6 H6 Q} S6 hq => gone_ok (S6.unsuite ok) hN hi hln hq
      cases f with
      | next =>
        obtain ⟨σ6, H6, S6, q6⟩ := hsp
        exact end_ S6 fun s7 J7 => ⟨_, _, J7, q6⟩
      | brk =>
        obtain ⟨σ6, H6, S6, q6⟩ := hsp
        exact end_ S6 fun s7 J7 => ⟨_, _, J7, q6⟩
      | cont =>
        obtain ⟨σ6, H6, S6, q6⟩ := hsp
        exact end_ S6 fun s7 J7 => ⟨_, _, J7, q6⟩
      | ret u =>
        obtain ⟨v6, σ6, H6, S6, r6, q6⟩ := hsp
        exact end_ S6 fun s7 J7 => ⟨_, _, _, J7, r6, q6⟩
theorem ps_try_all (hs : X.stack = X.env :: X.outer) (hf : X.env.frame = some X.env.locals) (hN : X.N.Nodup) (hi : X.N[i]? = some n) (hln : X.env.kindOf n = some .local) (tk : Takes X Wout)
    (hb : ∀ (W : WX) (pn : List (Addr × Obj)) (xe : Value → Shared → Prop), Takes (X.tr pn xe) W → PassesOwn (model X.prog X.w) X.A X.env xe → PSs (X.tr pn xe) body (tb W))
    (hh : HdAs X n (h₀ :: hds) l) : PS X (.Try body (h₀ :: hds) [] [] pos) (fun D σ H => tb (wAll X.K X.N.length i Wout D l) D σ H) := by
  refine ⟨fun pins s σ H D I h => ?_⟩
  have ok := I.ok
  have hfr : X.A.frames = some (X.env :: X.outer) := by rw [ok.frames, hs]
  refine wpAny_Try_except ?_
  refine wpAny_mono ((hb (wAll X.K X.N.length i Wout D l) (X.pn ++ pins) (fun e s₁ => wpAny (model X.prog X.w) X.A (noteFrame e X.env) (fun _ s₂ => wpAny (model X.prog X.w) X.A (setFlight e none) (fun _ s₃ =>
    wpAny (model X.prog X.w) X.A (handleBy e X.env (h₀ :: hds)) (SP X pins D) X.xe s₃) X.xe s₂) X.xe s₁) (fun u s' xx => ?_) PassesOwn.looking).run [] s σ H D (I.toTry _) h) (fun f s1 hsp => ?_) (fun e s1 he => he)
  · obtain ⟨a, B, sI, pins', σ', H', cls, d, rfl, J', nb, up, sky, na, os, ag, w⟩ := xx
    have J : Inv X pins σ' H' sI := J'.ofTry ok
    have sky' : Sky B (X.env :: X.outer) a (Zc cls d) X.env.locals s'.heap := by rw [← hs]; exact sky
    show wpAny (model X.prog X.w) X.A (noteFrame (.ref a) X.env) _ _ _
    exact Sky.land Zc.steady hfr hf sky' fun h3 fl3 up3 => all_handled hs hf hN hi hln tk ok J nb (up.trans up3) na os ag fl3 hh w
  · cases f with
    | next =>
      obtain ⟨σ', H', J', q⟩ := hsp
      exact wpAny_execs_nil ⟨σ', H', J'.ofTry ok, q⟩
    | brk =>
      obtain ⟨σ', H', J', q⟩ := hsp
      exact ⟨σ', H', J'.ofTry ok, q⟩
    | cont =>
      obtain ⟨σ', H', J', q⟩ := hsp
      exact ⟨σ', H', J'.ofTry ok, q⟩
    | ret u =>
      obtain ⟨v, σ', H', J', r, q⟩ := hsp
      exact ⟨v, σ', H', J'.ofTry ok, r, q⟩
end
end L2
set_option maxHeartbeats 4000000
/-! ### the end of a law, its def run at the caller's place alone (there no object is being shown: repr) -/
namespace Nd
open PySem PySem.Spec PyProof.Rows L2 LamX
/-- the script as it stands: frozen, or of the written part; a list that bears nothing else -/
def ScrL (K : PySem.W.Frag) (H : Hp) (a : Addr) (xs : List V) : Prop := (∃ vs : List Value, H a = some (.frz { cls := .type "list", data := .seq vs.toArray } (.lst xs))) ∨
  ∃ vs : List Value, K.lookup a = some { cls := .type "list", data := .seq vs.toArray } ∧ vs.length ≤ sizeLine ∧ Vals xs vs
theorem ScrL.seq {K : PySem.W.Frag} {H : Hp} {a : Addr} {xs : List V} (h : ScrL K H a xs) : SqL K H a xs := by
  rcases h with ⟨vs, h⟩ | ⟨vs, h, l, r⟩
  · exact .inl (.inr ⟨_, h⟩)
  · exact .inr ⟨_, vs.toArray, _, h, rfl, rfl, rfl, by rw [List.size_toArray]; exact l, by simpa using r⟩
/-- the law's def, called from the outside with the script at a -/
def RunsAt (P : Program) (w : World) (K : PySem.W.Frag) (mg : Str → Option Value) (base : Heap) (fa : Addr) (sp : Sp) : Prop :=
  ∀ (a : Addr) (s : Shared) (H : Hp), Env0 P w K mg base callerA [] s H → sp [.ref a] H (fun v _ => v = .bl true) E0 →
    codeAny (model P w) callerA (.call (.ref fa) ⟨[.ref a], []⟩) (CR CX0 [] P w H s (fun v _ => v = .bl true) E0) s
section
variable {P : Program} {w : World} {K : PySem.W.Frag} {mg mb : Str → Option Value} {fa a : Addr} {cs : List (Addr × Addr)} {sp : Sp} {s₁ : Shared} {vs : List Value} {ns : List Int}
/-- from one abstract heap that tells of the tables and the script alone -/
theorem run_core (KX : K.In s₁.heap) (hns : s₁.heap.Ns mainGlobals mg) (hb : s₁.heap.Ns builtinsNs mb) (hbb : ∀ x : Str, x ≠ "__name__" → mb x = bootBuiltins x) (hlim : s₁.heap.NoLimit) (hg : s₁.gens = #[])
    (hT : ∀ p ∈ cs, s₁.heap.get? p.2 = some { cls := .none, data := .fields #[] }) (nT : ∀ p ∈ cs, K.lookup p.2 = none) (C : ∀ p ∈ cs, PySem.W.CodeHd s₁.heap p.1 p.2)
    (hbm : ∃ (bm : Addr) (ob : Obj), mg "__builtins__" = some (.ref bm) ∧ bm ≠ builtinsNs ∧ s₁.heap.get? bm = some ob ∧ ob.cls = .type "module" ∧ ob.dict = some builtinsNs ∧ ob.data = .plain)
    (ha : s₁.heap.get? a = some { cls := .type "list", data := .seq vs.toArray })
    (F : ∀ base : Heap, K.In base → base.Ns mainGlobals mg → (∀ p ∈ cs, TabB base mg p.1 p.2) → RunsAt P w K mg base fa sp)
    {H : Hp} (hH : ∀ p ∈ cs, H p.2 = some (.tbl #[])) (hO : ∀ b, H b = none ∨ b ∈ cs.map (·.2) ∨ ∃ o xs, H b = some (.frz o (.lst xs))) (hok : HOk P w H s₁.heap) (hA : ∀ b, H b ≠ none → b = a ∨ b ∈ cs.map (·.2)) (hK : H a ≠ none → K.lookup a = none)
    (hq : sp [.ref a] H (fun v _ => v = .bl true) E0) :
    codeAny (model P w) callerA (.call (.ref fa) ⟨[.ref a], []⟩) (fun r s' => r = .ok (.ret (.bool true)) ∧ OldK s₁.heap s'.heap ∧ s'.os = s₁.os ∧ AllBare s'.gens) s₁ := by
  have isT : ∀ b : Addr, b ∈ cs.map (·.2) → s₁.heap.get? b = some { cls := .none, data := .fields #[] } := fun b hb => by
    obtain ⟨p, hp, e⟩ := List.mem_map.mp hb
    rw [← e]
    exact hT p hp
  -- an object of another kind is not tracked
  have noD : ∀ {b : Addr} {o : Obj}, s₁.heap.get? b = some o → (∀ vs n, o.data ≠ .seq vs n) → o.data ≠ .fields #[] → H b = none := fun {b o} e h1 h2 => by
    cases q : H b with
    | none => rfl
    | some u =>
      rcases hA b (by rw [q]; simp) with e' | e'
      · rw [e', ha] at e
        cases e
        exact (h1 _ _ rfl).elim
      · rw [isT b e'] at e
        cases e
        exact (h2 rfl).elim
  have dictK : ∀ {b : Addr} {m : Str → Option Value}, s₁.heap.Ns b m → (hidT s₁.heap H).Ns b m := fun {b m} ⟨o, es, ep, e, d, r⟩ =>
    ⟨o, es, ep, hidT_get e (noD e (fun vs n z => by rw [d] at z; cases z) fun z => by rw [d] at z; cases z), d, r⟩
  have hKb : K.In (hidT s₁.heap H) := fun b o e => hidT_get (KX b o e) (by
    cases q : H b with
    | none => rfl
    | some u =>
      rcases hA b (by rw [q]; simp) with e' | e'
      · rw [e'] at e q
        rw [hK (by rw [q]; simp)] at e
        cases e
      · obtain ⟨p, hp, ep⟩ := List.mem_map.mp e'
        rw [← ep, nT p hp] at e
        cases e)
  have hM : L2.Mod K mg (hidT s₁.heap H) := ⟨hKb, dictK hns, ⟨mb, dictK hb, hbb⟩, let ⟨mc, h1, h2⟩ := hlim; ⟨mc, dictK h1, h2⟩⟩
  have TB : ∀ p ∈ cs, TabB (hidT s₁.heap H) mg p.1 p.2 := fun p hp => by
    have hTp := hT p hp
    refine ⟨?_, ?_, fun z => ?_⟩
    · obtain ⟨o, us, file, tf, flags, tg, inF, text, tt, e1, r1, r2, r3, r4, r5, r6, r7, r8, hne⟩ := C p hp
      refine ⟨o, us, file, tf, flags, tg, inF, text, tt, hidT_get e1 (noD e1 (fun vs n z => by rw [r2] at z; cases z) fun z => ?_), r1, r2, r3, r4, r5, r6, r7, r8, hne⟩
      rw [r2] at z
      cases z
      simp at r3
    · obtain ⟨bm, ob, b1, b2, b3, b4, b5, b6⟩ := hbm
      have nG : bm ≠ mainGlobals := fun q => by
        obtain ⟨o, es, ep, e, hd, _⟩ := hns
        rw [q, e] at b3
        cases b3
        rw [hd] at b6
        cases b6
      have nP : bm ≠ p.2 := fun q => by
        rw [q, hTp] at b3
        cases b3
        cases b6
      exact ⟨bm, ob, b1, b2, nG, nP, hidT_get b3 (noD b3 (fun vs n z => by rw [b6] at z; cases z) fun z => by rw [b6] at z; cases z), b4, b5, b6⟩
    · obtain ⟨o, es, ep, e, hd, _⟩ := hns
      rw [z, hTp] at e
      cases e
      cases hd
  have e0 : Env0 P w K mg (hidT s₁.heap H) callerA [] s₁ H := ⟨rfl, hM, fun b o e => of_hidT e, Nat.le_of_eq (hidT_size _ _), trivial, fun b hb => absurd (show b ∈ ([] : List Addr) from hb) (by simp), hok, .of_eq hg⟩
  refine codeAny_mono (F _ hKb (dictK hns) TB a s₁ H e0 hq) fun r s' h => ?_
  cases r with
  | error e => exact False.elim h
  | ok fl =>
    cases fl with
    | next => exact False.elim h
    | brk => exact False.elim h
    | cont => exact False.elim h
    | ret u =>
      obtain ⟨v, H', os, bare, un, hok', r', q⟩ := h
      have q' : v = .bl true := q
      subst q'
      obtain rfl : u = Value.bool true := r'
      have key : ∀ b o, b ∉ cs.map (·.2) → s₁.heap.get? b = some o → s'.heap.get? b = some o := fun b o nb e => by
        rcases hO b with z | z | ⟨ob, xs, z⟩
        · exact un.keep b o e z (fun z => absurd (show b ∈ ([] : List Addr) from z) (by simp)) (by simp)
        · exact absurd z nb
        · obtain ⟨e1, _⟩ := hok b _ z
          obtain ⟨e2, _⟩ := hok' b _ (un.frzs b ob _ z)
          rw [e] at e1
          cases e1
          exact e2
      have grown : ∀ b, b ∈ cs.map (·.2) → ∃ more : Array Value, s'.heap.get? b = some { cls := .none, data := .fields more } := fun b hb => by
        obtain ⟨p, hp, ep⟩ := List.mem_map.mp hb
        obtain ⟨more, z⟩ := un.tbls p.2 #[] (hH p hp)
        rw [← ep]
        exact ⟨_, hok' p.2 _ z⟩
      refine ⟨rfl, ⟨fun b o e => ?_, fun b o e => ?_⟩, os, bare⟩
      · by_cases hb : b ∈ cs.map (·.2)
        · obtain ⟨more, hm⟩ := grown b hb
          obtain ⟨p, hp, ep⟩ := List.mem_map.mp hb
          rw [← ep] at e hm ⊢
          rw [hT p hp] at e
          cases e
          exact .inr (.inl ⟨((C p hp).tab (hT p hp)).isCodeTable, rfl, #[], more, rfl, by rw [Array.empty_append]; exact hm⟩)
        · exact .inl (key b o hb e)
      · by_cases hb : b ∈ cs.map (·.2)
        · obtain ⟨more, hm⟩ := grown b hb
          exact ⟨_, hm⟩
        · exact ⟨o, key b o hb e⟩
theorem run_law (KX : K.In s₁.heap) (hns : s₁.heap.Ns mainGlobals mg) (hb : s₁.heap.Ns builtinsNs mb) (hbb : ∀ x : Str, x ≠ "__name__" → mb x = bootBuiltins x) (hlim : s₁.heap.NoLimit) (hg : s₁.gens = #[])
    (hT : ∀ p ∈ cs, s₁.heap.get? p.2 = some { cls := .none, data := .fields #[] }) (nT : ∀ p ∈ cs, K.lookup p.2 = none) (C : ∀ p ∈ cs, PySem.W.CodeHd s₁.heap p.1 p.2)
    (hbm : ∃ (bm : Addr) (ob : Obj), mg "__builtins__" = some (.ref bm) ∧ bm ≠ builtinsNs ∧ s₁.heap.get? bm = some ob ∧ ob.cls = .type "module" ∧ ob.dict = some builtinsNs ∧ ob.data = .plain)
    (ha : s₁.heap.get? a = some { cls := .type "list", data := .seq vs.toArray }) (hi : IntsAre vs ns) (hl : ns.length ≤ sizeLine)
    (F : ∀ base : Heap, K.In base → base.Ns mainGlobals mg → (∀ p ∈ cs, TabB base mg p.1 p.2) → RunsAt P w K mg base fa sp)
    (hsp : ∀ H : Hp, (∀ p ∈ cs, H p.2 = some (.tbl #[])) → ScrL K H a (ns.map V.int) → sp [.ref a] H (fun v _ => v = .bl true) E0) :
    codeAny (model P w) callerA (.call (.ref fa) ⟨[.ref a], []⟩) (fun r s' => r = .ok (.ret (.bool true)) ∧ OldK s₁.heap s'.heap ∧ s'.os = s₁.os ∧ AllBare s'.gens) s₁ := by
  have rv := vals_ints hi
  have lenV := hi.length
  have isT : ∀ b : Addr, b ∈ cs.map (·.2) → s₁.heap.get? b = some { cls := .none, data := .fields #[] } := fun b hb => by
    obtain ⟨p, hp, e⟩ := List.mem_map.mp hb
    rw [← e]
    exact hT p hp
  have aT : a ∉ cs.map (·.2) := fun z => by
    have q := isT a z
    rw [ha] at q
    cases congrArg Obj.data (Option.some.inj q)
  have memT : ∀ p ∈ cs, p.2 ∈ cs.map (·.2) := fun p hp => List.mem_map.mpr ⟨p, hp, rfl⟩
  -- the script is of the written part, or it is tracked as it stands
  obtain ⟨scr, hscr⟩ : ∃ scr : Option HO, scr = (match K.lookup a with | some _ => none | none => some (.frz { cls := .type "list", data := .seq vs.toArray } (.lst (ns.map V.int)))) := ⟨_, rfl⟩
  obtain ⟨H, hHd⟩ : ∃ H : Hp, H = fun b => if b = a then scr else if b ∈ cs.map (·.2) then some (.tbl #[]) else none := ⟨_, rfl⟩
  have atA : H a = scr := by rw [hHd]; exact if_pos rfl
  have atT : ∀ b, b ≠ a → H b = if b ∈ cs.map (·.2) then some (.tbl #[]) else none := fun b hb => by rw [hHd]; exact if_neg hb
  have hH : ∀ p ∈ cs, H p.2 = some (.tbl #[]) := fun p hp => (atT _ fun z => aT (by rw [← z]; exact memT p hp)).trans (if_pos (memT p hp))
  have cases4 : scr = none ∨ scr = some (.frz { cls := .type "list", data := .seq vs.toArray } (.lst (ns.map V.int))) := by
    rw [hscr]
    cases K.lookup a with
    | some o => exact .inl rfl
    | none => exact .inr rfl
  refine run_core (H := H) KX hns hb hbb hlim hg hT nT C hbm ha F hH (fun b => ?_) (fun b u z => ?_) (fun b z => ?_) (fun z => ?_) (hsp H hH ?_)
  · by_cases hba : b = a
    · rw [hba, atA]
      rcases cases4 with q | q
      · exact .inl q
      · exact .inr (.inr ⟨_, _, q⟩)
    · by_cases hb : b ∈ cs.map (·.2)
      · exact .inr (.inl hb)
      · exact .inl ((atT b hba).trans (if_neg hb))
  · by_cases hba : b = a
    · rw [hba, atA] at z
      rcases cases4 with q | q
      · rw [q] at z
        cases z
      · rw [q] at z
        cases z
        rw [hba]
        exact ⟨ha, by rw [List.length_map]; exact hl, vs, _, rv, ha⟩
    · rw [atT b hba] at z
      by_cases hb : b ∈ cs.map (·.2)
      · rw [if_pos hb] at z
        cases z
        exact isT b hb
      · rw [if_neg hb] at z
        cases z
  · by_cases hba : b = a
    · exact .inl hba
    · by_cases hb : b ∈ cs.map (·.2)
      · exact .inr hb
      · exact absurd ((atT b hba).trans (if_neg hb)) z
  · cases hk : K.lookup a with
    | none => rfl
    | some o =>
      rw [atA, hscr, hk] at z
      exact absurd rfl z
  · cases hk : K.lookup a with
    | some o =>
      have e := KX a o hk
      rw [ha] at e
      cases e
      exact .inr ⟨vs, hk, by rw [lenV]; exact hl, rv⟩
    | none =>
      refine .inl ⟨vs, ?_⟩
      rw [atA, hscr, hk]
end
/-- what is known of the law's def at the head's heap h -/
def LawHas (l : PySem.W.OpenLaw) (w : World) (K : PySem.W.Frag) (n : Nat) (mg : Str → Option Value) (fa : Addr) (h : Heap) : Prop :=
  ∃ (cs : List (Addr × Addr)) (sp : Sp), (∀ p ∈ cs, h.get? p.2 = some { cls := .none, data := .fields #[] }) ∧ (∀ p ∈ cs, K.lookup p.2 = none) ∧ (∀ p ∈ cs, PySem.W.CodeHd h p.1 p.2) ∧
    (∀ (H : Hp) (a : Addr) (ns : List Int), ns.length ≤ n → (∀ z ∈ ns, Builtin.Int.intBits z ≤ 1048576) → (∀ p ∈ cs, H p.2 = some (.tbl #[])) → ScrL K H a (ns.map V.int) → sp [.ref a] H (fun v _ => v = .bl true) E0) ∧
    ∀ base : Heap, K.In base → base.Ns mainGlobals mg → (∀ p ∈ cs, TabB base mg p.1 p.2) → RunsAt l.prog w K mg base fa sp
theorem walk_at {l : PySem.W.OpenLaw} {n : Nat} {q : Program} {loose : List Str} {XP : (Str → Option Value) → Heap → Prop} {YP : World → Heap → Prop} {d : DefRec}
    (hn : l.most = some n) (hn2 : n ≤ sizeLine) (hdf : d.params.defaults = [])
    (F : ∀ (w : World) (mg : Str → Option Value) (fa : Addr) (h : Heap), YP w h → h.Ns mainGlobals mg → mg d.name = some (.ref fa) → ∃ K : PySem.W.Frag, K.In h ∧ LawHas l w K n mg fa h) :
    PySem.W.WalkO q loose XP YP l.row.toRowW d [] (fun f vs => PySem.call f vs) := by
  refine Att.attach_callB hn hdf fun w s₀ s₁ mg mb fa o pm cd doc a vs ns G Y ho hd hcd hmg hobj hints hlen hbits hg => ?_
  obtain ⟨K, KX, cs, sp, hT, nT, C, hsp, hF⟩ := F w mg fa _ Y G.T.g hmg
  exact run_law KX G.T.g G.T.b G.T.builtins G.T.nolimit hg hT nT C G.T.bmain hobj hints (Nat.le_trans hlen hn2) hF (fun H hH hS => hsp H a ns hlen hbits hH hS)
end Nd
set_option maxHeartbeats 4000000
/-! ### repr of data: lists, tuples, ints, bools, texts, None -/
namespace Nd
open PySem PySem.Spec PyProof.Rows L2
mutual
def shB : PyData → Nat
  | .none => 4
  | .bool _ => 5
  | .int i => (Str.ofString (toString i)).length
  | .str x => (reprText x).length
  | .list xs => shBs xs + 2
  | .tuple xs => shBs xs + 3
  | .dict _ => 0
def shBs : List PyData → Nat
  | [] => 0
  | x :: xs => shB x + 2 + shBs xs
end
theorem join_le (ts : List Str) : (Str.join ", " ts).length ≤ piled ts := by
  cases ts with
  | nil => decide
  | cons t r =>
    have h := join_length_add (t :: r) (by simp)
    omega
mutual
theorem shown_le : ∀ d : PyData, d.hasDict = false → d.shown.length ≤ shB d
  | .none, _ => by
    show (Str.ofString "None").length ≤ 4
    decide
  | .bool b, _ => by
    cases b <;> (show (Str.ofString _).length ≤ 5; decide)
  | .int i, _ => Nat.le_refl _
  | .str x, _ => Nat.le_refl _
  | .list xs, h => by
    have h1 := shown_all_le xs (by simpa [PyData.hasDict] using h)
    have h2 := join_le (PyData.shownAll xs)
    show (listText (PyData.shownAll xs)).length ≤ shBs xs + 2
    rw [listText_eq_join, strLen_append, strLen_append]
    have e1 : (Str.ofString "[").length = 1 := by decide
    have e2 : (Str.ofString "]").length = 1 := by decide
    omega
  | .tuple xs, h => by
    have h1 := shown_all_le xs (by simpa [PyData.hasDict] using h)
    have h2 := join_le (PyData.shownAll xs)
    show (tupleText (PyData.shownAll xs)).length ≤ shBs xs + 3
    unfold tupleText
    rw [strLen_append, strLen_append]
    have e1 : (Str.ofString "(").length = 1 := by decide
    have e2 : (Str.ofString (if ((PyData.shownAll xs).length == 1) = true then ",)" else ")")).length ≤ 2 := by
      split <;> decide
    omega
  | .dict _, h => by simp [PyData.hasDict] at h
theorem shown_all_le : ∀ xs : List PyData, PyData.hasDictAll xs = false → piled (PyData.shownAll xs) ≤ shBs xs
  | [], _ => by decide
  | x :: xs, h => by
    have hh : (x.hasDict || PyData.hasDictAll xs) = false := by simpa [PyData.hasDictAll] using h
    have h1 := shown_le x (by revert hh; cases x.hasDict <;> simp)
    have h2 := shown_all_le xs (by revert hh; cases x.hasDict <;> simp)
    show piled (x.shown :: PyData.shownAll xs) ≤ shB x + 2 + shBs xs
    have e : piled (x.shown :: PyData.shownAll xs) = x.shown.length + 2 + piled (PyData.shownAll xs) := by
      simp [piled]
    omega
end
def rRepr (K : PySem.W.Frag) : List V → Hp → VK → Prop := fun xs H Q => ∃ (a : Addr) (d : PyData), xs = [.ref a] ∧ Dp K H (.ref a) d ∧ d.showable = true ∧ d.hasDict = false ∧ d.depth ≤ 20 ∧ shB d ≤ 1000000 ∧ Q (.str d.shown) H
theorem call_repr {X : Cx} (hg : X.A.guards = some []) (hu : X.A.units + 64 < cLine) : CallR X (.builtin "repr") (rRepr X.K) := by
  intro pins s σ H xs us Q I r h
  obtain ⟨a, d, rfl, hd, hs, hn, hp, hl, q⟩ := h
  cases r with
  | cons ra rr =>
    cases rr
    obtain ⟨as, hr⟩ := Dp.reads I d _ _ hd ra
    cases ra
    refine repr_of_reads' hr hs (PyData.noDict_hsm hn) hg (by omega) (fun _ _ e => e) (fun h' u tk k => ⟨.str d.shown, H, I.kept (t' := tk) k, ⟨u, rfl⟩, q⟩) ?_
    exact Nat.le_trans (shown_le d hn) (Nat.le_trans hl (by rw [sizeLine_eq]; decide))
end Nd
set_option maxHeartbeats 4000000
/-! ### the calls of defs as constants; what changes in the heap -/
namespace Nd
open PySem PySem.Spec PyProof.Rows L2
section
variable (P : Program) (w : World) (K : PySem.W.Frag) (mg : Str → Option Value) (base : Heap)
/-- the module's name x is a def that keeps sp, at the level k -/
structure CalX (k : Nat) (x : Str) (sp : Sp) : Prop where
  ex : ∃ (f : Addr) (fd : FuncData) (ps : List Str), FnOk P w K mg base (L2.CX P w) k f fd ps sp ∧ mg x = some (.ref f) ∧ PySem.W.keepIn K (.ref f) = true ∧ Binds K fd ps []
/-- what is asked of a def as it stands behind the top -/
structure DefX (x : Str) (st : Stmt) (ps : List Str) (f : Addr) (fd : FuncData) : Prop where
  fn : FunD K x x (defArgs st) (defBody st) (defScope st) [] [] f fd
  mgf : mg x = some (.ref f)
  bi : Binds K fd ps []
end
section
variable {P : Program} {w : World} {K : PySem.W.Frag} {mg : Str → Option Value} {base : Heap}
theorem calx {x : Str} {st : Stmt} {f : Addr} {fd : FuncData} {N ps : List Str} {k : Nat} {sp : Sp} (F : DefX K mg x st ps f fd) (S : FnScope N ps (defScope st)) (len : ∀ vs H Q E, sp vs H Q E → vs.length = ps.length)
    (hbody : ∀ (cdv : Value) (A : Around) (outer : List Env) (s : Shared) (H : Hp) (vs : List V) (Q : VK) (E : XK), Room k (A.deeper (envOfC x (defScope st) s.heap.objs.size f cdv)) → sp vs H Q E →
      ∃ t, PSs (cxOf (L2.CX P w) P w K mg base N x (defScope st) f cdv A outer s H E).nox (defBody st) t ∧ t { nx := fun _ H' => Q .non H', rt := Q } (start N vs) H) : CalX P w K mg base (k + 1) x sp :=
  ⟨f, fd, ps, F.fn.ok S len fun cdv A outer s H vs Q E hr h => let ⟨t, a, b⟩ := hbody cdv A outer s H vs Q E hr h; ⟨t, a.nox, b⟩, F.mgf, F.fn.kp, F.bi⟩
/-- the same for a def that may raise -/
theorem calr {x : Str} {st : Stmt} {f : Addr} {fd : FuncData} {N ps : List Str} {k : Nat} {sp : Sp} (F : DefX K mg x st ps f fd) (S : FnScope N ps (defScope st)) (len : ∀ vs H Q E, sp vs H Q E → vs.length = ps.length)
    (hbody : ∀ (cdv : Value) (A : Around) (outer : List Env) (s : Shared) (H : Hp) (vs : List V) (Q : VK) (E : XK), Room k (A.deeper (envOfC x (defScope st) s.heap.objs.size f cdv)) → sp vs H Q E →
      ∃ t, PSs (cxOf (L2.CX P w) P w K mg base N x (defScope st) f cdv A outer s H E) (defBody st) t ∧ t { nx := fun _ H' => Q .non H', rt := Q } (start N vs) H) : CalX P w K mg base (k + 1) x sp :=
  ⟨f, fd, ps, F.fn.ok S len hbody, F.mgf, F.fn.kp, F.bi⟩
theorem CalX.imp {k : Nat} {x : Str} {sp sp' : Sp} (c : CalX P w K mg base k x sp) (h : ∀ vs H Q E, sp' vs H Q E → sp vs H Q E) : CalX P w K mg base k x sp' := by
  obtain ⟨f, fd, ps, F, a, b, d⟩ := c.ex
  exact ⟨f, fd, ps, F.imp h, a, b, d⟩
end
section
variable {X : Cx} {k j : Nat} {x : Str} {sp : Sp} {p pos : Pos} {e : Expr} {es : List Expr} {t : TA}
theorem pe_cx (c : CalX X.prog X.w X.K X.mg X.base k x sp) (hr : Room j X.A) (hk : k ≤ j) (hg : Gl X x) (ha : PA X (e :: es) t)
    (hdb : (x == ("__debug__" : Str)) = false := by decide) (he : starEach (e :: es) X.env = (false, eval e X.env) :: starEach es X.env := by rfl) (hpl : (backTo pos (starEach es X.env)).any (·.1) = false := by rfl) :
    PE X (.Call (.Name x p) (e :: es) [] pos) (tCall sp [] E0 t) := by
  obtain ⟨f, fd, ps, F, hm, kp, b⟩ := c.ex
  exact pe_call F (hr.mono hk) hg hm kp b .nil passL ha hdb he hpl
/-- a call that may raise: E, what is wished then -/
theorem pe_cr {E : XK} (c : CalX X.prog X.w X.K X.mg X.base k x sp) (hr : Room j X.A) (hk : k ≤ j) (hg : Gl X x) (hx : Passes (L2.CX X.prog X.w) X E) (ha : PA X (e :: es) t)
    (hdb : (x == ("__debug__" : Str)) = false := by decide) (he : starEach (e :: es) X.env = (false, eval e X.env) :: starEach es X.env := by rfl) (hpl : (backTo pos (starEach es X.env)).any (·.1) = false := by rfl) :
    PE X (.Call (.Name x p) (e :: es) [] pos) (tCall sp [] E t) := by
  obtain ⟨f, fd, ps, F, hm, kp, b⟩ := c.ex
  exact pe_call F (hr.mono hk) hg hm kp b .nil hx ha hdb he hpl
end
/-! ### the heap -/
/-- all that was tracked stays, but what lies at a -/
def But (a : Addr) (H H' : Hp) : Prop := ∀ b o, b ≠ a → H b = some o → H' b = some o
theorem But.of {a : Addr} {H H' : Hp} (s : Same H H') : But a H H' := fun b o _ e => s b o e
theorem But.refl {a : Addr} {H : Hp} : But a H H := fun _ _ _ e => e
theorem But.trans {a : Addr} {H H1 H2 : Hp} (x : But a H H1) (y : But a H1 H2) : But a H H2 := fun b o n e => y b o n (x b o n e)
theorem But.same {a : Addr} {H H' : Hp} (x : But a H H') (n : H a = none) : Same H H' := fun b o e => x b o (ne_of_none e n) e
theorem But.upd {a : Addr} {H H' : Hp} {o : HO} (x : But a H H') : But a H (upd H' a o) := fun b u n e => by rw [upd_ne n]; exact x b u n e
theorem Same.new {H : Hp} {p : Addr} {o : HO} (n : H p = none) : Same H (upd H p o) := fun b u e => by rw [upd_ne (ne_of_none e n)]; exact e
theorem Same.mut {H H' : Hp} {p : Addr} {o : HO} (s : Same H H') (n : H p = none) : Same H (upd H' p o) := fun b u e => by rw [upd_ne (ne_of_none e n)]; exact s b u e
end Nd
set_option maxHeartbeats 4000000
/-! ### a head's Hook that sees the statics too, tells one more value, and facts of own errors by Bools -/
namespace Nd
open PySem PySem.Spec PyProof.Rows L2 He
def asN (g : Addr → Option Obj) : Nat → List Addr
  | 0 => [mainGlobals, cStatics]
  | n + 1 => growD g (asN g n)
structure SaysN {β : Type} (fa : List Fa) (fn : List DefD) (tf : List Defn) (ex : PySem.W.Frag → Bool) (nx : PySem.W.Frag → β) (nv : β) (h : Heap) (K : PySem.W.Frag) : Prop where
  t : SaysD fa fn K
  more : ex K = true
  hd : ∀ p ∈ tf, PySem.W.codeHdIn K (cT K p).1 (cT K p).2 = true
  out : ∀ p ∈ tf, K.lookup (cT K p).2 = none
  empty : ∀ p ∈ tf, h.get? (cT K p).2 = some { cls := .none, data := .fields #[] }
  nx : nx K = nv
def obsN {β : Type} (n : Nat) (fa : List Fa) (fn : List DefD) (tf : List Defn) (ex : PySem.W.Frag → Bool) (nx : PySem.W.Frag → β) (g : Addr → Option Obj) : (AlD × Bool) × β :=
  ((obsD fa fn (frT g (asN g n)), ex (frT g (asN g n)) && tabsB g tf (frT g (asN g n))), nx (frT g (asN g n)))
def valN {β : Type} (fn : List DefD) (nv : β) : (AlD × Bool) × β := ((valD fn, true), nv)
theorem saysN_of {β : Type} {n : Nat} {fa : List Fa} {fn : List DefD} {tf : List Defn} {ex : PySem.W.Frag → Bool} {nx : PySem.W.Frag → β} {nv : β} {h : Heap} (e : obsN n fa fn tf ex nx h.get? = valN fn nv) : SaysN fa fn tf ex nx nv h (frT h.get? (asN h.get? n)) := by
  have e1 : obsD fa fn (frT h.get? (asN h.get? n)) = valD fn := congrArg (fun z : (AlD × Bool) × β => z.1.1) e
  have e2 : (ex (frT h.get? (asN h.get? n)) && tabsB h.get? tf (frT h.get? (asN h.get? n))) = true := congrArg (fun z : (AlD × Bool) × β => z.1.2) e
  have e3 : nx (frT h.get? (asN h.get? n)) = nv := congrArg (fun z : (AlD × Bool) × β => z.2) e
  obtain ⟨h1, h2⟩ := ba e2
  have key : ∀ p ∈ tf, PySem.W.codeHdIn (frT h.get? (asN h.get? n)) (cT (frT h.get? (asN h.get? n)) p).1 (cT (frT h.get? (asN h.get? n)) p).2 = true ∧ ∃ o, h.get? (cT (frT h.get? (asN h.get? n)) p).2 = some o ∧ emptyTab o = true := fun p hp => by
    obtain ⟨h3, h4⟩ := ba (List.all_eq_true.mp h2 p hp)
    refine ⟨h3, ?_⟩
    cases q : h.get? (cT (frT h.get? (asN h.get? n)) p).2 with
    | none =>
      rw [q] at h4
      cases h4
    | some o =>
      rw [q] at h4
      exact ⟨o, rfl, h4⟩
  refine ⟨e1, h1, fun p hp => (key p hp).1, fun p hp => ?_, fun p hp => ?_, e3⟩
  · obtain ⟨_, o, q, z⟩ := key p hp
    exact frT_none q z
  · obtain ⟨_, o, q, z⟩ := key p hp
    rw [q, emptyTab_eq z]
def hookN {β : Type} (n : Nat) (fa : List Fa) (fn : List DefD) (tf : List Defn) (ex : PySem.W.Frag → Bool) (nx : PySem.W.Frag → β) (nv : World → β) : PySem.W.Hook where
  α := (AlD × Bool) × β
  obs := fun s => obsN n fa fn tf ex nx s.heap.get?
  val := fun w => valN fn (nv w)
  says := fun w h => ∃ K : PySem.W.Frag, K.In h ∧ SaysN fa fn tf ex nx (nv w) h K
  of := fun _ _ e => ⟨_, frT_in, saysN_of e⟩
  keeps := fun _ _ _ ⟨K, hK, c⟩ k => ⟨K, PySem.W.Frag.In.keeps hK k, ⟨c.t, c.more, c.hd, c.out, fun p hp => k _ _ (c.empty p hp), c.nx⟩⟩
theorem obsN_eq {β : Type} {n : Nat} {fa : List Fa} {fn : List DefD} {tf : List Defn} {ex : PySem.W.Frag → Bool} {nx : PySem.W.Frag → β} {nv : World → β} {g : Addr → Option Obj} {s : Shared} (h : ∀ a, g a = s.heap.get? a) : obsN n fa fn tf ex nx g = (hookN n fa fn tf ex nx nv).obs s := by
  have e : g = s.heap.get? := funext h
  rw [e] <;> rfl
/-! ### Bools -/
def insB (K : PySem.W.Frag) (C : Addr) : Bool := eqO (PySem.W.findIn K (.ref C) "__class__") (some (some (.builtin "object.__class__"))) && (decide (PySem.W.specialIn K (.builtin "object.__class__") "__get__" = some (some (.builtin "getset_descriptor.__get__"))) &&
  (decide (PySem.W.takesIn K (.builtin "object.__class__") = some true) && (decide (PySem.W.mroIn K C (.type "object") = some true) && decide (PySem.W.kitOne K (.ref C) (.ref C) = some true))))
theorem insB_ok {K : PySem.W.Frag} {C : Addr} (cl : Cls K C) (h : insB K C = true) : C8.InsC K C := by
  obtain ⟨h1, h⟩ := ba h
  obtain ⟨h2, h⟩ := ba h
  obtain ⟨h3, h⟩ := ba h
  obtain ⟨h4, h5⟩ := ba h
  exact ⟨cl, eqO_ok h1, of_decide_eq_true h2, of_decide_eq_true h3, of_decide_eq_true h4, of_decide_eq_true h5⟩
def excCB (K : PySem.W.Frag) (D : Addr) : Bool := eqO (PySem.W.findIn K (.ref D) "__getattribute__") (some (some (.builtin "BaseException.__getattribute__"))) && (eqO (PySem.W.findIn K (.ref D) "__getattr__") (some none) && (decide (PySem.W.subIn K (.ref D) (.type "BaseException") = some true) &&
  (PySem.W.hasDictIn K D && (eqO (PySem.W.findIn K (.ref D) "__class__") (some (some (.builtin "object.__class__"))) && (decide (PySem.W.specialIn K (.builtin "object.__class__") "__get__" = some (some (.builtin "getset_descriptor.__get__"))) &&
  (decide (PySem.W.takesIn K (.builtin "object.__class__") = some true) && decide (PySem.W.mroIn K D (.type "object") = some true)))))))
theorem excCB_ok {K : PySem.W.Frag} {D : Addr} (h : excCB K D = true) : ExcC K D := by
  obtain ⟨h1, h⟩ := ba h
  obtain ⟨h2, h⟩ := ba h
  obtain ⟨h3, h⟩ := ba h
  obtain ⟨h4, h⟩ := ba h
  obtain ⟨h5, h⟩ := ba h
  obtain ⟨h6, h⟩ := ba h
  obtain ⟨h7, h8⟩ := ba h
  exact ⟨eqO_ok h1, eqO_ok h2, of_decide_eq_true h3, h4, eqO_ok h5, of_decide_eq_true h6, of_decide_eq_true h7, of_decide_eq_true h8⟩
/-- the class object of an own error over ValueError -/
def oexB (K : PySem.W.Frag) (C : Addr) : Bool := (match K.lookup C with
  | some ⟨.type "type", _, .cls cd, sl⟩ => (match cd.mro, sl.toList with
    | .ref C' :: bm, [_, _, _, _, some (.builtin n), _] => C' == C && (n == "ValueError.__new__" && (!cd.hasDel && (cd.hasDict && PySem.HandSPX.refsVE bm)))
    | _, _ => false)
  | _ => false) && (eqO (PySem.W.findIn K (.ref C) "__setattr__") (some (some (.builtin "object.__setattr__"))) && (decide (PySem.W.subIn K (.ref C) (.type "BaseException") = some true) && (decide (PySem.W.typeIn K (.ref C) = some (.type "type")) && PySem.W.keepIn K (.ref C))))
theorem oexB_ok {K : PySem.W.Frag} {C : Addr} (h : oexB K C = true) : OexC K C := by
  obtain ⟨q, h⟩ := ba h
  obtain ⟨h1, h⟩ := ba h
  obtain ⟨h2, h⟩ := ba h
  obtain ⟨h3, h4⟩ := ba h
  refine ⟨?_, eqO_ok h1, of_decide_eq_true h2, of_decide_eq_true h3, h4⟩
  split at q
  · rename_i dd cd sl ho
    split at q
    · rename_i C' bm k0 k1 k2 k3 n k5 hm hs
      simp only [Bool.and_eq_true, beq_iff_eq, Bool.not_eq_true'] at q
      obtain ⟨rfl, rfl, hdel, hdc, ht⟩ := q
      obtain ⟨nm, bs, mro, ns, qn, hd, sn, sub, ab, col, del⟩ := cd
      dsimp only at hm hdel hdc
      subst hm hdel hdc
      have hsl : sl = #[k0, k1, k2, k3, some (.builtin "ValueError.__new__"), k5] := by
        obtain ⟨l⟩ := sl
        simp only at hs
        rw [hs]
      subst hsl
      exact ⟨nm, qn, ns, bs, bm, sn, sub, ab, col, dd, k0, k1, k2, k3, k5, ho, ht⟩
    · cases q
  · cases q
/-- its __init__ that calls super's: what of it is compared -/
abbrev NxV : Type := Option (Str × Arguments × FuncBody × Scope × Addr × List Str × Value × Value × Addr)
def nxObs (x : Str) (K : PySem.W.Frag) : NxV := match K.lookup (ma K (ga K x) "__init__") with
  | some ⟨_, _, .func fd, _⟩ => some (fd.name, fd.params, fd.body, fd.scope, fd.globals, fd.closure.map (·.1), fd.defaults, fd.kwdefaults, fd.builtins)
  | _ => none
/-- the rest of it -/
def nxB (file : Str) (K : PySem.W.Frag) (C fI : Addr) : Bool := oexB K C && (eqO (PySem.W.findIn K (.ref C) "field") (some none) && (eqO (PySem.W.findIn K (.ref C) "__init__") (some (some (.ref fI))) && (decide (PySem.W.typeIn K (.ref fI) = some (.type "function")) &&
  (eqO (PySem.W.ks_superIn K C C "__init__") (some (some (.builtin "ValueError.__init__"))) && (decide (PySem.W.mroIn K C (.ref C) = some true) && (decide (PySem.W.subIn K (.ref C) (.type "ValueError") = some true) && (eqO (PySem.W.nsIn K cStatics "thirdparty.any") (some none) &&
  (match K.lookup fI with
    | some ⟨_, _, .func fd, _⟩ => (match fd.code, fd.closure with
      | .ref cda, [(_, cc)] => PySem.W.codeIn K (.ref cda) fd.qualname && ((match K.lookup cda with
          | some ⟨_, _, .fields vs, _⟩ => (match (vs[2]? : Option Value) with
            | some (.str f _) => file == f
            | _ => false)
          | _ => false) && (match K.lookup cc with
          | some ⟨_, _, .cell (some (.ref c)), _⟩ => decide (c = C)
          | _ => false))
      | _, _ => false)
    | _ => false))))))))
def nxVal (p1 p2 : Pos) (b : List Stmt) : NxV := some (("__init__" : Str), PySem.Nx.iA p1 p2, FuncBody.stmts b, PySem.Nx.iS, mainGlobals, [("__class__" : Str)], Value.none, Value.none, builtinsNs)
theorem nx_txt {P : Program} {K : PySem.W.Frag} {mg : Str → Option Value} {x file : Str} {p1 p2 q1 q2 q3 q4 q5 q6 q7 q8 q9 q10 : Pos} (hb : nxB file K (ga K x) (ma K (ga K x) "__init__") = true)
    (hv : nxObs x K = nxVal p1 p2 (PySem.Nx.iB q1 q2 q3 q4 q5 q6 q7 q8 q9 q10))
    (hfile : ((P.main.file : Str) == file) = true) (noS : mg "super" = none) (top : (P.main.scope.names.lookup ("super" : Str)).isSome = false)
    (hev : ∀ env : Env, ∃ pl : Sem Bool, eval (.Call (.Attribute (.Call (.Name "super" q1) [] [] q2) "__init__" q3) [.Name "field" q4] [] q5) env = (do
      let ov ← attributeBase (.Call (.Name "super" q1) [] [] q2) "__init__" env (eval (.Call (.Name "super" q1) [] [] q2) env)
      standAt q3.atName
      let (f, first) ← holding [ov] (getMethod ov "__init__" pl)
      callWith q5 f first (backTo q5 (starEach [.Name "field" q4] env)) [])) : PySem.Nx.Txt P K mg (ga K x) (ma K (ga K x) "__init__") := by
  obtain ⟨h1, h⟩ := ba hb
  obtain ⟨h2, h⟩ := ba h
  obtain ⟨h3, h⟩ := ba h
  obtain ⟨h4, h⟩ := ba h
  obtain ⟨h5, h⟩ := ba h
  obtain ⟨h6, h⟩ := ba h
  obtain ⟨h7, h⟩ := ba h
  obtain ⟨h8, h⟩ := ba h
  refine ⟨oexB_ok h1, eqO_ok h2, eqO_ok h3, of_decide_eq_true h4, eqO_ok h5, of_decide_eq_true h6, of_decide_eq_true h7, eqO_ok h8, noS, top, ?_⟩
  unfold nxObs nxVal at hv
  split at hv
  · rename_i oc od fd osl hk
    rw [hk] at h
    obtain ⟨n1, n2, n3, n4, n5, n6, n7, n8, n9, n10, n11, n12, n13, n14, n15⟩ := fd
    simp only [Option.some.injEq, Prod.mk.injEq] at hv
    obtain ⟨e1, e2, e3, e4, e5, e6, e7, e8, e9⟩ := hv
    subst e1 e2 e3 e4 e5 e7 e8 e9
    dsimp only at h
    cases n13 with
    | ref cda =>
      rcases n7 with _ | ⟨⟨y, cc⟩, _ | ⟨z, t⟩⟩
      · cases h
      · have ey : y = "__class__" := by
          have z : [y] = ([("__class__" : Str)] : List Str) := e6
          injection z
        subst ey
        obtain ⟨g1, h⟩ := ba h
        obtain ⟨g2, g3⟩ := ba h
        split at g2
        · rename_i c1 c2 vs c4 hk2
          split at g2
          · rename_i f tf hvs
            split at g3
            · rename_i d1 d2 c d4 hk3
              have ec := of_decide_eq_true g3
              rw [ec] at hk3
              have ef : file = f := eq_of_beq g2
              exact ⟨_, _, _, _, _, _, _, _, _, _, _, _, _, _, cda, cc, vs, f, tf, _, _, _, _, _, _, _, _, _, _, _, _, hk, g1, hk2, hvs, by rw [← ef]; exact hfile, hk3, hev⟩
            · cases g3
          · cases g2
        · cases g2
      · cases h
    | _ => cases h
  · cases hv
end Nd
set_option maxHeartbeats 4000000
/-! ### what no program is needed for -/
namespace Nd
open PySem PySem.Spec PyProof.Rows L2
def SqB (K : PySem.W.Frag) (H : Hp) (a : Addr) (xs : List V) : Prop := SqL K H a xs ∨ SqT K H a xs
theorem seqT {K : PySem.W.Frag} {H H' : Hp} {a : Addr} {xs : List V} (e : Same H H') (h : SqT K H a xs) : SqT K H' a xs := by
  rcases h with (h | ⟨o, h⟩) | h
  · exact .inl (.inl (e _ _ h))
  · exact .inl (.inr ⟨o, e _ _ h⟩)
  · exact .inr h
theorem SqB.same {K : PySem.W.Frag} {H H' : Hp} {a : Addr} {xs : List V} (h : SqB K H a xs) (e : Same H H') : SqB K H' a xs := h.imp (e.seq ·) (seqT e ·)
def iSeq (K : PySem.W.Frag) (tl : TE) : TI := fun σ H R => tl σ H fun x H1 => ∃ a, x = .ref a ∧ ((∃ xs, SqL K H1 a xs) ∧ R (Itl K a) H1 ∨ (∃ xs, SqT K H1 a xs) ∧ R (Itt K a) H1)
theorem pi_seq {X : Cx} {tg : Expr} {l : Expr} {tl : TE} (hl : PE X l tl) : PI X tg l (iSeq X.K tl) := by
  refine ⟨fun pins s σ H R I h => ?_⟩
  refine thn (hl.run pins s σ H _ I h) fun v s1 ⟨x, H1, I1, r1, q1⟩ => ?_
  obtain ⟨a, e, q⟩ := q1
  subst e
  cases r1
  rcases q with ⟨⟨xs, hq⟩, q⟩ | ⟨⟨xs, hq⟩, q⟩
  · obtain ⟨its, rv, p, hz⟩ := I1.list hq
    refine wpAny_pyIter_list p.isList ?_
    refine ⟨s1.heap.objs.size, [s1.heap.objs.size], _, _, H1, rfl, I1.kept (t' := s1.toks) fun b o e => Heap.get?_push_of_some _ e, turn_list a _, ⟨_, Heap.get?_push_size _ rfl, rfl, rfl⟩, fun b hb => ?_, q⟩
    have e : b = s1.heap.objs.size := by simpa using hb
    subst e
    exact I1.fpOk (Nat.le_refl _) (I1.hok.fresh (Nat.le_refl _))
  · obtain ⟨its, rv, p, hz⟩ := I1.tuple hq
    refine wpAny_pyIter_tuple (show s1.heap.IsTuple a its.toArray from p) ?_
    refine ⟨s1.heap.objs.size, [s1.heap.objs.size], _, _, H1, rfl, I1.kept (t' := s1.toks) fun b o e => Heap.get?_push_of_some _ e, turn_tuple a _, ⟨_, Heap.get?_push_size _ rfl, rfl, rfl⟩, fun b hb => ?_, q⟩
    have e : b = s1.heap.objs.size := by simpa using hb
    subst e
    exact I1.fpOk (Nat.le_refl _) (I1.hok.fresh (Nat.le_refl _))
theorem for_both {K : PySem.W.Frag} {a : Addr} {xs : List V} {g : TG} {tb : TS} {D : Ends} {σ : L2.St} {H0 H : Hp} (hq : SqB K H0 a xs) (Pv : Nat → L2.St → Hp → Prop) (h0 : Pv 0 σ H) (hl : ∀ i σ H', i ≤ xs.length → Pv i σ H' → Same H0 H')
    (hs : ∀ i x σ H, xs[i]? = some x → Pv i σ H → g x σ H fun σ2 H2 => tb { D with nx := Pv (i + 1), ct := Pv (i + 1), bk := D.nx } σ2 H2) (hd : ∀ σ H, Pv xs.length σ H → D.nx σ H) :
    (∃ xs, SqL K H a xs) ∧ (∃ W : Nat → Nat → L2.St → Hp → Prop, (∃ m, W 0 m σ H) ∧ ∀ i m σ H, W i m σ H →
      ((Itl K a).stop i H ∧ D.nx σ H) ∨ ((Itl K a).go i H ∧ ∃ N : L2.St → Hp → Prop, (∀ σ' H', N σ' H' → ∃ m', m' < m ∧ W (i + 1) m' σ' H') ∧ ∀ x H', (Itl K a).yld i H x H' → g x σ H' fun σ2 H2 => tb { D with nx := N, ct := N, bk := D.nx } σ2 H2)) ∨
    (∃ xs, SqT K H a xs) ∧ (∃ W : Nat → Nat → L2.St → Hp → Prop, (∃ m, W 0 m σ H) ∧ ∀ i m σ H, W i m σ H →
      ((Itt K a).stop i H ∧ D.nx σ H) ∨ ((Itt K a).go i H ∧ ∃ N : L2.St → Hp → Prop, (∀ σ' H', N σ' H' → ∃ m', m' < m ∧ W (i + 1) m' σ' H') ∧ ∀ x H', (Itt K a).yld i H x H' → g x σ H' fun σ2 H2 => tb { D with nx := N, ct := N, bk := D.nx } σ2 H2)) := by
  rcases hq with h | h
  · exact .inl ⟨⟨_, (hl 0 σ H (Nat.zero_le _) h0).seq h⟩, for_list Pv h0 (fun i σ H' l p => (hl i σ H' l p).seq h) hs hd⟩
  · exact .inr ⟨⟨_, seqT (hl 0 σ H (Nat.zero_le _) h0) h⟩, for_tup Pv h0 (fun i σ H' l p => seqT (hl i σ H' l p) h) hs hd⟩
section
variable (P : Program) (w : World) (K : PySem.W.Frag) (mg : Str → Option Value) (base : Heap)
/-- the module's name x is a def of one parameter p that keeps sp, at the level k -/
structure CalK (k : Nat) (x p : Str) (sp : Sp) : Prop where
  ex : ∃ (f : Addr) (fd : FuncData), FnOk P w K mg base (L2.CX P w) k f fd [p] sp ∧ mg x = some (.ref f) ∧ PySem.W.keepIn K (.ref f) = true ∧ KBn K fd [p] 0 [p] (fun _ ws => ws) (fun _ zs => zs)
end
section
variable {P : Program} {w : World} {K : PySem.W.Frag} {mg : Str → Option Value} {base : Heap}
theorem fnx {x : Str} {st : Stmt} {f : Addr} {fd : FuncData} {N ps : List Str} {k : Nat} {sp : Sp} (F : DefX K mg x st ps f fd) (S : FnScope N ps (defScope st)) (len : ∀ vs H Q E, sp vs H Q E → vs.length = ps.length)
    (hbody : ∀ (cdv : Value) (A : Around) (outer : List Env) (s : Shared) (H : Hp) (vs : List V) (Q : VK) (E : XK), Room k (A.deeper (envOfC x (defScope st) s.heap.objs.size f cdv)) → sp vs H Q E →
      ∃ t, PSs (cxOf (L2.CX P w) P w K mg base N x (defScope st) f cdv A outer s H E).nox (defBody st) t ∧ t { nx := fun _ H' => Q .non H', rt := Q } (start N vs) H) : FnOk P w K mg base (L2.CX P w) (k + 1) f fd ps sp :=
  F.fn.ok S len fun cdv A outer s H vs Q E hr h => let ⟨t, a, b⟩ := hbody cdv A outer s H vs Q E hr h; ⟨t, a.nox, b⟩
theorem DefX.cal {x : Str} {st : Stmt} {f : Addr} {fd : FuncData} {ps : List Str} {k : Nat} {sp : Sp} (F : DefX K mg x st ps f fd) (h : FnOk P w K mg base (L2.CX P w) k f fd ps sp) : CalX P w K mg base k x sp := ⟨f, fd, ps, h, F.mgf, F.fn.kp, F.bi⟩
theorem kb1 {x qual : Str} {params : Arguments} {body : List Stmt} {scope : Scope} {f : Addr} {fd : FuncData} {p : Str} (F : FunD K x qual params body scope [] [] f fd)
    (h : ∀ (kV doc pm : Value) (an : Option Addr) (cdv ct : Value) (u : Value), bindArgs (PySem.W.fnOf x qual params body scope .none kV doc pm an cdv ct) ⟨[], [(p, u)]⟩ = pure [(p, u)]) : KBn K fd [p] 0 [p] (fun _ ws => ws) (fun _ zs => zs) := by
  obtain ⟨oc, od, dV, kV, doc, pm, an, cdv, ct, osl, rfl, lk, hcd, hD, hK⟩ := F.ex
  rcases hD with ⟨_, rfl⟩ | ⟨e, _⟩
  · refine ⟨fun s us ws X l1 l2 => ?_, fun r1 r2 => r2⟩
    match us, ws, l1, l2 with
    | [], [u], _, _ =>
      refine BindsTo.of_looks fun M => ?_
      exact .of_pure (h kV doc pm an cdv ct u)
  · exact absurd rfl e
theorem DefX.calk {x : Str} {st : Stmt} {f : Addr} {fd : FuncData} {p : Str} {k : Nat} {sp : Sp} (F : DefX K mg x st [p] f fd) (h : FnOk P w K mg base (L2.CX P w) k f fd [p] sp)
    (hb : ∀ (kV doc pm : Value) (an : Option Addr) (cdv ct : Value) (u : Value), bindArgs (PySem.W.fnOf x x (defArgs st) (defBody st) (defScope st) .none kV doc pm an cdv ct) ⟨[], [(p, u)]⟩ = pure [(p, u)]) : CalK P w K mg base k x p sp :=
  ⟨f, fd, h, F.mgf, F.fn.kp, kb1 F.fn hb⟩
end
section
variable {X : Cx} {k j : Nat} {x q : Str} {sp : Sp} {p pos : Pos} {kws : List Keyword} {tk : TA}
def tCallK1 (sp : Sp) (E : XK) (tk : TA) : TE := fun σ H Q => tk σ H fun zs H2 => zs.length = 1 ∧ sp zs H2 Q E
/-- x(q = e) -/
theorem pe_ck {E : XK} (c : CalK X.prog X.w X.K X.mg X.base k x q sp) (hr : Room j X.A) (hk : k ≤ j) (hg : Gl X x) (hx : Passes (L2.CX X.prog X.w) X E) (hkw : PK X kws tk)
    (hall : (backToKw pos (keywordEach kws X.env)).all (·.1.isSome) = true := by rfl) (hks : (backToKw pos (keywordEach kws X.env)).filterMap (·.1) = [q] := by rfl) (hdb : (x == ("__debug__" : Str)) = false := by decide)
    (hpl : ((backTo pos (starEach [] X.env)).any (·.1) || (backToKw pos (keywordEach kws X.env)).any (·.1.isNone)) = false := by rfl) :
    PE X (.Call (.Name x p) [] kws pos) (tCallK1 sp E tk) := by
  obtain ⟨f, fd, F, hm, kp, b⟩ := c.ex
  refine ⟨fun pins s σ H Q I h => ?_⟩
  refine wpAny_Call_Name_kw (ld_glob I hg hm ?_ hdb)
  refine PySem.W.callWith_KW0 (h₀ := X.base) I.ok.mod.kin kp hall ?_ hpl
  refine thn (hkw.run pos pins s σ H _ I h) fun ws s2 ⟨zs, H2, I2, rz, l1, q2⟩ => ⟨I2.kIn, ?_⟩
  rw [hks]
  exact run_fnN (us := []) (vs := []) F (hr.mono hk) b hx I2 .nil rz rfl l1 q2
end
end Nd
namespace Nd
open PySem PySem.Spec PyProof.Rows L2
/-- what is asked of a method as it stands behind the top -/
structure MetX (K : PySem.W.Frag) (nm qn : Str) (st : Stmt) (ps : List Str) (f : Addr) (fd : FuncData) : Prop where
  fn : FunD K nm qn (defArgs st) (defBody st) (defScope st) [] [] f fd
  bi : Binds K fd ps []
def metOf (st : Stmt) (i : Nat) : Stmt := match st with
  | .ClassDef _ _ _ body _ _ _ _ _ _ _ => body.getD i (.Pass ⟨0, 0, 0, 0⟩)
  | _ => .Pass ⟨0, 0, 0, 0⟩
end Nd
namespace Nd
open PySem PySem.Spec PyProof.Rows L2
def gFld (K : PySem.W.Frag) (ta : TE) (f : Str) : TG := fun y σ H Q => ta σ H fun x H2 => ∃ a C dx fs, x = .ref a ∧ H2 a = some (.ins C dx fs) ∧ Cls K C ∧ NoAttr K C f ∧ fs.length < 1000 ∧ Q σ (upd H2 a (.ins C dx (putF f y fs)))
theorem pg_fld {X : Cx} {o : Expr} {f : Str} {pos : Pos} {ta : TE} (ha : PE X o ta) : PG X (.Attribute o f pos) (gFld X.K ta f) := by
  refine ⟨fun pins s σ H y u Q I ry h => ?_⟩
  have e : assign (.Attribute o f pos) X.env u = (do
      let ov ← holding [u] (eval o X.env)
      standAt pos.atName
      holding [u, ov] (setAttr ov f u)
      release [u, ov] []) := rfl
  rw [e]
  refine wpAny_bind (wpAny_holding (thn (ha.run pins s σ H _ I h) fun ov s2 ⟨x, H2, I2, rx, a, C, dx, fs, ex, ea, c, n, l, q2⟩ => ?_))
  subst ex
  obtain rfl : ov = Value.ref a := rx
  refine wpAny_bind (wpAny_standAt (wpAny_bind (wpAny_holding (setattr_ok I2 ea c n l ry fun s3 I3 => ?_))))
  exact wpAny_release ⟨σ, _, I3, q2⟩
theorem putF_len (f : Str) (v : V) : ∀ fs : List (Str × V), (putF f v fs).length ≤ fs.length + 1
  | [] => by simp [putF]
  | (g, x) :: r => by
    unfold putF
    split
    · simp
    · have := putF_len f v r
      simp only [List.length_cons]
      omega
/-- at most n fields -/
def Sm (n : Nat) (fs : List (Str × V)) : Prop := fs.length ≤ n
theorem Sm.put {n : Nat} {fs : List (Str × V)} {f : Str} {v : V} (h : Sm n fs) : Sm (n + 1) (putF f v fs) := Nat.le_trans (putF_len f v fs) (Nat.add_le_add_right h 1)
theorem fldlen {H : Hp} {self C dx : Addr} {f : Str} {v : V} {fs : List (Str × V)} {n : Nat} (_ : H self = some (.ins C dx (putF f v fs))) (h : Sm n fs) : Sm (n + 1) (putF f v fs) := h.put
theorem look_hit {f : Str} {v : V} {fs : List (Str × V)} : (putF f v fs).lookup f = some v := by rw [lookup_putF, if_pos rfl]
theorem look_miss {f g : Str} {v : V} {fs : List (Str × V)} {o : Option V} (h : g ≠ f) (k : fs.lookup g = o) : (putF f v fs).lookup g = o := by rw [lookup_putF, if_neg h]; exact k
end Nd
namespace Nd
open PySem PySem.Spec PyProof.Rows L2
def rCatS (K : PySem.W.Frag) : R2 := fun x y H Q => ∃ l b xs zs, x = .ref l ∧ y = .ref b ∧ ScrL K H l xs ∧ H b = some (.lst zs) ∧ xs.length + zs.length ≤ sizeLine ∧ ∀ p, H p = none → Q (.ref p) (upd H p (.lst (xs ++ zs)))
theorem op_catS {X : Cx} : OpR X (binaryOp .Add) (rCatS X.K) := by
  intro pins s σ H x y v u Q I rx ry h
  obtain ⟨l, b, xs, zs, rfl, rfl, hH, hB, hz, q⟩ := h
  cases rx
  cases ry
  obtain ⟨its, n, r, e⟩ : ∃ (its : List Value) (n : Nat), Vals xs its ∧ s.heap.get? l = some { cls := .type "list", data := .seq its.toArray n } := by
    rcases hH with ⟨vs, h⟩ | ⟨vs, h, _, r⟩
    · obtain ⟨_, _, its, n, r, e⟩ := I.hok l _ h
      exact ⟨its, n, r, e⟩
    · exact ⟨vs, _, r, I.kIn _ _ h⟩
  obtain ⟨z2, its2, n2, r2, hl2, e2⟩ := I.lstM hB
  refine PySem.P.add_list e e2 ?_ (by rw [List.size_toArray, List.size_toArray, ← r.length, ← r2.length]; exact hz)
  have ea : its.toArray ++ its2.toArray = (its ++ its2).toArray := by simp
  rw [ea]
  exact ⟨.ref _, _, I.lnew (t' := s.toks) (r.append r2) (by rw [List.length_append]; omega), rfl, q _ I.fresh⟩
theorem dp_ints {K : PySem.W.Frag} {H : Hp} : ∀ ns : List Int, DpAll K H (ns.map V.int) (ns.map PyData.int)
  | [] => .nil
  | n :: r => .cons (.int n) (dp_ints r)
theorem lay_ints : ∀ ns : List Int, PyData.canLayAll0 (ns.map PyData.int) = true
  | [] => by simp [PyData.canLayAll0]
  | n :: r => by
    simp only [List.map_cons, PyData.canLayAll0, PyData.canLay0, lay_ints r]
    rfl
theorem dep_ints : ∀ ns : List Int, PyData.depthAll (ns.map PyData.int) = 0
  | [] => by simp [PyData.depthAll]
  | n :: r => by simp [List.map_cons, PyData.depthAll, PyData.depth, dep_ints r]
theorem shaped_ints (ns : List Int) : SeqAt.shaped (.tuple (ns.map PyData.int)) = true := by
  show (PyData.canLay0 (.tuple (ns.map PyData.int)) && decide (PyData.depth (.tuple (ns.map PyData.int)) ≤ 64)) = true
  simp only [PyData.canLay0, PyData.depth, lay_ints, dep_ints]
  rfl
theorem eqv_ints (ns : List Int) : PyData.eqv (.tuple (ns.map PyData.int)) (.tuple (ns.map PyData.int)) = true := PySem.SeqAt.eqv_refl _ (by simp only [PyData.canLay0]; exact lay_ints ns)
end Nd
namespace Nd
open PySem PySem.Spec PyProof.Rows L2
theorem dfx {K : PySem.W.Frag} {mg : Str → Option Value} {h : Heap} {x : Str} {st : Stmt} {ps : List Str} {fd : FuncData} (X : K.In h) (G : h.Ns mainGlobals mg) (F : FunD K x x (defArgs st) (defBody st) (defScope st) [] [] (He.ga K x) fd) (g : (He.Fa.glo x).ok K = true)
    (b : ∀ (kV doc pm : Value) (an : Option Addr) (cdv ct : Value) (us : List Value), us.length = ps.length → bindArgs (PySem.W.fnOf x x (defArgs st) (defBody st) (defScope st) .none kV doc pm an cdv ct) ⟨us, []⟩ = pure (ps.zip us)) : DefX K mg x st ps (He.ga K x) fd := ⟨F, He.glo_ok X G g, F.bindsN b⟩
theorem metx {K : PySem.W.Frag} {nm qn : Str} {st : Stmt} {ps : List Str} {f : Addr} {fd : FuncData} (F : FunD K nm qn (defArgs st) (defBody st) (defScope st) [] [] f fd)
    (b : ∀ (kV doc pm : Value) (an : Option Addr) (cdv ct : Value) (us : List Value), us.length = ps.length → bindArgs (PySem.W.fnOf nm qn (defArgs st) (defBody st) (defScope st) .none kV doc pm an cdv ct) ⟨us, []⟩ = pure (ps.zip us)) : MetX K nm qn st ps f fd := ⟨F, F.bindsN b⟩
theorem int_rel {K : PySem.W.Frag} {mg : Str → Option Value} {h : Heap} {x : Str} {i : Int} (X : K.In h) (G : h.Ns mainGlobals mg) (c : (He.Fa.int x i).ok K = true) : ∃ u, mg x = some u ∧ RelV (.int i) u := by
  obtain ⟨t, e⟩ := He.int_ok X G c
  exact ⟨_, e, t, rfl⟩
end Nd
set_option maxHeartbeats 4000000
/-! ### a list of tuples in the heap -/
namespace Nd
open PySem PySem.Spec PyProof.Rows L2
def TupsAt {α : Type} (f : α → List V) (H : Hp) : List V → List α → Prop
  | [], [] => True
  | x :: xs, r :: rs => (∃ p, x = .ref p ∧ H p = some (.tup (f r))) ∧ TupsAt f H xs rs
  | _, _ => False
section
variable {α : Type} {f : α → List V} {H H' : Hp}
theorem TupsAt.len : ∀ {xs : List V} {rs : List α}, TupsAt f H xs rs → xs.length = rs.length
  | [], [], _ => rfl
  | _ :: _, _ :: _, h => congrArg (· + 1) (TupsAt.len h.2)
  | [], _ :: _, h => h.elim
  | _ :: _, [], h => h.elim
theorem TupsAt.mono (k : ∀ p (xs : List V), H p = some (.tup xs) → H' p = some (.tup xs)) : ∀ {xs : List V} {rs : List α}, TupsAt f H xs rs → TupsAt f H' xs rs
  | [], [], _ => trivial
  | _ :: _, _ :: _, ⟨⟨p, e, h⟩, t⟩ => ⟨⟨p, e, k p _ h⟩, TupsAt.mono k t⟩
  | [], _ :: _, h => h.elim
  | _ :: _, [], h => h.elim
theorem TupsAt.same {xs : List V} {rs : List α} (h : TupsAt f H xs rs) (s : Same H H') : TupsAt f H' xs rs := h.mono fun p r e => s _ _ e
/-- what lies at a is no tuple -/
theorem TupsAt.but {xs : List V} {rs : List α} {a : Addr} {ys : List V} (h : TupsAt f H xs rs) (b : But a H H') (ha : H a = some (.lst ys)) : TupsAt f H' xs rs := h.mono fun p r e => b p _ (by
  rintro rfl
  rw [ha] at e
  cases e) e
theorem TupsAt.upd {xs : List V} {rs : List α} {a : Addr} {o : HO} {ys : List V} (h : TupsAt f H xs rs) (ha : H a = some (.lst ys)) : TupsAt f (upd H a o) xs rs := h.but (But.upd But.refl) ha
theorem TupsAt.snoc {p : Addr} {r : α} (hp : H p = some (.tup (f r))) : ∀ {xs : List V} {rs : List α}, TupsAt f H xs rs → TupsAt f H (xs ++ [.ref p]) (rs ++ [r])
  | [], [], _ => ⟨⟨p, rfl, hp⟩, trivial⟩
  | _ :: _, _ :: _, ⟨h, t⟩ => ⟨h, TupsAt.snoc hp t⟩
  | [], _ :: _, h => h.elim
  | _ :: _, [], h => h.elim
theorem TupsAt.get : ∀ {xs : List V} {rs : List α} {i : Nat} {x : V}, TupsAt f H xs rs → xs[i]? = some x → ∃ p r, rs[i]? = some r ∧ x = .ref p ∧ H p = some (.tup (f r))
  | [], _, _, _, _, e => by simp at e
  | _ :: _, [], _, _, h, _ => h.elim
  | x :: xs, r :: rs, 0, y, ⟨⟨p, e1, h⟩, _⟩, e => by
    have e' : x = y := Option.some.inj e
    exact ⟨p, r, rfl, e' ▸ e1, h⟩
  | x :: xs, r :: rs, i + 1, y, ⟨_, t⟩, e => by
    obtain ⟨p, r', h1, h2, h3⟩ := t.get (i := i) (x := y) e
    exact ⟨p, r', h1, h2, h3⟩
theorem TupsAt.unsnoc : ∀ {rs : List α} {xs : List V} {r : α}, TupsAt f H xs (rs ++ [r]) → ∃ ys p, xs = ys ++ [.ref p] ∧ H p = some (.tup (f r)) ∧ TupsAt f H ys rs
  | [], [], _, h => h.elim
  | [], [x], r, ⟨⟨p, e, h⟩, _⟩ => ⟨[], p, by rw [e]; rfl, h, trivial⟩
  | [], x :: y :: t, r, ⟨_, h⟩ => h.elim
  | q :: rs, [], _, h => h.elim
  | q :: rs, x :: xs, r, ⟨h, t⟩ => by
    obtain ⟨ys, p, e, hp, ht⟩ := TupsAt.unsnoc (rs := rs) t
    exact ⟨x :: ys, p, by rw [e]; rfl, hp, h, ht⟩
theorem dp_tups {K : PySem.W.Frag} {g : α → List PyData} (hg : ∀ r, DpAll K H (f r) (g r)) : ∀ {xs : List V} {rs : List α}, TupsAt f H xs rs → DpAll K H xs (rs.map fun r => .tuple (g r))
  | [], [], _ => .nil
  | _ :: _, r :: _, ⟨⟨p, e, h⟩, t⟩ => by
    subst e
    exact .cons (.tup (SqT.of h) (hg r)) (dp_tups hg t)
  | [], _ :: _, h => h.elim
  | _ :: _, [], h => h.elim
end
theorem set_last {ys : List V} {x y : V} : (ys ++ [x]).set ys.length y = ys ++ [y] := by simp
theorem ix_last {ys : List V} {x : V} : ixN (ys ++ [x]).length (-1) = some ys.length := by
  unfold ixN
  rw [if_neg (by decide), if_pos (by rw [List.length_append, List.length_singleton]; omega), List.length_append, List.length_singleton]
  congr 1
  omega
end Nd
set_option maxHeartbeats 4000000
/-! ### .get of a dict of the module with text keys -/
namespace Nd
open PySem PySem.Spec PyProof.Rows L2
def tKGet2 (K : PySem.W.Frag) (d : Addr) (td ty tx : TE) : TE := fun σ H Q => td σ H fun x H1 => x = .ref d ∧ ty σ H1 fun y H2 => tx σ H2 fun z H3 => ∃ (k : Str) (r : Option Value), y = .str k ∧ PySem.W.nsIn K d k = some r ∧ (r = none → Q z H3) ∧ (∀ u, r = some u → ∃ v, RelV v u ∧ Q v H3)
theorem pe_kget2 {X : Cx} {o e f : Expr} {apos cpos : Pos} {td ty tx : TE} {d : Addr} {es : Array DictEntry} {n : Nat} (D : KDict X.K X.w d es n) (ho : PE X o td) (he : PE X e ty) (hf : PE X f tx) (m : M2 X o "get" apos e f cpos) : PE X (.Call (.Attribute o "get" apos) [e, f] [] cpos) (tKGet2 X.K d td ty tx) := by
  refine ⟨fun pins s σ H Q I h => ?_⟩
  refine wpAny_Call_method m.base m.few m.line PySem.F.plainAttrs_dict PySem.F.slot_dict_get PySem.F.type_dict_get (thn (ho.run pins s σ H _ I h) fun u s1 ⟨x, H1, I1, rx, ex, q1⟩ => ?_)
  subst ex
  obtain rfl : u = Value.ref d := rx
  refine ⟨kd_type D I1, fun b q => ?_, ?_⟩
  · cases q
    exact ⟨_, I1.kIn _ _ D.at_, rfl⟩
  rw [m.trees]
  refine Calls.callWith_builtin rfl (Calls.evalArgs_plain (Calls.spliced_cons (thn (he.run pins s1 σ H1 _ I1 q1) fun iv s2 ⟨y, H2, I2, ry, q2⟩ =>
    Calls.spliced_cons (thn (hf.run pins s2 σ H2 _ I2 q2) fun fv s3 ⟨z, H3, I3, rz, k, r, ek, er, q3, q4⟩ => Calls.spliced_nil ?_))))
  subst ek
  obtain ⟨t, rfl⟩ := ry
  have mo := PySem.W.mapOf_K (prog := X.prog) (w := X.w) I3.kIn D.at_ D.lit
  refine call_meetsIn PySem.F.slot_dict_get mo.typeIs PySem.F.entry_dict_get (PySem.F.args_dict_get_3 _ _ _) (meets_dict_get_default (PySem.strKind X.prog X.w) d (PySem.strKind_is X.prog X.w k t) D.low fv) ⟨_, mo, ?_⟩
  have ef := PySem.W.find_K D.at_ er
  show EP X pins σ Q ((findBy Value.isStrOf es k).getD fv) { s3 with toks := s3.toks + 1 }
  rw [ef]
  cases r with
  | none => exact ⟨z, H3, I3.tok _, rz, q3 rfl⟩
  | some u =>
    obtain ⟨v, rv, q⟩ := q4 u rfl
    exact ⟨v, H3, I3.tok _, rv, q⟩
end Nd
set_option maxHeartbeats 4000000
/-! ### enumerate of a list or a tuple -/
namespace Nd
open PySem PySem.Spec PyProof.Rows L2
theorem meets_enumB {v : Value} {o : Obj} {G : Heap → Prop} (B : Begins v o G) :
    Meets (Builtin.«enumerate.__new__» ⟨[.type "enumerate", v], []⟩) (fun _ R s => G s.heap ∧
      R (.ok (.ret (.ref (s.heap.push o).objs.size))) { s with heap := (s.heap.push o).push { cls := .type "enumerate", data := .fields #[.none, .bool false, .ref s.heap.objs.size, rawInt 0, .none, .none] } }) :=
  .of_wp fun prog w A R s h => by
    obtain ⟨hp, g, d, tk, os⟩ := s
    obtain ⟨h1, h⟩ := h
    have hsub := sub_enumerate
    have q1 : ∀ {A' : Around} {E : Value → Shared → Prop} {Q : Value → Shared → Prop}, Q (.ref hp.objs.size) ⟨hp.push o, g, d, tk, os⟩ → wpAny (model prog w) A' (pyIter v) Q E ⟨hp, g, d, tk, os⟩ :=
      fun q => B.iter prog w _ _ ⟨hp, g, d, tk, os⟩ _ h1 q
    wp_walk using q1
    refine wpAny_stack_any fun st => wpAny_pure ?_
    split
    · rename_i c _ _ _ _ _
      cases (c == Value.type "enumerate")
      · wp_walk using q1
        exact ⟨_, rfl, h⟩
      · wp_walk using q1
        exact ⟨_, rfl, h⟩
    · wp_walk using q1
      exact ⟨_, rfl, h⟩
theorem enumB {prog : Program} {w : World} {A : Around} {E : Value → Shared → Prop} {s : Shared} {v : Value} {o : Obj} {G : Heap → Prop} {Q : Value → Shared → Prop} (B : Begins v o G) (h1 : G s.heap)
    (h : ∀ h', IsEnum h' (s.heap.objs.size + 1) s.heap.objs.size 0 .none → h'.get? s.heap.objs.size = some o → h'.objs.size = s.heap.objs.size + 2 →
      (∀ b o, s.heap.get? b = some o → h'.get? b = some o) → Q (.ref (s.heap.objs.size + 1)) { s with heap := h' }) :
    wpAny (model prog w) A (call (.type "enumerate") [v]) Q E s := by
  refine callType_new F.called_enumerate (by decide) (F.typeCall_enumerate_1 _) (F.newCall_enumerate_1 _) (fun obj => F.args_object_init_2 obj _) F.entry_enumerate_new
    (meets_enumB B) ⟨h1, ?_⟩
  have hz : (s.heap.push o).objs.size = s.heap.objs.size + 1 := Heap.size_push ..
  show _ ∧ _
  rw [hz]
  have he : IsEnum ((s.heap.push o).push { cls := .type "enumerate", data := .fields #[.none, .bool false, .ref s.heap.objs.size, rawInt 0, .none, .none] }) (s.heap.objs.size + 1) s.heap.objs.size 0 .none := by
    have := Heap.get?_push_size (s.heap.push o) (o := { cls := .type "enumerate", data := .fields #[.none, .bool false, .ref s.heap.objs.size, rawInt 0, .none, .none] }) rfl
    rw [hz] at this; exact this
  exact ⟨⟨_, he, rfl⟩, h _ he (Heap.get?_push_of_some _ (Heap.get?_push_size _ B.free)) (by rw [Heap.size_push, hz]) fun b o x => Heap.get?_push_of_some _ (Heap.get?_push_of_some _ x)⟩
/-- the tuple at a, each item in a new pair -/
def Itet (K : PySem.W.Frag) (a : Addr) : It :=
  ⟨fun i H => ∃ (xs : List V) (x : V), SqT K H a xs ∧ xs[i]? = some x, fun i H v H' => ∃ T x, v = .ref T ∧ H T = none ∧ H' = upd H T (.tup [.int (i : Nat), x]) ∧ ∀ xs, SqT K H a xs → xs[i]? = some x, fun i H => ∃ xs : List V, SqT K H a xs ∧ xs.length = i⟩
theorem turn_enumt {P : Program} {w : World} {K : PySem.W.Frag} {elts : List Expr} {kk : Nat} {tpos : Pos} (a e it : Addr) (nai : a ≠ it) (nae : e ≠ a) :
    Turn P w K (.Tuple elts kk tpos) (Itet K a) [e, it] e (fun i h => (∃ old, IsEnum h e it ((i : Nat) : Int) old) ∧ h.IsTupleIter it a i ∧ e ≠ it) where
  mem := by simp
  obj := fun i h st b hb => by
    obtain ⟨⟨old, he⟩, ⟨o, ho, hc, hd⟩, _⟩ := st
    have e' : b = e ∨ b = it := by simpa using hb
    rcases e' with z | z
    · rw [z]; exact ⟨_, he, fun v q => nomatch q⟩
    · rw [z]; exact ⟨o, ho, fun v q => by rw [hd] at q; cases q⟩
  keep := fun i h h' st k => let ⟨⟨old, he⟩, hi, hne⟩ := st; ⟨⟨old, k e (by simp) _ he⟩, hi.at fun o q => k it (by simp) o q, hne⟩
  item := by
    intro X hP hw hK hc i pins s σ H E I hf st hg
    subst hP hw hK
    obtain ⟨⟨old, he⟩, hit, hne⟩ := st
    obtain ⟨xs, x, hq, hx⟩ := hg
    obtain ⟨its, rv, p, hz⟩ := I.tuple hq
    obtain ⟨u, hu, ru⟩ := rv.get hx
    have hel : e < s.heap.objs.size := Heap.lt_size he
    have hil : it < s.heap.objs.size := by obtain ⟨_, q, _⟩ := hit; exact Heap.lt_size q
    have hi : i < its.toArray.size := by
      rw [List.size_toArray]
      exact (List.getElem?_eq_some_iff.mp hu).1
    have D : Draws X.prog X.w X.A.in1 it [it, a] its.toArray.size (fun i v => its.toArray[i]? = some v) (fun i h => h.IsTupleIter it a i ∧ h.IsTuple a its.toArray) := Draws.tuple (A := X.A.in1) (show X.A.in1.handled = none from I.ok.hd hc) it a nai its.toArray
    refine wpAny_pyNext_enum_itemD D he ⟨hit, p⟩ hi hne (by simp [hne, nae]) fun u' h' tk hu' ho hit' hT hsz hk => ?_
    obtain rfl : u' = u := by
      have z : its[i]? = some u' := by simpa using hu'
      exact Option.some.inj (z.symm.trans hu)
    refine ⟨_, rfl, wpAny_letOwnedTupleGo_enum (s := { s with heap := h', toks := tk + 1 }) ho fun h'' he' sb => ?_⟩
    have hT2 : h''.get? s.heap.objs.size = some { cls := .type "tuple", data := .seq #[.int i tk, u'] } := (sb.2 _ (Nat.ne_of_gt hel)).trans hT
    have new : ObjOk X.prog X.w (upd H s.heap.objs.size (.tup [.int (i : Nat), x])) h'' s.heap.objs.size (.tup [.int (i : Nat), x]) :=
      ⟨by show 2 ≤ sizeLine; decide, [.int i tk, u'], .cons ⟨_, rfl⟩ (.cons ru .nil), ⟨_, hT2, rfl, _, rfl⟩⟩
    have I1 : Inv X pins σ (upd H s.heap.objs.size (.tup [.int (i : Nat), x])) { s with heap := h'', toks := tk + 1 } :=
      I.turnedNew (ch := [e, it]) (fun b ob hb q => (sb.2 b (fun z => hb (by simp [z]))).trans (hk b ob (fun z => hb (by simp [z])) (fun z => hb (by simp [z])) q)) hf (Nat.le_refl _) new
    refine ⟨.ref s.heap.objs.size, _, I1, rfl, ⟨_, x, rfl, I.hok.fresh (Nat.le_refl _), rfl, fun ys hy => by rw [I.tuple_inj hy hq]; exact hx⟩, ⟨⟨u', ?_⟩, hit'.1.at fun o q => (sb.2 it (Ne.symm hne)).trans q, hne⟩, fun b hb => ?_⟩
    · have e1 : ((i + 1 : Nat) : Int) = (i : Int) + 1 := by omega
      rw [e1]; exact he'
    · have hb' : b < s.heap.objs.size := by
        have e' : b = e ∨ b = it := by simpa using hb
        rcases e' with z | z
        · rw [z]; exact hel
        · rw [z]; exact hil
      rw [upd_ne (Nat.ne_of_lt hb')]
      exact (hf b hb).1
  done := by
    intro X hP hw hK hc i pins s σ H E I hf st hg
    subst hP hw hK
    obtain ⟨⟨old, he⟩, hit, hne⟩ := st
    obtain ⟨xs, hq, hx⟩ := hg
    obtain ⟨its, rv, p, hz⟩ := I.tuple hq
    obtain ⟨f0, f1, f2, f3, f4, f5⟩ := hf it (by simp)
    have hl := rv.length
    have D : Draws X.prog X.w X.A.in1 it [it, a] its.toArray.size (fun i v => its.toArray[i]? = some v) (fun i h => h.IsTupleIter it a i ∧ h.IsTuple a its.toArray) := Draws.tuple (A := X.A.in1) (show X.A.in1.handled = none from I.ok.hd hc) it a nai its.toArray
    have e : i = its.toArray.size := by rw [List.size_toArray, ← hl, hx]
    rw [e] at he hit
    exact wpAny_pyNext_enum_endD D he ⟨hit, p⟩ fun h' eb => ⟨rfl, I.turned (t' := s.toks) (fun b o hb q => eb b o hb q) f0 f1 f3 f4 f5⟩
  self := fun A i s Q E st h => let ⟨⟨_, he⟩, _⟩ := st; wpAny_pyIter_enum he h
def iEnumB (K : PySem.W.Frag) (ta : TA) : TI := fun σ H R => ta σ H fun vs H1 => ∃ a, vs = [.ref a] ∧ ((∃ xs, SqL K H1 a xs) ∧ R (Ite K a) H1 ∨ (∃ xs, SqT K H1 a xs) ∧ R (Itet K a) H1)
theorem pi_enumB {X : Cx} {e : Expr} {ta : TA} {p pos tpos : Pos} {elts : List Expr} {kk : Nat} (hg : Gl X "enumerate") (hm : X.mg "enumerate" = none) (ha : PA X [e] ta) (hs : starEach [e] X.env = [(false, eval e X.env)] := by rfl) :
    PI X (.Tuple elts kk tpos) (.Call (.Name "enumerate" p) [e] [] pos) (iEnumB X.K ta) := by
  refine ⟨fun pins s σ H R I h => ?_⟩
  refine Call_ (ld_blt I hg hm boot_enumerate (PyProof.Rows.callWith_type1 (thn (ha.run pos pins s σ H _ I h) fun us s1 ⟨vs, H1, I1, r1, q1⟩ => ?_) hs rfl))
  obtain ⟨a, ex, q⟩ := q1
  subst ex
  cases r1 with
  | cons r rr =>
    cases rr
    cases r
    have ff : ∀ b ∈ [s1.heap.objs.size + 1, s1.heap.objs.size], s1.heap.objs.size ≤ b := fun b hb => by
      have e' : b = s1.heap.objs.size + 1 ∨ b = s1.heap.objs.size := by simpa using hb
      rcases e' with z | z
      · rw [z]; exact Nat.le_add_right _ _
      · rw [z]; exact Nat.le_refl _
    rcases q with ⟨⟨xs, hq⟩, q⟩ | ⟨⟨xs, hq⟩, q⟩
    · obtain ⟨its, rv, p', hz⟩ := I1.list hq
      refine call_enumerate_list p'.isList fun h' he hit hsz hk => wpAny_pyIter_enum he ?_
      have I2 : Inv X pins σ H1 { s1 with heap := h' } := I1.kept (t' := s1.toks) hk
      exact ⟨s1.heap.objs.size + 1, [s1.heap.objs.size + 1, s1.heap.objs.size], _, _, H1, rfl, I2, turn_enum a (s1.heap.objs.size + 1) s1.heap.objs.size, ⟨⟨.none, he⟩, hit, Nat.succ_ne_self _⟩, fun b hb => I1.fpOk (ff b hb) (I1.hok.fresh (ff b hb)), q⟩
    · obtain ⟨its, rv, p', hz⟩ := I1.tuple hq
      have hal : a < s1.heap.objs.size := by
        obtain ⟨o, ho, _⟩ := id p'
        exact Heap.lt_size ho
      refine enumB (begins_tuple a its.toArray) (show s1.heap.IsTuple a its.toArray from p') fun h' he hit hsz hk => wpAny_pyIter_enum he ?_
      have I2 : Inv X pins σ H1 { s1 with heap := h' } := I1.kept (t' := s1.toks) hk
      exact ⟨s1.heap.objs.size + 1, [s1.heap.objs.size + 1, s1.heap.objs.size], _, _, H1, rfl, I2, turn_enumt a (s1.heap.objs.size + 1) s1.heap.objs.size (Nat.ne_of_lt hal) (Nat.ne_of_gt (Nat.lt_succ_of_lt hal)), ⟨⟨.none, he⟩, ⟨_, hit, rfl, rfl⟩, Nat.succ_ne_self _⟩, fun b hb => I1.fpOk (ff b hb) (I1.hok.fresh (ff b hb)), q⟩
theorem walk_enumt {K : PySem.W.Frag} {a : Addr} {xs : List V} : Walk (Itet K a) xs.length (fun H => SqT K H a xs) (YPair (fun i => some (.int (i : Nat))) (fun i => xs[i]?)) := by
  refine ⟨fun i _ hi q => ⟨xs, xs[i], q, by simp [hi]⟩, fun _ q => ⟨xs, q, rfl⟩, fun i H v H' _ q y => ?_⟩
  obtain ⟨T, x, h1, h2, h3, h4⟩ := y
  exact ⟨T, .int (i : Nat), x, h1, h2, h3, rfl, h4 xs q⟩
theorem for_enumB {K : PySem.W.Frag} {a : Addr} {xs : List V} {g : TG} {tb : TS} {D : Ends} {σ : L2.St} {H0 H : Hp} (hq : SqB K H0 a xs) (Pv : Nat → L2.St → Hp → Prop) (h0 : Pv 0 σ H) (hl : ∀ i σ H', i ≤ xs.length → Pv i σ H' → Same H0 H')
    (hs : ∀ i x σ H T, xs[i]? = some x → Pv i σ H → H T = none → g (.ref T) σ (upd H T (.tup [.int (i : Nat), x])) fun σ2 H2 => tb { D with nx := Pv (i + 1), ct := Pv (i + 1), bk := D.nx } σ2 H2) (hd : ∀ σ H, Pv xs.length σ H → D.nx σ H) :
    (∃ xs, SqL K H a xs) ∧ (∃ W : Nat → Nat → L2.St → Hp → Prop, (∃ m, W 0 m σ H) ∧ ∀ i m σ H, W i m σ H →
      ((Ite K a).stop i H ∧ D.nx σ H) ∨ ((Ite K a).go i H ∧ ∃ N : L2.St → Hp → Prop, (∀ σ' H', N σ' H' → ∃ m', m' < m ∧ W (i + 1) m' σ' H') ∧ ∀ x H', (Ite K a).yld i H x H' → g x σ H' fun σ2 H2 => tb { D with nx := N, ct := N, bk := D.nx } σ2 H2)) ∨
    (∃ xs, SqT K H a xs) ∧ (∃ W : Nat → Nat → L2.St → Hp → Prop, (∃ m, W 0 m σ H) ∧ ∀ i m σ H, W i m σ H →
      ((Itet K a).stop i H ∧ D.nx σ H) ∨ ((Itet K a).go i H ∧ ∃ N : L2.St → Hp → Prop, (∀ σ' H', N σ' H' → ∃ m', m' < m ∧ W (i + 1) m' σ' H') ∧ ∀ x H', (Itet K a).yld i H x H' → g x σ H' fun σ2 H2 => tb { D with nx := N, ct := N, bk := D.nx } σ2 H2)) := by
  have step : ∀ i x σ H H', i < xs.length → Pv i σ H → YPair (fun i => some (.int (i : Nat))) (fun i => xs[i]?) i H x H' → g x σ H' fun σ2 H2 => tb { D with nx := Pv (i + 1), ct := Pv (i + 1), bk := D.nx } σ2 H2 := by
    rintro i x σ H H' hi p ⟨T, u, v, rfl, h2, rfl, h4, h5⟩
    cases h4
    exact hs i v σ H T h5 p h2
  rcases hq with h | h
  · exact .inl ⟨⟨_, (hl 0 σ H (Nat.zero_le _) h0).seq h⟩, for_it walk_enum Pv h0 (fun i σ H' l p => (hl i σ H' l p).seq h) step hd⟩
  · exact .inr ⟨⟨_, seqT (hl 0 σ H (Nat.zero_le _) h0) h⟩, for_it walk_enumt Pv h0 (fun i σ H' l p => seqT (hl i σ H' l p) h) step hd⟩
end Nd
set_option maxHeartbeats 4000000
/-! ### own errors whose field is «at» -/
namespace PySem
namespace NxA
open PySem.W PySem.Calls PyProof.Rows PySem.HandSPX
def iA (p1 p2 : Pos) : Arguments := { posonlyargs := [], args := [{ arg := "self", annotation := none, pos := p1 }, { arg := "at", annotation := none, pos := p2 }], vararg := none, kwonlyargs := [], kw_defaults := [], kwarg := none, defaults := [] }
def iB (q1 q2 q3 q4 q5 q6 q7 q8 q9 q10 : Pos) : List Stmt :=
  [.Expr (.Call (.Attribute (.Call (.Name "super" q1) [] [] q2) "__init__" q3) [.Name "at" q4] [] q5) q6, .Assign [.Attribute (.Name "self" q7) "at" q8] (.Name "at" q9) q10]
def iS : Scope := { kind := .function, names := [(PySem.Str.ofString "self", .local), (PySem.Str.ofString "at", .local), (PySem.Str.ofString "__class__", .free), (PySem.Str.ofString "super", .globalImplicit)], isGenerator := false, isCoroutine := false, more := [] }
/-- what the written part says of the class at C and of its __init__ at fI -/
structure Txt (P : Program) (K : Frag) (mg : Str → Option Value) (C fI : Addr) : Prop where
  ox : L2.OexC K C
  noN : findIn K (.ref C) "at" = some none
  iC : findIn K (.ref C) "__init__" = some (some (.ref fI))
  tI : typeIn K (.ref fI) = some (.type "function")
  sup : ks_superIn K C C "__init__" = some (some (.builtin "ValueError.__init__"))
  sub : mroIn K C (.ref C) = some true
  isB : subIn K (.ref C) (.type "ValueError") = some true
  tp : nsIn K cStatics "thirdparty.any" = some none
  noS : mg "super" = none
  top : (P.main.scope.names.lookup ("super" : Str)).isSome = false
  fn : ∃ (qn : Str) (oc ccl cl ct doc pm : Value) (od cdd cld an : Option Addr) (osl ccs csl : Array (Option Value)) (cda cc : Addr) (vs : Array Value) (file : Str) (tf : Tok) (p1 p2 q1 q2 q3 q4 q5 q6 q7 q8 q9 q10 : Pos),
    K.lookup fI = some ⟨oc, od, .func (ksFn "__init__" qn (iA p1 p2) (iB q1 q2 q3 q4 q5 q6 q7 q8 q9 q10) iS .none .none doc pm an (.ref cda) ct cc), osl⟩ ∧ codeIn K (.ref cda) qn = true ∧
    K.lookup cda = some ⟨ccl, cdd, .fields vs, ccs⟩ ∧ vs[2]? = some (.str file tf) ∧ ((P.main.file : Str) == file) = true ∧
    K.lookup cc = some ⟨cl, cld, .cell (some (.ref C)), csl⟩ ∧
    (∀ env : Env, ∃ pl : Sem Bool, eval (.Call (.Attribute (.Call (.Name "super" q1) [] [] q2) "__init__" q3) [.Name "at" q4] [] q5) env = (do
      let ov ← attributeBase (.Call (.Name "super" q1) [] [] q2) "__init__" env (eval (.Call (.Name "super" q1) [] [] q2) env)
      standAt q3.atName
      let (f, first) ← holding [ov] (getMethod ov "__init__" pl)
      callWith q5 f first (backTo q5 (starEach [.Name "at" q4] env)) []))
section
variable {prog : Program} {w : World} {A : Around} {R : Result → Shared → Prop} {s : Shared} {K : Frag} {mg mb : Str → Option Value} {C fI : Addr}
/-- what __init__ leaves of a fresh exception at x -/
structure InitEnd (h h' : Heap) (x C dx t1 : Addr) (v : Value) : Prop where
  keep : ∀ b o, b ≠ x → h.get? b = some o → h'.get? b = some o
  obj : h'.get? x = some { cls := .ref C, dict := some dx, data := .fields #[.ref t1, .none, .none, .none, .bool false, .none] }
  dbig : h.objs.size ≤ dx
  dne : dx ≠ x
  ns : h'.Ns1 dx (fun y => if y = "at" then some v else none)
theorem init_ok (T : Txt prog K mg C fI) {x t0 : Addr} {v : Value} (X : K.In s.heap) (hns : s.heap.Ns mainGlobals mg) (hbl : s.heap.Ns builtinsNs mb) (hbb : ∀ x : Str, x ≠ "__name__" → mb x = bootBuiltins x) (hlim : s.heap.NoLimit)
    (hx : s.heap.get? x = some (excO C t0)) (hnx : K.lookup x = none) (hroom : A.depth < recursionLimit)
    (hq : ∀ h' tk dx t1, InitEnd s.heap h' x C dx t1 v → R (.ok (.ret .none)) { s with heap := h', toks := tk }) :
    codeAny (model prog w) A (.call (.ref fI) ⟨[.ref x, v], []⟩) R s := by
  obtain ⟨qn, oc, ccl, cl, ct, doc, pm, od, cdd, cld, an, osl, ccs, csl, cda, cc, vs, file, tf, p1, p2, q1, q2, q3, q4, q5, q6, q7, q8, q9, q10, ho, hcd, hcode, hvs, hfile, hcell, hev⟩ := T.fn
  obtain ⟨nm, q, N, bs, bm, sn, sub, ab, col, dd, k0, k1, k2, k3, k5, hC, hbm⟩ := T.ox.cls
  have hcl : clsIn K C = some { name := nm, bases := bs, mro := .ref C :: bm, ns := N, qualname := q, hasDict := true, slotNames := sn, subclasses := sub, abstract := ab, collection := col, hasDel := false } := by unfold clsIn; rw [hC] <;> rfl
  refine ks_codeAny_call_defAt (fd := ksFn "__init__" qn (iA p1 p2) (iB q1 q2 q3 q4 q5 q6 q7 q8 q9 q10) iS .none .none doc pm an (.ref cda) ct cc) (body := iB q1 q2 q3 q4 q5 q6 q7 q8 q9 q10) (binds := [("self", .ref x), ("at", v)])
    hroom (X _ _ ho) rfl hlim (codeRec_of X hcd) rfl (BindsTo.of_eq (by first | rfl | with_unfolding_all rfl)) (show ∀ x ∈ iS.names, x.2 ≠ NameKind.cell from by decide +kernel) (by
      intro y hy
      rcases List.mem_cons.mp hy with rfl | hy
      · exact (show iS.names.lookup ("self" : Str) = some .local from by decide +kernel)
      · rcases List.mem_cons.mp hy with rfl | hy
        · exact (show iS.names.lookup ("at" : Str) = some .local from by decide +kernel)
        · cases hy) (fun h₁ hn₁ k₁ => ?_)
  have X₁ : K.In h₁ := X.keeps k₁
  have hx₁ := k₁ _ _ hx
  obtain ⟨hp, g, dr, tk, os⟩ := s
  -- super().__init__(field)
  obtain ⟨pl, he⟩ := hev (ksEnv qn iS hp.objs.size fI (.ref cda) cc)
  refine ks_wpAt_execs_cons (ks_wpAt_Expr_any (ks_wpAt_MethodCall (pl := pl) ?_ he))
  refine ks_wpAt_super_base (env := ksEnv qn iS hp.objs.size fI (.ref cda) cc) rfl rfl (by decide +kernel) rfl (X₁ _ _ ho) rfl rfl rfl (X₁ _ _ hcode) rfl hvs hfile T.top ?_
  refine ks_loadName_global rfl rfl (loadGlobal_builtin (env := ksEnv qn iS hp.objs.size fI (.ref cda) cc) (hns.keeps k₁) T.noS (hbl.keeps k₁) ((hbb _ (by decide +kernel)).trans Boot.«super») ⟨rfl, ?_⟩)
  refine wpAny_loadName_free rfl rfl rfl ⟨_, X₁ _ _ hcell, rfl⟩ ?_
  refine wpAny_loadName_local rfl rfl hn₁ rfl ?_
  refine ks_wpAny_isType_cls (X₁ _ _ hC) rfl ⟨rfl, ?_⟩
  refine ks_wpAny_call_super (X₁ _ _ hC) rfl hx₁ rfl (fun c e => by cases e) (looks_mroIn X₁ T.sub) (fun h₂ e₂ k₂ => ?_)
  have X₂ : K.In h₂ := X₁.keeps k₂
  have hx₂ := k₂ _ _ hx₁
  have hm : alongIn K "__init__" (((Value.ref C :: bm).dropWhile (· != .ref C)).drop 1) = some (some (.builtin "ValueError.__init__")) := by
    have z := T.sup
    unfold ks_superIn at z
    rw [hcl] at z
    exact z
  have hI : Looks (model prog w) h₂ (isInstance (.ref x) (.type "ValueError")) true := (show InstAt h₂ x (excO C t0) C none from ⟨hx₂, rfl, rfl, trivial⟩).type.andThen (looks_subIn X₂ T.isB)
  have nxC : x ≠ C := by
    rintro rfl
    have z := X₂ _ _ hC
    rw [hx₂] at z
    cases z
  refine kxs_getMethod kxs_ValueError e₂ (looks_opaque X₂ T.tp) (l₀ := .ref C :: bm) (fun A Q E s k q => wpAny_bind ((looks_clsIn X₂ hcl) A _ E s k (wpAny_pure q))) rfl X₂ hm hI nxC (by decide +kernel) ?_
  have k₃ : ∀ b o, h₂.get? b = some o → (h₂.push (kxs_mw "ValueError.__init__" x)).get? b = some o := fun b o e => Heap.get?_push_of_some _ e
  have e₃ : (h₂.push (kxs_mw "ValueError.__init__" x)).get? h₂.objs.size = some (kxs_mw "ValueError.__init__" x) := Heap.get?_push_at rfl rfl
  have n₃ := (hn₁.keeps k₂).keeps k₃
  have X₃ := X₂.keeps k₃
  have hx₃ := k₃ _ _ hx₂
  refine kxs_callWith (i := "ValueError.__init__") (x := x) (by rfl) (evalArgs_plain ?_)
  show wpAny _ _ (spliced ((false, eval (.Name "at" q4) (ksEnv qn iS hp.objs.size fI (.ref cda) cc)) :: backTo q5 (starEach [] (ksEnv qn iS hp.objs.size fI (.ref cda) cc)))) _ _ _
  refine Calls.spliced_cons (wpAny_Name (wpAny_loadName_local rfl rfl n₃ rfl ?_) (by decide +kernel))
  refine Calls.spliced_nil ⟨e₃, ?_⟩
  show wpAny _ _ (call (.ref h₂.objs.size) [v]) _ _ _
  refine wpAny_call (codeAny_of_tree ?_)
  show wpAny _ _ (callAny (.ref h₂.objs.size) ⟨[v], []⟩) _ _ _
  simp only [callAny]
  refine wpAny_bind (wpAny_load e₃ ?_)
  simp only [kxs_mw, show (Value.type "method-wrapper" == Value.type "method" || Value.type "method-wrapper" == Value.type "builtin_function_or_method" || Value.type "method-wrapper" == Value.type "method-wrapper") = true by decide, if_true]
  refine KFB.if_so (by decide) ?_
  refine wpAny_bind (check_bound_init PySem.F.excBase_ValueError.toExcCallFacts (X₃ _ _ hC) hx₃ rfl ?_)
  refine wpAny_bind (wpAny_pure (wpAny_pure ?_))
  refine ⟨plainId_quiet PySem.F.excBase_ValueError.init.plain _, codeAny_builtin PySem.F.excBase_ValueError.initEntry ?_⟩
  refine exc_init_tree (e := x) (cls := .ref C) (dv := none) (c2 := .none) (c3 := .none) (b4 := .bool false) hx₃ (by show 1 ≤ sizeLine; rw [sizeLine_eq]; decide) (fun h₄ k₄ hx₄ _ => ?_)
  have X₄ : K.In h₄ := fun b o e => k₄ b o (fun z => by rw [z, hnx] at e; cases e) (X₃ b o e)
  have xL : hp.objs.size ≠ x := Nat.ne_of_gt (Heap.lt_size hx)
  have n₄ : h₄.Ns hp.objs.size (fun y => List.lookup y [(("self" : Str), Value.ref x), (("at" : Str), v)].reverse) := by
    obtain ⟨o, es, ep, e, r⟩ := n₃
    exact ⟨o, es, ep, k₄ _ _ xL e, r⟩
  -- self.field = field
  refine wpAt_of_wpAny (wpAny_execs_cons (plainObj_wpAny_Assign_Attribute ?_))
  refine wpAny_Name (wpAny_loadName_local rfl rfl n₄ rfl (wpAny_Name (wpAny_loadName_local rfl rfl n₄ rfl ?_) (by decide +kernel))) (by decide +kernel)
  refine set_plain X₄ (ox := excO C (h₂.push (kxs_mw "ValueError.__init__" x)).objs.size) (od := none) ⟨hx₄, rfl, rfl, trivial⟩ T.ox.sa ?_
  refine exc_osa X₄ hx₄ hcl (show refsVE (.ref C :: bm) = true from hbm) rfl T.noN (fun h₅ tk₅ dx k₅ dn dne hx₅ hn₅ => ?_)
  have old : ∀ b o, b ≠ x → hp.get? b = some o → h₅.get? b = some o := fun b o hb e => k₅ b o hb (k₄ b o hb (k₃ b o (k₂ b o (k₁ b o e))))
  have big : hp.objs.size ≤ dx := by
    obtain ⟨o, es, ep, e, r⟩ := n₄
    exact Nat.le_of_lt (Nat.lt_of_lt_of_le (Heap.lt_size e) dn)
  exact wpAny_execs_nil (hq h₅ tk₅ dx _ ⟨old, hx₅, big, dne, hn₅⟩)
end
end NxA
end PySem
namespace PySem
namespace NxA
open PySem.W PySem.Calls PyProof.Rows PySem.HandSPX
section
variable {prog : Program} {w : World} {A : Around} {R : Result → Shared → Prop} {s : Shared} {K : Frag} {mg mb : Str → Option Value} {C fI : Addr}
/-- a made exception -/
structure Made (h h' : Heap) (e C d : Addr) (v : Value) : Prop where
  keep : ∀ b o, h.get? b = some o → h'.get? b = some o
  new : h.objs.size ≤ e
  obj : ∃ oe vs, h'.get? e = some oe ∧ oe.cls = .ref C ∧ oe.dict = some d ∧ oe.data = .fields vs ∧ vs[1]? = some .none
  dbig : h.objs.size ≤ d
  dne : d ≠ e
  ns : h'.Ns1 d (fun y => if y = "at" then some v else none)
theorem made_ok (T : Txt prog K mg C fI) {v : Value} (X : K.In s.heap) (hns : s.heap.Ns mainGlobals mg) (hbl : s.heap.Ns builtinsNs mb) (hbb : ∀ x : Str, x ≠ "__name__" → mb x = bootBuiltins x) (hlim : s.heap.NoLimit) (hroom : A.depth + 1 < recursionLimit)
    (hq : ∀ h' tk e d, Made s.heap h' e C d v → R (.ok (.ret (.ref e))) { s with heap := h', toks := tk }) :
    codeAny (model prog w) A (.call (.ref C) ⟨[v], []⟩) R s := by
  obtain ⟨nm, q, N, bs, bm, sn, sub, ab, col, dd, k0, k1, k2, k3, k5, hC, hbm⟩ := T.ox.cls
  obtain ⟨hp, g, dr, tk, os⟩ := s
  have k : ∀ b o, hp.get? b = some o → ((hp.push (kdv_tup [v])).push (excO C hp.objs.size)).get? b = some o := fun b o e => Heap.get?_push_of_some _ (Heap.get?_push_of_some _ e)
  have hget : ((hp.push (kdv_tup [v])).push (excO C hp.objs.size)).get? (hp.objs.size + 1) = some (excO C hp.objs.size) := by heap_get
  have hnx : K.lookup (hp.objs.size + 1) = none := by
    cases e : K.lookup (hp.objs.size + 1) with
    | none => rfl
    | some o =>
      have z : hp.get? (hp.objs.size + 1) = some o := X _ _ e
      exact absurd (Nat.lt_of_succ_lt (Heap.lt_size z)) (Nat.lt_irrefl _)
  have one : [v].length ≤ sizeLine := by
    show 1 ≤ sizeLine
    rw [sizeLine_eq]
    decide
  refine call_own PySem.F.excBase_ValueError (fun X => refsVE_contains X bm hbm) (X _ _ hC) (looks_findIn X T.iC) (fun self => bind_fn X self T.tI) one ?_
  refine init_ok (s := ⟨(hp.push (kdv_tup [v])).push (excO C hp.objs.size), g, dr, tk, os⟩) T (X.keeps k) (hns.keeps k) (hbl.keeps k) hbb (hlim.keeps k) hget hnx ?_ fun h' tk' dx t1 ⟨k', hx, dn, dne, hns'⟩ => ?_
  · show A.depth + 1 < recursionLimit
    exact hroom
  · have old : ∀ b o, hp.get? b = some o → h'.get? b = some o := fun b o e => k' b o (Nat.ne_of_lt (Nat.lt_succ_of_lt (Heap.lt_size e))) (k b o e)
    have z : hp.objs.size + 1 + 1 ≤ dx := by
      first
        | (simpa only [Heap.size_push] using dn)
        | exact dn
        | (have q := dn; rw [Heap.size_push, Heap.size_push] at q; exact q)
    exact ⟨rfl, hq h' tk' (hp.objs.size + 1) dx ⟨old, Nat.le_succ _, ⟨_, _, hx, rfl, rfl, rfl, rfl⟩, Nat.le_trans (Nat.le_trans (Nat.le_succ _) (Nat.le_succ _)) z, dne, hns'⟩⟩
end
end NxA
end PySem
namespace L2
open PySem PySem.Spec PyProof.Rows
section
variable {X : Cx} {C fI : Addr}
theorem pmk_nxA {a : Expr} {ta : TA} {x : Str} {p pos : Pos} {k : Nat} (T : PySem.NxA.Txt X.prog X.K X.mg C fI) (hr : Room k X.A) (ha : PA X [a] ta) (hg : Gl X x) (hm : X.mg x = some (.ref C)) (hdb : (x == ("__debug__" : Str)) = false := by decide)
    (he : starEach (a :: []) X.env = (false, eval a X.env) :: starEach [] X.env := by rfl) (hpl : (backTo pos (starEach [] X.env)).any (·.1) = false := by rfl) :
    PMk X (.Call (.Name x p) [a] [] pos) (tMkNx "at" C ta) := by
  intro pins s σ H Q I h
  refine wpAny_Call_Name_kw (ld_glob I hg hm ?_ hdb)
  refine PySem.W.callWith_K (h₀ := X.base) I.ok.mod.kin T.ox.kC (thn (ha.run pos pins s σ H _ I h) fun us s1 hh => ?_) he hpl
  obtain ⟨vs, H1, I1, r1, v, ev, q1⟩ := hh
  subst ev
  refine ⟨I1.kIn, ?_⟩
  cases r1 with
  | cons rv rn =>
    rename_i v' us'
    cases rn
    show wpAny _ _ (call (.ref C) [v']) _ _ _
    have hlim := I1.nolimit
    obtain ⟨mb, hb1, hb2⟩ := I1.ok.mod.blt
    have hns := I1.ok.mod.glob.keeps I1.bk
    have hbl := hb1.keeps I1.bk
    obtain ⟨hp, g, dr, tk, os⟩ := s1
    refine wpAny_call (PySem.NxA.made_ok T I1.kIn hns hbl hb2 hlim (by have := hr.dp; omega) fun h' tk' e d M => ?_)
    show MkP X pins σ Q (.ref e) ⟨h', g, dr, tk', os⟩
    obtain ⟨oe, fv, hoe, hc, hd, hdat, h1⟩ := M.obj
    have hns := M.ns
    obtain ⟨G', g1, g2⟩ := restrict h' fun b => decide (b ≠ e)
    have gk : ∀ b, b ≠ e → G'.get? b = h'.get? b := fun b hb => g1 b (decide_eq_true hb)
    have ge : G'.get? e = none := g2 e (by simp)
    have old : ∀ b o, hp.get? b = some o → G'.get? b = some o := fun b o q => (gk b (Nat.ne_of_lt (Nat.lt_of_lt_of_le (Heap.lt_size q) M.new))).trans (M.keep b o q)
    have ob : ObjOk X.prog X.w (upd H1 d (.xd [(("at" : Str), v)])) G' d (.xd [(("at" : Str), v)]) :=
      ⟨_, hns.at (fun o q => (gk d M.dne).trans q), fun f => relO_one rv f⟩
    have J : Inv X pins σ (upd H1 d (.xd [(("at" : Str), v)])) ⟨G', g, dr, tk', os⟩ := I1.laid (t' := tk') old M.dbig ob
    refine ⟨e, oe, fv, ⟨G', g, dr, tk', os⟩, _, .ref C, some d, rfl, J, fun b o q => ?_, ge, hoe, ⟨hc, hd⟩, hdat, h1, ?_, rfl, I1.bare, raises_own T.ox.exC T.ox.tyC, q1 d (I1.hok.fresh M.dbig)⟩
    · by_cases hb : b = e
      · have q' : G'.get? b = some o := q
        rw [hb, ge] at q'; cases q'
      · exact (gk b hb).symm.trans q
    · rw [upd_ne (Ne.symm M.dne)]
      exact I1.hok.fresh M.new
end
end L2
namespace Nd
open PySem PySem.Spec PyProof.Rows L2 He
/-- the rest of it -/
def nxBA (file : Str) (K : PySem.W.Frag) (C fI : Addr) : Bool := oexB K C && (eqO (PySem.W.findIn K (.ref C) "at") (some none) && (eqO (PySem.W.findIn K (.ref C) "__init__") (some (some (.ref fI))) && (decide (PySem.W.typeIn K (.ref fI) = some (.type "function")) &&
  (eqO (PySem.W.ks_superIn K C C "__init__") (some (some (.builtin "ValueError.__init__"))) && (decide (PySem.W.mroIn K C (.ref C) = some true) && (decide (PySem.W.subIn K (.ref C) (.type "ValueError") = some true) && (eqO (PySem.W.nsIn K cStatics "thirdparty.any") (some none) &&
  (match K.lookup fI with
    | some ⟨_, _, .func fd, _⟩ => (match fd.code, fd.closure with
      | .ref cda, [(_, cc)] => PySem.W.codeIn K (.ref cda) fd.qualname && ((match K.lookup cda with
          | some ⟨_, _, .fields vs, _⟩ => (match (vs[2]? : Option Value) with
            | some (.str f _) => file == f
            | _ => false)
          | _ => false) && (match K.lookup cc with
          | some ⟨_, _, .cell (some (.ref c)), _⟩ => decide (c = C)
          | _ => false))
      | _, _ => false)
    | _ => false))))))))
def nxValA (p1 p2 : Pos) (b : List Stmt) : NxV := some (("__init__" : Str), PySem.NxA.iA p1 p2, FuncBody.stmts b, PySem.NxA.iS, mainGlobals, [("__class__" : Str)], Value.none, Value.none, builtinsNs)
theorem nx_txtA {P : Program} {K : PySem.W.Frag} {mg : Str → Option Value} {x file : Str} {p1 p2 q1 q2 q3 q4 q5 q6 q7 q8 q9 q10 : Pos} (hb : nxBA file K (ga K x) (ma K (ga K x) "__init__") = true)
    (hv : nxObs x K = nxValA p1 p2 (PySem.NxA.iB q1 q2 q3 q4 q5 q6 q7 q8 q9 q10))
    (hfile : ((P.main.file : Str) == file) = true) (noS : mg "super" = none) (top : (P.main.scope.names.lookup ("super" : Str)).isSome = false)
    (hev : ∀ env : Env, ∃ pl : Sem Bool, eval (.Call (.Attribute (.Call (.Name "super" q1) [] [] q2) "__init__" q3) [.Name "at" q4] [] q5) env = (do
      let ov ← attributeBase (.Call (.Name "super" q1) [] [] q2) "__init__" env (eval (.Call (.Name "super" q1) [] [] q2) env)
      standAt q3.atName
      let (f, first) ← holding [ov] (getMethod ov "__init__" pl)
      callWith q5 f first (backTo q5 (starEach [.Name "at" q4] env)) [])) : PySem.NxA.Txt P K mg (ga K x) (ma K (ga K x) "__init__") := by
  obtain ⟨h1, h⟩ := ba hb
  obtain ⟨h2, h⟩ := ba h
  obtain ⟨h3, h⟩ := ba h
  obtain ⟨h4, h⟩ := ba h
  obtain ⟨h5, h⟩ := ba h
  obtain ⟨h6, h⟩ := ba h
  obtain ⟨h7, h⟩ := ba h
  obtain ⟨h8, h⟩ := ba h
  refine ⟨oexB_ok h1, eqO_ok h2, eqO_ok h3, of_decide_eq_true h4, eqO_ok h5, of_decide_eq_true h6, of_decide_eq_true h7, eqO_ok h8, noS, top, ?_⟩
  unfold nxObs nxValA at hv
  split at hv
  · rename_i oc od fd osl hk
    rw [hk] at h
    obtain ⟨n1, n2, n3, n4, n5, n6, n7, n8, n9, n10, n11, n12, n13, n14, n15⟩ := fd
    simp only [Option.some.injEq, Prod.mk.injEq] at hv
    obtain ⟨e1, e2, e3, e4, e5, e6, e7, e8, e9⟩ := hv
    subst e1 e2 e3 e4 e5 e7 e8 e9
    dsimp only at h
    cases n13 with
    | ref cda =>
      rcases n7 with _ | ⟨⟨y, cc⟩, _ | ⟨z, t⟩⟩
      · cases h
      · have ey : y = "__class__" := by
          have z : [y] = ([("__class__" : Str)] : List Str) := e6
          injection z
        subst ey
        obtain ⟨g1, h⟩ := ba h
        obtain ⟨g2, g3⟩ := ba h
        split at g2
        · rename_i c1 c2 vs c4 hk2
          split at g2
          · rename_i f tf hvs
            split at g3
            · rename_i d1 d2 c d4 hk3
              have ec := of_decide_eq_true g3
              rw [ec] at hk3
              have ef : file = f := eq_of_beq g2
              exact ⟨_, _, _, _, _, _, _, _, _, _, _, _, _, _, cda, cc, vs, f, tf, _, _, _, _, _, _, _, _, _, _, _, _, hk, g1, hk2, hvs, by rw [← ef]; exact hfile, hk3, hev⟩
            · cases g3
          · cases g2
        · cases g2
      · cases h
    | _ => cases h
  · cases hv
end Nd
set_option maxHeartbeats 4000000
/-! ### a run of the top that lays a dict's entries out at each change of it (a long table of the top takes cubic time otherwise) -/
namespace Nd
open PySem PySem.W PySem.Calls PyProof.Rows HandSHeadRun
section
variable {α : Type}
def frV (v : Value) (k : Value → α) : α := match v with
  | .str x t => k (.str x t)
  | .int i t => k (.int i t)
  | v => k v
theorem frV_eq (v : Value) (k : Value → α) : frV v k = k v := by
  cases v <;> rfl
def frE (e : DictEntry) (k : DictEntry → α) : α := match e with
  | ⟨h, y, v⟩ => frV y fun y => frV v fun v => k ⟨h, y, v⟩
theorem frE_eq (e : DictEntry) (k : DictEntry → α) : frE e k = k e := by
  obtain ⟨h, y, v⟩ := e
  show frV y (fun y => frV v fun v => k ⟨h, y, v⟩) = _
  rw [frV_eq, frV_eq]
def frL : List DictEntry → (List DictEntry → α) → α
  | [], k => k []
  | e :: r, k => frE e fun e => frL r fun r => k (e :: r)
theorem frL_eq : ∀ (l : List DictEntry) (k : List DictEntry → α), frL l k = k l
  | [], _ => rfl
  | e :: r, k => by
    show frE e (fun e => frL r fun r => k (e :: r)) = _
    rw [frE_eq, frL_eq r]
def frAt (s : SharedT) (a : Addr) (k : SharedT → α) : α := match s with
  | ⟨T, n, life, gens, drawn, toks, os⟩ => match T.get a with
    | some ⟨c, d, .dict ⟨l⟩ ep, sl⟩ => frL l fun l => frNat ep fun ep => k ⟨T.set a (fun _ => ⟨c, d, .dict ⟨l⟩ ep, sl⟩), n, life, gens, drawn, toks, os⟩
    | _ => k ⟨T, n, life, gens, drawn, toks, os⟩
theorem set_same : ∀ (T : BT) (a : Nat) (o : Obj), T.get a = some o → T.set a (fun _ => o) = T
  | .nil, _, _, h => by cases h
  | .node v l r, a, o, h => by
    unfold BT.get at h
    unfold BT.set
    cases e : Nat.beq a 0 with
    | true =>
      rw [e] at h
      cases h
      rfl
    | false =>
      rw [e] at h
      dsimp only at h ⊢
      cases e2 : Nat.beq (a % 2) 1 with
      | true =>
        rw [e2] at h
        dsimp only at h ⊢
        rw [set_same l _ o h]
      | false =>
        rw [e2] at h
        dsimp only at h ⊢
        rw [set_same r _ o h]
theorem frAt_eq (s : SharedT) (a : Addr) (k : SharedT → α) : frAt s a k = k s := by
  obtain ⟨T, n, life, gens, drawn, toks, os⟩ := s
  unfold frAt
  dsimp only
  split
  · rename_i c d l ep sl h
    rw [frL_eq, frNat_eq, set_same _ _ _ h]
  · rfl
end
def stepD (st : SharedT → Thread → Option (SharedT × Thread)) (s : SharedT) (t : Thread) : Option (SharedT × Thread) := match t with
  | ⟨.update a x f k, code, pos, stack⟩ => match st s ⟨.update a x f k, code, pos, stack⟩ with
    | some (s', t') => frAt s' a fun s' => some (s', t')
    | none => none
  | t => st s t
theorem stepD_eq (st : SharedT → Thread → Option (SharedT × Thread)) : stepD st = st := by
  funext s t
  unfold stepD
  split
  · split
    · rename_i h
      rw [frAt_eq, h]
    · rename_i h
      rw [h]
  · rfl
/-- RunEq by such a run -/
theorem runD {r : OpenRow} {q : Program} {H : Hook} {ob : SharedT → H.α} {M : Nat} {loose : List PySem.Str} {w : World}
    (h : ∀ os : OsState, (endF (stepD (stepQ (denQ tabQ) r.prog w)) M r.prog w os).map (fun s => (looksF r.prog (boot_heap w.params) s.abs, seenQ q loose (importedModules r.prog.main.body) (fun s => xlAt q [] s && recOk r.toRowW.records s) s.abs, ob s)) = some (true, openGood q loose, H.val w)) : RunEq r q H ob M loose w := by
  rw [stepD_eq] at h
  exact h
end Nd
set_option maxHeartbeats 4000000
/-! ### a run of the top in which a long table is laid out quickly: a look among a dict's entries by lists (by arrays it takes cubic time) -/
namespace Nd
open PySem PySem.W PySem.Calls PyProof.Rows HandSHeadRun
noncomputable section
def anyEnt (es : Array DictEntry) (p : DictEntry → Bool) (i j : Nat) : Bool := match Nat.beq i 0 with
  | true => match Nat.beq j es.toList.length with
    | true => es.toList.all p
    | false => Array.all es p i j
  | false => Array.all es p i j
theorem anyEnt_eq : @Array.all DictEntry = anyEnt := by
  funext es p i j
  unfold anyEnt
  cases h1 : Nat.beq i 0 with
  | false => rfl
  | true =>
    cases h2 : Nat.beq j es.toList.length with
    | false => rfl
    | true =>
      have e1 : i = 0 := Nat.eq_of_beq_eq_true h1
      have e2 : j = es.toList.length := Nat.eq_of_beq_eq_true h2
      subst e1 e2
      exact Array.all_toList.symm
def whereEnt (p : DictEntry → Bool) (es : Array DictEntry) : Option Nat := es.toList.findIdx? p
theorem whereEnt_eq : @Array.findIdx? DictEntry = whereEnt := by
  funext p es
  obtain ⟨l⟩ := es
  simp [whereEnt]
def foundD : { f : Addr → Value → Array DictEntry → Str → Sem (Option Nat) // f = PySem.W.Fast.tw16073574877836486461 } := by
  refine ⟨?f, ?h⟩
  case h =>
    delta PySem.W.Fast.tw16073574877836486461
    rw [whereEnt_eq]
/-- where keys of one hash stand (numbers as keys), by lists -/
def placesL (h : Int) : List DictEntry → Nat → List Nat
  | [], _ => []
  | e :: r, i => match decide (e.hash = h) with
    | true => i :: placesL h r (i + 1)
    | false => placesL h r (i + 1)
theorem placesL_eq (h : Int) (l : List DictEntry) : ∀ (pre : List DictEntry), placesL h l pre.length = (List.range' pre.length l.length).filter fun i => ((pre ++ l)[i]?.map (·.hash)) == some h := by
  induction l with
  | nil => intro pre; rfl
  | cons e r ih =>
    intro pre
    have h1 := ih (pre ++ [e])
    rw [List.length_append, List.append_assoc] at h1
    have hg : (pre ++ e :: r)[pre.length]? = some e := by simp
    rw [List.length_cons, List.range'_succ, List.filter_cons, hg]
    unfold placesL
    by_cases c : e.hash = h
    · rw [decide_eq_true c]
      have c2 : ((some e).map (·.hash) == some h) = true := by simp [c]
      rw [if_pos c2]
      exact congrArg (List.cons _) h1
    · rw [decide_eq_false c]
      have c2 : ¬ ((some e).map (·.hash) == some h) = true := by simp [c]
      rw [if_neg c2]
      exact h1
theorem places_eq (es : Array DictEntry) (h : Int) : PySem.W.Fast.tw2965532104302071907 es.size (fun i => Option.map (fun x => x.hash) es[i]?) h = placesL h es.toList 0 := by
  have e1 := placesL_eq h es.toList []
  have e2 : placesL h es.toList 0 = _ := e1
  rw [e2, ← PySem.W.Fast.te2965532104302071907]
  unfold PySem.placesWithHash
  rw [List.range_eq_range']
  simp
def findD : { f : Addr → Value → Int → Sem (Option Nat) // f = PySem.W.Fast.tw7228091826238408665 } := by
  refine ⟨?f, ?h⟩
  case h =>
    delta PySem.W.Fast.tw7228091826238408665
    simp (config := { zeta := false, zetaDelta := false }) only [places_eq]
    rw [anyEnt_eq, ← foundD.2]
def setHD : { f : Addr → Value → Int → Value → Sem Unit // f = PySem.W.Fast.tw4359058424727691002 } := by
  refine ⟨?f, ?h⟩
  case h =>
    delta PySem.W.Fast.tw4359058424727691002
    rw [← findD.2]
def setD : { f : Addr → Value → Value → Sem Unit // f = PySem.W.Fast.tw11925912800584824493 } := by
  refine ⟨?f, ?h⟩
  case h =>
    delta PySem.W.Fast.tw11925912800584824493
    rw [← setHD.2]
def putD : { f : Addr → Int → Value → Value → Sem Unit // f = PySem.W.Fast.tw9652029157277244616 } := by
  refine ⟨?f, ?h⟩
  case h =>
    delta PySem.W.Fast.tw9652029157277244616
    rw [← findD.2]
def subD : { f : List (Sem Value × Sem Value) → Sem Addr // f = PySem.W.Fast.tw11913375310210876947 } := by
  refine ⟨?f, ?h⟩
  case h =>
    delta PySem.W.Fast.tw11913375310210876947
    rw [← setD.2]
def mergeD : { f : Addr → Value → Bool → Sem Unit // f = PySem.W.Fast.tw8596071696976842438 } := by
  refine ⟨?f, ?h⟩
  case h =>
    delta PySem.W.Fast.tw8596071696976842438
    rw [← putD.2, ← findD.2, ← setD.2]
def dispD : { f : List (Option (Sem Value) × Sem Value) → Sem Value // f = PySem.W.Fast.tw11216187645035866516 } := by
  refine ⟨?f, ?h⟩
  case h =>
    delta PySem.W.Fast.tw11216187645035866516
    rw [← subD.2, ← mergeD.2]
theorem dispD_eq : @dictDisplay = dispD.1 := PySem.W.Fast.te11216187645035866516.trans dispD.2.symm
/-! the statement x = {..} of the top, its body -/
def keysD (ks : List (Option Expr)) (env : Env) : List (Option (Sem Value)) := ks.map fun o => match o with
  | some e => some (PySem.W.Fast.tw14044960220447912780 e env)
  | none => none
theorem keysD_eq : ∀ (ks : List (Option Expr)) (env : Env), evalEachOpt ks env = keysD ks env
  | [], _ => rfl
  | none :: r, env => by
    show none :: evalEachOpt r env = none :: keysD r env
    rw [keysD_eq r env]
  | some e :: r, env => by
    show some (eval e env) :: evalEachOpt r env = some (PySem.W.Fast.tw14044960220447912780 e env) :: keysD r env
    rw [keysD_eq r env, PySem.W.Fast.te14044960220447912780]
def asgD (ts : List Expr) (ks : List (Option Expr)) (vs : List Expr) (p pos : Pos) (env : Env) : { f : Sem Flow // f = exec (.Assign ts (.Dict ks vs p) pos) env } := by
  refine ⟨?f, ?h⟩
  case h =>
    rw [arm_exec_Assign, arm_eval_Dict, dispD_eq, keysD_eq, PySem.W.Fast.te10458482166411082596, PySem.W.Fast.te2470068587113613483, PySem.W.Fast.te4016559146275205325, PySem.W.Fast.te7783108440312521181, PySem.W.Fast.te1406442740598737775, PySem.W.Fast.te15628205474173192105, PySem.W.Fast.te15591190973536708279]
    try rw [PySem.W.Fast.te9053332837126583604]
def nextD (f : Flow) (k : Sem Flow) : Sem Flow := match f with
  | .next => k
  | f => pure f
def execD (s : Stmt) (env : Env) : Sem Flow := match s with
  | .Assign ts (.Dict ks vs p) pos => (asgD ts ks vs p pos env).1
  | s => PySem.W.Fast.tw12563942051412417395 [s] env
theorem one_eq (s : Stmt) (env : Env) : execs [s] env = exec s env := by
  rw [execs_cons, execs_nil]
  have e : (fun f : Flow => (match f with | .next => (pure .next : Sem Flow) | f => pure f)) = pure := by
    funext f
    cases f <;> rfl
  show (exec s env >>= fun f : Flow => (match f with | .next => (pure .next : Sem Flow) | f => pure f)) = _
  rw [e]
  exact bind_pure _
theorem execD_eq (s : Stmt) (env : Env) : execD s env = exec s env := by
  unfold execD
  split
  · exact (asgD _ _ _ _ _ env).2
  · rw [← PySem.W.Fast.te12563942051412417395, one_eq]
def execsD : List Stmt → Env → Sem Flow
  | [], _ => pure .next
  | s :: r, env => PySem.W.R.bindR (execD s env) fun f => nextD f (execsD r env)
theorem execsD_eq : @execs = execsD := by
  funext l env
  induction l with
  | nil => rfl
  | cons s r ih =>
    rw [execs_cons]
    unfold execsD
    rw [execD_eq, ← ih, ← PySem.W.R.bindR_eq]
    show (exec s env >>= fun f : Flow => _) = (exec s env >>= fun f => nextD f (execs r env))
    congr 1
def bodyD (l : List Stmt) (env : Env) : { f : Sem Fin // f = denote treeTable (.body l env) } := by
  refine ⟨?f, ?h⟩
  case h =>
    rw [denote, execsD_eq, PySem.W.Fast.te1066825118222455980, PySem.W.Fast.te9442747609961115081, PySem.W.R.onRaiseR_eq]
    try rw [PySem.W.Fast.te9053332837126583604]
def denD (c : Code) : Sem Fin := match c with
  | .body l env => (bodyD l env).1
  | c => denQ tabQ c
theorem denD_eq : denD = denQ tabQ := by
  funext c
  unfold denD
  split
  · rw [(bodyD _ _).2, denQ_eq, tabQ_eq]
  · rfl
/-- RunEq by such a run -/
theorem runT {r : OpenRow} {q : Program} {H : Hook} {ob : SharedT → H.α} {M : Nat} {loose : List PySem.Str} {w : World}
    (h : ∀ os : OsState, (endF (stepD (stepQ denD r.prog w)) M r.prog w os).map (fun s => (looksF r.prog (boot_heap w.params) s.abs, seenQ q loose (importedModules r.prog.main.body) (fun s => xlAt q [] s && recOk r.toRowW.records s) s.abs, ob s)) = some (true, openGood q loose, H.val w)) : RunEq r q H ob M loose w := by
  rw [stepD_eq, denD_eq] at h
  exact h
/-- the run as it is made here -/
def runX (r : OpenRow) (M : Nat) (w : World) (os : OsState) : Option SharedT := endF (stepD (stepQ denD r.prog w)) M r.prog w os
theorem map_two {α β γ : Type} {o : Option α} {f : α → β} {g : α → γ} {b : β} {c : γ} (h1 : o.map f = some b) (h2 : o.map g = some c) : o.map (fun s => (f s, g s)) = some (b, c) := by
  cases o with
  | none => cases h1
  | some s =>
    have e1 : f s = b := Option.some.inj h1
    have e2 : g s = c := Option.some.inj h2
    show some (f s, g s) = some (b, c)
    rw [e1, e2]
/-- RunEq, what is asked of the end asked by four runs: less memory -/
theorem runS {r : OpenRow} {q : Program} {H : Hook} {ob : SharedT → H.α} {M : Nat} {loose : List PySem.Str} {w : World} {β γ : Type} (p1 : H.α → β) (p2 : H.α → γ) (inj : ∀ x y, p1 x = p1 y → p2 x = p2 y → x = y)
    (h1 : ∀ os : OsState, (runX r M w os).map (fun s => (looksF r.prog (boot_heap w.params) s.abs, (seenQ q loose (importedModules r.prog.main.body) (fun s => xlAt q [] s && recOk r.toRowW.records s) s.abs).1)) = some (true, (openGood q loose).1))
    (h2 : ∀ os : OsState, (runX r M w os).map (fun s => (seenQ q loose (importedModules r.prog.main.body) (fun s => xlAt q [] s && recOk r.toRowW.records s) s.abs).2) = some (openGood q loose).2)
    (h3 : ∀ os : OsState, (runX r M w os).map (fun s => p1 (ob s)) = some (p1 (H.val w)))
    (h4 : ∀ os : OsState, (runX r M w os).map (fun s => p2 (ob s)) = some (p2 (H.val w))) : RunEq r q H ob M loose w := by
  refine runT fun os => ?_
  have e1 := h1 os
  have e2 := h2 os
  have e3 := h3 os
  have e4 := h4 os
  show (runX r M w os).map _ = _
  cases e : runX r M w os with
  | none =>
    rw [e] at e1
    cases e1
  | some s =>
    rw [e] at e1 e2 e3 e4
    have f1 := Option.some.inj e1
    have f2 := Option.some.inj e2
    have f3 := Option.some.inj e3
    have f4 := Option.some.inj e4
    have g := inj _ _ f3 f4
    have l1 := congrArg Prod.fst f1
    have l2 := congrArg Prod.snd f1
    refine congrArg some (Prod.ext l1 (Prod.ext (Prod.ext l2 f2) g))
end
end Nd
set_option maxHeartbeats 4000000
/-! ### a lambda handed to a def that hands it on to another def -/
namespace Nd
open PySem PySem.Spec PyProof.Rows L2 LamX
/-- two stretches, the second with frames of its own that stand above the first's begin -/
theorem un_join {fs fs2 : List Addr} {H H2 H3 : Hp} {h h2 h3 : Heap} (a : Un fs [] H H2 h h2) (b : Un fs2 [] H2 H3 h2 h3) (hf : ∀ c ∈ fs2, c ∈ fs ∨ h.objs.size ≤ c) : Un fs [] H H3 h h3 where
  keep := fun c o e n hc hx => b.keep c o (a.keep c o e n hc hx) (a.free c o e n hx) (fun m => (hf c m).elim hc fun le => absurd (Heap.lt_size e) (Nat.not_lt.mpr le)) hx
  slot := fun c o e n hc hx => by
    obtain ⟨sl, e2⟩ := a.slot c o e n hc hx
    obtain ⟨sl2, e3⟩ := b.any e2 (a.free c o e n hx) (by simp)
    exact ⟨sl2, e3⟩
  free := fun c o e n hx => by
    obtain ⟨o2, e2⟩ := a.there c o e hx
    exact b.free c o2 e2 (a.free c o e n hx) (by simp)
  there := fun c o e hx => by
    obtain ⟨o2, e2⟩ := a.there c o e hx
    exact b.there c o2 e2 hx
  tups := fun c xs e => b.tups c xs (a.tups c xs e)
  frzs := fun c o u e => b.frzs c o u (a.frzs c o u e)
  tbls := fun c ps e => by
    obtain ⟨m1, e1⟩ := a.tbls c ps e
    obtain ⟨m2, e2⟩ := b.tbls c _ e1
    exact ⟨m1 ++ m2, by rw [e2, Array.append_assoc]⟩
section
variable {X : Cx} {pins : List (Addr × Obj)} {σ : L2.St} {H : Hp} {s : Shared}
/-- what the lambda at f does, called in a frame that was entered at s2 with the frames st2 around it -/
def Act (X : Cx) (s : Shared) (H : Hp) (f c' : Addr) (q : Str) (k : Nat) (tl : XK → Hp → VK → Prop) : Prop :=
  ∀ (Ng : List Str) (qg : Str) (sg : Scope) (g : Addr) (cdg : Value) (A2 : Around) (st2 : List Env) (s2 : Shared) (H2 : Hp) (i : Nat) (a : Str) (pn : List (Addr × Obj)) (xe : Value → Shared → Prop) (W : WX) (E : XK) (p1 p2 : Pos),
    Un (frs X.stack) [] H H2 s.heap s2.heap → (∀ b ∈ frs st2, b ∈ frs X.stack ∨ s.heap.objs.size ≤ b) → Room (k + 1) (A2.deeper (envOfC qg sg s2.heap.objs.size g cdg)) → Ng[i]? = some a → Vis sg a → (a == ("__debug__" : Str)) = false → (a == ("__classdict__" : Str)) = false →
    Takes ((cxOf C8.CX0 X.prog X.w X.K X.mg X.base Ng qg sg g cdg A2 st2 s2 H2 C8.E0).tr pn xe) W → (∀ cls d σ' H', E cls d H' → W cls d σ' H') →
    PE ((cxOf C8.CX0 X.prog X.w X.K X.mg X.base Ng qg sg g cdg A2 st2 s2 H2 C8.E0).tr pn xe) (.Call (.Name a p1) [] [] p2) (fun σZ HZ Q => σZ[i]? = some (some (.ref f)) ∧ HZ c' = some (CodeO c' q) ∧ tl E HZ Q)
theorem act_of {f c' : Addr} {pm ctv : Value} {params : Arguments} {body : Expr} {scope : Scope} {k : Nat} {t : XK → TE}
    (I : Inv X pins σ H s) (L : LamS X.env.scope scope) (hf : s.heap.get? f = some (PySem.W.kla_obj "<lambda>" (X.env.qual ++ "<lambda>") params body scope (cloFrom X.env.cells scope.names []) pm c' ctv)) (hfn : H f = none) (hfr : f ∉ frs X.stack)
    (hbind : bindArgs (PySem.W.kla_fn "<lambda>" (X.env.qual ++ "<lambda>") params body scope (cloFrom X.env.cells scope.names []) pm (.ref c') ctv) ⟨[], []⟩ = pure [])
    (hbody : ∀ (A : Around) (outer : List Env) (s : Shared) (H : Hp) (E : XK), Room k (A.deeper (lamEnv X scope s.heap.objs.size f c')) → PE (lamCx X A outer s H E scope f c') body (t E)) :
    Act X s H f c' (X.env.qual ++ "<lambda>") k (fun E H' Q' => t E σ H' Q') := by
  intro Ng qg sg g cdg A2 st2 s2 H2 i a pn xe W E p1 p2 u hst hr hN hv hd hcd tk hW
  refine ⟨fun pinsZ sZ σZ HZ Q IZ h => ?_⟩
  obtain ⟨hs, hc, ht⟩ := h
  have look := (pe_var (pos := p1) (i := i) hN hv hd hcd).run pinsZ sZ σZ HZ (fun v H1 => v = .ref f ∧ H1 = HZ) IZ ⟨.ref f, hs, rfl, rfl⟩
  refine wpAny_Call_Name_kw (thn look fun u1 s1 ⟨v, H1, I1, r1, ev, eH⟩ => ?_)
  subst ev
  rw [eH] at I1
  obtain rfl : u1 = Value.ref f := r1
  have un : Un (frs X.stack) [] H HZ s.heap s1.heap := un_join u (show Un (frs st2) [] H2 HZ s2.heap s1.heap from I1.base) hst
  have lives := un.keep f _ hf hfn hfr (fun z => nomatch (show f ∈ ([] : List Addr) from z))
  refine PySem.W.callWith_F0 ⟨_, _, _, _, lives⟩ ?_
  obtain ⟨⟨oc, vs, tok, hoc, hdc, hvc⟩, _, _⟩ := I1.hok c' _ hc
  have hx : Passes (L2.CX X.prog X.w) ((cxOf C8.CX0 X.prog X.w X.K X.mg X.base Ng qg sg g cdg A2 st2 s2 H2 C8.E0).tr pn xe) E := passes_call tk hW
  have rc : codeAny (model X.prog X.w) (A2.deeper (envOfC qg sg s2.heap.objs.size g cdg)) (.call (.ref f) ⟨[], []⟩) (CR (L2.CX X.prog X.w) (envOfC qg sg s2.heap.objs.size g cdg :: st2) X.prog X.w HZ s1 Q E) s1 := by
    refine PySem.W.kla_callFunE hr.depth lives rfl L.co L.gen rfl ⟨c', oc, vs, tok, rfl, hoc, hdc, hvc⟩ ?_
    rw [hbind]
    refine wpAny_pure (wpAny_newFunctionEnv (fun y hy => (L.own y hy).2) (fun y hy => absurd hy (by simp)) (fun h1 hns hsb => ⟨I1.nolimit.fresh _ hsb, ?_⟩) L.kind)
    have kp : ∀ b o, s1.heap.get? b = some o → h1.get? b = some o := fun b o e => hsb.extBut b o (Nat.ne_of_lt (Heap.lt_size e)) (Heap.get?_push_of_some _ e)
    have J := lam_start2 (E := E) (f := f) (c' := c') (tk := s1.toks + ([] : List (Str × Value)).length) I L I1.env0 hr.hd un hns kp
    show codeAny _ _ (.expr body (lamEnv X scope s1.heap.objs.size f c')) _ _
    refine PySem.W.kla_codeExpr (wpAny_mono ((hbody _ _ s1 HZ E (hr.deeper _)).run [] _ _ HZ Q J ht) (fun v s' hq => ?_) fun e s' hq => hq)
    obtain ⟨w', H', J', rv, q⟩ := hq
    exact ⟨w', H', J'.os, J'.bare, J'.base, J'.hok, rv, q⟩
  refine wpAny_call (codeAny_mono rc fun r s' hq => ?_)
  match r, hq with
  | .error e, hq => exact hx pinsZ σZ HZ s1 e s' I1 hq
  | .ok (.ret u), hq => exact I1.after hq
  | .ok .next, hq => exact False.elim hq
  | .ok .brk, hq => exact False.elim hq
  | .ok .cont, hq => exact False.elim hq
/-- the def that gets the lambda and one thing more -/
def Gives2 (X : Cx) (Ng : List Str) (x : Str) (sg : Scope) (g : Addr) (cdg : Value) (bg : List Stmt) (q : Str) (k : Nat) (TT : (XK → Hp → VK → Prop) → V → Hp → VK → Prop) : Prop :=
  ∀ (f c' : Addr) (s : Shared) (H : Hp) (Q : VK) (v : V) (tl : XK → Hp → VK → Prop), Act X s H f c' q k tl → Room (k + 2) (X.A.deeper (envOfC x sg s.heap.objs.size g cdg)) → H c' = some (CodeO c' q) → TT tl v H Q →
    ∃ t, PSs (cxOf C8.CX0 X.prog X.w X.K X.mg X.base Ng x sg g cdg X.A X.stack s H C8.E0).nox bg t ∧ t { nx := fun _ H' => Q .non H', rt := Q } (L2.start Ng [.ref f, v]) H
def tLam2 (T : List (Addr × Str)) (q : Str) (TT : (XK → Hp → VK → Prop) → V → Hp → VK → Prop) (t : XK → TE) (te : TE) : TE := fun σ H Q => Tabs T H ∧ ∀ H1, ExtN H H1 → Tabs T H1 → te σ H1 fun v H2 => (∀ c', H1 c' = some (CodeO c' q) → H2 c' = some (CodeO c' q)) ∧ TT (fun E H' Q' => t E σ H' Q') v H2 Q
/-- x(lambda: body, e) -/
theorem pe_lam2 {T : List (Addr × Str)} {TT : (XK → Hp → VK → Prop) → V → Hp → VK → Prop} {x a a2 : Str} {g c P : Addr} {k : Nat} {pg : Arguments} {bg : List Stmt} {sg : Scope} {dV kV doc pm cdv ct oc : Value} {an od : Option Addr} {osl : Array (Option Value)} {Ng : List Str}
    {params : Arguments} {body e2 : Expr} {scope : Scope} {t : XK → TE} {te : TE} {p lpos pos : Pos} (hg : Gl X x) (hm : X.mg x = some (.ref g)) (hk : PySem.W.keepIn X.K (.ref g) = true)
    (lk : X.K.lookup g = some ⟨oc, od, .func (PySem.W.fnOf x x pg bg sg dV kV doc pm an cdv ct), osl⟩) (hcg : PySem.W.codeIn X.K cdv x = true) (hb : L2.Binds X.K (PySem.W.fnOf x x pg bg sg dV kV doc pm an cdv ct) [a, a2] []) (Sg : FnScope Ng [a, a2] sg)
    (hG : Gives2 X Ng x sg g cdv bg (X.env.qual ++ "<lambda>") k TT) (TB : TabB X.base X.mg c P) (hcode : X.env.code = .ref c) (hmT : (P, X.env.qual ++ "<lambda>") ∈ T) (hu : ∀ p ∈ T, p.1 = P → p.2 = X.env.qual ++ "<lambda>") (hr : Room (k + 3) X.A)
    (L : LamS X.env.scope scope) (hdef : defaultsOf params X.env = ([], [])) (hbind : ∀ (q : Str) (cl : List (Str × Addr)) (pm cv ctv : Value), bindArgs (PySem.W.kla_fn "<lambda>" q params body scope cl pm cv ctv) ⟨[], []⟩ = pure [])
    (hbody : ∀ (A : Around) (outer : List Env) (s : Shared) (H : Hp) (E : XK) (f c' : Addr), Room k (A.deeper (lamEnv X scope s.heap.objs.size f c')) → PE (lamCx X A outer s H E scope f c') body (t E)) (he : PE X e2 te)
    (hs2 : starEach [e2] X.env = [(false, eval e2 X.env)] := by rfl) (hdb : (x == ("__debug__" : Str)) = false := by decide) :
    PE X (.Call (.Name x p) [.Lambda params body scope lpos, e2] [] pos) (tLam2 T (X.env.qual ++ "<lambda>") TT t te) := by
  refine ⟨fun pins s σ H Q I h => ?_⟩
  obtain ⟨hT, h⟩ := h
  refine wpAny_Call_Name_kw (ld_glob I hg hm ?_ hdb)
  refine PySem.W.callWith_K (h₀ := X.base) I.ok.mod.kin hk ?_ (by rfl) (by rw [hs2]; rfl)
  show wpAny _ _ (spliced ((false, eval (.Lambda params body scope lpos) X.env) :: backTo pos (starEach [e2] X.env))) _ _ s
  rw [hs2]
  refine Calls.spliced_cons (lam_make2 I TB hcode hmT hu hT hdef (L.has I.ok) fun f c' pm' ctv H1 s' I1 eN T1 hf hfn hfr hco => ?_)
  have nl : f ≠ X.env.locals := fun z => by
    obtain ⟨m, ⟨o, es, ep, e, hd, _⟩, _⟩ := I1.loc
    rw [← z, hf] at e
    cases e
    cases hd
  have nf : f ∉ X.fs := fun z => hfr (by
    rcases I1.ok.stk with e | ⟨e, e2⟩
    · rw [e]
      exact z
    · rw [e]
      unfold frs
      rw [List.filterMap_cons, e2]
      exact List.mem_cons_of_mem _ z)
  have I2 : Inv X ((f, PySem.W.kla_obj "<lambda>" (X.env.qual ++ "<lambda>") params body scope (cloFrom X.env.cells scope.names []) pm' c' ctv) :: pins) σ H1 s' := I1.pins_of fun q hq => by
    rcases List.mem_cons.mp hq with z | z
    · subst z
      exact ⟨hf, hfn, nl, nf, fun v z => by cases z⟩
    · exact I1.pin q (List.mem_append_right _ z)
  refine Calls.spliced_cons (thn (he.run _ s' σ H1 _ I2 (h H1 eN T1)) fun u2 s2 ⟨v2, H2, J2, r2, hc2, hq2⟩ => ?_)
  have pf := J2.pin _ (List.mem_append_right _ (List.mem_cons_self (l := pins)))
  have J1 : Inv X pins σ H2 s2 := J2.pins_of fun q hq => J2.pin q (List.mem_append_right _ (List.mem_cons_of_mem _ hq))
  refine Calls.spliced_nil ⟨J1.kIn, ?_⟩
  have act := act_of (t := t) J1 L pf.1 pf.2.1 hfr (hbind _ _ _ _ _) (fun A outer s H E hr2 => hbody A outer s H E f c' hr2)
  have rc : codeAny (model X.prog X.w) X.A (.call (.ref g) ⟨[.ref f, u2], []⟩) (CR C8.CX0 X.stack X.prog X.w H2 s2 Q C8.E0) s2 := by
    refine run_ofS (N := Ng) (ps := [a, a2]) (us := [.ref f, u2]) (vs := [.ref f, v2]) lk hcg Sg hr J1.env0 (hb s2 [.ref f, u2] J1.kIn rfl) (.cons rfl (.cons r2 .nil)) rfl fun hr' => ?_
    obtain ⟨t', ht', hq'⟩ := hG f c' s2 H2 Q v2 _ act hr' (hc2 c' hco) hq2
    exact ⟨t', ht'.nox, hq'⟩
  refine wpAny_call (codeAny_mono rc fun r s3 hq => ?_)
  match r, hq with
  | .error e, hq => exact (show False from hq).elim
  | .ok (.ret u), hq => exact J1.after hq
  | .ok .next, hq => exact False.elim hq
  | .ok .brk, hq => exact False.elim hq
  | .ok .cont, hq => exact False.elim hq
/-- x(e), e being such a lambda, x a def that calls it -/
theorem pe_hand {TT : (XK → Hp → VK → Prop) → Hp → VK → Prop} {x a q : Str} {g : Addr} {k : Nat} {pg : Arguments} {bg : List Stmt} {sg : Scope} {dV kV doc pm cdv ct oc : Value} {an od : Option Addr} {osl : Array (Option Value)} {Ng : List Str}
    {e : Expr} {ta : TA} {p pos : Pos} (hg : Gl X x) (hm : X.mg x = some (.ref g)) (hk : PySem.W.keepIn X.K (.ref g) = true)
    (lk : X.K.lookup g = some ⟨oc, od, .func (PySem.W.fnOf x x pg bg sg dV kV doc pm an cdv ct), osl⟩) (hcg : PySem.W.codeIn X.K cdv x = true) (hb : L2.Binds X.K (PySem.W.fnOf x x pg bg sg dV kV doc pm an cdv ct) [a] []) (Sg : FnScope Ng [a] sg)
    (hG : GivesTo X Ng x sg g cdv bg a q TT) (hr : Room (k + 1) X.A) (ha : PA X [e] ta)
    (hdb : (x == ("__debug__" : Str)) = false := by decide) (he : starEach [e] X.env = [(false, eval e X.env)] := by rfl) :
    PE X (.Call (.Name x p) [e] [] pos) (fun σ H Q => ta σ H fun vs H1 => ∃ (f c' : Addr) (tl : XK → Hp → VK → Prop), vs = [.ref f] ∧ H1 c' = some (CodeO c' q) ∧
      (∀ (s1 : Shared), Un X.fs X.ex X.H_0 H1 X.s_0.heap s1.heap → Room k (X.A.deeper (envOfC x sg s1.heap.objs.size g cdv)) → ∀ (W : WX) (pn : List (Addr × Obj)) (xe : Value → Shared → Prop) (E : XK) (p1 p2 : Pos), Takes ((cxOf C8.CX0 X.prog X.w X.K X.mg X.base Ng x sg g cdv X.A X.stack s1 H1 C8.E0).tr pn xe) W → (∀ cls d σ' H', E cls d H' → W cls d σ' H') →
        PE ((cxOf C8.CX0 X.prog X.w X.K X.mg X.base Ng x sg g cdv X.A X.stack s1 H1 C8.E0).tr pn xe) (.Call (.Name a p1) [] [] p2) (fun σZ HZ Q => σZ[0]? = some (some (.ref f)) ∧ HZ c' = some (CodeO c' q) ∧ tl E HZ Q)) ∧ TT tl H1 Q) := by
  refine ⟨fun pins s σ H Q I h => ?_⟩
  refine wpAny_Call_Name_kw (ld_glob I hg hm ?_ hdb)
  refine PySem.W.callWith_K (h₀ := X.base) I.ok.mod.kin hk (thn (ha.run pos pins s σ H _ I h) fun us s1 ⟨vs, H1, I1, r, f, c', tl, ev, hco, act, hq1⟩ => ⟨I1.kIn, ?_⟩) he (by rfl)
  subst ev
  obtain ⟨u, rfl, ru⟩ : ∃ u, us = [u] ∧ L2.RelV (.ref f) u := by
    cases r with
    | cons r1 rr => cases rr; exact ⟨_, rfl, r1⟩
  obtain rfl : u = Value.ref f := ru
  have rc : codeAny (model X.prog X.w) X.A (.call (.ref g) ⟨[.ref f], []⟩) (CR C8.CX0 X.stack X.prog X.w H1 s1 Q C8.E0) s1 := by
    refine run_ofS (N := Ng) (ps := [a]) (us := [.ref f]) (vs := [.ref f]) lk hcg Sg hr I1.env0 (hb s1 [.ref f] I1.kIn rfl) (.cons rfl .nil) rfl fun hr' => ?_
    obtain ⟨t', ht', hq'⟩ := hG f c' s1 H1 Q tl (fun W pn xe E p1 p2 tk hW => act s1 I1.base hr' W pn xe E p1 p2 tk hW) hco hq1
    exact ⟨t', ht'.nox, hq'⟩
  refine wpAny_call (codeAny_mono rc fun r s3 hq => ?_)
  match r, hq with
  | .error e, hq => exact (show False from hq).elim
  | .ok (.ret u), hq => exact I1.after hq
  | .ok .next, hq => exact False.elim hq
  | .ok .brk, hq => exact False.elim hq
  | .ok .cont, hq => exact False.elim hq
end
end Nd
set_option maxHeartbeats 4000000
/-! ### a dict of the module with keys and values that are numbers or texts -/
namespace Nd
open PySem PySem.Spec PyProof.Rows L2
abbrev Vo : Type := Int ⊕ Str
def voV : Vo → V
  | .inl i => .int i
  | .inr z => .str z
def keyM : Value → Option Key
  | .int i _ => some (.inl i)
  | .str x _ => some (.inr x)
  | _ => none
def valM : Value → Option Vo
  | .int i _ => some (.inl i)
  | .str x _ => some (.inr x)
  | _ => none
def entM (e : DictEntry) : Option (Key × Int × Vo) := match keyM e.key, valM e.val with
  | some k, some v => some (k, e.hash, v)
  | _, _ => none
def dicM (K : PySem.W.Frag) (a : Addr) : Option (List (Option (Key × Int × Vo))) := match K.lookup a with
  | some ⟨.type c, none, .dict es _, sl⟩ => (match decide (c = "dict") && (sl.isEmpty && !(a == sysModules)) with
    | true => some (es.toList.map entM)
    | false => none)
  | _ => none
def hashM (P : Params) : Key → Int
  | .inl i => hashInt i
  | .inr x => PyData.keyHash P x
def exM (P : Params) (l : List (Key × Vo)) : List (Option (Key × Int × Vo)) := l.map fun p => some (p.1, hashM P p.1, p.2)
structure MDict (K : PySem.W.Frag) (w : World) (d : Addr) (kvs : List (Key × V)) : Prop where
  low : (d == sysModules) = false
  z : kvs.length ≤ sizeLine
  at_ : ∃ es n, K.lookup d = some ⟨.type "dict", none, .dict es n, #[]⟩
  ok : ∀ (P : Program) (h : Heap), K.In h → ∃ vs, KV kvs vs ∧ h.DictOf (mixKind P w) d vs
theorem keyM_ok {v : Value} {k : Key} (h : keyM v = some k) : keyIs k v = true := by
  cases v <;> first
    | (cases h; done)
    | skip
  · rename_i i t
    obtain rfl : Sum.inl i = k := Option.some.inj h
    exact keyIs_int i t
  · rename_i x t
    obtain rfl : Sum.inr x = k := Option.some.inj h
    exact keyIs_str x t
theorem valM_ok {v : Value} {o : Vo} (h : valM v = some o) : RelV (voV o) v := by
  cases v <;> first
    | (cases h; done)
    | skip
  · rename_i i t
    obtain rfl : Sum.inl i = o := Option.some.inj h
    exact ⟨t, rfl⟩
  · rename_i x t
    obtain rfl : Sum.inr x = o := Option.some.inj h
    exact ⟨t, rfl⟩
theorem entM_ok {e : DictEntry} {k : Key} {n : Int} {o : Vo} (h : entM e = some (k, n, o)) : keyIs k e.key = true ∧ RelV (voV o) e.val ∧ e.hash = n := by
  unfold entM at h
  split at h
  · rename_i a b h1 h2
    have q := Option.some.inj h
    injection q with q1 q2
    injection q2 with q3 q4
    subst q1 q4
    exact ⟨keyM_ok h1, valM_ok h2, q3⟩
  · cases h
theorem ents_ok {P : Program} {w : World} : ∀ {es : List DictEntry} {l : List (Key × Vo)}, es.map entM = exM w.params l → (∀ e ∈ es, ∃ k, (mixKind P w).is k e.key = true ∧ e.hash = (mixKind P w).hash k) ∧
    KV (l.map fun p => (p.1, voV p.2)) ((l.map (·.1)).zip (es.map (·.val))) ∧ Pairs (mixKind P w) es ((l.map (·.1)).zip (es.map (·.val))) ∧ ((l.map (·.1)).zip (es.map (·.val))).map (·.1) = l.map (·.1)
  | [], [], _ => ⟨(fun e he => by cases he), .nil, .nil, rfl⟩
  | [], _ :: _, h => by cases h
  | _ :: _, [], h => by cases h
  | e :: es, p :: l, h => by
    have h : entM e :: es.map entM = some (p.1, hashM w.params p.1, p.2) :: exM w.params l := h
    injection h with h1 h2
    obtain ⟨i1, i2, i3, i4⟩ := ents_ok (P := P) h2
    obtain ⟨e1, e2, e3⟩ := entM_ok h1
    have eh : e.hash = (mixKind P w).hash p.1 := by
      rw [e3]
      cases p.1 <;> rfl
    refine ⟨fun x hx => ?_, .cons ⟨rfl, e2⟩ i2, .cons e1 rfl i3, congrArg (List.cons p.1) i4⟩
    rcases List.mem_cons.mp hx with z | z
    · subst z
      exact ⟨p.1, e1, eh⟩
    · exact i1 x z
theorem dicM_ok {K : PySem.W.Frag} {w : World} {d : Addr} {l : List (Key × Vo)} (h : dicM K d = some (exM w.params l)) (nd : (l.map (·.1)).Nodup) (z : l.length ≤ 1000) : MDict K w d (l.map fun p => (p.1, voV p.2)) := by
  unfold dicM at h
  split at h
  · rename_i c es n sl hl
    split at h
    · rename_i hb
      have hc := of_decide_eq_true (He.ba hb).1
      subst hc
      have hs : sl = #[] := by
        have := (He.ba (He.ba hb).2).1
        simpa using this
      subst hs
      have lo : (d == sysModules) = false := by
        have := (He.ba (He.ba hb).2).2
        simpa using this
      have q := Option.some.inj h
      refine ⟨lo, by rw [List.length_map]; exact Nat.le_trans z (by decide), ⟨es, n, hl⟩, fun P hp X => ?_⟩
      obtain ⟨i1, i2, i3, i4⟩ := ents_ok (P := P) q
      exact ⟨_, i2, _, es, n, X _ _ hl, ⟨rfl, rfl, rfl⟩, rfl, fun e he => i1 e (Array.mem_toList_iff.mpr he), i3, by rw [i4]; exact nd⟩
    · cases h
  · cases h
section
variable {X : Cx} {d : Addr} {kvs : List (Key × V)}
theorem op_in_m (D : MDict X.K X.w d kvs) : OpR X (compareOp .In) (fun x y H Q => ∃ k, x = kV k ∧ y = .ref d ∧ Q (.bl (valV kvs k).isSome) H) := by
  intro pins s σ H x y v u Q I rx ry h
  obtain ⟨k, rfl, rfl, q⟩ := h
  cases ry
  obtain ⟨vs, rel, dd⟩ := D.ok X.prog s.heap I.kIn
  refine wpAny_in_of (kV_is rx) D.low dd.mapOf ?_
  rw [← (rel.val k).isSome_eq]
  exact ⟨.bl (valV kvs k).isSome, H, I.tok _, rfl, q⟩
theorem op_notIn_m (D : MDict X.K X.w d kvs) : OpR X (compareOp .NotIn) (fun x y H Q => ∃ k, x = kV k ∧ y = .ref d ∧ Q (.bl (!(valV kvs k).isSome)) H) := by
  intro pins s σ H x y v u Q I rx ry h
  obtain ⟨k, rfl, rfl, q⟩ := h
  cases ry
  obtain ⟨vs, rel, dd⟩ := D.ok X.prog s.heap I.kIn
  refine wpAny_notIn_of (kV_is rx) D.low dd.mapOf ?_
  rw [← (rel.val k).isSome_eq]
  exact ⟨.bl (!(valV kvs k).isSome), H, I.tok _, rfl, q⟩
theorem ix_m (D : MDict X.K X.w d kvs) : IxR X (fun x y H Q => ∃ k v, x = .ref d ∧ y = kV k ∧ valV kvs k = some v ∧ Q v H) := by
  intro value slice pins s σ H x y v u Q I rx ry h hs
  obtain ⟨k, r, rfl, rfl, e, q⟩ := h
  obtain rfl : v = Value.ref d := rx
  obtain ⟨vs, rel, dd⟩ := D.ok X.prog s.heap I.kIn
  obtain ⟨w', hw, rw'⟩ := RelO.some_of (v := r) (o := valueAt vs k) (by rw [← e]; exact rel.val k)
  exact tail_any dd.typeIs slot_dict_getitem.lookup (wpAny_getItem_of (kV_is ry) dd.mapOf hw ⟨r, H, I.tok _, rw', q⟩) hs
def tMGet2 (d : Addr) (kvs : List (Key × V)) (td ty tx : TE) : TE := fun σ H Q => td σ H fun x H1 => x = .ref d ∧ ty σ H1 fun y H2 => tx σ H2 fun z H3 => ∃ k, y = kV k ∧ Q ((valV kvs k).getD z) H3
theorem pe_mget2 {o e f : Expr} {apos cpos : Pos} {td ty tx : TE} (D : MDict X.K X.w d kvs) (ho : PE X o td) (he : PE X e ty) (hf : PE X f tx) (m : M2 X o "get" apos e f cpos) : PE X (.Call (.Attribute o "get" apos) [e, f] [] cpos) (tMGet2 d kvs td ty tx) := by
  refine ⟨fun pins s σ H Q I h => ?_⟩
  refine wpAny_Call_method m.base m.few m.line PySem.F.plainAttrs_dict PySem.F.slot_dict_get PySem.F.type_dict_get (thn (ho.run pins s σ H _ I h) fun u s1 ⟨x, H1, I1, rx, ex, q1⟩ => ?_)
  subst ex
  obtain rfl : u = Value.ref d := rx
  obtain ⟨es, n, ha⟩ := D.at_
  obtain ⟨vs, rel, dd⟩ := D.ok X.prog s1.heap I1.kIn
  refine ⟨dd.typeIs, fun b q => ?_, ?_⟩
  · cases q
    exact ⟨_, I1.kIn _ _ ha, rfl⟩
  rw [m.trees]
  refine Calls.callWith_builtin rfl (Calls.evalArgs_plain (Calls.spliced_cons (thn (he.run pins s1 σ H1 _ I1 q1) fun iv s2 ⟨y, H2, I2, ry, q2⟩ =>
    Calls.spliced_cons (thn (hf.run pins s2 σ H2 _ I2 q2) fun fv s3 ⟨z, H3, I3, rz, k, ek, q3⟩ => Calls.spliced_nil ?_))))
  subst ek
  obtain ⟨vs, rel, dd⟩ := D.ok X.prog s3.heap I3.kIn
  exact call_meetsIn PySem.F.slot_dict_get dd.typeIs PySem.F.entry_dict_get (PySem.F.args_dict_get_3 _ _ _) (meets_dict_get_default (mixKind X.prog X.w) d (kV_is ry) D.low fv) ⟨_, dd.mapOf, _, H3, I3.tok _, (rel.val k).getD rz, q3⟩
theorem call_dictM (D : MDict X.K X.w d kvs) : CallR X (.type "dict") (fun xs H Q => xs = [.ref d] ∧ ∀ p, H p = none → Q (.ref p) (upd H p (.dK kvs))) := by
  intro pins s σ H xs us Q I r q
  obtain ⟨ex, q⟩ := q
  subst ex
  obtain ⟨u, eu, rx⟩ := vals1 r
  subst eu
  cases rx
  obtain ⟨vs, rel, dd⟩ := D.ok X.prog s.heap I.kIn
  refine kt_call_dict D.low dd (by rw [← rel.length]; exact D.z) fun h' d' hs => ?_
  have hm : (s.heap.objs.size == sysModules) = false := beq_eq_false_iff_ne.mpr (Nat.ne_of_gt I.big)
  have il := I.laid (t' := s.toks) (a := s.heap.objs.size) (o := .dK kvs) (h' := h') (fun b u e => (hs.2 b (Nat.ne_of_lt (Heap.lt_size e))).trans (Heap.get?_push_of_some _ e)) (Nat.le_refl _) ⟨D.z, hm, vs, rel, d'⟩
  exact ⟨.ref s.heap.objs.size, _, il, rfl, q _ (I.hok.fresh (Nat.le_refl _))⟩
end
end Nd
set_option maxHeartbeats 4000000
/-! ### sum of lists, any of a tuple of numbers, a text once or never -/
namespace Nd
open PySem PySem.Spec PyProof.Rows L2
abbrev lstO (xs : List Value) (m : Nat) : Obj := { cls := .type "list", dict := none, data := .seq xs.toArray m, slots := #[] }
section
variable {prog : Program} {w : World} {A : Around} {R : Result → Shared → Prop} {I : Addr} {fp wr : List Addr} {n : Nat} {P : Nat → Value → Prop} {St : Nat → Heap → Prop}
theorem sum_loopL (W : Walks prog w A.in1 I fp wr n P St) {S : Addr} (hSf : S ∉ fp) (hw0 : ∀ b ∈ wr, b < S) :
    ∀ (rest : List (Addr × List Value)) (i : Nat) (s : Shared) (T : Addr) (acc : List Value) (c m : Nat), n = i + rest.length → St i s.heap → s.heap.get? S = some (lstO [.ref T] c) → s.heap.get? T = some (lstO acc m) → T ∉ wr → T ≠ S →
    (∀ (k : Nat) (p : Addr × List Value), rest[k]? = some p → (∀ v, P (i + k) v → v = .ref p.1) ∧ (∃ m', s.heap.get? p.1 = some (lstO p.2 m')) ∧ p.1 ∉ wr ∧ p.1 ≠ S) → acc.length + ((rest.map (·.2)).flatten).length ≤ sizeLine →
    (∀ h' tk q m', ((rest = [] ∧ q = T) ∨ S < q) → h'.get? q = some (lstO (acc ++ (rest.map (·.2)).flatten) m') → (∀ b o, b ∉ wr → b ≠ S → s.heap.get? b = some o → h'.get? b = some o) → R (.ok (.ret (.ref q))) { s with heap := h', toks := tk }) →
    codeAny (model prog w) A (.builtin "sum.loop" ⟨[.ref I, .ref S, rawInt 2, rawInt 0], []⟩) R s := by
  have hSw : S ∉ wr := fun h => hSf (W.sub _ h)
  intro rest
  induction rest with
  | nil =>
    intro i s T acc c m hn hst hS hT _ _ _ _ hR
    obtain rfl : n = i := hn
    refine codeAny_builtin F.entry_sum_loop (by
      rw [Around.under_plainId F.plain_sum_loop _]
      show wpAny _ A.in1 (seqItems? (.ref S) >>= _) _ _ s
      refine wpAny_bind (wpAny_seqItems hS rfl ?_)
      show wpAny _ A.in1 (tryCatch (pyNext (.ref I)) _ >>= _) _ _ s
      refine wpAny_bind (wpAny_tryCatch (W.done s _ _ hst fun h' tk hk' => wpAny_pure (hR h' tk T m (.inl ⟨rfl, rfl⟩) ?_ fun b o hbw _ e => hk' b o hbw e)))
      rw [List.map_nil, List.flatten_nil, List.append_nil]
      exact hk' T _ (by assumption) hT)
  | cons p rest ih =>
    intro i s T acc c m hn hst hS hT hTw hTS hall hz hR
    have hlt : i < n := by rw [hn, List.length_cons]; omega
    obtain ⟨hv, ⟨mp, hp⟩, hpw, hpS⟩ := hall 0 p rfl
    have hz' : acc.length + p.2.length + ((rest.map (·.2)).flatten).length ≤ sizeLine := by
      have : (((p :: rest).map (·.2)).flatten).length = p.2.length + ((rest.map (·.2)).flatten).length := by simp
      omega
    refine codeAny_builtin F.entry_sum_loop (by
      rw [Around.under_plainId F.plain_sum_loop _]
      show wpAny _ A.in1 (seqItems? (.ref S) >>= _) _ _ s
      refine wpAny_bind (wpAny_seqItems hS rfl ?_)
      show wpAny _ A.in1 (tryCatch (pyNext (.ref I)) _ >>= _) _ _ s
      refine wpAny_bind (wpAny_tryCatch (W.item i s _ _ hlt hst fun v h1 tk hP st1 k1 => ?_))
      obtain rfl := hv v hP
      have S1 := k1 S _ hSw hS
      have T1 := k1 T _ hTw hT
      have p1 := k1 p.1 _ hpw hp
      show wpAny _ A.in1 ((holding [Value.ref p.1] (binaryOp .Add (.ref T) (.ref p.1))).attempt >>= _) _ _ _
      refine wpAny_bind (wpAny_attempt (wpAny_holding (PySem.P.add_list T1 p1 ?_ (by simp; omega))))
      show wpAny _ A.in1 (updateSeq S (fun _ => #[.ref h1.objs.size]) >>= _) _ _ _
      have S2 : (h1.push { cls := .type "list", data := .seq (acc.toArray ++ p.2.toArray) }).get? S = some (lstO [.ref T] c) := Heap.get?_push_of_some _ S1
      refine wpAny_bind (wpAny_updateSeq S2 rfl ?_)
      have S3 := Heap.get?_update_self (Obj.mapSeq fun _ => #[Value.ref h1.objs.size]) S2 rfl
      refine wpAny_bind (wpAny_letGo ?_)
      refine wpAny_bind (wpAny_updateSeq S3 rfl (wpAny_pure ⟨plainId_quiet F.plain_sum_loop _, ?_⟩))
      have S4 := Heap.get?_update_self (Obj.mapSeq fun _ => #[Value.ref h1.objs.size]) S3 rfl
      have lS : S < h1.objs.size := Heap.lt_size S1
      have kk : ∀ b o, b ≠ S → h1.get? b = some o → (((h1.push { cls := .type "list", data := .seq (acc.toArray ++ p.2.toArray) }).update S (Obj.mapSeq fun _ => #[Value.ref h1.objs.size])).update S (Obj.mapSeq fun _ => #[Value.ref h1.objs.size])).get? b = some o :=
        fun b o nb e => (Heap.get?_update_other _ _ nb.symm).trans ((Heap.get?_update_other _ _ nb.symm).trans (Heap.get?_push_of_some _ e))
      have T4 : (((h1.push { cls := .type "list", data := .seq (acc.toArray ++ p.2.toArray) }).update S (Obj.mapSeq fun _ => #[Value.ref h1.objs.size])).update S (Obj.mapSeq fun _ => #[Value.ref h1.objs.size])).get? h1.objs.size = some (lstO (acc ++ p.2) 0) :=
        (Heap.get?_update_other _ _ (Nat.ne_of_lt lS)).trans ((Heap.get?_update_other _ _ (Nat.ne_of_lt lS)).trans ((Heap.get?_push_size _ rfl).trans (by simp [lstO])))
      generalize (((h1.push { cls := .type "list", data := .seq (acc.toArray ++ p.2.toArray) }).update S (Obj.mapSeq fun _ => #[Value.ref h1.objs.size])).update S (Obj.mapSeq fun _ => #[Value.ref h1.objs.size])) = h4 at S4 kk T4 ⊢
      refine ih (i + 1) _ h1.objs.size (acc ++ p.2) _ 0 (by rw [hn, List.length_cons]; omega) (W.frame _ _ _ st1 fun b hb o e => kk b o (fun z => hSf (z ▸ hb)) e) S4 T4 (fun z => Nat.lt_asymm lS (hw0 _ z)) (Nat.ne_of_gt lS) (fun k q hq => ?_) (by rw [List.length_append]; exact hz') fun h' tk' q m' hqT hg hk => ?_
      · obtain ⟨a1, ⟨m1, a2⟩, a3, a4⟩ := hall (k + 1) q hq
        refine ⟨fun v hv2 => a1 v (by have e : i + (k + 1) = i + 1 + k := by omega
                                      rw [e]; exact hv2), ⟨m1, kk _ _ a4 (k1 _ _ a3 a2)⟩, a3, a4⟩
      · refine hR h' tk' q m' (.inr ?_) ?_ fun b o hbw hbS e => hk b o hbw hbS (kk b o hbS (k1 b o hbw e))
        · rcases hqT with ⟨_, z⟩ | z
          · rw [z]; exact lS
          · exact z
        · rw [hg]
          simp [lstO])
end
theorem args_sumL (a b : Value) : argsOk "sum" ⟨[a, b], []⟩ := by unfold argsOk; kernel_rfl
theorem not_list_str : isSubtype (.type "list") (.type "str") = pure false := by rw [isSubtype_type]; kernel_rfl
theorem not_list_bytes : isSubtype (.type "list") (.type "bytes") = pure false := by rw [isSubtype_type]; kernel_rfl
theorem not_list_ba : isSubtype (.type "list") (.type "bytearray") = pure false := by rw [isSubtype_type]; kernel_rfl
def rSumL (K : PySem.W.Frag) : List V → Hp → VK → Prop := fun vs H Q => ∃ (a b : Addr) (ys : List (Addr × List V)), vs = [V.ref a, V.ref b] ∧ SqL K H a (ys.map fun p => .ref p.1) ∧ H b = some (.lst []) ∧ (∀ p ∈ ys, H p.1 = some (.lst p.2)) ∧ ys ≠ [] ∧
  ((ys.map (·.2)).flatten).length ≤ sizeLine ∧ ∀ q, H q = none → Q (.ref q) (upd H q (.lst (ys.map (·.2)).flatten))
theorem laid_lists {X : Cx} {pins : List (Addr × Obj)} {σ : L2.St} {H : Hp} {s : Shared} (I : Inv X pins σ H s) : ∀ {ys : List (Addr × List V)}, (∀ p ∈ ys, H p.1 = some (.lst p.2)) → ∃ zs : List (Addr × List Value), zs.map (·.1) = ys.map (·.1) ∧
    Vals ((ys.map (·.2)).flatten) ((zs.map (·.2)).flatten) ∧ ∀ (k : Nat) (p : Addr × List Value), zs[k]? = some p → ∃ m, s.heap.get? p.1 = some (lstO p.2 m)
  | [], _ => ⟨[], rfl, .nil, fun k p h => by simp at h⟩
  | y :: ys, h => by
    obtain ⟨zs, e1, e2, e3⟩ := laid_lists I (ys := ys) fun p hp => h p (List.mem_cons_of_mem _ hp)
    obtain ⟨z, its, m, r, hl, e⟩ := I.lstM (h y (List.mem_cons_self ..))
    refine ⟨(y.1, its) :: zs, congrArg (List.cons y.1) e1, ?_, fun k p hk => ?_⟩
    · rw [List.map_cons, List.map_cons, List.flatten_cons, List.flatten_cons]
      exact r.append e2
    · cases k with
      | zero =>
        obtain rfl : (y.1, its) = p := by simpa using hk
        exact ⟨m, e⟩
      | succ k => exact e3 k p (by simpa using hk)
theorem cr_sumL {X : Cx} (hc : X.calm = true) : CallR X (.builtin "sum") (rSumL X.K) := by
  intro pins s σ H vs us Q I r h
  obtain ⟨a, b, ys, rfl, hs, hb, hy, hne, hz, q⟩ := h
  obtain ⟨its, rv, hl, _⟩ := I.list hs
  obtain ⟨zs, z1, z2, z3⟩ := laid_lists I hy
  obtain ⟨_, bits, mb, rb, _, eb⟩ := I.lstM hb
  cases rb
  obtain ⟨u1, us1, rfl, r1, r2⟩ : ∃ u1 us1, us = u1 :: us1 ∧ RelV (.ref a) u1 ∧ Vals [V.ref b] us1 := by
    cases r with
    | cons x y => exact ⟨_, _, rfl, x, y⟩
  obtain ⟨u2, rfl, r3⟩ := vals1 r2
  cases r1
  cases r3
  have hits : its = zs.map fun p => Value.ref p.1 := by
    have h1 : ∀ (l : List Addr) (us : List Value), Vals (l.map V.ref) us → us = l.map Value.ref := by
      intro l
      induction l with
      | nil => intro us h; cases h; rfl
      | cons x l ih =>
        intro us h
        cases h with
        | cons p t =>
          rw [ih _ t]
          exact congrArg (· :: _) p
    have h2 : (ys.map fun p => V.ref p.1) = (zs.map (·.1)).map V.ref := by rw [z1, List.map_map]; rfl
    rw [h2] at rv
    rw [h1 _ _ rv, List.map_map]
    rfl
  refine call_function_tree F.kind_sum F.plain_sum F.entry_sum (args_sumL _ _) ?_
  unfold Builtin.«sum»
  simp only [List.length_cons, List.length_nil]
  rw [if_neg (by decide)]
  refine wpAny_bind (wpAny_of_eq (show Builtin.Builtins.bindParams "sum" ["start"] 0 ⟨[.ref b], []⟩ = pure [some (.ref b)] from rfl) ?_)
  refine wpAny_bind (iter_any hl.isList fun s₂ e2 st hne2 => ?_)
  subst e2
  have tb : Shared.TypeIs { s with heap := s.heap.push { cls := .type "list_iterator", data := .fields #[.ref a, .int 0 0] } } (.ref b) "list" := ⟨_, Heap.get?_push_of_some _ eb, rfl⟩
  refine wpAny_bind (wpAny_pure ?_)
  simp only [List.forIn_cons, List.forIn_nil]
  refine wpAny_bind (wpAny_bind (wpAny_bind (wpAny_isInstance (T := "list") (b := false) tb not_list_str ?_)))
  simp only [Bool.false_eq_true, if_false]
  refine wpAny_pure (wpAny_bind (wpAny_bind (wpAny_isInstance (T := "list") (b := false) tb not_list_bytes ?_)))
  simp only [Bool.false_eq_true, if_false]
  refine wpAny_pure (wpAny_bind (wpAny_bind (wpAny_isInstance (T := "list") (b := false) tb not_list_ba ?_)))
  simp only [Bool.false_eq_true, if_false]
  refine wpAny_pure (wpAny_pure ?_)
  refine wpAny_bind (wpAny_newObj_type ?_)
  have W := Walks.list (prog := X.prog) (w := X.w) (A := X.A.in1) (I.ok.hd hc) s.heap.objs.size a hne2 its.toArray
  have psz : (s.heap.push { cls := .type "list_iterator", data := .fields #[.ref a, .int 0 0] }).objs.size = s.heap.objs.size + 1 := Heap.size_push _ _
  have ne0 : ∀ b o, s.heap.get? b = some o → b ≠ s.heap.objs.size := fun b o e => Nat.ne_of_lt (Heap.lt_size e)
  have ne1 : ∀ b o, s.heap.get? b = some o → b ≠ (s.heap.push { cls := .type "list_iterator", data := .fields #[.ref a, .int 0 0] }).objs.size := fun b o e => by
    rw [psz]
    exact Nat.ne_of_lt (Nat.lt_succ_of_lt (Heap.lt_size e))
  have keep2 : ∀ x o, s.heap.get? x = some o → ((s.heap.push { cls := .type "list_iterator", data := .fields #[.ref a, .int 0 0] }).push { cls := .type "list", data := .seq #[.ref b] }).get? x = some o := fun x o e => Heap.get?_push_of_some _ (Heap.get?_push_of_some _ e)
  refine wpAny_pure ⟨plainId_quiet F.plain_sum_loop _, ?_⟩
  have ll := hl.isList
  refine sum_loopL (S := (s.heap.push { cls := .type "list_iterator", data := .fields #[.ref a, .int 0 0] }).objs.size) W ?_ ?_ zs 0 { s with heap := (s.heap.push { cls := .type "list_iterator", data := .fields #[.ref a, .int 0 0] }).push { cls := .type "list", data := .seq #[.ref b] } } b [] 0 mb ?_ (W.frame _ _ _ st fun x _ o e => Heap.get?_push_of_some _ e) (Heap.get?_push_size _ rfl) (keep2 _ _ eb) ?_ ?_ (fun k p hk => ?_) ?_ fun h' tk q' m' hq hg hk => ?_
  · intro hm
    simp only [List.mem_cons, List.mem_nil_iff, or_false] at hm
    rcases hm with z | z
    · rw [psz] at z
      exact Nat.succ_ne_self _ z
    · obtain ⟨o, eo, _⟩ := hl.isList
      exact ne1 _ _ eo z.symm
  · intro x hx
    rw [psz, List.mem_singleton.mp hx]
    exact Nat.lt_succ_self _
  · rw [hits]
    simp
  · exact fun hm => ne0 _ _ eb (List.mem_singleton.mp hm)
  · exact ne1 _ _ eb
  · obtain ⟨m, em⟩ := z3 k p hk
    refine ⟨fun v hv => ?_, ⟨m, keep2 _ _ em⟩, fun hm => ne0 _ _ em (List.mem_singleton.mp hm), ne1 _ _ em⟩
    rw [hits, Nat.zero_add] at hv
    have hv : (zs.map fun p => Value.ref p.1)[k]? = some v := by simpa using hv
    rw [List.getElem?_map, hk] at hv
    exact (Option.some.inj hv).symm
  · rw [List.length_nil, Nat.zero_add, ← z2.length]
    exact hz
  · have kall : ∀ x o, s.heap.get? x = some o → h'.get? x = some o := fun x o e => hk x o (fun hm => ne0 _ _ e (List.mem_singleton.mp hm)) (ne1 _ _ e) (keep2 _ _ e)
    have hq : s.heap.objs.size ≤ q' := by
      rcases hq with ⟨z, _⟩ | z
      · exfalso
        have : ys = [] := by
          have e := congrArg List.length z1
          rw [z, List.length_map, List.length_map] at e
          exact List.eq_nil_of_length_eq_zero e.symm
        exact hne this
      · rw [psz] at z
        exact Nat.le_of_lt (Nat.lt_of_succ_lt z)
    have new : ObjOk X.prog X.w (upd H q' (.lst (ys.map (·.2)).flatten)) h' q' (.lst (ys.map (·.2)).flatten) := ⟨hz, _, m', z2, hg⟩
    exact ⟨.ref q', _, I.laid (t' := tk) kall hq new, rfl, q q' (I.hok.fresh hq)⟩
def rAnyT (K : PySem.W.Frag) : List V → Hp → VK → Prop := fun vs H Q => ∃ (a : Addr) (ns : List Int), vs = [V.ref a] ∧ SqT K H a (ns.map V.int) ∧ Q (.bl (ns.any fun n => n != 0)) H
theorem ints_at {its : List Value} : ∀ {ns : List Int}, Vals (ns.map V.int) its → ∀ {i : Nat} {v : Value}, its[i]? = some v → ∃ n t, ns[i]? = some n ∧ v = .int n t := fun {ns} r {i} {v} h => by
  cases hx : (ns.map V.int)[i]? with
  | none =>
    have := Vals.none_of r hx
    rw [this] at h
    cases h
  | some x =>
    obtain ⟨u, h1, h2⟩ := Vals.get r hx
    rw [List.getElem?_map] at hx
    obtain ⟨n, hn, rfl⟩ := Option.map_eq_some_iff.mp hx
    obtain ⟨t, rfl⟩ := h2
    rw [h1] at h
    exact ⟨n, t, hn, (Option.some.inj h).symm⟩
theorem any_ints : ∀ ns : List Int, (List.range ns.length).any (fun i => ns.getD i 0 != 0) = ns.any fun n => n != 0
  | [] => rfl
  | n :: ns => by
    rw [List.length_cons, List.range_succ_eq_map, List.any_cons, List.any_map, List.any_cons, ← any_ints ns]
    rfl
theorem cr_anyT {X : Cx} (hc : X.calm = true) : CallR X (.builtin "any") (rAnyT X.K) := by
  intro pins s σ H vs us Q I r h
  obtain ⟨a, ns, rfl, hs, q⟩ := h
  obtain ⟨its, rv, ht, _⟩ := I.tuple hs
  rw [Vals.ref1 r]
  have ht : s.heap.IsTuple a its.toArray := ht
  have hne : a ≠ s.heap.objs.size := by
    obtain ⟨o, eo, _⟩ := ht
    exact Nat.ne_of_lt (Heap.lt_size eo)
  have st : (s.heap.push { cls := .type "tuple_iterator", data := .fields #[.ref a, .int 0 0] }).IsTupleIter s.heap.objs.size a 0 ∧ (s.heap.push { cls := .type "tuple_iterator", data := .fields #[.ref a, .int 0 0] }).IsTuple a its.toArray :=
    ⟨⟨_, Heap.get?_push_size _ rfl, rfl, rfl⟩, let ⟨o, eo, q⟩ := ht; ⟨o, Heap.get?_push_of_some _ eo, q⟩⟩
  have tru : TruthOf X.prog X.w X.A.in1 (fun i v => its.toArray[i]? = some v) (fun i => ns.getD i 0 != 0) := fun i v s Q E hv hq => by
    obtain ⟨n, t, hn, rfl⟩ := ints_at rv (by simpa using hv)
    have e : ns.getD i 0 = n := by rw [List.getD_eq_getElem?_getD, hn] <;> rfl
    have hq : Q (ns.getD i 0 != 0) s := hq
    rw [e] at hq
    exact PySem.P.truthy_int hq
  refine call_any_walk (wpAny_pyIter_tuple ht ⟨_, _, _, _, _, _, _, rfl, Walks.tuple (A := X.A.in1) (I.ok.hd hc) _ a hne its.toArray, st, tru, fun h' tk hk => ?_⟩)
  have e : (List.range its.toArray.size).any (fun i => ns.getD i 0 != 0) = ns.any fun n => n != 0 := by
    rw [← any_ints]
    have := rv.length
    rw [List.length_map] at this
    rw [List.size_toArray, this]
  rw [e]
  refine ⟨.bl _, H, I.kept fun b o eo => hk b o (fun hm => ?_) (Heap.get?_push_of_some _ eo), rfl, q⟩
  exact Nat.ne_of_lt (Heap.lt_size eo) (List.mem_singleton.mp hm)
/-- a text, once or never -/
theorem op_smul {X : Cx} : OpR X (binaryOp .Mult) (fun x y H Q => ∃ (z : Str) (n : Int), x = .str z ∧ y = .int n ∧ ((n = 0 ∧ Q (.str "") H) ∨ (n = 1 ∧ Q (.str z) H))) := by
  intro pins s σ H x y v u Q I rx ry h
  obtain ⟨z, n, rfl, rfl, h⟩ := h
  obtain ⟨t, rfl⟩ := rx
  obtain ⟨t', rfl⟩ := ry
  rcases h with ⟨rfl, q⟩ | ⟨rfl, q⟩
  · exact PySem.P.mul_str_none (by decide) (by decide) ⟨.str "", H, I.tok _, ⟨_, rfl⟩, q⟩
  · refine PySem.P.mul_str (by decide) (fun _ h2 => by cases h2) (fun _ h2 => by cases h2) ?_
    exact ⟨.str z, H, I, ⟨_, rfl⟩, q⟩
end Nd
set_option maxHeartbeats 4000000
/-! ### lists or tuples: comprehensions over them, tuples of them, their types -/
namespace Nd
open PySem PySem.Spec PyProof.Rows L2
abbrev LcR (g : TG) (tt : TT) (te : TE) (vs : List Nat) (σ : L2.St) (H1 : Hp) (Qd : Addr → Hp → Prop) (J : It) : Prop := ∀ D, H1 D = none → ∃ W : Nat → Nat → Hp → Prop, (∃ m, W 0 m (upd H1 D (.lst []))) ∧ ∀ i m H, W i m H →
  (J.stop i H ∧ Qd D H) ∨ (J.go i H ∧ ∃ Nx : Hp → Prop, (∀ H', Nx H' → ∃ m', m' < m ∧ W (i + 1) m' H') ∧ ∀ x H', J.yld i H x H' → g x (wipe σ vs) H' fun σ2 H2 => wipe σ2 vs = wipe σ vs ∧ tt σ2 H2 fun b H3 =>
    if b = true then te σ2 H3 fun y H4 => ∃ acc, H4 D = some (.lst acc) ∧ acc.length < sizeLine ∧ Nx (upd H4 D (.lst (acc ++ [y]))) else Nx H3)
theorem lc_both {K : PySem.W.Frag} {a : Addr} {xs : List V} {g : TG} {tt : TT} {te : TE} {vs : List Nat} {σ : L2.St} {H1 : Hp} {Qd : Addr → Hp → Prop} (hq : SqB K H1 a xs) (Pv : Addr → Nat → Hp → Prop) (h0 : ∀ D, H1 D = none → Pv D 0 (upd H1 D (.lst [])))
    (hl : ∀ D i H, H1 D = none → i ≤ xs.length → Pv D i H → Same H1 H)
    (hs : ∀ D i x H, H1 D = none → xs[i]? = some x → Pv D i H → g x (wipe σ vs) H fun σ2 H2 => wipe σ2 vs = wipe σ vs ∧ tt σ2 H2 fun b H3 =>
      if b = true then te σ2 H3 fun y H4 => ∃ acc, H4 D = some (.lst acc) ∧ acc.length < sizeLine ∧ Pv D (i + 1) (upd H4 D (.lst (acc ++ [y]))) else Pv D (i + 1) H3) (hd : ∀ D H, H1 D = none → Pv D xs.length H → Qd D H) :
    (∃ xs, SqL K H1 a xs) ∧ LcR g tt te vs σ H1 Qd (Itl K a) ∨ (∃ xs, SqT K H1 a xs) ∧ LcR g tt te vs σ H1 Qd (Itt K a) := by
  rcases hq with h | h
  · exact .inl ⟨⟨_, h⟩, fun D nD => lc_list (K := K) (a := a) (xs := xs) (Pv D) (h0 D nD) (fun i H l p => (hl D i H nD l p).seq h) (fun i x H e p => hs D i x H nD e p) (fun H p => hd D H nD p)⟩
  · exact .inr ⟨⟨_, h⟩, fun D nD => lc_tup (K := K) (a := a) (xs := xs) (Pv D) (h0 D nD) (fun i H l p => seqT (hl D i H nD l p) h) (fun i x H e p => hs D i x H nD e p) (fun H p => hd D H nD p)⟩
/-- a tracked list or tuple -/
def LorT (H : Hp) (a : Addr) (xs : List V) : Prop := H a = some (.lst xs) ∨ H a = some (.tup xs)
theorem LorT.sq {K : PySem.W.Frag} {H : Hp} {a : Addr} {xs : List V} (h : LorT H a xs) : SqB K H a xs := h.imp SqL.of SqT.of
theorem LorT.same {H H' : Hp} {a : Addr} {xs : List V} (h : LorT H a xs) (s : Same H H') : LorT H' a xs := h.imp (s _ _) (s _ _)
theorem LorT.ne {H : Hp} {a b : Addr} {xs : List V} (h : LorT H a xs) (hb : H b = none) : a ≠ b := fun z => by
  subst z
  rcases h with h | h <;> (rw [hb] at h; cases h)
theorem LorT.ty {K : PySem.W.Frag} {H : Hp} {a : Addr} {xs : List V} (h : LorT H a xs) : ∃ t, TyX K H (.ref a) (.type t) ∧ PySem.W.kitAny K (.type t) [.type "list", .type "tuple"] = some true := by
  rcases h with h | h
  · exact ⟨"list", .base (.lst h), kitAny_cons (b := true) (kit_ty (by decide +kernel)) (fun z => by cases z) (fun _ => rfl)⟩
  · exact ⟨"tuple", .base (.tup h), kitAny_cons (b := false) (kit_ty (by decide +kernel)) (fun _ => kitAny_cons (b := true) (kit_ty (by decide +kernel)) (fun z => by cases z) (fun _ => rfl)) (fun z => by cases z)⟩
/-- tuple(a), a list or a tuple -/
theorem call_tupleB {X : Cx} : CallR X (.type "tuple") (fun xs H Q => ∃ (p : Addr) (ys : List V), xs = [.ref p] ∧ LorT H p ys ∧ ∀ t H', Same H H' → H' t = some (.tup ys) → (t = p ∨ H t = none) → Q (.ref t) H') := by
  intro pins s σ H xs us Q I r h
  obtain ⟨p, ys, e, hp, k⟩ := h
  refine call_tuple_of pins s σ H xs us Q I r ⟨p, ys, e, ?_⟩
  rcases hp with hp | hp
  · exact .inl ⟨SqL.of hp, fun l hl => k l _ (Same.new hl) upd_same (.inr hl)⟩
  · exact .inr ⟨SqT.of hp, k p H (Same.refl H) hp (.inl rfl)⟩
end Nd
set_option maxHeartbeats 4000000
set_option hygiene false in
local macro_rules | `(tactic| walk_at "new1") => `(tactic| (intro p1 n1; generalize e1 : upd _ p1 _ = H1; (have s1 := (congrArg (Same _) e1).mp (Same.new n1)); (have h1 := (congrArg (fun z : Hp => z p1 = some _) e1).mp upd_same); clear e1))
set_option hygiene false in
local macro_rules | `(tactic| walk_at "new2") => `(tactic| (intro p2 n2; generalize e2 : upd _ p2 _ = H2; (have s2 := (congrArg (Same _) e2).mp (Same.new n2)); (have h2 := (congrArg (fun z : Hp => z p2 = some _) e2).mp upd_same); clear e2))
set_option hygiene false in
local macro_rules | `(tactic| walk_at "new3") => `(tactic| (intro p3 n3; generalize e3 : upd _ p3 _ = H3; (have s3 := (congrArg (Same _) e3).mp (Same.new n3)); (have h3 := (congrArg (fun z : Hp => z p3 = some _) e3).mp upd_same); clear e3))
set_option hygiene false in
local macro_rules | `(tactic| walk_at "new4") => `(tactic| (intro p4 n4; generalize e4 : upd _ p4 _ = H4; (have s4 := (congrArg (Same _) e4).mp (Same.new n4)); (have h4 := (congrArg (fun z : Hp => z p4 = some _) e4).mp upd_same); clear e4))
set_option hygiene false in
local macro_rules | `(tactic| walk_at "new5") => `(tactic| (intro p5 n5; generalize e5 : upd _ p5 _ = H5; (have s5 := (congrArg (Same _) e5).mp (Same.new n5)); (have h5 := (congrArg (fun z : Hp => z p5 = some _) e5).mp upd_same); clear e5))
set_option hygiene false in
local macro_rules | `(tactic| walk_at "new6") => `(tactic| (intro p6 n6; generalize e6 : upd _ p6 _ = H6; (have s6 := (congrArg (Same _) e6).mp (Same.new n6)); (have h6 := (congrArg (fun z : Hp => z p6 = some _) e6).mp upd_same); clear e6))
set_option hygiene false in
local macro_rules | `(tactic| walk_at "new7") => `(tactic| (intro p7 n7; generalize e7 : upd _ p7 _ = H7; (have s7 := (congrArg (Same _) e7).mp (Same.new n7)); (have h7 := (congrArg (fun z : Hp => z p7 = some _) e7).mp upd_same); clear e7))
set_option hygiene false in
local macro_rules | `(tactic| walk_at "new8") => `(tactic| (intro p8 n8; generalize e8 : upd _ p8 _ = H8; (have s8 := (congrArg (Same _) e8).mp (Same.new n8)); (have h8 := (congrArg (fun z : Hp => z p8 = some _) e8).mp upd_same); clear e8))
set_option hygiene false in
local macro_rules | `(tactic| walk_at "new9") => `(tactic| (intro p9 n9; generalize e9 : upd _ p9 _ = H9; (have s9 := (congrArg (Same _) e9).mp (Same.new n9)); (have h9 := (congrArg (fun z : Hp => z p9 = some _) e9).mp upd_same); clear e9))
namespace K57
open PySem PySem.Spec PyProof.Rows L2 Nd
def top (i : Nat) : Stmt := PySem.Challenge.pw_codewalk_k57_instructions_told_as_dis_te.main.body.getD i (.Pass ⟨0, 0, 0, 0⟩)
/-! numbers in pieces of six bits, the lowest first -/
def dig (n : Nat) : List Int := if n < 64 then [(n : Int)] else ((n % 64 : Nat) : Int) :: dig (n / 64)
termination_by n
decreasing_by omega
theorem dig_lt {n : Nat} (h : n < 64) : dig n = [(n : Int)] := by rw [dig, if_pos h]
theorem dig_ge {n : Nat} (h : ¬ n < 64) : dig n = ((n % 64 : Nat) : Int) :: dig (n / 64) := by rw [dig, if_neg h]
theorem dig_len : ∀ (k n : Nat), n < 64 ^ k → (dig n).length ≤ k + 1
  | 0, n, h => by
    have : n < 64 := by simp at h; omega
    rw [dig_lt this]
    simp
  | k + 1, n, h => by
    by_cases c : n < 64
    · rw [dig_lt c]
      simp
    · rw [dig_ge c, List.length_cons]
      have := dig_len k (n / 64) (by rw [Nat.pow_succ] at h; omega)
      omega
section
variable {P : Program} {w : World} {K : PySem.W.Frag} {mg : Str → Option Value} {base : Heap}
theorem shr6 (m : Nat) : (m : Int) / 2 ^ (6 : Int).toNat = ((m / 64 : Nat) : Int) := by
  show (m : Int) / 64 = _
  omega
theorem and63 (m : Nat) : Builtin.bitAnd (m : Int) 63 = ((m % 64 : Nat) : Int) := by
  rw [PyProof.Rows.bitAnd_m6]
  omega
end
abbrev s_law_source_of : Stmt := top 50
abbrev s_law_next : Stmt := top 51
abbrev s_law_one : Stmt := top 52
abbrev s_law_pieces : Stmt := top 56
abbrev s_law_marked : Stmt := top 57
/-- what the globals are -/
structure Gl0 (mg : Str → Option Value) : Prop where
  n_int : mg "int" = none
  n_len : mg "len" = none
  n_range : mg "range" = none
/-! the pieces marked: 64 more, but the last -/
def mk : List Int → List Int
  | [] => []
  | [x] => [x]
  | x :: y :: r => (x + 64) :: mk (y :: r)
theorem mk_snoc : ∀ (l : List Int) (x : Int), mk (l ++ [x]) = l.map (· + 64) ++ [x]
  | [], x => rfl
  | [a], x => rfl
  | a :: b :: r, x => by
    show (a + 64) :: mk ((b :: r) ++ [x]) = _
    rw [mk_snoc (b :: r) x]
    rfl
theorem mk_len : ∀ l : List Int, (mk l).length = l.length
  | [] => rfl
  | [_] => rfl
  | _ :: b :: r => by
    show (mk (b :: r)).length + 1 = (b :: r).length + 1
    rw [mk_len (b :: r)]
theorem dig_ne (n : Nat) : dig n ≠ [] := by
  by_cases c : n < 64
  · rw [dig_lt c]
    simp
  · rw [dig_ge c]
    simp
section
variable {P : Program} {w : World} {K : PySem.W.Frag} {mg : Str → Option Value} {base : Heap}
/-! ### marked -/
def spMarked (K : PySem.W.Frag) : Sp := fun vs H Q _ => ∃ (a : Addr) (xs : List Int), vs = [.ref a] ∧ SqL K H a (xs.map V.int) ∧ xs ≠ [] ∧ xs.length ≤ 2000 ∧ ∀ p H', H p = none → Same H H' → H' p = some (.lst ((mk xs).map V.int)) → Q (.ref p) H'
theorem cut_init (xs : List V) (y : V) : cutV (xs ++ [y]) none (some (-1)) = xs := by
  unfold cutV
  have e : HT.sIx (xs ++ [y]).length (xs ++ [y]).length (some (-1)) = xs.length := by
    show (if (-1 : Int) < 0 then ((-1 : Int) + ((xs ++ [y]).length : Int)).toNat else min (-1 : Int).toNat (xs ++ [y]).length) = _
    rw [if_pos (by decide), List.length_append, List.length_singleton]
    omega
  rw [e]
  show List.take (xs.length - 0) (List.drop 0 (xs ++ [y])) = xs
  simp
theorem cut_last (xs : List V) (y : V) : cutV (xs ++ [y]) (some (-1)) none = [y] := by
  unfold cutV
  have e : HT.sIx (xs ++ [y]).length 0 (some (-1)) = xs.length := by
    show (if (-1 : Int) < 0 then ((-1 : Int) + ((xs ++ [y]).length : Int)).toNat else min (-1 : Int).toNat (xs ++ [y]).length) = _
    rw [if_pos (by decide), List.length_append, List.length_singleton]
    omega
  rw [e]
  show List.take ((xs ++ [y]).length - xs.length) (List.drop xs.length (xs ++ [y])) = [y]
  simp
abbrev N_law_marked : List Str := ["some", "piece"]
theorem sc_law_marked : FnScope N_law_marked ["some"] (defScope s_law_marked) := ⟨rfl, rfl, rfl, by decide +kernel, rfl, by decide +kernel, by decide +kernel⟩
theorem ok_law_marked {f : Addr} {fd : FuncData} (F : DefX K mg "_law_marked" s_law_marked ["some"] f fd) : CalX P w K mg base 1 "_law_marked" (spMarked K) := by
  refine calx F sc_law_marked (fun vs H Q E h => ?_) (fun cdv A outer s H vs Q E hr h => ?_)
  · obtain ⟨a, xs, rfl, _⟩ := h
    rfl
  · obtain ⟨a, xs, rfl, ha, hne, hl, k⟩ := h
    refine ⟨_, (pss_one (ps_ret (pe_op op_cat (pe_lc (own := [("piece", 1)]) (g := gName 1) (tt := tYes) rfl sc_law_marked.nd (pi_list (pe_slice sl_list (pv 0) po_none (po_some (pe_un un_neg pe_int)))) (blkOk_by (own := [("piece", 1)]) (N := N_law_marked) (sc := defScope s_law_marked) (by decide +kernel)) (fun _ _ _ _ _ => (pg_name (i := 1) sc_law_marked.nd rfl (Or.inl rfl))) (fun _ _ _ _ _ => pts_nil) (fun _ _ _ _ _ => (pe_op op_add (pv 1) pe_int))) (pe_slice sl_list (pv 0) (po_some (pe_un un_neg pe_int)) po_none)))), ?_⟩
    obtain ⟨ys, y, rfl⟩ : ∃ ys y, xs = ys ++ [y] := ⟨xs.dropLast, xs.getLast hne, (List.dropLast_concat_getLast hne).symm⟩
    have em : (ys ++ [y]).map V.int = ys.map V.int ++ [V.int y] := by simp
    rw [em] at ha
    have hl' : ys.length ≤ 2000 := by
      rw [List.length_append] at hl
      omega
    refine ⟨_, rfl, _, rfl, _, rfl, _, _, rfl, ha, ?_⟩
    walk_at "new1"
    try dsimp only at h1
    rw [cut_init] at h1
    refine ⟨p1, rfl, ⟨_, SqL.of h1⟩, fun D nD => lc_list (K := K) (a := p1) (xs := ys.map V.int) (fun i H' => Same H1 H' ∧ H' D = some (.lst (((ys.take i).map (· + 64)).map V.int))) ⟨Same.new nD, by rw [upd_same]; rfl⟩
      (fun i H' _ p => p.1.seq (SqL.of h1)) ?_ ?_⟩
    · rintro i x H' hi ⟨s2, hD⟩
      obtain ⟨z, hz, rfl⟩ : ∃ z, ys[i]? = some z ∧ x = V.int z := by
        rw [List.getElem?_map] at hi
        cases e : ys[i]? with
        | none => rw [e] at hi; cases hi
        | some z => rw [e] at hi; exact ⟨z, rfl, (Option.some.inj hi).symm⟩
      refine ⟨rfl, ?_⟩
      refine ⟨_, rfl, _, _, rfl, rfl, _, hD, ?_, Same.mut s2 nD, ?_⟩
      · rw [List.length_map, List.length_map, List.length_take]
        exact Nat.lt_of_le_of_lt (Nat.min_le_right _ _) (Nat.lt_of_le_of_lt hl' (by decide))
      · rw [upd_same, List.take_add_one, hz]
        simp
    · rintro H' ⟨s2, hD⟩
      rw [List.length_map, List.take_length] at hD
      refine ⟨_, rfl, _, rfl, _, rfl, _, _, rfl, s2.seq (s1.seq ha), ?_⟩
      walk_at "new3"
      try dsimp only at h3
      rw [cut_last] at h3
      refine ⟨D, p3, _, _, rfl, rfl, s3 _ _ hD, h3, ?_, ?_⟩
      · rw [List.length_map, List.length_map]
        exact Nat.le_trans (Nat.add_le_add_right hl' 1) (by decide)
      · walk_at "new4"
        refine k p4 H4 ?_ (((s1.trans s2).trans s3).trans s4) ?_
        · exact s1.free (s2.free (s3.free n4))
        · rw [h4, mk_snoc, List.map_append]
          rfl
end
section
variable {P : Program} {w : World} {K : PySem.W.Frag} {mg : Str → Option Value} {base : Heap}
/-! ### _law_pieces -/
abbrev N_law_pieces : List Str := ["number", "found", "k"]
theorem sc_law_pieces : FnScope N_law_pieces ["number"] (defScope s_law_pieces) := ⟨rfl, rfl, rfl, by decide +kernel, rfl, by decide +kernel, by decide +kernel⟩
def spLPieces : Sp := fun vs H Q _ => ∃ n : Nat, vs = [.int (n : Int)] ∧ n < 64 ^ 60 ∧ ∀ p H', H p = none → Same H H' → H' p = some (.lst ((dig n).map V.int)) → Q (.ref p) H'
theorem ok_law_pieces {f : Addr} {fd : FuncData} (T : Gl0 mg) (F : DefX K mg "_law_pieces" s_law_pieces ["number"] f fd) : CalX P w K mg base 1 "_law_pieces" spLPieces := by
  refine calx F sc_law_pieces (fun vs H Q E h => ?_) (fun cdv A outer s H vs Q E hr h => ?_)
  · obtain ⟨n, rfl, _⟩ := h
    rfl
  · obtain ⟨n, rfl, hn, k⟩ := h
    refine ⟨_, (pss_cons (ps_set (i := 1) sc_law_pieces.nd rfl (.inl rfl) (pe_lst (pa_cons (pe_op op_mod (pe_callTy call_int1 (by rfl) T.n_int Boot.«int» (pa_cons (pv 0) pa_nil)) pe_int) pa_nil)))
      (pss_cons (ps_for PassesOwn.never rfl (pi_range1 (by rfl) T.n_range (pa_cons pe_int pa_nil)) (pg_name (i := 2) sc_law_pieces.nd rfl (.inl rfl))
        (pss_cons (ps_set (i := 0) sc_law_pieces.nd rfl (.inl rfl) (pe_op op_fdiv (pv 0) pe_int))
      (pss_one (ps_if (pt_cmpR op_gt (pv 0) pe_int (nomark _))
        (pss_one (ps_expr (pe_bm PySem.F.plainAttrs_list PySem.F.slot_list_append PySem.F.type_list_append mt_append (pv 1) (pa_cons (pe_op op_mod (pe_callTy call_int1 (by rfl) T.n_int Boot.«int» (pa_cons (pv 0) pa_nil)) pe_int) pa_nil))))
        pss_nil))))
      (pss_one (ps_ret (pv 1))))), ?_⟩
    refine ⟨_, rfl, .inl ⟨_, rfl, _, _, rfl, rfl, (by show (0 : Int) < 64; decide), (by show 1 ≤ sizeLine; decide), ?_⟩⟩
    walk_at "new1"
    refine ⟨60, rfl, by decide, by decide, for_range (lo := 0) (n := 60) (fun i σ H' => ∃ (m : Nat) (acc : List Int) (v : Option V), σ = [some (.int (m : Int)), some (.ref p1), v] ∧ Same H H' ∧ H' p1 = some (.lst (acc.map V.int)) ∧ m < 64 ^ (60 - i) ∧ acc.length ≤ i + 1 ∧
        acc ++ (if m / 64 = 0 then [] else dig (m / 64)) = dig n) ⟨n, [((n % 64 : Nat) : Int)], none, rfl, s1, ?_, hn, by simp, ?_⟩ ?_ ?_⟩
    · rw [h1]
      rfl
    · by_cases c : n < 64
      · rw [if_pos (by omega), dig_lt c]
        have : n % 64 = n := by omega
        rw [this]
        rfl
      · rw [if_neg (by omega), dig_ge c]
        rfl
    · rintro i σ H' hi ⟨m, acc, v, rfl, s2, h2, hm, hl, e⟩
      refine ⟨_, rfl, _, _, rfl, rfl, ⟨by show (0 : Int) < 64; decide, by decide⟩, ?_⟩
      have ediv : ((m : Int) / 64) = ((m / 64 : Nat) : Int) := by omega
      refine ⟨_, rfl, _, _, rfl, rfl, _, rfl, ?_⟩
      have hm2 : m / 64 < 64 ^ (60 - (i + 1)) := by
        have e64 : 64 ^ (60 - i) = 64 ^ (60 - (i + 1)) * 64 := by
          rw [← Nat.pow_succ]
          congr 1
          omega
        rw [e64] at hm
        exact Nat.div_lt_of_lt_mul (by omega)
      refine ite2 (fun c => ?_) (fun c => ?_)
      · have c' : m / 64 ≠ 0 := by
          have := of_decide_eq_true c
          have : (0 : Int) < (m : Int) / 64 := this
          omega
        refine ⟨_, rfl, .inl ⟨rfl, _, SqL.of h2⟩, _, rfl, .inl ⟨_, rfl, _, _, rfl, rfl, (by show (0 : Int) < 64; decide), p1, _, _, rfl, rfl, h2, ?_, ?_⟩⟩
        · rw [List.length_map]
          exact Nat.lt_of_le_of_lt hl (Nat.lt_of_lt_of_le (by omega : i + 1 < 100) (by decide))
        · refine ⟨m / 64, acc ++ [((m / 64 % 64 : Nat) : Int)], some (.int (0 + (i : Int))), ?_, Same.mut s2 n1, ?_, hm2, ?_, ?_⟩
          · show [some (V.int ((m : Int) / 64)), some (.ref p1), some (V.int (0 + (i : Int)))] = _
            rw [ediv]
          · rw [upd_same, List.map_append]
            show some (HO.lst (acc.map V.int ++ [V.int (((m : Int) / 64) % 64)])) = some (HO.lst (acc.map V.int ++ [V.int ((m / 64 % 64 : Nat) : Int)]))
            rw [ediv]
            rfl
          · rw [List.length_append, List.length_singleton]
            omega
          · rw [← e, if_neg c']
            by_cases c2 : m / 64 < 64
            · rw [if_pos (by omega), dig_lt c2]
              have : m / 64 % 64 = m / 64 := by omega
              rw [this]
              simp
            · rw [if_neg (by omega), dig_ge c2]
              simp
      · have c' : m / 64 = 0 := by
          have z : ¬ ((0 : Int) < (m : Int) / 64) := fun z => c (decide_eq_true z)
          omega
        refine ⟨m / 64, acc, some (.int (0 + (i : Int))), ?_, s2, h2, hm2, by omega, ?_⟩
        · show [some (V.int ((m : Int) / 64)), some (.ref p1), some (V.int (0 + (i : Int)))] = _
          rw [ediv]
        · rw [← e, if_pos c', if_pos (by omega)]
    · rintro σ H' ⟨m, acc, v, rfl, s2, h2, hm, hl, e⟩
      have m0 : m = 0 := by
        have z : m < 64 ^ 0 := hm
        simpa using z
      rw [m0] at e
      rw [if_pos (by decide), List.append_nil] at e
      rw [e] at h2
      exact ⟨_, rfl, k p1 H' n1 s2 h2⟩
/-! ### the source of choices: three numbers -/
def Src (H : Hp) (a : Addr) : Prop := ∃ x y z : Int, H a = some (.lst [.int x, .int y, .int z]) ∧ 0 ≤ x ∧ 0 ≤ y ∧ 0 ≤ z
def spSource : Sp := fun vs H Q _ => ∃ c : Int, vs = [.int c] ∧ ∀ p H', H p = none → Same H H' → Src H' p → Q (.ref p) H'
abbrev N_law_source_of : List Str := ["cell"]
theorem sc_law_source_of : FnScope N_law_source_of ["cell"] (defScope s_law_source_of) := ⟨rfl, rfl, rfl, by decide +kernel, rfl, by decide +kernel, by decide +kernel⟩
theorem ok_law_source_of {f : Addr} {fd : FuncData} (T : Gl0 mg) (F : DefX K mg "_law_source_of" s_law_source_of ["cell"] f fd) : CalX P w K mg base 1 "_law_source_of" spSource := by
  refine calx F sc_law_source_of (fun vs H Q E h => ?_) (fun cdv A outer s H vs Q E hr h => ?_)
  · obtain ⟨n, rfl, _⟩ := h
    rfl
  · obtain ⟨n, rfl, k⟩ := h
    refine ⟨_, (pss_cons (ps_set (i := 0) sc_law_source_of.nd rfl (.inl rfl) (pe_ifExp (pt_cmpR op_ge (pv 0) pe_int (nomark _)) (pv 0) (pe_op op_sub (pe_op op_sub pe_int (pe_op op_mul pe_int (pv 0))) pe_int)))
      (pss_one (ps_ret (pe_lst (pa_cons (pe_op op_mul (pv 0) (pe_callTy call_int1 (by rfl) T.n_int Boot.«int» (pa_cons (pe_cmpR op_ge (pv 0) (pe_op op_pow pe_int pe_int) (nomark _)) pa_nil))) (pa_cons (pe_op op_mod (pe_callTy call_int1 (by rfl) T.n_int Boot.«int» (pa_cons (pv 0) pa_nil)) pe_int) (pa_cons pe_int pa_nil))))))), ?_⟩
    refine ⟨_, rfl, _, _, rfl, rfl, _, rfl, ?_⟩
    refine ite2 (fun c => ?_) (fun c => ?_)
    · have hm : (0 : Int) ≤ n := of_decide_eq_true c
      refine ⟨_, rfl, ?_⟩
      refine ⟨_, rfl, _, rfl, _, _, rfl, rfl, ⟨by decide, by decide, by decide⟩, _, _, rfl, rfl, .inr ⟨_, rfl, _, _, rfl, rfl, .inr ?_, _, rfl, .inl ⟨_, rfl, _, _, rfl, rfl, (by show (0 : Int) < 2147483647; decide), (by show 3 ≤ sizeLine; decide), ?_⟩⟩⟩
      · split <;> decide
      · walk_at "new1"
        exact k p1 H1 n1 s1 ⟨_, _, _, h1, Int.mul_nonneg hm (by split <;> decide), Int.emod_nonneg _ (by decide), by decide⟩
    · have hm : (0 : Int) ≤ 0 - 3 * n - 1 := by
        have c' : ¬ ((0 : Int) ≤ n) := fun z => c (decide_eq_true z)
        omega
      refine ⟨_, rfl, _, _, rfl, rfl, .inl ⟨by decide, by decide⟩, _, _, rfl, rfl, _, _, rfl, rfl, ?_⟩
      refine ⟨_, rfl, _, rfl, _, _, rfl, rfl, ⟨by decide, by decide, by decide⟩, _, _, rfl, rfl, .inr ⟨_, rfl, _, _, rfl, rfl, .inr ?_, _, rfl, .inl ⟨_, rfl, _, _, rfl, rfl, (by show (0 : Int) < 2147483647; decide), (by show 3 ≤ sizeLine; decide), ?_⟩⟩⟩
      · split <;> decide
      · walk_at "new1"
        exact k p1 H1 n1 s1 ⟨_, _, _, h1, Int.mul_nonneg hm (by split <;> decide), Int.emod_nonneg _ (by decide), by decide⟩
end
section
variable {P : Program} {w : World} {K : PySem.W.Frag} {mg : Str → Option Value} {base : Heap}
/-! ### _law_next: some number below many -/
def spNext : Sp := fun vs H Q _ => ∃ (a : Addr) (m : Int), vs = [.ref a, .int m] ∧ Src H a ∧ 0 < m ∧ m.natAbs < 2 ^ 200 ∧ ∀ v H', 0 ≤ v → v < m → But a H H' → Src H' a → Q (.int v) H'
abbrev N_law_next : List Str := ["source", "many", "found", "prime", "number"]
theorem sc_law_next : FnScope N_law_next ["source", "many"] (defScope s_law_next) := ⟨rfl, rfl, rfl, by decide +kernel, rfl, by decide +kernel, by decide +kernel⟩
theorem md (a : Int) : -(2 ^ 64) < a % 2147483647 ∧ a % 2147483647 < 2 ^ 64 := by
  have h1 := Int.emod_nonneg a (by decide : (2147483647 : Int) ≠ 0)
  have h2 := Int.emod_lt_of_pos a (by decide : (0 : Int) < 2147483647)
  omega
theorem at0 (x y z : V) : atI [x, y, z] 0 = some x := rfl
theorem at1 (x y z : V) : atI [x, y, z] 1 = some y := rfl
theorem at2 (x y z : V) : atI [x, y, z] 2 = some z := rfl
theorem ok_law_next {f : Addr} {fd : FuncData} (T : Gl0 mg) (F : DefX K mg "_law_next" s_law_next ["source", "many"] f fd) : CalX P w K mg base 1 "_law_next" spNext := by
  refine calx F sc_law_next (fun vs H Q E h => ?_) (fun cdv A outer s H vs Q E hr h => ?_)
  · obtain ⟨a, m, rfl, _⟩ := h
    rfl
  · obtain ⟨a, m, rfl, ⟨x, y, z, ha, hx, hy, hz⟩, hm, hm2, k⟩ := h
    refine ⟨_, (pss_cons (ps_if (pt_cmpR op_gt (pe_ix ix_list (pv 0) pe_int (fun _ _ => rfl)) pe_int (nomark _))
        (pss_cons (ps_set (i := 2) sc_law_next.nd rfl (.inl rfl) (pe_op op_mod (pe_callTy call_int1 (by rfl) T.n_int Boot.«int» (pa_cons (pe_ix ix_list (pv 0) pe_int (fun _ _ => rfl)) pa_nil)) (pv 1)))
      (pss_cons (ps_asg (pe_op op_fdivW (pe_ix ix_list (pv 0) pe_int (fun _ _ => rfl)) (pv 1)) (pg_sub (pv 0) pe_int set_list))
      (pss_one (ps_ret (pv 2)))))
        pss_nil)
      (pss_cons (ps_asg (pe_op op_add (pe_ix ix_list (pv 0) pe_int (fun _ _ => rfl)) pe_int) (pg_sub (pv 0) pe_int set_list))
      (pss_cons (ps_set (i := 3) sc_law_next.nd rfl (.inl rfl) pe_int)
      (pss_cons (ps_set (i := 4) sc_law_next.nd rfl (.inl rfl) (pe_op op_mod (pe_callTy call_int1 (by rfl) T.n_int Boot.«int» (pa_cons (pe_op op_add (pe_op op_add (pe_ix ix_list (pv 0) pe_int (fun _ _ => rfl)) (pe_op op_mul pe_int (pe_ix ix_list (pv 0) pe_int (fun _ _ => rfl)))) pe_int) pa_nil)) (pv 3)))
      (pss_cons (ps_set (i := 4) sc_law_next.nd rfl (.inl rfl) (pe_op op_mod (pe_callTy call_int1 (by rfl) T.n_int Boot.«int» (pa_cons (pe_op op_mul (pv 4) pe_int) pa_nil)) (pv 3)))
      (pss_cons (ps_set (i := 4) sc_law_next.nd rfl (.inl rfl) (pe_op op_mod (pe_callTy call_int1 (by rfl) T.n_int Boot.«int» (pa_cons (pe_op op_mul (pv 4) (pe_op op_add (pe_op op_fdiv (pv 4) pe_int) pe_int)) pa_nil)) (pv 3)))
      (pss_cons (ps_set (i := 4) sc_law_next.nd rfl (.inl rfl) (pe_op op_mod (pe_callTy call_int1 (by rfl) T.n_int Boot.«int» (pa_cons (pe_op op_mul (pv 4) (pe_op op_add (pe_op op_fdiv (pv 4) pe_int) pe_int)) pa_nil)) pe_int))
      (pss_one (ps_ret (pe_op op_mod (pe_callTy call_int1 (by rfl) T.n_int Boot.«int» (pa_cons (pe_op op_fdiv (pv 4) pe_int) pa_nil)) (pv 1))))))))))), ?_⟩
    refine ⟨_, rfl, a, _, _, _, rfl, rfl, SqL.of ha, at0 _ _ _, _, _, rfl, rfl, _, rfl, ?_⟩
    refine ite2 (fun c => ?_) (fun c => ?_)
    · refine ⟨_, rfl, a, _, _, _, rfl, rfl, SqL.of ha, at0 _ _ _, .inl ⟨_, rfl, _, rfl, _, _, rfl, rfl, hm, ?_⟩⟩
      refine ⟨_, rfl, a, _, _, _, rfl, rfl, SqL.of ha, at0 _ _ _, _, rfl, _, _, rfl, rfl, wide_div hm hm2 (by decide) (by decide), ?_⟩
      refine ⟨_, rfl, a, _, _, 0, rfl, rfl, ha, rfl, ?_⟩
      exact ⟨_, rfl, k _ _ (Int.emod_nonneg _ (by omega)) (Int.emod_lt_of_pos _ hm) (But.upd But.refl) ⟨_, _, _, upd_same, Int.ediv_nonneg hx (by omega), hy, hz⟩⟩
    · refine ⟨_, rfl, a, _, _, _, rfl, rfl, SqL.of ha, at2 _ _ _, _, _, rfl, rfl, ?_⟩
      refine ⟨_, rfl, a, _, _, 2, rfl, rfl, ha, rfl, ?_⟩
      have hb : upd H a (.lst [.int x, .int y, .int (z + 1)]) a = some (.lst [.int x, .int y, .int (z + 1)]) := upd_same
      refine ⟨_, rfl, a, _, _, _, rfl, rfl, SqL.of hb, at1 _ _ _, _, rfl, a, _, _, _, rfl, rfl, SqL.of hb, at2 _ _ _, _, _, rfl, rfl, .inl ⟨by decide, by decide⟩, _, _, rfl, rfl, _, _, rfl, rfl, .inl ⟨_, rfl, _, rfl, _, _, rfl, rfl, (by show (0 : Int) < 2147483647; decide), ?_⟩⟩
      refine ⟨_, rfl, _, _, rfl, rfl, .inr ⟨by decide, by decide⟩, .inl ⟨_, rfl, _, rfl, _, _, rfl, rfl, (by show (0 : Int) < 2147483647; decide), ?_⟩⟩
      refine ⟨_, rfl, _, rfl, _, _, rfl, rfl, ⟨by decide, by decide⟩, _, _, rfl, rfl, _, _, rfl, rfl, .inl (md _), .inl ⟨_, rfl, _, rfl, _, _, rfl, rfl, (by show (0 : Int) < 2147483647; decide), ?_⟩⟩
      refine ⟨_, rfl, _, rfl, _, _, rfl, rfl, ⟨by decide, by decide⟩, _, _, rfl, rfl, _, _, rfl, rfl, .inl (md _), .inl ⟨_, rfl, _, _, rfl, rfl, (by show (0 : Int) < 2147483399; decide), ?_⟩⟩
      refine ⟨_, rfl, _, _, rfl, rfl, ⟨by decide, by decide⟩, .inl ⟨_, rfl, _, rfl, _, _, rfl, rfl, hm, ?_⟩⟩
      exact k _ _ (Int.emod_nonneg _ (by omega)) (Int.emod_lt_of_pos _ hm) (But.upd But.refl) ⟨_, _, _, hb, hx, hy, by omega⟩
/-! ### _law_one: one of some -/
def spOne (K : PySem.W.Frag) : Sp := fun vs H Q _ => ∃ (a b : Addr) (xs : List V), vs = [.ref a, .ref b] ∧ Src H a ∧ H b = some (.lst xs) ∧ xs ≠ [] ∧ xs.length ≤ 1000 ∧ ∀ v H', v ∈ xs → But a H H' → Src H' a → Q v H'
abbrev N_law_one : List Str := ["source", "some"]
theorem sc_law_one : FnScope N_law_one ["source", "some"] (defScope s_law_one) := ⟨rfl, rfl, rfl, by decide +kernel, rfl, by decide +kernel, by decide +kernel⟩
theorem Src.ne {H : Hp} {a b : Addr} {xs : List V} (s : Src H a) (h : H b = some (.lst xs)) (hx : xs.length ≠ 3 ∨ ∃ x ∈ xs, ∀ i, x ≠ V.int i) : b ≠ a := by
  rintro rfl
  obtain ⟨x, y, z, e, _⟩ := s
  rw [h] at e
  cases e
  rcases hx with q | ⟨x, hx, n⟩
  · exact q rfl
  · simp at hx
    rcases hx with rfl | rfl | rfl <;> exact n _ rfl
theorem ok_law_one {f : Addr} {fd : FuncData} (T : Gl0 mg) (c_law_next : CalX P w K mg base 1 "_law_next" spNext) (F : DefX K mg "_law_one" s_law_one ["source", "some"] f fd) :
    CalX P w K mg base 2 "_law_one" (fun vs H Q E => spOne K vs H Q E ∧ ∀ a b, vs = [.ref a, .ref b] → b ≠ a) := by
  refine calx F sc_law_one (fun vs H Q E h => ?_) (fun cdv A outer s H vs Q E hr h => ?_)
  · obtain ⟨⟨a, m, xs, rfl, _⟩, _⟩ := h
    rfl
  · obtain ⟨⟨a, b, xs, rfl, hs, hb, hne, hl, k⟩, nba⟩ := h
    have nba := nba a b rfl
    have hpos : 0 < xs.length := List.length_pos_iff.mpr hne
    refine ⟨_, (pss_one (ps_ret (pe_ix ix_list (pv 1) (pe_cx c_law_next hr (by decide) rfl (pa_cons (pv 0) (pa_cons (pe_callB call_len_seq (by rfl) T.n_len Boot.«len» (pa_cons (pv 1) pa_nil)) pa_nil))) (fun _ _ => rfl)))), ?_⟩
    refine ⟨_, rfl, _, rfl, _, rfl, b, xs, rfl, .inl (SqL.of hb), a, _, rfl, hs, ?_, ?_, fun v H' v0 v1 bu s1 => ?_⟩
    · show (0 : Int) < (xs.length : Int)
      omega
    · show ((xs.length : Int)).natAbs < 2 ^ 200
      rw [Int.natAbs_natCast]
      exact Nat.lt_of_le_of_lt hl (by decide)
    · have e : v = (v.toNat : Int) := by omega
      have hv : v.toNat < xs.length := by omega
      have g : atI xs v = some (xs[v.toNat]) := by
        have q := atI_nat (List.getElem?_eq_getElem hv)
        rw [← e] at q
        exact q
      exact ⟨b, xs, v, _, rfl, rfl, SqL.of (bu _ _ nba hb), g, k _ _ (List.getElem_mem hv) bu s1⟩
end
theorem Src.ne0 {H : Hp} {a p : Addr} (s : Src H a) (n : H p = none) : p ≠ a := by
  rintro rfl
  obtain ⟨x, y, z, e, _⟩ := s
  rw [n] at e
  cases e
theorem Src.same {H H' : Hp} {a : Addr} (s : Src H a) (q : Same H H') : Src H' a := by
  obtain ⟨x, y, z, e, h⟩ := s
  exact ⟨x, y, z, q _ _ e, h⟩
/-- the bytes of a number -/
def enc (n : Nat) : List Int := mk (dig n).reverse
theorem enc_len {n : Nat} (h : n < 64 ^ 20) : (enc n).length ≤ 21 := by
  unfold enc
  rw [mk_len, List.length_reverse]
  exact dig_len 20 n h
theorem dig_pos (n : Nat) : 0 < (dig n).length := List.length_pos_iff.mpr (dig_ne n)
theorem enc_pos (n : Nat) : 0 < (enc n).length := by
  unfold enc
  rw [mk_len, List.length_reverse]
  exact dig_pos n
theorem half (n : Nat) : ((2 * n : Nat) : Int) / 2 = (n : Int) := by omega
theorem lt60 {n : Nat} (h : n < 64 ^ 20) : n < 64 ^ 60 := Nat.lt_trans h (by decide)
theorem head_up {l : List Int} (h : 0 < l.length) : ∃ x r, l = x :: r := by
  cases l with
  | nil => simp at h
  | cons x r => exact ⟨x, r, rfl⟩
theorem atC {α : Type} (x : α) (xs : List α) : atI (x :: xs) 0 = some x := atI_nat (j := 0) rfl
theorem ixC {α : Type} (x : α) (xs : List α) : ixN (x :: xs).length 0 = some 0 := by
  unfold ixN
  rw [if_pos (by decide), if_pos (by rw [List.length_cons]; omega)]
  rfl
theorem rev_map (l : List Int) : (l.map V.int).reverse = l.reverse.map V.int := by simp
/-! ### numbers read back -/
def val (l : List Int) : Int := l.foldl (fun a d => a * 64 + d) 0
theorem val_snoc (l : List Int) (d : Int) : val (l ++ [d]) = val l * 64 + d := by
  unfold val
  rw [List.foldl_append]
  rfl
theorem dig_val (n : Nat) : val (dig n).reverse = (n : Int) := by
  induction n using Nat.strongRecOn with
  | ind n ih =>
    by_cases c : n < 64
    · rw [dig_lt c]
      show (0 : Int) * 64 + (n : Int) = n
      omega
    · rw [dig_ge c, List.reverse_cons, val_snoc, ih (n / 64) (by omega)]
      omega
theorem dig_dig (n : Nat) : ∀ d ∈ dig n, 0 ≤ d ∧ d < 64 := by
  induction n using Nat.strongRecOn with
  | ind n ih =>
    by_cases c : n < 64
    · rw [dig_lt c]
      intro d h
      have : d = (n : Int) := by simpa using h
      omega
    · rw [dig_ge c]
      intro d h
      rcases List.mem_cons.mp h with h | h
      · omega
      · exact ih (n / 64) (by omega) d h
theorem dig_top (n : Nat) : 0 < n → (dig n).reverse[0]? ≠ some 0 := by
  induction n using Nat.strongRecOn with
  | ind n ih =>
    intro hn
    by_cases c : n < 64
    · rw [dig_lt c]
      intro h
      have : (n : Int) = 0 := Option.some.inj h
      omega
    · rw [dig_ge c, List.reverse_cons, List.getElem?_append_left (by rw [List.length_reverse]; exact dig_pos _)]
      exact ih (n / 64) (by omega) (by omega)
theorem mk_get : ∀ (l : List Int) (j : Nat) (d : Int), l[j]? = some d → (mk l)[j]? = some (d + (if j + 1 < l.length then 64 else 0))
  | [], j, d, h => by simp at h
  | [x], 0, d, h => by
    have : x = d := Option.some.inj h
    show some x = _
    rw [this, if_neg (by simp), Int.add_zero]
  | [x], j + 1, d, h => by simp at h
  | x :: y :: r, 0, d, h => by
    have : x = d := Option.some.inj h
    show some (x + 64) = _
    rw [this, if_pos (by simp)]
  | x :: y :: r, j + 1, d, h => by
    have ih := mk_get (y :: r) j d h
    show (mk (y :: r))[j]? = _
    rw [ih]
    by_cases c : j + 1 < (y :: r).length
    · rw [if_pos c, if_pos (by rw [List.length_cons]; omega)]
    · rw [if_neg c, if_neg (by rw [List.length_cons]; omega)]
theorem and64 {b : Int} (h0 : 0 ≤ b) (h1 : b < 256) : Builtin.bitAnd b 64 = 64 * (b / 64 % 2) := by
  have key : ∀ i : Fin 256, Builtin.bitAnd ((i.val : Nat) : Int) 64 = 64 * (((i.val : Nat) : Int) / 64 % 2) := by decide +kernel
  have := key ⟨b.toNat, by omega⟩
  have e : ((b.toNat : Nat) : Int) = b := by omega
  rw [← e]
  exact this
theorem map_at {B : List Int} {i : Nat} {b : Int} (h : B[i]? = some b) : atI (B.map V.int) ((i : Nat) : Int) = some (V.int b) := atI_nat (by rw [List.getElem?_map, h]; rfl)
structure Gl1 (mg : Str → Option Value) : Prop where
  c_FURTHER : ∃ u, mg "FURTHER" = some u ∧ RelV (.int 64) u
  c_MARK : ∃ u, mg "MARK" = some u ∧ RelV (.int 128) u
  n_tuple : mg "tuple" = none
section
variable {P : Program} {w : World} {K : PySem.W.Frag} {mg : Str → Option Value} {base : Heap}
end
end K57
set_option maxHeartbeats 4000000
set_option hygiene false in
local macro_rules | `(tactic| walk_at "fld") => `(tactic| (generalize eu : upd _ self (HO.ins _ _ _) = Hn; (have hs := (congrArg (fun z : Hp => z self = some _) eu).mp upd_same); (have B := (congrArg (But self H) eu).mp (But.upd B)); (have ln := fldlen hs ln); clear eu))
set_option hygiene false in
local macro_rules | `(tactic| walk_at "fld3") => `(tactic| (generalize eu : upd _ self (HO.ins _ _ _) = Hn; (have hs := (congrArg (fun z : Hp => z self = some _) eu).mp upd_same); (have B := (congrArg (But self H) eu).mp (But.upd B)); (have B3 := (congrArg (But self H3) eu).mp (But.upd B3)); (have ln := fldlen hs ln); clear eu))
set_option hygiene false in
local macro_rules | `(tactic| walk_at "new1") => `(tactic| (intro p1 n1; generalize e1 : upd _ p1 _ = H1; (have s1 := (congrArg (Same _) e1).mp (Same.new n1)); (have h1 := (congrArg (fun z : Hp => z p1 = some _) e1).mp upd_same); clear e1))
set_option hygiene false in
local macro_rules | `(tactic| walk_at "new2") => `(tactic| (intro p2 n2; generalize e2 : upd _ p2 _ = H2; (have s2 := (congrArg (Same _) e2).mp (Same.new n2)); (have h2 := (congrArg (fun z : Hp => z p2 = some _) e2).mp upd_same); clear e2))
set_option hygiene false in
local macro_rules | `(tactic| walk_at "new3") => `(tactic| (intro p3 n3; generalize e3 : upd _ p3 _ = H3; (have s3 := (congrArg (Same _) e3).mp (Same.new n3)); (have h3 := (congrArg (fun z : Hp => z p3 = some _) e3).mp upd_same); clear e3))
set_option hygiene false in
local macro_rules | `(tactic| walk_at "new4") => `(tactic| (intro p4 n4; generalize e4 : upd _ p4 _ = H4; (have s4 := (congrArg (Same _) e4).mp (Same.new n4)); (have h4 := (congrArg (fun z : Hp => z p4 = some _) e4).mp upd_same); clear e4))
set_option hygiene false in
local macro_rules | `(tactic| walk_at "new5") => `(tactic| (intro p5 n5; generalize e5 : upd _ p5 _ = H5; (have s5 := (congrArg (Same _) e5).mp (Same.new n5)); (have h5 := (congrArg (fun z : Hp => z p5 = some _) e5).mp upd_same); clear e5))
set_option hygiene false in
local macro_rules | `(tactic| walk_at "new6") => `(tactic| (intro p6 n6; generalize e6 : upd _ p6 _ = H6; (have s6 := (congrArg (Same _) e6).mp (Same.new n6)); (have h6 := (congrArg (fun z : Hp => z p6 = some _) e6).mp upd_same); clear e6))
set_option hygiene false in
local macro_rules | `(tactic| walk_at "new7") => `(tactic| (intro p7 n7; generalize e7 : upd _ p7 _ = H7; (have s7 := (congrArg (Same _) e7).mp (Same.new n7)); (have h7 := (congrArg (fun z : Hp => z p7 = some _) e7).mp upd_same); clear e7))
set_option hygiene false in
local macro_rules | `(tactic| walk_at "new8") => `(tactic| (intro p8 n8; generalize e8 : upd _ p8 _ = H8; (have s8 := (congrArg (Same _) e8).mp (Same.new n8)); (have h8 := (congrArg (fun z : Hp => z p8 = some _) e8).mp upd_same); clear e8))
set_option hygiene false in
local macro_rules | `(tactic| walk_at "new9") => `(tactic| (intro p9 n9; generalize e9 : upd _ p9 _ = H9; (have s9 := (congrArg (Same _) e9).mp (Same.new n9)); (have h9 := (congrArg (fun z : Hp => z p9 = some _) e9).mp upd_same); clear e9))
namespace K57
open PySem PySem.Spec PyProof.Rows L2 Nd
abbrev s_want_code : Stmt := top 16
def flds : List Str := ["argcount", "onlycount", "stacksize", "flags", "code", "constants", "names", "slots", "kinds", "name", "path", "line", "lines", "handlers", "nested"]
def oddT : List String := ["NoneType", "int", "str", "list", "tuple", "bool", "dict"]
/-- what the class Code and the class NoCode are -/
structure GlK (P : Program) (K : PySem.W.Frag) (mg : Str → Option Value) (Cc Cn fI : Addr) : Prop where
  c_Code : ∃ u, mg "Code" = some u ∧ RelV (.ref Cc) u
  ins : C8.InsC K Cc
  na : ∀ f ∈ flds, NoAttr K Cc f
  no : ∀ t ∈ oddT, PySem.W.kitOne K (.type t) (.ref Cc) = some false
  nx : PySem.Nx.Txt P K mg Cn fI
  gN : mg "NoCode" = some (.ref Cn)
  n_isinstance : mg "isinstance" = none
/-- an odd thing: of a type that is no Code -/
def Odd (K : PySem.W.Frag) (H : Hp) (x : V) : Prop := ∃ t ∈ oddT, TyX K H x (.type t)
def errCode (Cn : Addr) (H : Hp) (E : XK) : Prop := ∀ d, H d = none → E (.ref Cn) (some d) (upd H d (.xd [("field", .str "code")]))
def spWant (K : PySem.W.Frag) (Cc Cn : Addr) : Sp := fun vs H Q E => ∃ x, vs = [x] ∧ ((∃ a dx fs, x = .ref a ∧ H a = some (.ins Cc dx fs) ∧ Q .non H) ∨ (Odd K H x ∧ errCode Cn H E))
theorem passE {X : Cx} {E : XK} (tk : Takes X (fun cls d _ H => E cls d H)) : Passes (L2.CX X.prog X.w) X E := fun pins σ H s e s' I c => passAt tk σ pins H s e s' I c
theorem TyX.same {K : PySem.W.Frag} {H H' : Hp} {x : V} {t : Value} (s : Same H H') (h : TyX K H x t) : TyX K H' x t := by
  cases h with
  | base b =>
    refine .base ?_
    cases b with
    | non => exact .non
    | bl y => exact .bl y
    | int i => exact .int i
    | str y => exact .str y
    | flt y => exact .flt y
    | lst e => exact .lst (s _ _ e)
    | frz e => exact .frz (s _ _ e)
    | tup e => exact .tup (s _ _ e)
    | dK e => exact .dK (s _ _ e)
    | dT e => exact .dT (s _ _ e)
    | ins e c1 c2 c3 c4 c5 => exact .ins (s _ _ e) c1 c2 c3 c4 c5
  | byt b => exact .byt b
  | set e => exact .set (s _ _ e)
  | kList e c => exact .kList e c
  | kTuple e c => exact .kTuple e c
  | kDict e c => exact .kDict e c
  | fTuple e => exact .fTuple (s _ _ e)
  | fDict e => exact .fDict (s _ _ e)
theorem Odd.same {K : PySem.W.Frag} {H H' : Hp} {x : V} (s : Same H H') (h : Odd K H x) : Odd K H' x := by
  obtain ⟨t, m, h⟩ := h
  exact ⟨t, m, TyX.same s h⟩
section
variable {P : Program} {w : World} {K : PySem.W.Frag} {mg : Str → Option Value} {base : Heap} {Cc Cn fI : Addr}
abbrev N_want_code : List Str := ["value"]
theorem sc_want_code : FnScope N_want_code ["value"] (defScope s_want_code) := ⟨rfl, rfl, rfl, by decide +kernel, rfl, by decide +kernel, by decide +kernel⟩
theorem ok_want_code {f : Addr} {fd : FuncData} (G : GlK P K mg Cc Cn fI) (F : DefX K mg "want_code" s_want_code ["value"] f fd) : CalX P w K mg base 2 "want_code" (spWant K Cc Cn) := by
  refine calr F sc_want_code (fun vs H Q E h => ?_) (fun cdv A outer s H vs Q E hr h => ?_)
  · obtain ⟨x, rfl, _⟩ := h
    rfl
  · obtain ⟨x, rfl, h⟩ := h
    refine ⟨_, (pss_one (ps_if (pt_not (pt_val (pe_callB call_isi (by rfl) G.n_isinstance Boot.«isinstance» (pa_cons (pv 0) (pa_cons (C8.pe_gc rfl G.c_Code) pa_nil)))))
      (pss_one (ps_raise rfl (takes_of rfl rfl rfl rfl) (pmk_nx G.nx hr (pa_cons pe_str pa_nil) rfl G.gN)))
      pss_nil)), ?_⟩
    rcases h with ⟨a, dx, fs, rfl, ha, q⟩ | ⟨⟨t, ht, ty⟩, e⟩
    · refine ⟨_, rfl, V.ref a, V.ref Cc, .ref Cc, .ref Cc, true, rfl, .own Cc, .base (.ins ha G.ins.cl G.ins.ha G.ins.hn G.ins.htk G.ins.hm), G.ins.me, _, rfl, ?_⟩
      exact iteF q
    · refine ⟨_, rfl, x, V.ref Cc, .type t, .ref Cc, false, rfl, .own Cc, ty, G.no t ht, _, rfl, ?_⟩
      exact iteT ⟨_, rfl, fun d hd => e d hd⟩
end
abbrev s_is_number : Stmt := top 7
abbrev s_is_string : Stmt := top 8
abbrev s_is_byte : Stmt := top 9
abbrev s_are_bytes : Stmt := top 10
abbrev s_are_strings : Stmt := top 11
abbrev s_are_constants : Stmt := top 13
abbrev s_is_constant : Stmt := top 12
structure Gl2 (mg : Str → Option Value) : Prop where
  n_isinstance : mg "isinstance" = none
  n_int : mg "int" = none
  n_bool : mg "bool" = none
  n_str : mg "str" = none
  n_all : mg "all" = none
  n_ord : mg "ord" = none
  n_list : mg "list" = none
  n_tuple : mg "tuple" = none
  c_MOST : ∃ u, mg "MOST_NUMBER" = some u ∧ RelV (.int 2147483647) u
  c_MOST_NESTED : ∃ u, mg "MOST_NESTED" = some u ∧ RelV (.int 100) u
def tNev : TE := fun _ _ _ => False
theorem pe_nev {X : Cx} {e : Expr} : PE X e tNev := ⟨fun _ _ _ _ _ _ h => h.elim⟩
theorem ii {K : PySem.W.Frag} : PySem.W.kitOne K (.type "int") (.type "int") = some true := kit_ty (by decide +kernel)
theorem ib {K : PySem.W.Frag} : PySem.W.kitOne K (.type "int") (.type "bool") = some false := kit_ty (by decide +kernel)
theorem ss {K : PySem.W.Frag} : PySem.W.kitOne K (.type "str") (.type "str") = some true := kit_ty (by decide +kernel)
section
variable {P : Program} {w : World} {K : PySem.W.Frag} {mg : Str → Option Value} {base : Heap}
def spNum : Sp := fun vs H Q _ => ∃ i : Int, vs = [.int i] ∧ 0 ≤ i ∧ i ≤ 2147483647 ∧ Q (.bl true) H
abbrev N_is_number : List Str := ["value"]
theorem sc_is_number : FnScope N_is_number ["value"] (defScope s_is_number) := ⟨rfl, rfl, rfl, by decide +kernel, rfl, by decide +kernel, by decide +kernel⟩
theorem ok_is_number {f : Addr} {fd : FuncData} (T : Gl2 mg) (F : DefX K mg "is_number" s_is_number ["value"] f fd) : CalX P w K mg base 1 "is_number" spNum := by
  refine calx F sc_is_number (fun vs H Q E h => ?_) (fun cdv A outer s H vs Q E hr h => ?_)
  · obtain ⟨i, rfl, _⟩ := h
    rfl
  · obtain ⟨i, rfl, i0, i1, k⟩ := h
    refine ⟨_, (pss_one (ps_ret (pe_and (pe_callB call_isi (by rfl) T.n_isinstance Boot.«isinstance» (pa_cons (pv 0) (pa_cons (pe_bltn (v := .ty "int") (by rfl) T.n_int Boot.«int» rfl) pa_nil))) (pe_and (pe_not (pe_callB call_isi (by rfl) T.n_isinstance Boot.«isinstance» (pa_cons (pv 0) (pa_cons (pe_bltn (v := .ty "bool") (by rfl) T.n_bool Boot.«bool» rfl) pa_nil)))) (pe_one (pe_chain op_le op_le pe_int (pv 0) (C8.pe_gc rfl T.c_MOST))))))), ?_⟩
    refine ⟨_, rfl, V.int i, V.ty "int", .type "int", .type "int", true, rfl, .ty "int", .base (.int i), ii, _, rfl, iteT ?_⟩
    refine ⟨_, rfl, V.int i, V.ty "bool", .type "int", .type "bool", false, rfl, .ty "bool", .base (.int i), ib, _, rfl, _, rfl, iteT ?_⟩
    refine ⟨_, rfl, _, _, rfl, rfl, _, rfl, ?_⟩
    refine ite2 (fun _ => ?_) (fun c => absurd (decide_eq_true i0) c)
    refine ⟨_, _, rfl, rfl, ?_⟩
    have e : decide (i ≤ (2147483647 : Int)) = true := decide_eq_true i1
    show Q (V.bl (decide (i ≤ 2147483647))) H
    rw [e]
    exact k
def spByte : Sp := fun vs H Q _ => ∃ i : Int, vs = [.int i] ∧ 0 ≤ i ∧ i ≤ 255 ∧ Q (.bl true) H
abbrev N_is_byte : List Str := ["value"]
theorem sc_is_byte : FnScope N_is_byte ["value"] (defScope s_is_byte) := ⟨rfl, rfl, rfl, by decide +kernel, rfl, by decide +kernel, by decide +kernel⟩
theorem ok_is_byte {f : Addr} {fd : FuncData} (T : Gl2 mg) (F : DefX K mg "is_byte" s_is_byte ["value"] f fd) : CalX P w K mg base 1 "is_byte" spByte := by
  refine calx F sc_is_byte (fun vs H Q E h => ?_) (fun cdv A outer s H vs Q E hr h => ?_)
  · obtain ⟨i, rfl, _⟩ := h
    rfl
  · obtain ⟨i, rfl, i0, i1, k⟩ := h
    refine ⟨_, (pss_one (ps_ret (pe_and (pe_callB call_isi (by rfl) T.n_isinstance Boot.«isinstance» (pa_cons (pv 0) (pa_cons (pe_bltn (v := .ty "int") (by rfl) T.n_int Boot.«int» rfl) pa_nil))) (pe_and (pe_not (pe_callB call_isi (by rfl) T.n_isinstance Boot.«isinstance» (pa_cons (pv 0) (pa_cons (pe_bltn (v := .ty "bool") (by rfl) T.n_bool Boot.«bool» rfl) pa_nil)))) (pe_one (pe_chain op_le op_le pe_int (pv 0) pe_int)))))), ?_⟩
    refine ⟨_, rfl, V.int i, V.ty "int", .type "int", .type "int", true, rfl, .ty "int", .base (.int i), ii, _, rfl, iteT ?_⟩
    refine ⟨_, rfl, V.int i, V.ty "bool", .type "int", .type "bool", false, rfl, .ty "bool", .base (.int i), ib, _, rfl, _, rfl, iteT ?_⟩
    refine ⟨_, rfl, _, _, rfl, rfl, _, rfl, ?_⟩
    refine ite2 (fun _ => ?_) (fun c => absurd (decide_eq_true i0) c)
    refine ⟨_, _, rfl, rfl, ?_⟩
    have e : decide (i ≤ (255 : Int)) = true := decide_eq_true i1
    show Q (V.bl (decide (i ≤ 255))) H
    rw [e]
    exact k
/-! ### is_string -/
def OkS (x : Str) : Prop := ∀ (i : Nat) c, x.cps[i]? = some c → decide ((⟨#[c]⟩ : Str).cps.toList < (" " : Str).cps.toList) = false ∧ decide (("~" : Str).cps.toList < (⟨#[c]⟩ : Str).cps.toList) = false ∧ (((⟨#[c]⟩ : Str).cps.getD 0 0 : Nat) : Int) ≠ 37
def spStr : Sp := fun vs H Q _ => ∃ x : Str, vs = [.str x] ∧ x.cps.size ≤ 1000 ∧ OkS x ∧ ∀ H', Same H H' → Q (.bl true) H'
abbrev N_is_string : List Str := ["value", "sign"]
theorem sc_is_string : FnScope N_is_string ["value"] (defScope s_is_string) := ⟨rfl, rfl, rfl, by decide +kernel, rfl, by decide +kernel, by decide +kernel⟩
theorem all_trues (n : Nat) : (List.replicate n true).all id = true := by
  induction n with
  | zero => rfl
  | succ n ih =>
    rw [List.replicate_succ, List.all_cons, ih]
    rfl
theorem ok_is_string {f : Addr} {fd : FuncData} (T : Gl2 mg) (F : DefX K mg "is_string" s_is_string ["value"] f fd) : CalX P w K mg base 1 "is_string" spStr := by
  refine calx F sc_is_string (fun vs H Q E h => ?_) (fun cdv A outer s H vs Q E hr h => ?_)
  · obtain ⟨i, rfl, _⟩ := h
    rfl
  · obtain ⟨x, rfl, hz, ok, k⟩ := h
    refine ⟨_, (pss_one (ps_ret (pe_and (pe_callB call_isi (by rfl) T.n_isinstance Boot.«isinstance» (pa_cons (pv 0) (pa_cons (pe_bltn (v := .ty "str") (by rfl) T.n_str Boot.«str» rfl) pa_nil))) (pe_one (pe_callB (cr_all rfl) (by rfl) T.n_all Boot.«all» (pa_cons (pe_lc (own := [("sign", 1)]) (g := gName 1) (tt := tYes) rfl sc_is_string.nd (pi_str (pv 0)) (blkOk_by (own := [("sign", 1)]) (N := N_is_string) (sc := defScope s_is_string) (by decide +kernel)) (fun _ _ _ _ _ => (pg_name (i := 1) sc_is_string.nd rfl (Or.inl rfl))) (fun _ _ _ _ _ => pts_nil) (fun _ _ _ _ _ => (pe_and (pe_chain op_le_str op_le_str pe_str (pv 1) pe_str) (pe_one (pe_cmpR op_ne (pe_callB call_ord (by rfl) T.n_ord Boot.«ord» (pa_cons (pv 1) pa_nil)) pe_int (nomark _)))))) pa_nil)))))), ?_⟩
    refine ⟨_, rfl, V.str x, V.ty "str", .type "str", .type "str", true, rfl, .ty "str", .base (.str x), ss, _, rfl, iteT ?_⟩
    refine ⟨_, rfl, x, rfl, fun D nD => lc_it walk_str (fun i H' => Same H H' ∧ H' D = some (.lst ((List.replicate i true).map V.bl))) ⟨Same.new nD, by rw [upd_same]; rfl⟩ (fun _ _ _ _ => trivial) ?_ ?_⟩
    · rintro i v H' H'' hi ⟨s2, hD⟩ ⟨rfl, c, hc, rfl⟩
      obtain ⟨o1, o2, o3⟩ := ok i c hc
      refine ⟨rfl, ?_⟩
      refine ⟨_, rfl, _, _, rfl, rfl, _, rfl, ?_⟩
      rw [o1]
      refine iteT ⟨_, _, rfl, rfl, ?_⟩
      rw [o2]
      refine ⟨_, rfl, iteT ?_⟩
      refine ⟨_, rfl, _, rfl, rfl, rfl, ?_⟩
      refine ⟨_, hD, ?_, ?_, ?_⟩
      · rw [List.length_map, List.length_replicate]
        exact Nat.lt_of_lt_of_le hi (Nat.le_trans hz (by decide))
      · exact Same.mut s2 nD
      · rw [upd_same, List.replicate_succ', List.map_append]
        have e : (!decide (V.int (((⟨#[c]⟩ : Str).cps.getD 0 0 : Nat) : Int) = V.int 37)) = true := by
          rw [decide_eq_false (fun z => o3 (by injection z))]
          rfl
        rw [e]
        rfl
    · rintro H' ⟨s2, hD⟩
      refine ⟨D, _, rfl, SqL.of hD, ?_⟩
      rw [all_trues]
      exact k H' s2
/-! ### are_bytes, are_strings, is_constant, are_constants -/
theorem two_cls : Paired ClsV [V.ty "list", V.ty "tuple"] [.type "list", .type "tuple"] := .cons (.ty "list") (.cons (.ty "tuple") .nil)
def spBytesOf : Sp := fun vs H Q _ => ∃ (a : Addr) (xs : List Int), vs = [.ref a] ∧ LorT H a (xs.map V.int) ∧ (∀ n ∈ xs, 0 ≤ n ∧ n ≤ 255) ∧ xs.length ≤ 100000 ∧ ∀ H', Same H H' → Q (.bl true) H'
abbrev N_are_bytes : List Str := ["value", "one"]
theorem sc_are_bytes : FnScope N_are_bytes ["value"] (defScope s_are_bytes) := ⟨rfl, rfl, rfl, by decide +kernel, rfl, by decide +kernel, by decide +kernel⟩
theorem ok_are_bytes {f : Addr} {fd : FuncData} (T : Gl2 mg) (c_is_byte : CalX P w K mg base 1 "is_byte" spByte) (F : DefX K mg "are_bytes" s_are_bytes ["value"] f fd) : CalX P w K mg base 2 "are_bytes" spBytesOf := by
  refine calx F sc_are_bytes (fun vs H Q E h => ?_) (fun cdv A outer s H vs Q E hr h => ?_)
  · obtain ⟨a, xs, rfl, _⟩ := h
    rfl
  · obtain ⟨a, xs, rfl, ha, hb, hz, k⟩ := h
    refine ⟨_, (pss_one (ps_ret (pe_and (pe_callB call_isiT (by rfl) T.n_isinstance Boot.«isinstance» (pa_cons (pv 0) (pa_cons (pe_tup (pa_cons (pe_bltn (v := .ty "list") (by rfl) T.n_list Boot.«list» rfl) (pa_cons (pe_bltn (v := .ty "tuple") (by rfl) T.n_tuple Boot.«tuple» rfl) pa_nil))) pa_nil))) (pe_one (pe_callB (cr_all rfl) (by rfl) T.n_all Boot.«all» (pa_cons (pe_lc (own := [("one", 1)]) (g := gName 1) (tt := tYes) rfl sc_are_bytes.nd (pi_seq (pv 0)) (blkOk_by (own := [("one", 1)]) (N := N_are_bytes) (sc := defScope s_are_bytes) (by decide +kernel)) (fun _ _ _ _ _ => (pg_name (i := 1) sc_are_bytes.nd rfl (Or.inl rfl))) (fun _ _ _ _ _ => pts_nil) (fun _ _ _ _ _ => (pe_cx c_is_byte hr (by decide) rfl (pa_cons (pv 1) pa_nil)))) pa_nil)))))), ?_⟩
    refine ⟨_, rfl, (by show 2 ≤ sizeLine; decide), ?_⟩
    walk_at "new1"
    have ha1 := ha.same s1
    obtain ⟨t, ty, kt⟩ := ha1.ty (K := K)
    refine ⟨V.ref a, p1, _, .type t, _, true, rfl, h1, two_cls, ty, kt, _, rfl, iteT ?_⟩
    refine ⟨_, rfl, a, rfl, lc_both (K := K) ha1.sq (fun D i H' => Same H1 H' ∧ H' D = some (.lst ((List.replicate i true).map V.bl))) (fun D nD => ⟨Same.new nD, by rw [upd_same]; rfl⟩) (fun D i H' _ _ p => p.1) ?_ ?_⟩
    · rintro D i x H' nD hi ⟨s2, hD⟩
      have hil : i < xs.length := by
        have := (List.getElem?_eq_some_iff.mp hi).1
        simpa using this
      have hacc : ((List.replicate i true).map V.bl).length < sizeLine := by
        rw [List.length_map, List.length_replicate]
        exact Nat.lt_of_lt_of_le hil (Nat.le_trans hz (by decide))
      have hup : upd H' D (.lst ((List.replicate i true).map V.bl ++ [.bl true])) D = some (.lst ((List.replicate (i + 1) true).map V.bl)) := by
        rw [upd_same, List.replicate_succ', List.map_append]
        rfl
      obtain ⟨z, hz', rfl⟩ : ∃ z, xs[i]? = some z ∧ x = V.int z := by
        rw [List.getElem?_map] at hi
        obtain ⟨z, e, q⟩ := Option.map_eq_some_iff.mp hi
        exact ⟨z, e, q.symm⟩
      obtain ⟨b0, b1⟩ := hb z (List.mem_of_getElem? hz')
      refine ⟨rfl, ?_⟩
      exact ⟨_, rfl, z, rfl, b0, b1, _, hD, hacc, Same.mut s2 nD, hup⟩
    · rintro D H' nD ⟨s2, hD⟩
      refine ⟨D, _, rfl, SqL.of hD, ?_⟩
      rw [all_trues]
      exact k H' (s1.trans s2)
def spStrs : Sp := fun vs H Q _ => ∃ (a : Addr) (xs : List Str), vs = [.ref a] ∧ LorT H a (xs.map V.str) ∧ (∀ x ∈ xs, x.cps.size ≤ 1000 ∧ OkS x) ∧ xs.length ≤ 100000 ∧ ∀ H', Same H H' → Q (.bl true) H'
abbrev N_are_strings : List Str := ["value", "one"]
theorem sc_are_strings : FnScope N_are_strings ["value"] (defScope s_are_strings) := ⟨rfl, rfl, rfl, by decide +kernel, rfl, by decide +kernel, by decide +kernel⟩
theorem ok_are_strings {f : Addr} {fd : FuncData} (T : Gl2 mg) (c_is_string : CalX P w K mg base 1 "is_string" spStr) (F : DefX K mg "are_strings" s_are_strings ["value"] f fd) : CalX P w K mg base 2 "are_strings" spStrs := by
  refine calx F sc_are_strings (fun vs H Q E h => ?_) (fun cdv A outer s H vs Q E hr h => ?_)
  · obtain ⟨a, xs, rfl, _⟩ := h
    rfl
  · obtain ⟨a, xs, rfl, ha, hb, hz, k⟩ := h
    refine ⟨_, (pss_one (ps_ret (pe_and (pe_callB call_isiT (by rfl) T.n_isinstance Boot.«isinstance» (pa_cons (pv 0) (pa_cons (pe_tup (pa_cons (pe_bltn (v := .ty "list") (by rfl) T.n_list Boot.«list» rfl) (pa_cons (pe_bltn (v := .ty "tuple") (by rfl) T.n_tuple Boot.«tuple» rfl) pa_nil))) pa_nil))) (pe_one (pe_callB (cr_all rfl) (by rfl) T.n_all Boot.«all» (pa_cons (pe_lc (own := [("one", 1)]) (g := gName 1) (tt := tYes) rfl sc_are_strings.nd (pi_seq (pv 0)) (blkOk_by (own := [("one", 1)]) (N := N_are_strings) (sc := defScope s_are_strings) (by decide +kernel)) (fun _ _ _ _ _ => (pg_name (i := 1) sc_are_strings.nd rfl (Or.inl rfl))) (fun _ _ _ _ _ => pts_nil) (fun _ _ _ _ _ => (pe_cx c_is_string hr (by decide) rfl (pa_cons (pv 1) pa_nil)))) pa_nil)))))), ?_⟩
    refine ⟨_, rfl, (by show 2 ≤ sizeLine; decide), ?_⟩
    walk_at "new1"
    have ha1 := ha.same s1
    obtain ⟨t, ty, kt⟩ := ha1.ty (K := K)
    refine ⟨V.ref a, p1, _, .type t, _, true, rfl, h1, two_cls, ty, kt, _, rfl, iteT ?_⟩
    refine ⟨_, rfl, a, rfl, lc_both (K := K) ha1.sq (fun D i H' => Same H1 H' ∧ H' D = some (.lst ((List.replicate i true).map V.bl))) (fun D nD => ⟨Same.new nD, by rw [upd_same]; rfl⟩) (fun D i H' _ _ p => p.1) ?_ ?_⟩
    · rintro D i x H' nD hi ⟨s2, hD⟩
      have hil : i < xs.length := by
        have := (List.getElem?_eq_some_iff.mp hi).1
        simpa using this
      have hacc : ((List.replicate i true).map V.bl).length < sizeLine := by
        rw [List.length_map, List.length_replicate]
        exact Nat.lt_of_lt_of_le hil (Nat.le_trans hz (by decide))
      have hup : upd H' D (.lst ((List.replicate i true).map V.bl ++ [.bl true])) D = some (.lst ((List.replicate (i + 1) true).map V.bl)) := by
        rw [upd_same, List.replicate_succ', List.map_append]
        rfl
      obtain ⟨z, hz', rfl⟩ : ∃ z, xs[i]? = some z ∧ x = V.str z := by
        rw [List.getElem?_map] at hi
        obtain ⟨z, e, q⟩ := Option.map_eq_some_iff.mp hi
        exact ⟨z, e, q.symm⟩
      obtain ⟨b0, b1⟩ := hb z (List.mem_of_getElem? hz')
      refine ⟨rfl, ?_⟩
      refine ⟨_, rfl, z, rfl, b0, b1, fun J sJ => ?_⟩
      refine ⟨_, sJ _ _ hD, hacc, Same.mut (s2.trans sJ) nD, ?_⟩
      rw [upd_same, List.replicate_succ', List.map_append]
      rfl
    · rintro D H' nD ⟨s2, hD⟩
      refine ⟨D, _, rfl, SqL.of hD, ?_⟩
      rw [all_trues]
      exact k H' (s1.trans s2)
/-- what may stand in a tuple of constants, d deep -/
inductive KIn (H : Hp) : Nat → V → Prop
  | non {d : Nat} : KIn H d .non
  | bl {d : Nat} (b : Bool) : KIn H d (.bl b)
  | int {d : Nat} (i : Int) : KIn H d (.int i)
  | str {d : Nat} (x : Str) (h1 : x.cps.size ≤ 1000) (h2 : OkS x) : KIn H d (.str x)
  | tup {d : Nat} {a : Addr} {xs : List V} (h : H a = some (.tup xs)) (hl : xs.length ≤ 100000) (hx : ∀ x ∈ xs, KIn H d x) : KIn H (d + 1) (.ref a)
theorem KIn.same {H H' : Hp} (s : Same H H') : ∀ {d : Nat} {x : V}, KIn H d x → KIn H' d x
  | _, _, .non => .non
  | _, _, .bl b => .bl b
  | _, _, .int i => .int i
  | _, _, .str x h1 h2 => .str x h1 h2
  | _, _, .tup h hl hx => .tup (s _ _ h) hl fun x m => KIn.same s (hx x m)
theorem KIn.up {H : Hp} : ∀ {d : Nat} {x : V}, KIn H d x → KIn H (d + 1) x
  | _, _, .non => .non
  | _, _, .bl b => .bl b
  | _, _, .int i => .int i
  | _, _, .str x h1 h2 => .str x h1 h2
  | _, _, .tup h hl hx => .tup h hl fun x m => KIn.up (hx x m)
/-- a Code among the constants, nested j -/
def KCode (Cc : Addr) (H : Hp) (x : V) (j : Int) : Prop := ∃ (a dx : Addr) (fs : List (Str × V)), x = .ref a ∧ H a = some (.ins Cc dx fs) ∧ fs.lookup ("nested" : Str) = some (.int j) ∧ 1 ≤ j ∧ j < 100
theorem KCode.same {Cc : Addr} {H H' : Hp} {x : V} {j : Int} (s : Same H H') (h : KCode Cc H x j) : KCode Cc H' x j := by
  obtain ⟨a, dx, fs, e, h, k⟩ := h
  exact ⟨a, dx, fs, e, s _ _ h, k⟩
def spConst (Cc : Addr) (d : Nat) : Sp := fun vs H Q _ => ∃ (x : V) (n : Int), vs = [x, .int n] ∧ 0 ≤ n ∧ n + d ≤ 100 ∧ (KIn H d x ∨ n = 0 ∧ ∃ j, KCode Cc H x j) ∧ ∀ H', Same H H' → Q (.bl true) H'
theorem ktt {K : PySem.W.Frag} : PySem.W.kitOne K (.type "tuple") (.type "tuple") = some true := kit_ty (by decide +kernel)
theorem knt {K : PySem.W.Frag} {t : String} (h : t ∈ ["NoneType", "bool", "int", "str"]) : PySem.W.kitOne K (.type t) (.type "tuple") = some false := by
  simp only [List.mem_cons, List.mem_nil_iff, or_false] at h
  rcases h with rfl | rfl | rfl | rfl <;> exact kit_ty (by decide +kernel)
theorem kbi {K : PySem.W.Frag} : PySem.W.kitOne K (.type "bool") (.type "int") = some true := kit_ty (by decide +kernel)
theorem ksi {K : PySem.W.Frag} : PySem.W.kitOne K (.type "str") (.type "int") = some false := kit_ty (by decide +kernel)
abbrev N_is_constant : List Str := ["value", "nested", "one"]
theorem sc_is_constant : FnScope N_is_constant ["value", "nested"] (defScope s_is_constant) := ⟨rfl, rfl, rfl, by decide +kernel, rfl, by decide +kernel, by decide +kernel⟩
section
variable {Cc Cn fI : Addr}
/-- what is asked of Code's own type besides -/
structure GlC (K : PySem.W.Frag) (Cc : Addr) : Prop where
  nt : PySem.W.kitOne K (.ref Cc) (.type "tuple") = some false
theorem const_zero {f : Addr} {fd : FuncData} (T : Gl2 mg) (G : GlK P K mg Cc Cn fI) (GC : GlC K Cc) (c_is_string : CalX P w K mg base 1 "is_string" spStr) (F : DefX K mg "is_constant" s_is_constant ["value", "nested"] f fd) : CalX P w K mg base 2 "is_constant" (spConst Cc 0) := by
  refine calx F sc_is_constant (fun vs H Q E h => ?_) (fun cdv A outer s H vs Q E hr h => ?_)
  · obtain ⟨x, n, rfl, _⟩ := h
    rfl
  · obtain ⟨x, n, rfl, n0, n1, hx, k⟩ := h
    refine ⟨_, (pss_cons (ps_if (pt_val (pe_callB call_isi (by rfl) T.n_isinstance Boot.«isinstance» (pa_cons (pv 0) (pa_cons (pe_bltn (v := .ty "tuple") (by rfl) T.n_tuple Boot.«tuple» rfl) pa_nil))))
      (pss_one ps_never)
      pss_nil)
    (pss_cons (ps_if (pt_val (pe_callB call_isi (by rfl) T.n_isinstance Boot.«isinstance» (pa_cons (pv 0) (pa_cons (C8.pe_gc rfl G.c_Code) pa_nil))))
      (pss_one (ps_ret (pe_and (pe_cmpR op_eq (pv 1) pe_int (nomark _)) (pe_one (pe_cmpR op_lt (pe_fld (pv 0) rfl) (C8.pe_gc rfl T.c_MOST_NESTED) (nomark _))))))
      pss_nil)
    (pss_one (ps_ret (pe_or (pe_cmpR op_isN (pv 0) pe_non (nomark _)) (pe_or (pe_callB call_isi (by rfl) T.n_isinstance Boot.«isinstance» (pa_cons (pv 0) (pa_cons (pe_bltn (v := .ty "int") (by rfl) T.n_int Boot.«int» rfl) pa_nil))) (pe_one (pe_cx c_is_string (hr.mono (Nat.succ_le_succ (Nat.zero_le _))) (Nat.le_refl _) rfl (pa_cons (pv 0) pa_nil))))))))), ?_⟩
    rcases hx with hx | ⟨rfl, j, a, dx, fs, rfl, ha, hl, j0, j1⟩
    rotate_left
    · have ty : TyX K H (.ref a) (.ref Cc) := .base (.ins ha G.ins.cl G.ins.ha G.ins.hn G.ins.htk G.ins.hm)
      refine ⟨_, rfl, V.ref a, V.ty "tuple", .ref Cc, .type "tuple", false, rfl, .ty "tuple", ty, GC.nt, _, rfl, iteF ?_⟩
      refine ⟨_, rfl, V.ref a, V.ref Cc, .ref Cc, .ref Cc, true, rfl, .own Cc, ty, G.ins.me, _, rfl, iteT ?_⟩
      refine ⟨_, rfl, rfl, _, rfl, iteT ?_⟩
      refine ⟨_, rfl, a, Cc, dx, fs, _, rfl, ha, G.ins.cl, G.na _ (by decide), hl, _, _, rfl, rfl, ?_⟩
      have e : decide (j < (100 : Int)) = true := decide_eq_true j1
      show Q (V.bl (decide (j < 100))) H
      rw [e]
      exact k _ (Same.refl _)
    cases hx with
    | non =>
      refine ⟨_, rfl, V.non, V.ty "tuple", .type "NoneType", .type "tuple", false, rfl, .ty "tuple", .base .non, knt (by simp), _, rfl, iteF ?_⟩
      refine ⟨_, rfl, V.non, V.ref Cc, .type "NoneType", .ref Cc, false, rfl, .own Cc, .base .non, G.no "NoneType" (by decide), _, rfl, iteF ?_⟩
      refine ⟨_, rfl, rfl, _, rfl, iteT ?_⟩
      exact k _ (Same.refl _)
    | bl b =>
      refine ⟨_, rfl, V.bl b, V.ty "tuple", .type "bool", .type "tuple", false, rfl, .ty "tuple", .base (.bl b), knt (by simp), _, rfl, iteF ?_⟩
      refine ⟨_, rfl, V.bl b, V.ref Cc, .type "bool", .ref Cc, false, rfl, .own Cc, .base (.bl b), G.no "bool" (by decide), _, rfl, iteF ?_⟩
      refine ⟨_, rfl, rfl, _, rfl, iteF ?_⟩
      refine ⟨_, rfl, V.bl b, V.ty "int", .type "bool", .type "int", true, rfl, .ty "int", .base (.bl b), kbi, _, rfl, iteT ?_⟩
      exact k _ (Same.refl _)
    | int i =>
      refine ⟨_, rfl, V.int i, V.ty "tuple", .type "int", .type "tuple", false, rfl, .ty "tuple", .base (.int i), knt (by simp), _, rfl, iteF ?_⟩
      refine ⟨_, rfl, V.int i, V.ref Cc, .type "int", .ref Cc, false, rfl, .own Cc, .base (.int i), G.no "int" (by decide), _, rfl, iteF ?_⟩
      refine ⟨_, rfl, rfl, _, rfl, iteF ?_⟩
      refine ⟨_, rfl, V.int i, V.ty "int", .type "int", .type "int", true, rfl, .ty "int", .base (.int i), ii, _, rfl, iteT ?_⟩
      exact k _ (Same.refl _)
    | str z h1 h2 =>
      refine ⟨_, rfl, V.str z, V.ty "tuple", .type "str", .type "tuple", false, rfl, .ty "tuple", .base (.str z), knt (by simp), _, rfl, iteF ?_⟩
      refine ⟨_, rfl, V.str z, V.ref Cc, .type "str", .ref Cc, false, rfl, .own Cc, .base (.str z), G.no "str" (by decide), _, rfl, iteF ?_⟩
      refine ⟨_, rfl, rfl, _, rfl, iteF ?_⟩
      refine ⟨_, rfl, V.str z, V.ty "int", .type "str", .type "int", false, rfl, .ty "int", .base (.str z), ksi, _, rfl, iteF ?_⟩
      exact ⟨_, rfl, z, rfl, h1, h2, fun J sJ => k J sJ⟩
theorem const_succ {f : Addr} {fd : FuncData} (d : Nat) (T : Gl2 mg) (G : GlK P K mg Cc Cn fI) (GC : GlC K Cc) (c_is_string : CalX P w K mg base 1 "is_string" spStr) (ih : CalX P w K mg base (d + 2) "is_constant" (spConst Cc d)) (F : DefX K mg "is_constant" s_is_constant ["value", "nested"] f fd) : CalX P w K mg base (d + 3) "is_constant" (spConst Cc (d + 1)) := by
  refine calx F sc_is_constant (fun vs H Q E h => ?_) (fun cdv A outer s H vs Q E hr h => ?_)
  · obtain ⟨x, n, rfl, _⟩ := h
    rfl
  · obtain ⟨x, n, rfl, n0, n1, hx, k⟩ := h
    refine ⟨_, (pss_cons (ps_if (pt_val (pe_callB call_isi (by rfl) T.n_isinstance Boot.«isinstance» (pa_cons (pv 0) (pa_cons (pe_bltn (v := .ty "tuple") (by rfl) T.n_tuple Boot.«tuple» rfl) pa_nil))))
      (pss_one (ps_ret (pe_and (pe_cmpR op_lt (pv 1) (C8.pe_gc rfl T.c_MOST_NESTED) (nomark _)) (pe_one (pe_callB (cr_all rfl) (by rfl) T.n_all Boot.«all» (pa_cons (pe_lc (own := [("one", 2)]) (g := gName 2) (tt := tYes) rfl sc_is_constant.nd (pi_tup (pv 0)) (blkOk_by (own := [("one", 2)]) (N := N_is_constant) (sc := defScope s_is_constant) (by decide +kernel)) (fun _ _ _ _ _ => (pg_name (i := 2) sc_is_constant.nd rfl (Or.inl rfl))) (fun _ _ _ _ _ => pts_nil) (fun _ _ _ _ _ => (pe_cx ih hr (Nat.le_refl _) rfl (pa_cons (pv 2) (pa_cons (pe_op op_add (pv 1) pe_int) pa_nil))))) pa_nil))))))
      pss_nil)
    (pss_cons (ps_if (pt_val (pe_callB call_isi (by rfl) T.n_isinstance Boot.«isinstance» (pa_cons (pv 0) (pa_cons (C8.pe_gc rfl G.c_Code) pa_nil))))
      (pss_one (ps_ret (pe_and (pe_cmpR op_eq (pv 1) pe_int (nomark _)) (pe_one (pe_cmpR op_lt (pe_fld (pv 0) rfl) (C8.pe_gc rfl T.c_MOST_NESTED) (nomark _))))))
      pss_nil)
    (pss_one (ps_ret (pe_or (pe_cmpR op_isN (pv 0) pe_non (nomark _)) (pe_or (pe_callB call_isi (by rfl) T.n_isinstance Boot.«isinstance» (pa_cons (pv 0) (pa_cons (pe_bltn (v := .ty "int") (by rfl) T.n_int Boot.«int» rfl) pa_nil))) (pe_one (pe_cx c_is_string (hr.mono (Nat.succ_le_succ (Nat.zero_le _))) (Nat.le_refl _) rfl (pa_cons (pv 0) pa_nil))))))))), ?_⟩
    rcases hx with hx | ⟨rfl, j, a, dx, fs, rfl, ha, hl, j0, j1⟩
    rotate_left
    · have ty : TyX K H (.ref a) (.ref Cc) := .base (.ins ha G.ins.cl G.ins.ha G.ins.hn G.ins.htk G.ins.hm)
      refine ⟨_, rfl, V.ref a, V.ty "tuple", .ref Cc, .type "tuple", false, rfl, .ty "tuple", ty, GC.nt, _, rfl, iteF ?_⟩
      refine ⟨_, rfl, V.ref a, V.ref Cc, .ref Cc, .ref Cc, true, rfl, .own Cc, ty, G.ins.me, _, rfl, iteT ?_⟩
      refine ⟨_, rfl, rfl, _, rfl, iteT ?_⟩
      refine ⟨_, rfl, a, Cc, dx, fs, _, rfl, ha, G.ins.cl, G.na _ (by decide), hl, _, _, rfl, rfl, ?_⟩
      have e : decide (j < (100 : Int)) = true := decide_eq_true j1
      show Q (V.bl (decide (j < 100))) H
      rw [e]
      exact k _ (Same.refl _)
    cases hx with
    | non =>
      refine ⟨_, rfl, V.non, V.ty "tuple", .type "NoneType", .type "tuple", false, rfl, .ty "tuple", .base .non, knt (by simp), _, rfl, iteF ?_⟩
      refine ⟨_, rfl, V.non, V.ref Cc, .type "NoneType", .ref Cc, false, rfl, .own Cc, .base .non, G.no "NoneType" (by decide), _, rfl, iteF ?_⟩
      refine ⟨_, rfl, rfl, _, rfl, iteT ?_⟩
      exact k _ (Same.refl _)
    | bl b =>
      refine ⟨_, rfl, V.bl b, V.ty "tuple", .type "bool", .type "tuple", false, rfl, .ty "tuple", .base (.bl b), knt (by simp), _, rfl, iteF ?_⟩
      refine ⟨_, rfl, V.bl b, V.ref Cc, .type "bool", .ref Cc, false, rfl, .own Cc, .base (.bl b), G.no "bool" (by decide), _, rfl, iteF ?_⟩
      refine ⟨_, rfl, rfl, _, rfl, iteF ?_⟩
      refine ⟨_, rfl, V.bl b, V.ty "int", .type "bool", .type "int", true, rfl, .ty "int", .base (.bl b), kbi, _, rfl, iteT ?_⟩
      exact k _ (Same.refl _)
    | int i =>
      refine ⟨_, rfl, V.int i, V.ty "tuple", .type "int", .type "tuple", false, rfl, .ty "tuple", .base (.int i), knt (by simp), _, rfl, iteF ?_⟩
      refine ⟨_, rfl, V.int i, V.ref Cc, .type "int", .ref Cc, false, rfl, .own Cc, .base (.int i), G.no "int" (by decide), _, rfl, iteF ?_⟩
      refine ⟨_, rfl, rfl, _, rfl, iteF ?_⟩
      refine ⟨_, rfl, V.int i, V.ty "int", .type "int", .type "int", true, rfl, .ty "int", .base (.int i), ii, _, rfl, iteT ?_⟩
      exact k _ (Same.refl _)
    | str z h1 h2 =>
      refine ⟨_, rfl, V.str z, V.ty "tuple", .type "str", .type "tuple", false, rfl, .ty "tuple", .base (.str z), knt (by simp), _, rfl, iteF ?_⟩
      refine ⟨_, rfl, V.str z, V.ref Cc, .type "str", .ref Cc, false, rfl, .own Cc, .base (.str z), G.no "str" (by decide), _, rfl, iteF ?_⟩
      refine ⟨_, rfl, rfl, _, rfl, iteF ?_⟩
      refine ⟨_, rfl, V.str z, V.ty "int", .type "str", .type "int", false, rfl, .ty "int", .base (.str z), ksi, _, rfl, iteF ?_⟩
      exact ⟨_, rfl, z, rfl, h1, h2, fun J sJ => k J sJ⟩
    | @tup _ a xs h hl hx =>
      refine ⟨_, rfl, V.ref a, V.ty "tuple", .type "tuple", .type "tuple", true, rfl, .ty "tuple", .base (.tup h), ktt, _, rfl, iteT ?_⟩
      refine ⟨_, rfl, _, _, rfl, rfl, _, rfl, ite2 (fun _ => ?_) (fun c => absurd (decide_eq_true (by omega)) c)⟩
      refine ⟨_, rfl, a, rfl, ⟨_, SqT.of h⟩, fun D nD => lc_tup (K := K) (a := a) (xs := xs) (fun i H' => Same H H' ∧ H' D = some (.lst ((List.replicate i true).map V.bl))) ⟨Same.new nD, by rw [upd_same]; rfl⟩ (fun i H' _ p => SqT.of (p.1 _ _ h)) ?_ ?_⟩
      · rintro i x H' hi ⟨s2, hD⟩
        have hil : i < xs.length := (List.getElem?_eq_some_iff.mp hi).1
        refine ⟨rfl, ?_⟩
        refine ⟨_, rfl, _, rfl, _, _, rfl, rfl, x, n + 1, rfl, by omega, by omega, .inl ((hx x (List.mem_of_getElem? hi)).same s2), fun J sJ => ?_⟩
        refine ⟨_, sJ _ _ hD, ?_, Same.mut (s2.trans sJ) nD, ?_⟩
        · rw [List.length_map, List.length_replicate]
          exact Nat.lt_of_lt_of_le hil (Nat.le_trans hl (by decide))
        · rw [upd_same, List.replicate_succ', List.map_append]
          rfl
      · rintro H' ⟨s2, hD⟩
        refine ⟨D, _, rfl, SqL.of hD, ?_⟩
        rw [all_trues]
        exact k H' s2
theorem ok_is_constant {f : Addr} {fd : FuncData} (T : Gl2 mg) (G : GlK P K mg Cc Cn fI) (GC : GlC K Cc) (c_is_string : CalX P w K mg base 1 "is_string" spStr) (F : DefX K mg "is_constant" s_is_constant ["value", "nested"] f fd) : ∀ d, CalX P w K mg base (d + 2) "is_constant" (spConst Cc d)
  | 0 => const_zero T G GC c_is_string F
  | d + 1 => const_succ d T G GC c_is_string (ok_is_constant T G GC c_is_string F d) F
def spConsts (Cc : Addr) (d : Nat) : Sp := fun vs H Q _ => ∃ (a : Addr) (xs : List V), vs = [.ref a] ∧ LorT H a xs ∧ (∀ x ∈ xs, KIn H d x ∨ ∃ j, KCode Cc H x j) ∧ xs.length ≤ 100000 ∧ ∀ H', Same H H' → Q (.bl true) H'
abbrev N_are_constants : List Str := ["value", "one"]
theorem sc_are_constants : FnScope N_are_constants ["value"] (defScope s_are_constants) := ⟨rfl, rfl, rfl, by decide +kernel, rfl, by decide +kernel, by decide +kernel⟩
theorem ok_are_constants {f : Addr} {fd : FuncData} (T : Gl2 mg) {d : Nat} (hd : d ≤ 100) (c_is_constant : CalX P w K mg base (d + 2) "is_constant" (spConst Cc d)) (F : DefX K mg "are_constants" s_are_constants ["value"] f fd) : CalX P w K mg base (d + 3) "are_constants" (spConsts Cc d) := by
  refine calx F sc_are_constants (fun vs H Q E h => ?_) (fun cdv A outer s H vs Q E hr h => ?_)
  · obtain ⟨a, xs, rfl, _⟩ := h
    rfl
  · obtain ⟨a, xs, rfl, ha, hb, hz, k⟩ := h
    refine ⟨_, (pss_one (ps_ret (pe_and (pe_callB call_isiT (by rfl) T.n_isinstance Boot.«isinstance» (pa_cons (pv 0) (pa_cons (pe_tup (pa_cons (pe_bltn (v := .ty "list") (by rfl) T.n_list Boot.«list» rfl) (pa_cons (pe_bltn (v := .ty "tuple") (by rfl) T.n_tuple Boot.«tuple» rfl) pa_nil))) pa_nil))) (pe_one (pe_callB (cr_all rfl) (by rfl) T.n_all Boot.«all» (pa_cons (pe_lc (own := [("one", 1)]) (g := gName 1) (tt := tYes) rfl sc_are_constants.nd (pi_seq (pv 0)) (blkOk_by (own := [("one", 1)]) (N := N_are_constants) (sc := defScope s_are_constants) (by decide +kernel)) (fun _ _ _ _ _ => (pg_name (i := 1) sc_are_constants.nd rfl (Or.inl rfl))) (fun _ _ _ _ _ => pts_nil) (fun _ _ _ _ _ => (pe_cx c_is_constant hr (Nat.le_refl _) rfl (pa_cons (pv 1) (pa_cons pe_int pa_nil))))) pa_nil)))))), ?_⟩
    refine ⟨_, rfl, (by show 2 ≤ sizeLine; decide), ?_⟩
    walk_at "new1"
    have ha1 := ha.same s1
    obtain ⟨t, ty, kt⟩ := ha1.ty (K := K)
    refine ⟨V.ref a, p1, _, .type t, _, true, rfl, h1, two_cls, ty, kt, _, rfl, iteT ?_⟩
    refine ⟨_, rfl, a, rfl, lc_both (K := K) ha1.sq (fun D i H' => Same H1 H' ∧ H' D = some (.lst ((List.replicate i true).map V.bl))) (fun D nD => ⟨Same.new nD, by rw [upd_same]; rfl⟩) (fun D i H' _ _ p => p.1) ?_ ?_⟩
    · rintro D i x H' nD hi ⟨s2, hD⟩
      have hil : i < xs.length := by
        have := (List.getElem?_eq_some_iff.mp hi).1
        simpa using this
      have hacc : ((List.replicate i true).map V.bl).length < sizeLine := by
        rw [List.length_map, List.length_replicate]
        exact Nat.lt_of_lt_of_le hil (Nat.le_trans hz (by decide))
      have hup : upd H' D (.lst ((List.replicate i true).map V.bl ++ [.bl true])) D = some (.lst ((List.replicate (i + 1) true).map V.bl)) := by
        rw [upd_same, List.replicate_succ', List.map_append]
        rfl
      refine ⟨rfl, ?_⟩
      refine ⟨_, rfl, x, 0, rfl, by decide, by omega, ?_, fun J sJ => ?_⟩
      · rcases hb x (List.mem_of_getElem? hi) with z | ⟨j, z⟩
        · exact .inl ((z.same s1).same s2)
        · exact .inr ⟨rfl, j, (z.same s1).same s2⟩
      refine ⟨_, sJ _ _ hD, hacc, Same.mut (s2.trans sJ) nD, ?_⟩
      rw [upd_same, List.replicate_succ', List.map_append]
      rfl
    · rintro D H' nD ⟨s2, hD⟩
      refine ⟨D, _, rfl, SqL.of hD, ?_⟩
      rw [all_trues]
      exact k H' (s1.trans s2)
end
end
end K57
set_option maxHeartbeats 4000000
set_option hygiene false in
local macro_rules | `(tactic| walk_at "fld") => `(tactic| (generalize eu : upd _ self (HO.ins _ _ _) = Hn; (have hs := (congrArg (fun z : Hp => z self = some _) eu).mp upd_same); (have B := (congrArg (But self H) eu).mp (But.upd B)); (have ln := fldlen hs ln); clear eu))
set_option hygiene false in
local macro_rules | `(tactic| walk_at "fld3") => `(tactic| (generalize eu : upd _ self (HO.ins _ _ _) = Hn; (have hs := (congrArg (fun z : Hp => z self = some _) eu).mp upd_same); (have B := (congrArg (But self H) eu).mp (But.upd B)); (have B3 := (congrArg (But self H3) eu).mp (But.upd B3)); (have ln := fldlen hs ln); clear eu))
set_option hygiene false in
local macro_rules | `(tactic| walk_at "new1") => `(tactic| (intro p1 n1; generalize e1 : upd _ p1 _ = H1; (have s1 := (congrArg (Same _) e1).mp (Same.new n1)); (have h1 := (congrArg (fun z : Hp => z p1 = some _) e1).mp upd_same); clear e1))
set_option hygiene false in
local macro_rules | `(tactic| walk_at "new2") => `(tactic| (intro p2 n2; generalize e2 : upd _ p2 _ = H2; (have s2 := (congrArg (Same _) e2).mp (Same.new n2)); (have h2 := (congrArg (fun z : Hp => z p2 = some _) e2).mp upd_same); clear e2))
set_option hygiene false in
local macro_rules | `(tactic| walk_at "new3") => `(tactic| (intro p3 n3; generalize e3 : upd _ p3 _ = H3; (have s3 := (congrArg (Same _) e3).mp (Same.new n3)); (have h3 := (congrArg (fun z : Hp => z p3 = some _) e3).mp upd_same); clear e3))
set_option hygiene false in
local macro_rules | `(tactic| walk_at "new4") => `(tactic| (intro p4 n4; generalize e4 : upd _ p4 _ = H4; (have s4 := (congrArg (Same _) e4).mp (Same.new n4)); (have h4 := (congrArg (fun z : Hp => z p4 = some _) e4).mp upd_same); clear e4))
set_option hygiene false in
local macro_rules | `(tactic| walk_at "new5") => `(tactic| (intro p5 n5; generalize e5 : upd _ p5 _ = H5; (have s5 := (congrArg (Same _) e5).mp (Same.new n5)); (have h5 := (congrArg (fun z : Hp => z p5 = some _) e5).mp upd_same); clear e5))
set_option hygiene false in
local macro_rules | `(tactic| walk_at "new6") => `(tactic| (intro p6 n6; generalize e6 : upd _ p6 _ = H6; (have s6 := (congrArg (Same _) e6).mp (Same.new n6)); (have h6 := (congrArg (fun z : Hp => z p6 = some _) e6).mp upd_same); clear e6))
set_option hygiene false in
local macro_rules | `(tactic| walk_at "new7") => `(tactic| (intro p7 n7; generalize e7 : upd _ p7 _ = H7; (have s7 := (congrArg (Same _) e7).mp (Same.new n7)); (have h7 := (congrArg (fun z : Hp => z p7 = some _) e7).mp upd_same); clear e7))
set_option hygiene false in
local macro_rules | `(tactic| walk_at "new8") => `(tactic| (intro p8 n8; generalize e8 : upd _ p8 _ = H8; (have s8 := (congrArg (Same _) e8).mp (Same.new n8)); (have h8 := (congrArg (fun z : Hp => z p8 = some _) e8).mp upd_same); clear e8))
set_option hygiene false in
local macro_rules | `(tactic| walk_at "new9") => `(tactic| (intro p9 n9; generalize e9 : upd _ p9 _ = H9; (have s9 := (congrArg (Same _) e9).mp (Same.new n9)); (have h9 := (congrArg (fun z : Hp => z p9 = some _) e9).mp upd_same); clear e9))
namespace K57
open PySem PySem.Spec PyProof.Rows L2 Nd
abbrev s_Code_init : Stmt := metOf (top 15) 0
abbrev s_Code_look : Stmt := metOf (top 15) 1
def isNum (v : V) : Prop := ∃ i : Int, v = .int i ∧ 0 ≤ i ∧ i ≤ 2147483647
def isTxt (v : V) : Prop := ∃ x : Str, v = .str x ∧ x.cps.size ≤ 1000 ∧ OkS x
def isByt (H : Hp) (v : V) : Prop := ∃ (a : Addr) (ns : List Int), v = .ref a ∧ LorT H a (ns.map V.int) ∧ (∀ n ∈ ns, 0 ≤ n ∧ n ≤ 255) ∧ ns.length ≤ 100000
theorem isByt.same {H H' : Hp} {v : V} (s : Same H H') (h : isByt H v) : isByt H' v := by
  obtain ⟨a, ns, e, h, k⟩ := h
  exact ⟨a, ns, e, h.same s, k⟩
/-- a constant of a Code -/
def KTop (Cc : Addr) (d : Nat) (H : Hp) (x : V) : Prop := KIn H d x ∨ ∃ j, KCode Cc H x j
theorem KTop.same {Cc : Addr} {d : Nat} {H H' : Hp} {x : V} (s : Same H H') (h : KTop Cc d H x) : KTop Cc d H' x := h.imp (KIn.same s) fun ⟨j, z⟩ => ⟨j, z.same s⟩
structure FsOk (Cc : Addr) (d : Nat) (H : Hp) (fs : List (Str × V)) : Prop where
  argcount : ∃ v, fs.lookup ("argcount" : Str) = some v ∧ isNum v
  onlycount : ∃ v, fs.lookup ("onlycount" : Str) = some v ∧ isNum v
  stacksize : ∃ v, fs.lookup ("stacksize" : Str) = some v ∧ isNum v
  flags : ∃ v, fs.lookup ("flags" : Str) = some v ∧ isNum v
  code : ∃ v, fs.lookup ("code" : Str) = some v ∧ isByt H v
  constants : ∃ v, fs.lookup ("constants" : Str) = some v ∧ ∃ (a : Addr) (xs : List V), v = .ref a ∧ LorT H a xs ∧ (∀ x ∈ xs, KTop Cc d H x) ∧ xs.length ≤ 100000
  names : ∃ v, fs.lookup ("names" : Str) = some v ∧ ∃ (a : Addr) (xs : List Str), v = .ref a ∧ LorT H a (xs.map V.str) ∧ (∀ x ∈ xs, x.cps.size ≤ 1000 ∧ OkS x) ∧ xs.length ≤ 100000
  slots : ∃ v u, fs.lookup ("slots" : Str) = some v ∧ fs.lookup ("kinds" : Str) = some u ∧ ∃ (a : Addr) (xs : List Str) (b : Addr) (ns : List Int), v = .ref a ∧ LorT H a (xs.map V.str) ∧ (∀ x ∈ xs, x.cps.size ≤ 1000 ∧ OkS x) ∧ xs.length ≤ 100000 ∧
    u = .ref b ∧ LorT H b (ns.map V.int) ∧ (∀ n ∈ ns, 0 ≤ n ∧ n ≤ 255) ∧ ns.length = xs.length
  name : ∃ v, fs.lookup ("name" : Str) = some v ∧ isTxt v
  path : ∃ v, fs.lookup ("path" : Str) = some v ∧ isTxt v
  line : ∃ v, fs.lookup ("line" : Str) = some v ∧ isNum v
  lines : ∃ v, fs.lookup ("lines" : Str) = some v ∧ isByt H v
  handlers : ∃ v, fs.lookup ("handlers" : Str) = some v ∧ isByt H v
def spLook (Cc : Addr) (d : Nat) : Sp := fun vs H Q _ => ∃ (self dx : Addr) (fs : List (Str × V)), vs = [.ref self] ∧ H self = some (.ins Cc dx fs) ∧ FsOk Cc d H fs ∧ ∀ H', Same H H' → Q .non H'
section
variable {P : Program} {w : World} {K : PySem.W.Frag} {mg : Str → Option Value} {base : Heap} {Cc Cn fI : Addr}
abbrev N_Code_look : List Str := ["self", "numbers", "found", "lasts", "field", "one"]
theorem sc_Code_look : FnScope N_Code_look ["self"] (defScope s_Code_look) := ⟨rfl, rfl, rfl, by decide +kernel, rfl, by decide +kernel, by decide +kernel⟩
theorem ok_Code_look {f : Addr} {fd : FuncData} (T : Gl0 mg) (G : GlK P K mg Cc Cn fI) (c_is_number : CalX P w K mg base 1 "is_number" spNum) (c_is_string : CalX P w K mg base 1 "is_string" spStr) (c_are_bytes : CalX P w K mg base 2 "are_bytes" spBytesOf)
    (c_are_strings : CalX P w K mg base 2 "are_strings" spStrs) {d : Nat} (c_are_constants : CalX P w K mg base (d + 3) "are_constants" (spConsts Cc d)) (F : MetX K "look" "Code.look" s_Code_look ["self"] f fd) : FnOk P w K mg base (L2.CX P w) (d + 4) f fd ["self"] (spLook Cc d) := by
  refine F.fn.ok sc_Code_look (fun vs H Q E h => ?_) (fun cdv A outer s H vs Q E hr h => ?_)
  · obtain ⟨x, dx, fs, rfl, _⟩ := h
    rfl
  · obtain ⟨self, dx, fs, rfl, hs, ok, k⟩ := h
    refine ⟨_, PSs.nox (pss_cons (ps_set (i := 1) sc_Code_look.nd rfl (.inl rfl) (pe_lst (pa_cons (pe_tup (pa_cons pe_str (pa_cons (pe_fld (pv 0) rfl) pa_nil))) (pa_cons (pe_tup (pa_cons pe_str (pa_cons (pe_fld (pv 0) rfl) pa_nil))) (pa_cons (pe_tup (pa_cons pe_str (pa_cons (pe_fld (pv 0) rfl) pa_nil))) pa_nil)))))
    (pss_cons (ps_setLc (i := 2) (y := "found") (own := [("field", 4), ("one", 5)]) (g := gTup K 2 (gCons (gName 4) (gCons (gName 5) gNil))) rfl sc_Code_look.nd rfl rfl (sw_true rfl rfl rfl (by decide +kernel)) (pi_list (pe_op op_cat (pv 1) (pe_lst (pa_cons (pe_tup (pa_cons pe_str (pa_cons (pe_fld (pv 0) rfl) pa_nil))) pa_nil)))) (blkOk_by (own := [("field", 4), ("one", 5)]) (N := N_Code_look) (sc := defScope s_Code_look) (by decide +kernel)) (fun _ _ _ _ _ => (pg_tup rfl (pgs_cons (pg_name (i := 4) sc_Code_look.nd rfl (Or.inl rfl)) (pgs_cons (pg_name (i := 5) sc_Code_look.nd rfl (Or.inl rfl)) pgs_nil)))) (fun _ _ _ _ _ => (pts_one (pt_not (pt_val (pe_cx c_is_number hr (by omega) rfl (pa_cons (pv 5) pa_nil)))))) (fun _ _ _ _ _ => (pv 4)))
    (pss_cons (ps_set (i := 2) sc_Code_look.nd rfl (.inl rfl) (pe_op op_cat (pv 2) (pe_op op_rep (pe_lst (pa_cons pe_str pa_nil)) (pe_callTy call_int1 (by rfl) T.n_int Boot.«int» (pa_cons (pe_not (pe_cx c_are_bytes hr (by omega) rfl (pa_cons (pe_fld (pv 0) rfl) pa_nil))) pa_nil)))))
    (pss_cons (ps_set (i := 2) sc_Code_look.nd rfl (.inl rfl) (pe_op op_cat (pv 2) (pe_op op_rep (pe_lst (pa_cons pe_str pa_nil)) (pe_callTy call_int1 (by rfl) T.n_int Boot.«int» (pa_cons (pe_not (pe_cx c_are_constants hr (by omega) rfl (pa_cons (pe_fld (pv 0) rfl) pa_nil))) pa_nil)))))
    (pss_cons (ps_set (i := 2) sc_Code_look.nd rfl (.inl rfl) (pe_op op_cat (pe_op op_cat (pv 2) (pe_op op_rep (pe_lst (pa_cons pe_str pa_nil)) (pe_callTy call_int1 (by rfl) T.n_int Boot.«int» (pa_cons (pe_not (pe_cx c_are_strings hr (by omega) rfl (pa_cons (pe_fld (pv 0) rfl) pa_nil))) pa_nil)))) (pe_op op_rep (pe_lst (pa_cons pe_str pa_nil)) (pe_callTy call_int1 (by rfl) T.n_int Boot.«int» (pa_cons (pe_not (pe_cx c_are_strings hr (by omega) rfl (pa_cons (pe_fld (pv 0) rfl) pa_nil))) pa_nil)))))
    (pss_cons (ps_if (PW.pt (pw_and (pt_cmpR (op_eqD hr.units) (pv 2) (pe_lst pa_nil) (nomark _)) (pw_and1 (PW.pt (pw_or (pt_not (pt_val (pe_cx c_are_bytes hr (by omega) rfl (pa_cons (pe_fld (pv 0) rfl) pa_nil)))) (pw_or1 (pt_cmpR op_ne (pe_callB call_len_seq (by rfl) T.n_len Boot.«len» (pa_cons (pe_fld (pv 0) rfl) pa_nil)) (pe_callB call_len_seq (by rfl) T.n_len Boot.«len» (pa_cons (pe_fld (pv 0) rfl) pa_nil)) (nomark _))))))))
      (pss_one (ps_set (i := 2) sc_Code_look.nd rfl (.inl rfl) (pe_lst (pa_cons pe_str pa_nil))))
      pss_nil)
    (pss_cons (ps_set (i := 2) sc_Code_look.nd rfl (.inl rfl) (pe_op op_cat (pv 2) (pe_lc (own := [("field", 4), ("one", 5)]) (g := gTup K 2 (gCons (gName 4) (gCons (gName 5) gNil))) rfl sc_Code_look.nd (pi_list (pe_lst (pa_cons (pe_tup (pa_cons pe_str (pa_cons (pe_fld (pv 0) rfl) pa_nil))) (pa_cons (pe_tup (pa_cons pe_str (pa_cons (pe_fld (pv 0) rfl) pa_nil))) pa_nil)))) (blkOk_by (own := [("field", 4), ("one", 5)]) (N := N_Code_look) (sc := defScope s_Code_look) (by decide +kernel)) (fun _ _ _ _ _ => (pg_tup rfl (pgs_cons (pg_name (i := 4) sc_Code_look.nd rfl (Or.inl rfl)) (pgs_cons (pg_name (i := 5) sc_Code_look.nd rfl (Or.inl rfl)) pgs_nil)))) (fun _ _ _ _ _ => (pts_one (pt_not (pt_val (pe_cx c_is_string hr (by omega) rfl (pa_cons (pv 5) pa_nil)))))) (fun _ _ _ _ _ => (pv 4)))))
    (pss_cons (ps_set (i := 2) sc_Code_look.nd rfl (.inl rfl) (pe_op op_cat (pv 2) (pe_op op_rep (pe_lst (pa_cons pe_str pa_nil)) (pe_callTy call_int1 (by rfl) T.n_int Boot.«int» (pa_cons (pe_not (pe_cx c_is_number hr (by omega) rfl (pa_cons (pe_fld (pv 0) rfl) pa_nil))) pa_nil)))))
    (pss_cons (ps_set (i := 3) sc_Code_look.nd rfl (.inl rfl) (pe_lst (pa_cons (pe_tup (pa_cons pe_str (pa_cons (pe_fld (pv 0) rfl) pa_nil))) (pa_cons (pe_tup (pa_cons pe_str (pa_cons (pe_fld (pv 0) rfl) pa_nil))) pa_nil))))
    (pss_cons (ps_set (i := 2) sc_Code_look.nd rfl (.inl rfl) (pe_op op_cat (pv 2) (pe_lc (own := [("field", 4), ("one", 5)]) (g := gTup K 2 (gCons (gName 4) (gCons (gName 5) gNil))) rfl sc_Code_look.nd (pi_list (pv 3)) (blkOk_by (own := [("field", 4), ("one", 5)]) (N := N_Code_look) (sc := defScope s_Code_look) (by decide +kernel)) (fun _ _ _ _ _ => (pg_tup rfl (pgs_cons (pg_name (i := 4) sc_Code_look.nd rfl (Or.inl rfl)) (pgs_cons (pg_name (i := 5) sc_Code_look.nd rfl (Or.inl rfl)) pgs_nil)))) (fun _ _ _ _ _ => (pts_one (pt_not (pt_val (pe_cx c_are_bytes hr (by omega) rfl (pa_cons (pv 5) pa_nil)))))) (fun _ _ _ _ _ => (pv 4)))))
    (pss_one (ps_if (pt_cmpR (op_neD hr.units) (pv 2) (pe_lst pa_nil) (nomark _))
      (pss_one ps_never)
      pss_nil)))))))))))), ?_⟩
    have cl := G.ins.cl
    have na : ∀ f ∈ flds, NoAttr K Cc f := G.na
    have S : Same H H := Same.refl H
    obtain ⟨v1, l1, w1⟩ := ok.argcount
    obtain ⟨v2, l2, w2⟩ := ok.onlycount
    obtain ⟨v3, l3, w3⟩ := ok.stacksize
    obtain ⟨v4, l4, w4⟩ := ok.flags
    obtain ⟨v5, l5, a5, b5, rfl, w5⟩ := ok.code
    obtain ⟨v6, l6, a6, b6, rfl, w6⟩ := ok.constants
    obtain ⟨v7, l7, a7, b7, rfl, w7⟩ := ok.names
    obtain ⟨v8, v9, l8, l9, a8, b8, a9, b9, rfl, w8, w8b, w8c, rfl, w9, w9b, w89⟩ := ok.slots
    obtain ⟨v10, l10, w10⟩ := ok.name
    obtain ⟨v11, l11, w11⟩ := ok.path
    obtain ⟨v12, l12, x12, rfl, w12⟩ := ok.line
    obtain ⟨v13, l13, w13⟩ := ok.lines
    obtain ⟨v14, l14, w14⟩ := ok.handlers
    -- numbers
    refine ⟨_, rfl, self, Cc, dx, fs, v1, rfl, S _ _ hs, cl, na _ (by decide), l1, (by show 2 ≤ sizeLine; decide), ?_⟩
    walk_at "new1"
    have S := S.trans s1
    refine ⟨_, rfl, self, Cc, dx, fs, v2, rfl, S _ _ hs, cl, na _ (by decide), l2, (by show 2 ≤ sizeLine; decide), ?_⟩
    walk_at "new2"
    have S := S.trans s2
    refine ⟨_, rfl, self, Cc, dx, fs, v3, rfl, S _ _ hs, cl, na _ (by decide), l3, (by show 2 ≤ sizeLine; decide), ?_⟩
    walk_at "new3"
    have S := S.trans s3
    refine ⟨(by show 3 ≤ sizeLine; decide), ?_⟩
    walk_at "new4"
    have S := S.trans s4
    -- found
    refine ⟨_, rfl, _, rfl, self, Cc, dx, fs, v4, rfl, S _ _ hs, cl, na _ (by decide), l4, (by show 2 ≤ sizeLine; decide), ?_⟩
    walk_at "new5"
    have S := S.trans s5
    refine ⟨(by show 1 ≤ sizeLine; decide), ?_⟩
    walk_at "new6"
    have S := S.trans s6
    refine ⟨p4, p6, _, _, rfl, rfl, (s5.trans s6) _ _ h4, h6, (by show 4 ≤ sizeLine; decide), ?_⟩
    walk_at "new7"
    have S := S.trans s7
    have hx : ∀ x, x ∈ [V.ref p1, .ref p2, .ref p3, .ref p5] → ∃ p s v, x = .ref p ∧ H7 p = some (.tup [.str s, v]) ∧ isNum v := by
      intro x hx
      simp at hx
      rcases hx with rfl | rfl | rfl | rfl
      · exact ⟨p1, _, v1, rfl, (((((s2.trans s3).trans s4).trans s5).trans s6).trans s7) _ _ h1, w1⟩
      · exact ⟨p2, _, v2, rfl, ((((s3.trans s4).trans s5).trans s6).trans s7) _ _ h2, w2⟩
      · exact ⟨p3, _, v3, rfl, (((s4.trans s5).trans s6).trans s7) _ _ h3, w3⟩
      · exact ⟨p5, _, v4, rfl, (s6.trans s7) _ _ h5, w4⟩
    refine ⟨p7, rfl, ⟨_, SqL.of h7⟩, fun D nD => lc_list (K := K) (a := p7) (xs := [.ref p1, .ref p2, .ref p3, .ref p5]) (fun i H' => Same H7 H' ∧ H' D = some (.lst [])) ⟨Same.new nD, by rw [upd_same]⟩
      (fun i H' _ p => p.1.seq (SqL.of h7)) ?_ ?_⟩
    · rintro i x H' hi ⟨t, hD⟩
      obtain ⟨p, s, v, rfl, hp, n, rfl, n0, n1⟩ := hx x (List.mem_of_getElem? hi)
      refine ⟨p, _, rfl, SqT.of (t _ _ hp), rfl, _, _, rfl, _, _, rfl, rfl, ?_⟩
      exact ⟨rfl, _, rfl, n, rfl, n0, n1, _, rfl, iteF ⟨t, hD⟩⟩
    rintro J ⟨t, hf⟩
    have S := S.trans t
    clear hx
    -- code
    refine ⟨_, rfl, (by show 1 ≤ sizeLine; decide), ?_⟩
    walk_at "new1"
    have S := S.trans s1
    have hf := s1 _ _ hf
    refine ⟨_, rfl, self, Cc, dx, fs, _, rfl, S _ _ hs, cl, na _ (by decide), l5, a5, b5, rfl, w5.1.same S, w5.2.1, w5.2.2, fun J t => ?_⟩
    have S := S.trans t
    have hf := t _ _ hf
    have h1 := t _ _ h1
    refine ⟨_, rfl, .inr ⟨_, rfl, p1, _, _, rfl, rfl, h1, by decide, by decide, (by show 0 ≤ sizeLine; decide), ?_⟩⟩
    walk_at "new2"
    have S := S.trans s2
    have hf := s2 _ _ hf
    refine ⟨_, p2, _, _, rfl, rfl, hf, h2, (by show 0 ≤ sizeLine; decide), ?_⟩
    walk_at "new3"
    have S := S.trans s3
    replace hf : H3 p3 = some (.lst []) := h3
    -- constants
    refine ⟨_, rfl, (by show 1 ≤ sizeLine; decide), ?_⟩
    walk_at "new1"
    have S := S.trans s1
    have hf := s1 _ _ hf
    refine ⟨_, rfl, self, Cc, dx, fs, _, rfl, S _ _ hs, cl, na _ (by decide), l6, a6, b6, rfl, w6.1.same S, (fun x hx => (w6.2.1 x hx).same S), w6.2.2, fun J t => ?_⟩
    have S := S.trans t
    have hf := t _ _ hf
    have h1 := t _ _ h1
    refine ⟨_, rfl, .inr ⟨_, rfl, p1, _, _, rfl, rfl, h1, by decide, by decide, (by show 0 ≤ sizeLine; decide), ?_⟩⟩
    walk_at "new2"
    have S := S.trans s2
    have hf := s2 _ _ hf
    refine ⟨_, p2, _, _, rfl, rfl, hf, h2, (by show 0 ≤ sizeLine; decide), ?_⟩
    walk_at "new3"
    have S := S.trans s3
    replace hf : H3 p3 = some (.lst []) := h3
    -- names, slots
    refine ⟨_, rfl, (by show 1 ≤ sizeLine; decide), ?_⟩
    walk_at "new1"
    have S := S.trans s1
    have hf := s1 _ _ hf
    refine ⟨_, rfl, self, Cc, dx, fs, _, rfl, S _ _ hs, cl, na _ (by decide), l7, a7, b7, rfl, w7.1.same S, w7.2.1, w7.2.2, fun J t => ?_⟩
    have S := S.trans t
    have hf := t _ _ hf
    have h1 := t _ _ h1
    refine ⟨_, rfl, .inr ⟨_, rfl, p1, _, _, rfl, rfl, h1, by decide, by decide, (by show 0 ≤ sizeLine; decide), ?_⟩⟩
    walk_at "new2"
    have S := S.trans s2
    have hf := s2 _ _ hf
    refine ⟨_, p2, _, _, rfl, rfl, hf, h2, (by show 0 ≤ sizeLine; decide), ?_⟩
    walk_at "new3"
    have S := S.trans s3
    replace hf : H3 p3 = some (.lst []) := h3
    refine ⟨(by show 1 ≤ sizeLine; decide), ?_⟩
    walk_at "new1"
    have S := S.trans s1
    have hf := s1 _ _ hf
    refine ⟨_, rfl, self, Cc, dx, fs, _, rfl, S _ _ hs, cl, na _ (by decide), l8, a8, b8, rfl, w8.same S, w8b, w8c, fun J t => ?_⟩
    have S := S.trans t
    have hf := t _ _ hf
    have h1 := t _ _ h1
    refine ⟨_, rfl, .inr ⟨_, rfl, p1, _, _, rfl, rfl, h1, by decide, by decide, (by show 0 ≤ sizeLine; decide), ?_⟩⟩
    walk_at "new2"
    have S := S.trans s2
    have hf := s2 _ _ hf
    refine ⟨_, p2, _, _, rfl, rfl, hf, h2, (by show 0 ≤ sizeLine; decide), ?_⟩
    walk_at "new3"
    have S := S.trans s3
    replace hf : H3 p3 = some (.lst []) := h3
    -- kinds
    refine ⟨_, rfl, (by show 0 ≤ sizeLine; decide), ?_⟩
    walk_at "new1"
    have S := S.trans s1
    have hf := s1 _ _ hf
    refine ⟨_, _, Dp.lst (SqL.of hf) .nil, Dp.lst (SqL.of h1) .nil, rfl, rfl, _, rfl, ?_⟩
    refine ite2 (fun _ => ?_) (fun c => absurd rfl c)
    refine ⟨_, rfl, self, Cc, dx, fs, _, rfl, S _ _ hs, cl, na _ (by decide), l9, a9, b9, rfl, w9.same S, w9b, (by rw [w89]; exact w8c), fun J t => ?_⟩
    have S := S.trans t
    have hf := t _ _ hf
    refine ⟨_, rfl, iteF ?_⟩
    refine ⟨_, rfl, self, Cc, dx, fs, _, rfl, S _ _ hs, cl, na _ (by decide), l9, a9, _, rfl, (w9.same S).sq, _, rfl, self, Cc, dx, fs, _, rfl, S _ _ hs, cl, na _ (by decide), l8, a8, _, rfl, (w8.same S).sq, rfl, _, rfl, ?_⟩
    refine ite2 (fun c => absurd c (by rw [List.length_map, List.length_map, w89]; simp)) (fun _ => ?_)
    -- name, path
    refine ⟨_, rfl, ?_⟩
    refine ⟨_, rfl, self, Cc, dx, fs, v10, rfl, S _ _ hs, cl, na _ (by decide), l10, (by show 2 ≤ sizeLine; decide), ?_⟩
    walk_at "new1"
    have S := S.trans s1
    have hf := s1 _ _ hf
    refine ⟨_, rfl, self, Cc, dx, fs, v11, rfl, S _ _ hs, cl, na _ (by decide), l11, (by show 2 ≤ sizeLine; decide), ?_⟩
    walk_at "new2"
    have S := S.trans s2
    have hf := s2 _ _ hf
    refine ⟨(by show 2 ≤ sizeLine; decide), ?_⟩
    walk_at "new3"
    have S := S.trans s3
    have hf := s3 _ _ hf
    have hx : ∀ x, x ∈ [V.ref p1, .ref p2] → ∃ p s v, x = .ref p ∧ H3 p = some (.tup [.str s, v]) ∧ isTxt v := by
      intro x hx
      simp at hx
      rcases hx with rfl | rfl
      · exact ⟨p1, _, v10, rfl, (s2.trans s3) _ _ h1, w10⟩
      · exact ⟨p2, _, v11, rfl, s3 _ _ h2, w11⟩
    refine ⟨p3, rfl, ⟨_, SqL.of h3⟩, fun D nD => lc_list (K := K) (a := p3) (xs := [.ref p1, .ref p2]) (fun i H' => Same H3 H' ∧ H' D = some (.lst [])) ⟨Same.new nD, by rw [upd_same]⟩
      (fun i H' _ p => p.1.seq (SqL.of h3)) ?_ ?_⟩
    · rintro i x H' hi ⟨t, hD⟩
      obtain ⟨p, s, v, rfl, hp, n, rfl, n0, n1⟩ := hx x (List.mem_of_getElem? hi)
      refine ⟨p, _, rfl, SqT.of (t _ _ hp), rfl, _, _, rfl, _, _, rfl, rfl, ?_⟩
      exact ⟨rfl, _, rfl, n, rfl, n0, n1, fun J' t' => ⟨_, rfl, iteF ⟨t.trans t', t' _ _ hD⟩⟩⟩
    rintro J ⟨t, hD⟩
    have S := S.trans t
    have hf := t _ _ hf
    refine ⟨_, D, _, _, rfl, rfl, hf, hD, (by show 0 ≤ sizeLine; decide), ?_⟩
    walk_at "new4"
    have S := S.trans s4
    replace hf : H4 p4 = some (.lst []) := h4
    clear hx
    -- line
    refine ⟨_, rfl, (by show 1 ≤ sizeLine; decide), ?_⟩
    walk_at "new1"
    have S := S.trans s1
    have hf := s1 _ _ hf
    refine ⟨_, rfl, self, Cc, dx, fs, _, rfl, S _ _ hs, cl, na _ (by decide), l12, x12, rfl, w12.1, w12.2, ?_⟩
    refine ⟨_, rfl, .inr ⟨_, rfl, p1, _, _, rfl, rfl, h1, by decide, by decide, (by show 0 ≤ sizeLine; decide), ?_⟩⟩
    walk_at "new2"
    have S := S.trans s2
    have hf := s2 _ _ hf
    refine ⟨_, p2, _, _, rfl, rfl, hf, h2, (by show 0 ≤ sizeLine; decide), ?_⟩
    walk_at "new3"
    have S := S.trans s3
    replace hf : H3 p3 = some (.lst []) := h3
    -- lasts
    refine ⟨_, rfl, self, Cc, dx, fs, v13, rfl, S _ _ hs, cl, na _ (by decide), l13, (by show 2 ≤ sizeLine; decide), ?_⟩
    walk_at "new5"
    have S := S.trans s5
    have hf := s5 _ _ hf
    refine ⟨_, rfl, self, Cc, dx, fs, v14, rfl, S _ _ hs, cl, na _ (by decide), l14, (by show 2 ≤ sizeLine; decide), ?_⟩
    walk_at "new6"
    have S := S.trans s6
    have hf := s6 _ _ hf
    refine ⟨(by show 2 ≤ sizeLine; decide), ?_⟩
    walk_at "new7"
    have S := S.trans s7
    have hf := s7 _ _ hf
    have hx : ∀ x, x ∈ [V.ref p5, .ref p6] → ∃ p s v, x = .ref p ∧ H7 p = some (.tup [.str s, v]) ∧ isByt H7 v := by
      intro x hx
      simp at hx
      rcases hx with rfl | rfl
      · exact ⟨p5, _, v13, rfl, (s6.trans s7) _ _ h5, w13.same S⟩
      · exact ⟨p6, _, v14, rfl, s7 _ _ h6, w14.same S⟩
    refine ⟨_, rfl, _, rfl, p7, rfl, ⟨_, SqL.of h7⟩, fun D nD => lc_list (K := K) (a := p7) (xs := [.ref p5, .ref p6]) (fun i H' => Same H7 H' ∧ H' D = some (.lst [])) ⟨Same.new nD, by rw [upd_same]⟩
      (fun i H' _ p => p.1.seq (SqL.of h7)) ?_ ?_⟩
    · rintro i x H' hi ⟨t, hD⟩
      obtain ⟨p, s, v, rfl, hp, a, ns, rfl, m0, m1, m2⟩ := hx x (List.mem_of_getElem? hi)
      refine ⟨p, _, rfl, SqT.of (t _ _ hp), rfl, _, _, rfl, _, _, rfl, rfl, ?_⟩
      exact ⟨rfl, _, rfl, a, ns, rfl, m0.same t, m1, m2, fun J' t' => ⟨_, rfl, iteF ⟨t.trans t', t' _ _ hD⟩⟩⟩
    rintro J ⟨t, hD⟩
    have S := S.trans t
    have hf := t _ _ hf
    refine ⟨_, D, _, _, rfl, rfl, hf, hD, (by show 0 ≤ sizeLine; decide), ?_⟩
    walk_at "new4"
    have S := S.trans s4
    replace hf : H4 p4 = some (.lst []) := h4
    clear hx
    -- the end
    refine ⟨_, rfl, (by show 0 ≤ sizeLine; decide), ?_⟩
    walk_at "new1"
    have S := S.trans s1
    have hf := s1 _ _ hf
    refine ⟨_, _, Dp.lst (SqL.of hf) .nil, Dp.lst (SqL.of h1) .nil, rfl, rfl, _, rfl, ?_⟩
    refine ite2 (fun c => absurd c (by decide)) (fun _ => ?_)
    exact k _ S
end
end K57
set_option maxHeartbeats 4000000
set_option hygiene false in
local macro_rules | `(tactic| walk_at "fld") => `(tactic| (generalize eu : upd _ self (HO.ins _ _ _) = Hn; (have hs := (congrArg (fun z : Hp => z self = some _) eu).mp upd_same); (have B := (congrArg (But self H) eu).mp (But.upd B)); (have ln := fldlen hs ln); clear eu))
set_option hygiene false in
local macro_rules | `(tactic| walk_at "fld3") => `(tactic| (generalize eu : upd _ self (HO.ins _ _ _) = Hn; (have hs := (congrArg (fun z : Hp => z self = some _) eu).mp upd_same); (have B := (congrArg (But self H) eu).mp (But.upd B)); (have B3 := (congrArg (But self H3) eu).mp (But.upd B3)); (have ln := fldlen hs ln); clear eu))
set_option hygiene false in
local macro_rules | `(tactic| walk_at "new1") => `(tactic| (intro p1 n1; generalize e1 : upd _ p1 _ = H1; (have s1 := (congrArg (Same _) e1).mp (Same.new n1)); (have h1 := (congrArg (fun z : Hp => z p1 = some _) e1).mp upd_same); clear e1))
set_option hygiene false in
local macro_rules | `(tactic| walk_at "new2") => `(tactic| (intro p2 n2; generalize e2 : upd _ p2 _ = H2; (have s2 := (congrArg (Same _) e2).mp (Same.new n2)); (have h2 := (congrArg (fun z : Hp => z p2 = some _) e2).mp upd_same); clear e2))
set_option hygiene false in
local macro_rules | `(tactic| walk_at "new3") => `(tactic| (intro p3 n3; generalize e3 : upd _ p3 _ = H3; (have s3 := (congrArg (Same _) e3).mp (Same.new n3)); (have h3 := (congrArg (fun z : Hp => z p3 = some _) e3).mp upd_same); clear e3))
set_option hygiene false in
local macro_rules | `(tactic| walk_at "new4") => `(tactic| (intro p4 n4; generalize e4 : upd _ p4 _ = H4; (have s4 := (congrArg (Same _) e4).mp (Same.new n4)); (have h4 := (congrArg (fun z : Hp => z p4 = some _) e4).mp upd_same); clear e4))
set_option hygiene false in
local macro_rules | `(tactic| walk_at "new5") => `(tactic| (intro p5 n5; generalize e5 : upd _ p5 _ = H5; (have s5 := (congrArg (Same _) e5).mp (Same.new n5)); (have h5 := (congrArg (fun z : Hp => z p5 = some _) e5).mp upd_same); clear e5))
set_option hygiene false in
local macro_rules | `(tactic| walk_at "new6") => `(tactic| (intro p6 n6; generalize e6 : upd _ p6 _ = H6; (have s6 := (congrArg (Same _) e6).mp (Same.new n6)); (have h6 := (congrArg (fun z : Hp => z p6 = some _) e6).mp upd_same); clear e6))
set_option hygiene false in
local macro_rules | `(tactic| walk_at "new7") => `(tactic| (intro p7 n7; generalize e7 : upd _ p7 _ = H7; (have s7 := (congrArg (Same _) e7).mp (Same.new n7)); (have h7 := (congrArg (fun z : Hp => z p7 = some _) e7).mp upd_same); clear e7))
set_option hygiene false in
local macro_rules | `(tactic| walk_at "new8") => `(tactic| (intro p8 n8; generalize e8 : upd _ p8 _ = H8; (have s8 := (congrArg (Same _) e8).mp (Same.new n8)); (have h8 := (congrArg (fun z : Hp => z p8 = some _) e8).mp upd_same); clear e8))
set_option hygiene false in
local macro_rules | `(tactic| walk_at "new9") => `(tactic| (intro p9 n9; generalize e9 : upd _ p9 _ = H9; (have s9 := (congrArg (Same _) e9).mp (Same.new n9)); (have h9 := (congrArg (fun z : Hp => z p9 = some _) e9).mp upd_same); clear e9))
namespace K57
open PySem PySem.Spec PyProof.Rows L2 Nd
/-- what a Code is made of -/
structure CD where
  i1 : Int
  i2 : Int
  i3 : Int
  i4 : Int
  code : List Int
  consts : List V
  names : List Str
  slots : List Str
  kinds : List Int
  name : Str
  path : Str
  line : Int
  lines : List Int
  handlers : List Int
def isBts (ns : List Int) : Prop := (∀ n ∈ ns, 0 ≤ n ∧ n ≤ 255) ∧ ns.length ≤ 100000
def isStrs (xs : List Str) : Prop := (∀ x ∈ xs, x.cps.size ≤ 1000 ∧ OkS x) ∧ xs.length ≤ 100000
structure CdOk (Cc : Addr) (d : Nat) (H : Hp) (D : CD) : Prop where
  n1 : isNum (.int D.i1)
  n2 : isNum (.int D.i2)
  n3 : isNum (.int D.i3)
  n4 : isNum (.int D.i4)
  code : isBts D.code
  consts : ∀ x ∈ D.consts, KTop Cc d H x
  clen : D.consts.length ≤ 100000
  names : isStrs D.names
  slots : isStrs D.slots
  kinds : isBts D.kinds
  klen : D.kinds.length = D.slots.length
  name : isTxt (.str D.name)
  path : isTxt (.str D.path)
  line : isNum (.int D.line)
  lines : isBts D.lines
  handlers : isBts D.handlers
/-- how deep Codes stand in it -/
def NestOk (Cc : Addr) (H : Hp) (xs : List V) (m : Int) : Prop := (∀ x ∈ xs, ∀ j, KCode Cc H x j → j + 1 ≤ m) ∧ (m = 1 ∨ ∃ x ∈ xs, ∃ j, KCode Cc H x j ∧ m = j + 1)
def CodeAt (Cc : Addr) (H : Hp) (c : Addr) (D : CD) (m : Int) : Prop := ∃ (dx : Addr) (fs : List (Str × V)), H c = some (.ins Cc dx fs) ∧ fs.lookup ("argcount" : Str) = some (.int D.i1) ∧ fs.lookup ("onlycount" : Str) = some (.int D.i2) ∧ fs.lookup ("stacksize" : Str) = some (.int D.i3) ∧
  fs.lookup ("flags" : Str) = some (.int D.i4) ∧ (∃ t, fs.lookup ("code" : Str) = some (.ref t) ∧ H t = some (.tup (D.code.map V.int))) ∧ (∃ t, fs.lookup ("constants" : Str) = some (.ref t) ∧ H t = some (.tup D.consts)) ∧ (∃ t, fs.lookup ("names" : Str) = some (.ref t) ∧ H t = some (.tup (D.names.map V.str))) ∧
  (∃ t, fs.lookup ("slots" : Str) = some (.ref t) ∧ H t = some (.tup (D.slots.map V.str))) ∧ (∃ t, fs.lookup ("kinds" : Str) = some (.ref t) ∧ H t = some (.tup (D.kinds.map V.int))) ∧ fs.lookup ("name" : Str) = some (.str D.name) ∧ fs.lookup ("path" : Str) = some (.str D.path) ∧
  fs.lookup ("line" : Str) = some (.int D.line) ∧ (∃ t, fs.lookup ("lines" : Str) = some (.ref t) ∧ H t = some (.tup (D.lines.map V.int))) ∧ (∃ t, fs.lookup ("handlers" : Str) = some (.ref t) ∧ H t = some (.tup (D.handlers.map V.int))) ∧ fs.lookup ("nested" : Str) = some (.int m)
theorem CodeAt.same {Cc : Addr} {H H' : Hp} {c : Addr} {D : CD} {m : Int} (s : Same H H') (h : CodeAt Cc H c D m) : CodeAt Cc H' c D m := by
  obtain ⟨dx, fs, h0, h1, h2, h3, h4, ⟨t5, h5, g5⟩, ⟨t6, h6, g6⟩, ⟨t7, h7, g7⟩, ⟨t8, h8, g8⟩, ⟨t9, h9, g9⟩, h10, h11, h12, ⟨t13, h13, g13⟩, ⟨t14, h14, g14⟩, h15⟩ := h
  exact ⟨dx, fs, s _ _ h0, h1, h2, h3, h4, ⟨t5, h5, s _ _ g5⟩, ⟨t6, h6, s _ _ g6⟩, ⟨t7, h7, s _ _ g7⟩, ⟨t8, h8, s _ _ g8⟩, ⟨t9, h9, s _ _ g9⟩, h10, h11, h12, ⟨t13, h13, s _ _ g13⟩, ⟨t14, h14, s _ _ g14⟩, h15⟩
theorem KIn.but {H H' : Hp} {self C dx : Addr} {fs : List (Str × V)} (hs : H self = some (.ins C dx fs)) (b : But self H H') : ∀ {d : Nat} {x : V}, KIn H d x → KIn H' d x
  | _, _, .non => .non
  | _, _, .bl b => .bl b
  | _, _, .int i => .int i
  | _, _, .str x h1 h2 => .str x h1 h2
  | _, _, .tup h hl hx => .tup (b _ _ (fun z => by rw [z, hs] at h; cases h) h) hl fun x m => KIn.but hs b (hx x m)
theorem KCode.but {Cc : Addr} {H H' : Hp} {self dx : Addr} {x : V} {j : Int} (hs : H self = some (.ins Cc dx [])) (b : But self H H') (h : KCode Cc H x j) : KCode Cc H' x j := by
  obtain ⟨a, dx', fs, e, h, l, k⟩ := h
  refine ⟨a, dx', fs, e, b _ _ (fun z => ?_) h, l, k⟩
  rw [z, hs] at h
  injection h with h
  injection h with _ _ h
  subst h
  cases l
theorem KTop.but {Cc : Addr} {d : Nat} {H H' : Hp} {self dx : Addr} {x : V} (hs : H self = some (.ins Cc dx [])) (b : But self H H') (h : KTop Cc d H x) : KTop Cc d H' x := h.imp (KIn.but hs b) fun ⟨j, z⟩ => ⟨j, z.but hs b⟩
theorem KCode.one {Cc : Addr} {H H' : Hp} {x : V} {i j : Int} (s : ∀ a o, H a = some o → x = .ref a → H' a = some o) (h : KCode Cc H x i) (g : KCode Cc H' x j) : i = j := by
  obtain ⟨a, dx, fs, e, h, l, _⟩ := h
  obtain ⟨a', dx', fs', e', h', l', _⟩ := g
  rw [e] at e'
  cases e'
  rw [s _ _ h e] at h'
  injection h' with h'
  injection h' with _ _ h'
  subst h'
  rw [l] at l'
  injection l' with l'
  injection l'
theorem KIn.odd {K : PySem.W.Frag} {H : Hp} : ∀ {d : Nat} {x : V}, KIn H d x → Odd K H x
  | _, _, .non => ⟨"NoneType", by decide, .base .non⟩
  | _, _, .bl b => ⟨"bool", by decide, .base (.bl b)⟩
  | _, _, .int i => ⟨"int", by decide, .base (.int i)⟩
  | _, _, .str x _ _ => ⟨"str", by decide, .base (.str x)⟩
  | _, _, .tup h _ _ => ⟨"tuple", by decide, .base (.tup h)⟩
theorem KIn.noCode {Cc : Addr} {H : Hp} : ∀ {d : Nat} {x : V} {j : Int}, KIn H d x → ¬ KCode Cc H x j
  | _, _, _, .non, ⟨_, _, _, e, _⟩ => by cases e
  | _, _, _, .bl b, ⟨_, _, _, e, _⟩ => by cases e
  | _, _, _, .int i, ⟨_, _, _, e, _⟩ => by cases e
  | _, _, _, .str x _ _, ⟨_, _, _, e, _⟩ => by cases e
  | _, _, _, .tup h _ _, ⟨_, _, _, e, h', _⟩ => by
    cases e
    rw [h] at h'
    cases h'
theorem fsok_of {Cc : Addr} {d : Nat} {H : Hp} {self C dx : Addr} {fs : List (Str × V)} (_ : H self = some (.ins C dx fs)) (h : FsOk Cc d H fs) : FsOk Cc d H fs := h
def spInit (Cc : Addr) (d : Nat) : Sp := fun vs H Q _ => ∃ (self dx c k1 k2 k3 k4 l h : Addr) (D : CD),
  vs = [.ref self, .int D.i1, .int D.i2, .int D.i3, .int D.i4, .ref c, .ref k1, .ref k2, .ref k3, .ref k4, .str D.name, .str D.path, .int D.line, .ref l, .ref h] ∧ H self = some (.ins Cc dx []) ∧ CdOk Cc d H D ∧
  LorT H c (D.code.map V.int) ∧ LorT H k1 D.consts ∧ LorT H k2 (D.names.map V.str) ∧ LorT H k3 (D.slots.map V.str) ∧ LorT H k4 (D.kinds.map V.int) ∧ LorT H l (D.lines.map V.int) ∧ LorT H h (D.handlers.map V.int) ∧
  ∀ H' m, But self H H' → NestOk Cc H D.consts m → CodeAt Cc H' self D m → Q .non H'
structure Gl3 (mg : Str → Option Value) : Prop where
  n_max : mg "max" = none
section
variable {P : Program} {w : World} {K : PySem.W.Frag} {mg : Str → Option Value} {base : Heap} {Cc Cn fI : Addr}
abbrev N_Code_init : List Str := ["self", "argcount", "onlycount", "stacksize", "flags", "code", "constants", "names", "slots", "kinds", "name", "path", "line", "lines", "handlers", "one"]
theorem sc_Code_init : FnScope N_Code_init ["self", "argcount", "onlycount", "stacksize", "flags", "code", "constants", "names", "slots", "kinds", "name", "path", "line", "lines", "handlers"] (defScope s_Code_init) := ⟨rfl, rfl, rfl, by decide +kernel, rfl, by decide +kernel, by decide +kernel⟩
theorem ok_Code_init {f fL : Addr} {fd fdL : FuncData} (T0 : Gl0 mg) (T : Gl2 mg) (T3 : Gl3 mg) (G : GlK P K mg Cc Cn fI) (ML : Meth K Cc "look" fL) {d : Nat} (FL : FnOk P w K mg base (L2.CX P w) (d + 4) fL fdL ["self"] (spLook Cc d)) (BL : Binds K fdL ["self"] [])
    (F : MetX K "__init__" "Code.__init__" s_Code_init ["self", "argcount", "onlycount", "stacksize", "flags", "code", "constants", "names", "slots", "kinds", "name", "path", "line", "lines", "handlers"] f fd) :
    FnOk P w K mg base (L2.CX P w) (d + 5) f fd ["self", "argcount", "onlycount", "stacksize", "flags", "code", "constants", "names", "slots", "kinds", "name", "path", "line", "lines", "handlers"] (spInit Cc d) := by
  refine F.fn.ok sc_Code_init (fun vs H Q E h => ?_) (fun cdv A outer s H vs Q E hr h => ?_)
  · obtain ⟨self, dx, c, k1, k2, k3, k4, l, h, D, rfl, _⟩ := h
    rfl
  · obtain ⟨self, dx, c, k1, k2, k3, k4, l, h, D, rfl, hs, ok, hc, e1, e2, e3, e4, hl, hh, k⟩ := h
    have hs0 := hs
    refine ⟨_, PSs.nox (pss_cons (ps_fld (pv 0) (pv 1) rfl)
    (pss_cons (ps_fld (pv 0) (pv 2) rfl)
    (pss_cons (ps_fld (pv 0) (pv 3) rfl)
    (pss_cons (ps_fld (pv 0) (pv 4) rfl)
    (pss_cons (ps_fld (pv 0) (pv 5) rfl)
    (pss_cons (ps_fld (pv 0) (pv 6) rfl)
    (pss_cons (ps_fld (pv 0) (pv 7) rfl)
    (pss_cons (ps_fld (pv 0) (pv 8) rfl)
    (pss_cons (ps_fld (pv 0) (pv 9) rfl)
    (pss_cons (ps_fld (pv 0) (pv 10) rfl)
    (pss_cons (ps_fld (pv 0) (pv 11) rfl)
    (pss_cons (ps_fld (pv 0) (pv 12) rfl)
    (pss_cons (ps_fld (pv 0) (pv 13) rfl)
    (pss_cons (ps_fld (pv 0) (pv 14) rfl)
    (pss_cons (ps_expr (pe_meth0 (pv 0) G.ins.cl ML FL (hr.mono (by omega)) BL .nil passL))
    (pss_cons (ps_fld (pv 0) (pe_callTy call_tupleB (by rfl) T.n_tuple Boot.«tuple» (pa_cons (pv 6) pa_nil)) rfl)
    (pss_cons (ps_fld (pv 0) (pe_callTy call_tupleB (by rfl) T.n_tuple Boot.«tuple» (pa_cons (pv 7) pa_nil)) rfl)
    (pss_cons (ps_fld (pv 0) (pe_callTy call_tupleB (by rfl) T.n_tuple Boot.«tuple» (pa_cons (pv 8) pa_nil)) rfl)
    (pss_cons (ps_asg (pe_tup (pa_cons (pe_callTy call_tupleB (by rfl) T.n_tuple Boot.«tuple» (pa_cons (pv 5) pa_nil)) (pa_cons (pe_callTy call_tupleB (by rfl) T.n_tuple Boot.«tuple» (pa_cons (pv 9) pa_nil)) pa_nil))) (pg_tup (by rfl) (pgs_cons (pg_fld (pv 0)) (pgs_cons (pg_fld (pv 0)) pgs_nil))))
    (pss_cons (ps_asg (pe_tup (pa_cons (pe_callTy call_tupleB (by rfl) T.n_tuple Boot.«tuple» (pa_cons (pv 13) pa_nil)) (pa_cons (pe_callTy call_tupleB (by rfl) T.n_tuple Boot.«tuple» (pa_cons (pv 14) pa_nil)) pa_nil))) (pg_tup (by rfl) (pgs_cons (pg_fld (pv 0)) (pgs_cons (pg_fld (pv 0)) pgs_nil))))
    (pss_one (ps_fld (pv 0) (pe_op op_add pe_int (pe_callB (cr_max rfl) (by rfl) T3.n_max Boot.«max» (pa_cons (pe_op op_cat (pe_lst (pa_cons pe_int pa_nil)) (pe_lc (own := [("one", 15)]) (g := gName 15) (tt := tB (tCB (rIsi K) (tCons (tVar 15) (tCons (tC (V.ref Cc)) tNil)))) (te := tFld K (tVar 15) "nested") rfl sc_Code_init.nd (pi_seq (pv 6)) (blkOk_by (own := [("one", 15)]) (N := N_Code_init) (sc := defScope s_Code_init) (by decide +kernel)) (fun _ _ _ _ _ => (pg_name (i := 15) sc_Code_init.nd rfl (Or.inl rfl))) (fun _ _ _ _ _ => (pts_one (pt_val (pe_callB call_isi (by rfl) G.n_isinstance Boot.«isinstance» (pa_cons (pv 15) (pa_cons (C8.pe_gc rfl G.c_Code) pa_nil)))))) (fun _ _ _ _ _ => (pe_fld (pv 15) rfl)))) pa_nil))) rfl)))))))))))))))))))))), ?_⟩
    have cl := G.ins.cl
    have na : ∀ f ∈ flds, NoAttr K Cc f := G.na
    have B : But self H H := But.refl
    have ln : Sm 0 ([] : List (Str × V)) := Nat.le_refl _
    have nlst : ∀ {a : Addr} {xs : List V}, LorT H a xs → a ≠ self := fun {a xs} e z => by
      rcases e with e | e <;> (rw [z, hs0] at e; cases e)
    have keep : ∀ {H' : Hp} {a : Addr} {xs : List V}, But self H H' → LorT H a xs → LorT H' a xs := fun b e => e.imp (b _ _ (nlst e)) (b _ _ (nlst e))
    refine ⟨_, rfl, _, rfl, self, Cc, dx, _, rfl, hs, cl, na _ (by decide), Nat.lt_of_le_of_lt ln (by decide), ?_⟩
    walk_at "fld"
    refine ⟨_, rfl, _, rfl, self, Cc, dx, _, rfl, hs, cl, na _ (by decide), Nat.lt_of_le_of_lt ln (by decide), ?_⟩
    walk_at "fld"
    refine ⟨_, rfl, _, rfl, self, Cc, dx, _, rfl, hs, cl, na _ (by decide), Nat.lt_of_le_of_lt ln (by decide), ?_⟩
    walk_at "fld"
    refine ⟨_, rfl, _, rfl, self, Cc, dx, _, rfl, hs, cl, na _ (by decide), Nat.lt_of_le_of_lt ln (by decide), ?_⟩
    walk_at "fld"
    refine ⟨_, rfl, _, rfl, self, Cc, dx, _, rfl, hs, cl, na _ (by decide), Nat.lt_of_le_of_lt ln (by decide), ?_⟩
    walk_at "fld"
    refine ⟨_, rfl, _, rfl, self, Cc, dx, _, rfl, hs, cl, na _ (by decide), Nat.lt_of_le_of_lt ln (by decide), ?_⟩
    walk_at "fld"
    refine ⟨_, rfl, _, rfl, self, Cc, dx, _, rfl, hs, cl, na _ (by decide), Nat.lt_of_le_of_lt ln (by decide), ?_⟩
    walk_at "fld"
    refine ⟨_, rfl, _, rfl, self, Cc, dx, _, rfl, hs, cl, na _ (by decide), Nat.lt_of_le_of_lt ln (by decide), ?_⟩
    walk_at "fld"
    refine ⟨_, rfl, _, rfl, self, Cc, dx, _, rfl, hs, cl, na _ (by decide), Nat.lt_of_le_of_lt ln (by decide), ?_⟩
    walk_at "fld"
    refine ⟨_, rfl, _, rfl, self, Cc, dx, _, rfl, hs, cl, na _ (by decide), Nat.lt_of_le_of_lt ln (by decide), ?_⟩
    walk_at "fld"
    refine ⟨_, rfl, _, rfl, self, Cc, dx, _, rfl, hs, cl, na _ (by decide), Nat.lt_of_le_of_lt ln (by decide), ?_⟩
    walk_at "fld"
    refine ⟨_, rfl, _, rfl, self, Cc, dx, _, rfl, hs, cl, na _ (by decide), Nat.lt_of_le_of_lt ln (by decide), ?_⟩
    walk_at "fld"
    refine ⟨_, rfl, _, rfl, self, Cc, dx, _, rfl, hs, cl, na _ (by decide), Nat.lt_of_le_of_lt ln (by decide), ?_⟩
    walk_at "fld"
    refine ⟨_, rfl, _, rfl, self, Cc, dx, _, rfl, hs, cl, na _ (by decide), Nat.lt_of_le_of_lt ln (by decide), ?_⟩
    walk_at "fld"
    have okf := fsok_of hs ⟨
      ⟨_, (look_miss (by decide +kernel) (look_miss (by decide +kernel) (look_miss (by decide +kernel) (look_miss (by decide +kernel) (look_miss (by decide +kernel) (look_miss (by decide +kernel) (look_miss (by decide +kernel) (look_miss (by decide +kernel) (look_miss (by decide +kernel) (look_miss (by decide +kernel) (look_miss (by decide +kernel) (look_miss (by decide +kernel) (look_miss (by decide +kernel) look_hit))))))))))))), ok.n1⟩,
      ⟨_, (look_miss (by decide +kernel) (look_miss (by decide +kernel) (look_miss (by decide +kernel) (look_miss (by decide +kernel) (look_miss (by decide +kernel) (look_miss (by decide +kernel) (look_miss (by decide +kernel) (look_miss (by decide +kernel) (look_miss (by decide +kernel) (look_miss (by decide +kernel) (look_miss (by decide +kernel) (look_miss (by decide +kernel) look_hit)))))))))))), ok.n2⟩,
      ⟨_, (look_miss (by decide +kernel) (look_miss (by decide +kernel) (look_miss (by decide +kernel) (look_miss (by decide +kernel) (look_miss (by decide +kernel) (look_miss (by decide +kernel) (look_miss (by decide +kernel) (look_miss (by decide +kernel) (look_miss (by decide +kernel) (look_miss (by decide +kernel) (look_miss (by decide +kernel) look_hit))))))))))), ok.n3⟩,
      ⟨_, (look_miss (by decide +kernel) (look_miss (by decide +kernel) (look_miss (by decide +kernel) (look_miss (by decide +kernel) (look_miss (by decide +kernel) (look_miss (by decide +kernel) (look_miss (by decide +kernel) (look_miss (by decide +kernel) (look_miss (by decide +kernel) (look_miss (by decide +kernel) look_hit)))))))))), ok.n4⟩,
      ⟨_, (look_miss (by decide +kernel) (look_miss (by decide +kernel) (look_miss (by decide +kernel) (look_miss (by decide +kernel) (look_miss (by decide +kernel) (look_miss (by decide +kernel) (look_miss (by decide +kernel) (look_miss (by decide +kernel) (look_miss (by decide +kernel) look_hit))))))))), c, D.code, rfl, keep B hc, ok.code.1, ok.code.2⟩,
      ⟨_, (look_miss (by decide +kernel) (look_miss (by decide +kernel) (look_miss (by decide +kernel) (look_miss (by decide +kernel) (look_miss (by decide +kernel) (look_miss (by decide +kernel) (look_miss (by decide +kernel) (look_miss (by decide +kernel) look_hit)))))))), k1, D.consts, rfl, keep B e1, (fun x hx => (ok.consts x hx).but hs0 B), ok.clen⟩,
      ⟨_, (look_miss (by decide +kernel) (look_miss (by decide +kernel) (look_miss (by decide +kernel) (look_miss (by decide +kernel) (look_miss (by decide +kernel) (look_miss (by decide +kernel) (look_miss (by decide +kernel) look_hit))))))), k2, D.names, rfl, keep B e2, ok.names.1, ok.names.2⟩,
      ⟨_, _, (look_miss (by decide +kernel) (look_miss (by decide +kernel) (look_miss (by decide +kernel) (look_miss (by decide +kernel) (look_miss (by decide +kernel) (look_miss (by decide +kernel) look_hit)))))), (look_miss (by decide +kernel) (look_miss (by decide +kernel) (look_miss (by decide +kernel) (look_miss (by decide +kernel) (look_miss (by decide +kernel) look_hit))))), k3, D.slots, k4, D.kinds, rfl, keep B e3, ok.slots.1, ok.slots.2, rfl, keep B e4, ok.kinds.1, ok.klen⟩,
      ⟨_, (look_miss (by decide +kernel) (look_miss (by decide +kernel) (look_miss (by decide +kernel) (look_miss (by decide +kernel) look_hit)))), ok.name⟩,
      ⟨_, (look_miss (by decide +kernel) (look_miss (by decide +kernel) (look_miss (by decide +kernel) look_hit))), ok.path⟩,
      ⟨_, (look_miss (by decide +kernel) (look_miss (by decide +kernel) look_hit)), ok.line⟩,
      ⟨_, (look_miss (by decide +kernel) look_hit), l, D.lines, rfl, keep B hl, ok.lines.1, ok.lines.2⟩,
      ⟨_, look_hit, h, D.handlers, rfl, keep B hh, ok.handlers.1, ok.handlers.2⟩⟩
    refine ⟨_, rfl, self, dx, _, rfl, hs, look_miss (by decide +kernel) (look_miss (by decide +kernel) (look_miss (by decide +kernel) (look_miss (by decide +kernel) (look_miss (by decide +kernel) (look_miss (by decide +kernel) (look_miss (by decide +kernel) (look_miss (by decide +kernel) (look_miss (by decide +kernel) (look_miss (by decide +kernel) (look_miss (by decide +kernel) (look_miss (by decide +kernel) (look_miss (by decide +kernel) (look_miss (by decide +kernel) (rfl)))))))))))))), self, dx, _, rfl, hs, okf, fun J S => ?_⟩
    replace hs := S _ _ hs
    replace B := B.trans (But.of S)
    clear okf S
    -- the tuples
    obtain ⟨F0, hs, ln, kp⟩ : ∃ F0, J self = some (.ins Cc dx F0) ∧ Sm 14 F0 ∧ (F0.lookup ("argcount" : Str) = some (V.int D.i1) ∧ F0.lookup ("onlycount" : Str) = some (V.int D.i2) ∧ F0.lookup ("stacksize" : Str) = some (V.int D.i3) ∧ F0.lookup ("flags" : Str) = some (V.int D.i4) ∧
        F0.lookup ("name" : Str) = some (V.str D.name) ∧ F0.lookup ("path" : Str) = some (V.str D.path) ∧ F0.lookup ("line" : Str) = some (V.int D.line)) :=
      ⟨_, hs, ln, (look_miss (by decide +kernel) (look_miss (by decide +kernel) (look_miss (by decide +kernel) (look_miss (by decide +kernel) (look_miss (by decide +kernel) (look_miss (by decide +kernel) (look_miss (by decide +kernel) (look_miss (by decide +kernel) (look_miss (by decide +kernel) (look_miss (by decide +kernel) (look_miss (by decide +kernel) (look_miss (by decide +kernel) (look_miss (by decide +kernel) look_hit))))))))))))), (look_miss (by decide +kernel) (look_miss (by decide +kernel) (look_miss (by decide +kernel) (look_miss (by decide +kernel) (look_miss (by decide +kernel) (look_miss (by decide +kernel) (look_miss (by decide +kernel) (look_miss (by decide +kernel) (look_miss (by decide +kernel) (look_miss (by decide +kernel) (look_miss (by decide +kernel) (look_miss (by decide +kernel) look_hit)))))))))))), (look_miss (by decide +kernel) (look_miss (by decide +kernel) (look_miss (by decide +kernel) (look_miss (by decide +kernel) (look_miss (by decide +kernel) (look_miss (by decide +kernel) (look_miss (by decide +kernel) (look_miss (by decide +kernel) (look_miss (by decide +kernel) (look_miss (by decide +kernel) (look_miss (by decide +kernel) look_hit))))))))))), (look_miss (by decide +kernel) (look_miss (by decide +kernel) (look_miss (by decide +kernel) (look_miss (by decide +kernel) (look_miss (by decide +kernel) (look_miss (by decide +kernel) (look_miss (by decide +kernel) (look_miss (by decide +kernel) (look_miss (by decide +kernel) (look_miss (by decide +kernel) look_hit)))))))))), (look_miss (by decide +kernel) (look_miss (by decide +kernel) (look_miss (by decide +kernel) (look_miss (by decide +kernel) look_hit)))), (look_miss (by decide +kernel) (look_miss (by decide +kernel) (look_miss (by decide +kernel) look_hit))), (look_miss (by decide +kernel) (look_miss (by decide +kernel) look_hit))⟩
    obtain ⟨kp1, kp2, kp3, kp4, kp5, kp6, kp7⟩ := kp
    refine ⟨_, rfl, _, _, rfl, keep B e1, fun t1 J1 s1 h1 q1 => ?_⟩
    replace hs := s1 _ _ hs
    replace B := B.trans (But.of s1)
    have z1 : t1 ≠ self := fun z => by
      rw [z, hs] at h1
      cases h1
    refine ⟨_, rfl, self, Cc, dx, _, rfl, hs, cl, na _ (by decide), Nat.lt_of_le_of_lt ln (by decide), ?_⟩
    generalize eu : upd _ self (HO.ins _ _ _) = Hn
    replace hs := (congrArg (fun z : Hp => z self = some _) eu).mp upd_same
    replace B := (congrArg (But self H) eu).mp (But.upd B)
    have bu : But self _ Hn := (congrArg (But self _) eu).mp (But.upd But.refl)
    have ln := fldlen hs ln
    replace h1 := bu _ _ z1 h1
    clear eu bu
    refine ⟨_, rfl, _, _, rfl, keep B e2, fun t2 J2 s2 h2 q2 => ?_⟩
    replace hs := s2 _ _ hs
    replace B := B.trans (But.of s2)
    have z2 : t2 ≠ self := fun z => by
      rw [z, hs] at h2
      cases h2
    replace h1 := s2 _ _ h1
    refine ⟨_, rfl, self, Cc, dx, _, rfl, hs, cl, na _ (by decide), Nat.lt_of_le_of_lt ln (by decide), ?_⟩
    generalize eu : upd _ self (HO.ins _ _ _) = Hn
    replace hs := (congrArg (fun z : Hp => z self = some _) eu).mp upd_same
    replace B := (congrArg (But self H) eu).mp (But.upd B)
    have bu : But self _ Hn := (congrArg (But self _) eu).mp (But.upd But.refl)
    have ln := fldlen hs ln
    replace h1 := bu _ _ z1 h1
    replace h2 := bu _ _ z2 h2
    clear eu bu
    refine ⟨_, rfl, _, _, rfl, keep B e3, fun t3 J3 s3 h3 q3 => ?_⟩
    replace hs := s3 _ _ hs
    replace B := B.trans (But.of s3)
    have z3 : t3 ≠ self := fun z => by
      rw [z, hs] at h3
      cases h3
    replace h1 := s3 _ _ h1
    replace h2 := s3 _ _ h2
    refine ⟨_, rfl, self, Cc, dx, _, rfl, hs, cl, na _ (by decide), Nat.lt_of_le_of_lt ln (by decide), ?_⟩
    generalize eu : upd _ self (HO.ins _ _ _) = Hn
    replace hs := (congrArg (fun z : Hp => z self = some _) eu).mp upd_same
    replace B := (congrArg (But self H) eu).mp (But.upd B)
    have bu : But self _ Hn := (congrArg (But self _) eu).mp (But.upd But.refl)
    have ln := fldlen hs ln
    replace h1 := bu _ _ z1 h1
    replace h2 := bu _ _ z2 h2
    replace h3 := bu _ _ z3 h3
    clear eu bu
    refine ⟨_, rfl, _, _, rfl, keep B hc, fun t4 J4 s4 h4 q4 => ?_⟩
    replace hs := s4 _ _ hs
    replace B := B.trans (But.of s4)
    have z4 : t4 ≠ self := fun z => by
      rw [z, hs] at h4
      cases h4
    replace h1 := s4 _ _ h1
    replace h2 := s4 _ _ h2
    replace h3 := s4 _ _ h3
    refine ⟨_, rfl, _, _, rfl, keep B e4, fun t5 J5 s5 h5 q5 => ?_⟩
    replace hs := s5 _ _ hs
    replace B := B.trans (But.of s5)
    have z5 : t5 ≠ self := fun z => by
      rw [z, hs] at h5
      cases h5
    replace h1 := s5 _ _ h1
    replace h2 := s5 _ _ h2
    replace h3 := s5 _ _ h3
    replace h4 := s5 _ _ h4
    refine ⟨(by show 2 ≤ sizeLine; decide), ?_⟩
    intro pp1 np1
    have sp1 := Same.new (o := .tup [.ref t4, .ref t5]) np1
    have hp1 : upd J5 pp1 (.tup [.ref t4, .ref t5]) pp1 = some (.tup [.ref t4, .ref t5]) := upd_same
    replace hs := sp1 _ _ hs
    replace B := B.trans (But.of sp1)
    replace h1 := sp1 _ _ h1
    replace h2 := sp1 _ _ h2
    replace h3 := sp1 _ _ h3
    replace h4 := sp1 _ _ h4
    replace h5 := sp1 _ _ h5
    refine ⟨pp1, _, rfl, SqT.of hp1, rfl, _, _, rfl, _, rfl, self, Cc, dx, _, rfl, hs, cl, na _ (by decide), Nat.lt_of_le_of_lt ln (by decide), ?_⟩
    generalize eu : upd _ self (HO.ins _ _ _) = Hn
    replace hs := (congrArg (fun z : Hp => z self = some _) eu).mp upd_same
    replace B := (congrArg (But self H) eu).mp (But.upd B)
    have bu : But self _ Hn := (congrArg (But self _) eu).mp (But.upd But.refl)
    have ln := fldlen hs ln
    replace h1 := bu _ _ z1 h1
    replace h2 := bu _ _ z2 h2
    replace h3 := bu _ _ z3 h3
    replace h4 := bu _ _ z4 h4
    replace h5 := bu _ _ z5 h5
    clear eu bu
    refine ⟨_, _, rfl, _, rfl, self, Cc, dx, _, rfl, hs, cl, na _ (by decide), Nat.lt_of_le_of_lt ln (by decide), ?_⟩
    generalize eu : upd _ self (HO.ins _ _ _) = Hn
    replace hs := (congrArg (fun z : Hp => z self = some _) eu).mp upd_same
    replace B := (congrArg (But self H) eu).mp (But.upd B)
    have bu : But self _ Hn := (congrArg (But self _) eu).mp (But.upd But.refl)
    have ln := fldlen hs ln
    replace h1 := bu _ _ z1 h1
    replace h2 := bu _ _ z2 h2
    replace h3 := bu _ _ z3 h3
    replace h4 := bu _ _ z4 h4
    replace h5 := bu _ _ z5 h5
    clear eu bu
    refine ⟨rfl, ?_⟩
    refine ⟨_, rfl, _, _, rfl, keep B hl, fun t6 J6 s6 h6 q6 => ?_⟩
    replace hs := s6 _ _ hs
    replace B := B.trans (But.of s6)
    have z6 : t6 ≠ self := fun z => by
      rw [z, hs] at h6
      cases h6
    replace h1 := s6 _ _ h1
    replace h2 := s6 _ _ h2
    replace h3 := s6 _ _ h3
    replace h4 := s6 _ _ h4
    replace h5 := s6 _ _ h5
    refine ⟨_, rfl, _, _, rfl, keep B hh, fun t7 J7 s7 h7 q7 => ?_⟩
    replace hs := s7 _ _ hs
    replace B := B.trans (But.of s7)
    have z7 : t7 ≠ self := fun z => by
      rw [z, hs] at h7
      cases h7
    replace h1 := s7 _ _ h1
    replace h2 := s7 _ _ h2
    replace h3 := s7 _ _ h3
    replace h4 := s7 _ _ h4
    replace h5 := s7 _ _ h5
    replace h6 := s7 _ _ h6
    refine ⟨(by show 2 ≤ sizeLine; decide), ?_⟩
    intro pp2 np2
    have sp2 := Same.new (o := .tup [.ref t6, .ref t7]) np2
    have hp2 : upd J7 pp2 (.tup [.ref t6, .ref t7]) pp2 = some (.tup [.ref t6, .ref t7]) := upd_same
    replace hs := sp2 _ _ hs
    replace B := B.trans (But.of sp2)
    replace h1 := sp2 _ _ h1
    replace h2 := sp2 _ _ h2
    replace h3 := sp2 _ _ h3
    replace h4 := sp2 _ _ h4
    replace h5 := sp2 _ _ h5
    replace h6 := sp2 _ _ h6
    replace h7 := sp2 _ _ h7
    refine ⟨pp2, _, rfl, SqT.of hp2, rfl, _, _, rfl, _, rfl, self, Cc, dx, _, rfl, hs, cl, na _ (by decide), Nat.lt_of_le_of_lt ln (by decide), ?_⟩
    generalize eu : upd _ self (HO.ins _ _ _) = Hn
    replace hs := (congrArg (fun z : Hp => z self = some _) eu).mp upd_same
    replace B := (congrArg (But self H) eu).mp (But.upd B)
    have bu : But self _ Hn := (congrArg (But self _) eu).mp (But.upd But.refl)
    have ln := fldlen hs ln
    replace h1 := bu _ _ z1 h1
    replace h2 := bu _ _ z2 h2
    replace h3 := bu _ _ z3 h3
    replace h4 := bu _ _ z4 h4
    replace h5 := bu _ _ z5 h5
    replace h6 := bu _ _ z6 h6
    replace h7 := bu _ _ z7 h7
    clear eu bu
    refine ⟨_, _, rfl, _, rfl, self, Cc, dx, _, rfl, hs, cl, na _ (by decide), Nat.lt_of_le_of_lt ln (by decide), ?_⟩
    generalize eu : upd _ self (HO.ins _ _ _) = Hn
    replace hs := (congrArg (fun z : Hp => z self = some _) eu).mp upd_same
    replace B := (congrArg (But self H) eu).mp (But.upd B)
    have bu : But self _ Hn := (congrArg (But self _) eu).mp (But.upd But.refl)
    have ln := fldlen hs ln
    replace h1 := bu _ _ z1 h1
    replace h2 := bu _ _ z2 h2
    replace h3 := bu _ _ z3 h3
    replace h4 := bu _ _ z4 h4
    replace h5 := bu _ _ z5 h5
    replace h6 := bu _ _ z6 h6
    replace h7 := bu _ _ z7 h7
    clear eu bu
    refine ⟨rfl, ?_⟩
    -- nested
    refine ⟨(by show 1 ≤ sizeLine; decide), ?_⟩
    intro pz nz
    have sz := Same.new (o := .lst [.int 0]) nz
    have hz : upd _ pz (.lst [.int 0]) pz = some (.lst [.int 0]) := upd_same (H := Hn)
    replace hs := sz _ _ hs
    replace B := B.trans (But.of sz)
    replace h1 := sz _ _ h1
    replace h2 := sz _ _ h2
    replace h3 := sz _ _ h3
    replace h4 := sz _ _ h4
    replace h5 := sz _ _ h5
    replace h6 := sz _ _ h6
    replace h7 := sz _ _ h7
    have hk := keep B e1
    generalize upd Hn pz (.lst [.int 0]) = Hz at sz hz hs B hk h1 h2 h3 h4 h5 h6 h7 ⊢
    have B0 := B
    have hx : ∀ x ∈ D.consts, KTop Cc d Hz x := fun x m => (ok.consts x m).but hs0 B
    refine ⟨_, rfl, k1, rfl, lc_both (K := K) hk.sq (fun A i H' => Same Hz H' ∧ ∃ l : List Int, H' A = some (.lst (l.map V.int)) ∧ l.length ≤ i ∧ (∀ j ∈ l, ∃ x ∈ D.consts, KCode Cc Hz x j) ∧ ∀ y ∈ D.consts.take i, ∀ j, KCode Cc Hz y j → j ∈ l)
      (fun A nA => ⟨Same.new nA, [], upd_same, Nat.le_refl _, (fun j hj => by cases hj), (fun y hy => by simp at hy)⟩) (fun A i H' _ _ p => p.1) ?_ ?_⟩
    · rintro A i x H' nA hi ⟨s2, l, hA, hl, ha, hb⟩
      have hxm := List.mem_of_getElem? hi
      have hil : i < D.consts.length := (List.getElem?_eq_some_iff.mp hi).1
      refine ⟨rfl, ?_⟩
      have htk : D.consts.take (i + 1) = D.consts.take i ++ [x] := by
        rw [List.take_add_one, hi]
        rfl
      rcases hx x hxm with hin | ⟨j, hc⟩
      · obtain ⟨t, tm, ty⟩ := hin.odd (K := K)
        refine ⟨_, rfl, x, V.ref Cc, .type t, .ref Cc, false, rfl, .own Cc, TyX.same s2 ty, G.no t tm, _, rfl, ?_⟩
        refine ⟨s2, l, hA, Nat.le_succ_of_le hl, ha, fun y hy j hc => ?_⟩
        rw [htk] at hy
        rcases List.mem_append.mp hy with z | z
        · exact hb y z j hc
        · rw [List.mem_singleton.mp z] at hc
          exact absurd hc hin.noCode
      · have hc0 := hc
        obtain ⟨a, dx', fs', rfl, hca, hcl, j0, j1⟩ := hc
        have hca := s2 _ _ hca
        refine ⟨_, rfl, V.ref a, V.ref Cc, .ref Cc, .ref Cc, true, rfl, .own Cc, .base (.ins hca G.ins.cl G.ins.ha G.ins.hn G.ins.htk G.ins.hm), G.ins.me, _, rfl, ?_⟩
        refine ⟨_, rfl, a, Cc, dx', fs', _, rfl, hca, cl, na _ (by decide), hcl, ?_⟩
        refine ⟨_, hA, ?_, Same.mut s2 nA, l ++ [j], ?_, ?_, ?_, ?_⟩
        · rw [List.length_map]
          exact Nat.lt_of_lt_of_le (Nat.lt_of_le_of_lt hl hil) (Nat.le_trans ok.clen (by decide))
        · rw [upd_same, List.map_append]
          rfl
        · rw [List.length_append]
          exact Nat.succ_le_succ hl
        · intro i' hi'
          rcases List.mem_append.mp hi' with z | z
          · exact ha i' z
          · rw [List.mem_singleton.mp z]
            exact ⟨_, hxm, hc0⟩
        · intro y hy j' hc'
          rw [htk] at hy
          rcases List.mem_append.mp hy with z | z
          · exact List.mem_append.mpr (.inl (hb y z j' hc'))
          · rw [List.mem_singleton.mp z] at hc'
            exact List.mem_append.mpr (.inr (List.mem_singleton.mpr (hc'.one (fun _ _ e _ => e) hc0)))
    rintro A H' nA ⟨s2, l, hA, hl, ha, hb⟩
    replace hs := s2 _ _ hs
    replace B := B.trans (But.of s2)
    replace h1 := s2 _ _ h1
    replace h2 := s2 _ _ h2
    replace h3 := s2 _ _ h3
    replace h4 := s2 _ _ h4
    replace h5 := s2 _ _ h5
    replace h6 := s2 _ _ h6
    replace h7 := s2 _ _ h7
    refine ⟨pz, A, _, _, rfl, rfl, s2 _ _ hz, hA, ?_, ?_⟩
    · rw [List.length_map]
      show 1 + l.length ≤ sizeLine
      exact Nat.le_trans (Nat.add_le_add_left (Nat.le_trans hl ok.clen) 1) (by decide)
    intro pw nw
    have sw := Same.new (o := .lst ([.int 0] ++ l.map V.int)) nw
    have hw : upd H' pw (.lst ([.int 0] ++ l.map V.int)) pw = some (.lst ((0 :: l).map V.int)) := upd_same
    replace hs := sw _ _ hs
    replace B := B.trans (But.of sw)
    replace h1 := sw _ _ h1
    replace h2 := sw _ _ h2
    replace h3 := sw _ _ h3
    replace h4 := sw _ _ h4
    replace h5 := sw _ _ h5
    replace h6 := sw _ _ h6
    replace h7 := sw _ _ h7
    refine ⟨pw, 0 :: l, rfl, SqL.of hw, (by simp), fun m hm hle => ?_⟩
    refine ⟨_, _, rfl, rfl, ?_⟩
    refine ⟨_, rfl, self, Cc, dx, _, rfl, hs, cl, na _ (by decide), Nat.lt_of_le_of_lt ln (by decide), ?_⟩
    generalize eu : upd _ self (HO.ins _ _ _) = Hn
    replace hs := (congrArg (fun z : Hp => z self = some _) eu).mp upd_same
    replace B := (congrArg (But self H) eu).mp (But.upd B)
    have bu : But self _ Hn := (congrArg (But self _) eu).mp (But.upd But.refl)
    have ln := fldlen hs ln
    replace h1 := bu _ _ z1 h1
    replace h2 := bu _ _ z2 h2
    replace h3 := bu _ _ z3 h3
    replace h4 := bu _ _ z4 h4
    replace h5 := bu _ _ z5 h5
    replace h6 := bu _ _ z6 h6
    replace h7 := bu _ _ z7 h7
    clear eu bu
    have back : ∀ {x : V} {j : Int}, x ∈ D.consts → KCode Cc Hz x j → KCode Cc H x j := fun {x j} hxm hc => by
      rcases ok.consts x hxm with z | ⟨j', z⟩
      · exfalso
        rcases hx x hxm with y | ⟨j'', y⟩
        · exact y.noCode hc
        · cases z with
          | tup hh _ _ =>
            obtain ⟨a, _, _, e, hh', _⟩ := hc
            cases e
            rw [B0 _ _ (fun z => by rw [z, hs0] at hh; cases hh) hh] at hh'
            cases hh'
          | _ =>
            obtain ⟨a, _, _, e, _⟩ := hc
            cases e
      · have := (z.but hs0 B0).one (fun _ _ e _ => e) hc
        rw [← this]
        exact z
    refine k Hn (1 + m) B ⟨fun x hxm j hc => ?_, ?_⟩ ⟨dx, _, hs, (look_miss (by decide +kernel) (look_miss (by decide +kernel) (look_miss (by decide +kernel) (look_miss (by decide +kernel) (look_miss (by decide +kernel) (look_miss (by decide +kernel) (look_miss (by decide +kernel) (look_miss (by decide +kernel) kp1)))))))), (look_miss (by decide +kernel) (look_miss (by decide +kernel) (look_miss (by decide +kernel) (look_miss (by decide +kernel) (look_miss (by decide +kernel) (look_miss (by decide +kernel) (look_miss (by decide +kernel) (look_miss (by decide +kernel) kp2)))))))), (look_miss (by decide +kernel) (look_miss (by decide +kernel) (look_miss (by decide +kernel) (look_miss (by decide +kernel) (look_miss (by decide +kernel) (look_miss (by decide +kernel) (look_miss (by decide +kernel) (look_miss (by decide +kernel) kp3)))))))), (look_miss (by decide +kernel) (look_miss (by decide +kernel) (look_miss (by decide +kernel) (look_miss (by decide +kernel) (look_miss (by decide +kernel) (look_miss (by decide +kernel) (look_miss (by decide +kernel) (look_miss (by decide +kernel) kp4)))))))), ⟨_, (look_miss (by decide +kernel) (look_miss (by decide +kernel) (look_miss (by decide +kernel) (look_miss (by decide +kernel) look_hit)))), h4⟩, ⟨_, (look_miss (by decide +kernel) (look_miss (by decide +kernel) (look_miss (by decide +kernel) (look_miss (by decide +kernel) (look_miss (by decide +kernel) (look_miss (by decide +kernel) (look_miss (by decide +kernel) look_hit))))))), h1⟩, ⟨_, (look_miss (by decide +kernel) (look_miss (by decide +kernel) (look_miss (by decide +kernel) (look_miss (by decide +kernel) (look_miss (by decide +kernel) (look_miss (by decide +kernel) look_hit)))))), h2⟩, ⟨_, (look_miss (by decide +kernel) (look_miss (by decide +kernel) (look_miss (by decide +kernel) (look_miss (by decide +kernel) (look_miss (by decide +kernel) look_hit))))), h3⟩, ⟨_, (look_miss (by decide +kernel) (look_miss (by decide +kernel) (look_miss (by decide +kernel) look_hit))), h5⟩, (look_miss (by decide +kernel) (look_miss (by decide +kernel) (look_miss (by decide +kernel) (look_miss (by decide +kernel) (look_miss (by decide +kernel) (look_miss (by decide +kernel) (look_miss (by decide +kernel) (look_miss (by decide +kernel) kp5)))))))), (look_miss (by decide +kernel) (look_miss (by decide +kernel) (look_miss (by decide +kernel) (look_miss (by decide +kernel) (look_miss (by decide +kernel) (look_miss (by decide +kernel) (look_miss (by decide +kernel) (look_miss (by decide +kernel) kp6)))))))), (look_miss (by decide +kernel) (look_miss (by decide +kernel) (look_miss (by decide +kernel) (look_miss (by decide +kernel) (look_miss (by decide +kernel) (look_miss (by decide +kernel) (look_miss (by decide +kernel) (look_miss (by decide +kernel) kp7)))))))), ⟨_, (look_miss (by decide +kernel) (look_miss (by decide +kernel) look_hit)), h6⟩, ⟨_, (look_miss (by decide +kernel) look_hit), h7⟩, look_hit⟩
    · have := hle j (List.mem_cons_of_mem _ (hb x (by rw [List.take_length]; exact hxm) j (hc.but hs0 B0)))
      omega
    · rcases List.mem_cons.mp hm with z | z
      · left
        omega
      · obtain ⟨x, hxm, hc⟩ := ha m z
        exact .inr ⟨x, hxm, m, back hxm hc, by omega⟩
end
end K57
namespace K57
open PySem PySem.Spec PyProof.Rows L2 Nd
def tN0 : List (Key × Vo) := [(.inr "CACHE", .inl 0), (.inr "BEFORE_WITH", .inl 2), (.inr "BINARY_SLICE", .inl 4), (.inr "BINARY_SUBSCR", .inl 5), (.inr "CHECK_EXC_MATCH", .inl 7), (.inr "CLEANUP_THROW", .inl 8), (.inr "DELETE_SUBSCR", .inl 9), (.inr "END_FOR", .inl 11), (.inr "END_SEND", .inl 12), (.inr "GET_ITER", .inl 19), (.inr "GET_YIELD_FROM_ITER", .inl 21), (.inr "LOAD_ASSERTION_ERROR", .inl 23)]
def tN1 : List (Key × Vo) := [(.inr "LOAD_BUILD_CLASS", .inl 24), (.inr "LOAD_LOCALS", .inl 25), (.inr "MAKE_FUNCTION", .inl 26), (.inr "NOP", .inl 30), (.inr "POP_EXCEPT", .inl 31), (.inr "POP_TOP", .inl 32), (.inr "PUSH_EXC_INFO", .inl 33), (.inr "PUSH_NULL", .inl 34), (.inr "RETURN_GENERATOR", .inl 35), (.inr "RETURN_VALUE", .inl 36), (.inr "STORE_SLICE", .inl 38), (.inr "STORE_SUBSCR", .inl 39)]
def tN2 : List (Key × Vo) := [(.inr "TO_BOOL", .inl 40), (.inr "UNARY_INVERT", .inl 41), (.inr "UNARY_NEGATIVE", .inl 42), (.inr "UNARY_NOT", .inl 43), (.inr "WITH_EXCEPT_START", .inl 44), (.inr "BINARY_OP", .inl 45), (.inr "BUILD_CONST_KEY_MAP", .inl 46), (.inr "BUILD_LIST", .inl 47), (.inr "BUILD_MAP", .inl 48), (.inr "BUILD_TUPLE", .inl 52), (.inr "CALL", .inl 53), (.inr "CALL_FUNCTION_EX", .inl 54)]
def tN3 : List (Key × Vo) := [(.inr "CALL_INTRINSIC_1", .inl 55), (.inr "CALL_KW", .inl 57), (.inr "COMPARE_OP", .inl 58), (.inr "CONTAINS_OP", .inl 59), (.inr "COPY", .inl 61), (.inr "COPY_FREE_VARS", .inl 62), (.inr "DELETE_ATTR", .inl 63), (.inr "DELETE_DEREF", .inl 64), (.inr "DELETE_FAST", .inl 65), (.inr "DELETE_GLOBAL", .inl 66), (.inr "DELETE_NAME", .inl 67), (.inr "DICT_MERGE", .inl 68)]
def tN4 : List (Key × Vo) := [(.inr "EXTENDED_ARG", .inl 71), (.inr "FOR_ITER", .inl 72), (.inr "IS_OP", .inl 76), (.inr "JUMP_BACKWARD", .inl 77), (.inr "JUMP_BACKWARD_NO_INTERRUPT", .inl 78), (.inr "JUMP_FORWARD", .inl 79), (.inr "LIST_APPEND", .inl 80), (.inr "LIST_EXTEND", .inl 81), (.inr "LOAD_ATTR", .inl 82), (.inr "LOAD_CONST", .inl 83), (.inr "LOAD_DEREF", .inl 84), (.inr "LOAD_FAST", .inl 85)]
def tN5 : List (Key × Vo) := [(.inr "LOAD_FAST_CHECK", .inl 87), (.inr "LOAD_FAST_LOAD_FAST", .inl 88), (.inr "LOAD_FROM_DICT_OR_DEREF", .inl 89), (.inr "LOAD_GLOBAL", .inl 91), (.inr "LOAD_NAME", .inl 92), (.inr "MAKE_CELL", .inl 94), (.inr "MAP_ADD", .inl 95), (.inr "POP_JUMP_IF_FALSE", .inl 97), (.inr "POP_JUMP_IF_NONE", .inl 98), (.inr "POP_JUMP_IF_NOT_NONE", .inl 99), (.inr "POP_JUMP_IF_TRUE", .inl 100), (.inr "RAISE_VARARGS", .inl 101)]
def tN6 : List (Key × Vo) := [(.inr "RERAISE", .inl 102), (.inr "RETURN_CONST", .inl 103), (.inr "SEND", .inl 104), (.inr "SET_FUNCTION_ATTRIBUTE", .inl 106), (.inr "STORE_ATTR", .inl 108), (.inr "STORE_DEREF", .inl 109), (.inr "STORE_FAST", .inl 110), (.inr "STORE_FAST_LOAD_FAST", .inl 111), (.inr "STORE_FAST_STORE_FAST", .inl 112), (.inr "STORE_GLOBAL", .inl 113), (.inr "STORE_NAME", .inl 114), (.inr "SWAP", .inl 115)]
def tN7 : List (Key × Vo) := [(.inr "UNPACK_EX", .inl 116), (.inr "UNPACK_SEQUENCE", .inl 117), (.inr "YIELD_VALUE", .inl 118), (.inr "RESUME", .inl 149)]
def tN : List (Key × Vo) := tN0 ++ tN1 ++ tN2 ++ tN3 ++ tN4 ++ tN5 ++ tN6 ++ tN7
def tW0 : List (Key × Vo) := [(.inl 0, .inr "CACHE"), (.inl 2, .inr "BEFORE_WITH"), (.inl 4, .inr "BINARY_SLICE"), (.inl 5, .inr "BINARY_SUBSCR"), (.inl 7, .inr "CHECK_EXC_MATCH"), (.inl 8, .inr "CLEANUP_THROW"), (.inl 9, .inr "DELETE_SUBSCR"), (.inl 11, .inr "END_FOR"), (.inl 12, .inr "END_SEND"), (.inl 19, .inr "GET_ITER"), (.inl 21, .inr "GET_YIELD_FROM_ITER"), (.inl 23, .inr "LOAD_ASSERTION_ERROR")]
def tW1 : List (Key × Vo) := [(.inl 24, .inr "LOAD_BUILD_CLASS"), (.inl 25, .inr "LOAD_LOCALS"), (.inl 26, .inr "MAKE_FUNCTION"), (.inl 30, .inr "NOP"), (.inl 31, .inr "POP_EXCEPT"), (.inl 32, .inr "POP_TOP"), (.inl 33, .inr "PUSH_EXC_INFO"), (.inl 34, .inr "PUSH_NULL"), (.inl 35, .inr "RETURN_GENERATOR"), (.inl 36, .inr "RETURN_VALUE"), (.inl 38, .inr "STORE_SLICE"), (.inl 39, .inr "STORE_SUBSCR")]
def tW2 : List (Key × Vo) := [(.inl 40, .inr "TO_BOOL"), (.inl 41, .inr "UNARY_INVERT"), (.inl 42, .inr "UNARY_NEGATIVE"), (.inl 43, .inr "UNARY_NOT"), (.inl 44, .inr "WITH_EXCEPT_START"), (.inl 45, .inr "BINARY_OP"), (.inl 46, .inr "BUILD_CONST_KEY_MAP"), (.inl 47, .inr "BUILD_LIST"), (.inl 48, .inr "BUILD_MAP"), (.inl 52, .inr "BUILD_TUPLE"), (.inl 53, .inr "CALL"), (.inl 54, .inr "CALL_FUNCTION_EX")]
def tW3 : List (Key × Vo) := [(.inl 55, .inr "CALL_INTRINSIC_1"), (.inl 57, .inr "CALL_KW"), (.inl 58, .inr "COMPARE_OP"), (.inl 59, .inr "CONTAINS_OP"), (.inl 61, .inr "COPY"), (.inl 62, .inr "COPY_FREE_VARS"), (.inl 63, .inr "DELETE_ATTR"), (.inl 64, .inr "DELETE_DEREF"), (.inl 65, .inr "DELETE_FAST"), (.inl 66, .inr "DELETE_GLOBAL"), (.inl 67, .inr "DELETE_NAME"), (.inl 68, .inr "DICT_MERGE")]
def tW4 : List (Key × Vo) := [(.inl 71, .inr "EXTENDED_ARG"), (.inl 72, .inr "FOR_ITER"), (.inl 76, .inr "IS_OP"), (.inl 77, .inr "JUMP_BACKWARD"), (.inl 78, .inr "JUMP_BACKWARD_NO_INTERRUPT"), (.inl 79, .inr "JUMP_FORWARD"), (.inl 80, .inr "LIST_APPEND"), (.inl 81, .inr "LIST_EXTEND"), (.inl 82, .inr "LOAD_ATTR"), (.inl 83, .inr "LOAD_CONST"), (.inl 84, .inr "LOAD_DEREF"), (.inl 85, .inr "LOAD_FAST")]
def tW5 : List (Key × Vo) := [(.inl 87, .inr "LOAD_FAST_CHECK"), (.inl 88, .inr "LOAD_FAST_LOAD_FAST"), (.inl 89, .inr "LOAD_FROM_DICT_OR_DEREF"), (.inl 91, .inr "LOAD_GLOBAL"), (.inl 92, .inr "LOAD_NAME"), (.inl 94, .inr "MAKE_CELL"), (.inl 95, .inr "MAP_ADD"), (.inl 97, .inr "POP_JUMP_IF_FALSE"), (.inl 98, .inr "POP_JUMP_IF_NONE"), (.inl 99, .inr "POP_JUMP_IF_NOT_NONE"), (.inl 100, .inr "POP_JUMP_IF_TRUE"), (.inl 101, .inr "RAISE_VARARGS")]
def tW6 : List (Key × Vo) := [(.inl 102, .inr "RERAISE"), (.inl 103, .inr "RETURN_CONST"), (.inl 104, .inr "SEND"), (.inl 106, .inr "SET_FUNCTION_ATTRIBUTE"), (.inl 108, .inr "STORE_ATTR"), (.inl 109, .inr "STORE_DEREF"), (.inl 110, .inr "STORE_FAST"), (.inl 111, .inr "STORE_FAST_LOAD_FAST"), (.inl 112, .inr "STORE_FAST_STORE_FAST"), (.inl 113, .inr "STORE_GLOBAL"), (.inl 114, .inr "STORE_NAME"), (.inl 115, .inr "SWAP")]
def tW7 : List (Key × Vo) := [(.inl 116, .inr "UNPACK_EX"), (.inl 117, .inr "UNPACK_SEQUENCE"), (.inl 118, .inr "YIELD_VALUE"), (.inl 149, .inr "RESUME")]
def tW : List (Key × Vo) := tW0 ++ tW1 ++ tW2 ++ tW3 ++ tW4 ++ tW5 ++ tW6 ++ tW7
def tC0 : List (Key × Vo) := [(.inr "BINARY_SUBSCR", .inl 1), (.inr "STORE_SUBSCR", .inl 1), (.inr "TO_BOOL", .inl 3), (.inr "BINARY_OP", .inl 1), (.inr "CALL", .inl 3), (.inr "COMPARE_OP", .inl 1), (.inr "CONTAINS_OP", .inl 1), (.inr "FOR_ITER", .inl 1), (.inr "JUMP_BACKWARD", .inl 1), (.inr "LOAD_ATTR", .inl 9), (.inr "LOAD_GLOBAL", .inl 4), (.inr "POP_JUMP_IF_FALSE", .inl 1)]
def tC1 : List (Key × Vo) := [(.inr "POP_JUMP_IF_NONE", .inl 1), (.inr "POP_JUMP_IF_NOT_NONE", .inl 1), (.inr "POP_JUMP_IF_TRUE", .inl 1), (.inr "SEND", .inl 1), (.inr "STORE_ATTR", .inl 4), (.inr "UNPACK_SEQUENCE", .inl 1)]
def tC : List (Key × Vo) := tC0 ++ tC1
def tS0 : List (Key × Vo) := [(.inr "BINARY_OP", .inr "operator"), (.inr "BUILD_CONST_KEY_MAP", .inr "number"), (.inr "BUILD_LIST", .inr "number"), (.inr "BUILD_MAP", .inr "number"), (.inr "BUILD_TUPLE", .inr "number"), (.inr "CALL", .inr "number"), (.inr "CALL_FUNCTION_EX", .inr "number"), (.inr "CALL_INTRINSIC_1", .inr "number"), (.inr "CALL_KW", .inr "number"), (.inr "COMPARE_OP", .inr "compare"), (.inr "CONTAINS_OP", .inr "number"), (.inr "COPY", .inr "number")]
def tS1 : List (Key × Vo) := [(.inr "COPY_FREE_VARS", .inr "number"), (.inr "DELETE_ATTR", .inr "name"), (.inr "DELETE_DEREF", .inr "slot"), (.inr "DELETE_FAST", .inr "slot"), (.inr "DELETE_GLOBAL", .inr "name"), (.inr "DELETE_NAME", .inr "name"), (.inr "DICT_MERGE", .inr "number"), (.inr "EXTENDED_ARG", .inr "number"), (.inr "FOR_ITER", .inr "jump"), (.inr "IS_OP", .inr "number"), (.inr "JUMP_BACKWARD", .inr "jump"), (.inr "JUMP_BACKWARD_NO_INTERRUPT", .inr "jump")]
def tS2 : List (Key × Vo) := [(.inr "JUMP_FORWARD", .inr "jump"), (.inr "LIST_APPEND", .inr "number"), (.inr "LIST_EXTEND", .inr "number"), (.inr "LOAD_ATTR", .inr "more"), (.inr "LOAD_CONST", .inr "constant"), (.inr "LOAD_DEREF", .inr "slot"), (.inr "LOAD_FAST", .inr "slot"), (.inr "LOAD_FAST_CHECK", .inr "slot"), (.inr "LOAD_FAST_LOAD_FAST", .inr "pair"), (.inr "LOAD_FROM_DICT_OR_DEREF", .inr "slot"), (.inr "LOAD_GLOBAL", .inr "more"), (.inr "LOAD_NAME", .inr "name")]
def tS3 : List (Key × Vo) := [(.inr "MAKE_CELL", .inr "slot"), (.inr "MAP_ADD", .inr "number"), (.inr "POP_JUMP_IF_FALSE", .inr "jump"), (.inr "POP_JUMP_IF_NONE", .inr "jump"), (.inr "POP_JUMP_IF_NOT_NONE", .inr "jump"), (.inr "POP_JUMP_IF_TRUE", .inr "jump"), (.inr "RAISE_VARARGS", .inr "number"), (.inr "RERAISE", .inr "number"), (.inr "RETURN_CONST", .inr "constant"), (.inr "SEND", .inr "jump"), (.inr "SET_FUNCTION_ATTRIBUTE", .inr "number"), (.inr "STORE_ATTR", .inr "name")]
def tS4 : List (Key × Vo) := [(.inr "STORE_DEREF", .inr "slot"), (.inr "STORE_FAST", .inr "slot"), (.inr "STORE_FAST_LOAD_FAST", .inr "pair"), (.inr "STORE_FAST_STORE_FAST", .inr "pair"), (.inr "STORE_GLOBAL", .inr "name"), (.inr "STORE_NAME", .inr "name"), (.inr "SWAP", .inr "number"), (.inr "UNPACK_EX", .inr "number"), (.inr "UNPACK_SEQUENCE", .inr "number"), (.inr "YIELD_VALUE", .inr "number"), (.inr "RESUME", .inr "number")]
def tS : List (Key × Vo) := tS0 ++ tS1 ++ tS2 ++ tS3 ++ tS4
def tO0 : List (Key × Vo) := [(.inr "+", .inl 0), (.inr "&", .inl 1), (.inr "//", .inl 2), (.inr "<<", .inl 3), (.inr "*", .inl 5), (.inr "mod", .inl 6), (.inr "|", .inl 7), (.inr "**", .inl 8), (.inr ">>", .inl 9), (.inr "-", .inl 10), (.inr "^", .inl 12)]
def tO : List (Key × Vo) := tO0
def tP0 : List (Key × Vo) := [(.inr "<", .inl 2), (.inr "<=", .inl 42), (.inr "==", .inl 72), (.inr "!=", .inl 103), (.inr ">", .inl 132), (.inr ">=", .inl 172)]
def tP : List (Key × Vo) := tP0
def tI0 : List (Key × Vo) := [(.inl 3, .inr "INTRINSIC_STOPITERATION_ERROR"), (.inl 6, .inr "INTRINSIC_LIST_TO_TUPLE")]
def tI : List (Key × Vo) := tI0
def tA0 : List (Key × Vo) := [(.inl 1, .inr "defaults"), (.inl 2, .inr "kwdefaults"), (.inl 8, .inr "closure")]
def tA : List (Key × Vo) := tA0
def tM0 : List (Key × Vo) := [(.inr "LOAD_GLOBAL", .inr " + NULL"), (.inr "LOAD_ATTR", .inr " + NULL|self")]
def tM : List (Key × Vo) := tM0
end K57
set_option maxHeartbeats 0
/-! ### the head -/
namespace K57
open PySem PySem.Spec PyProof.Rows L2 Nd
def dD (x : Str) (st : Stmt) : He.DefD := ⟨(x, none), x, x, defArgs st, defBody st, defScope st, [], []⟩
def dM (C m q : Str) (st : Stmt) : He.DefD := ⟨(C, some m), m, q, defArgs st, defBody st, defScope st, [], []⟩
def topQ (i : Nat) : Stmt := PySem.Challenge.pw_codewalk_k57_instructions_told_as_dis_te.main.body.getD i (.Pass ⟨0, 0, 0, 0⟩)
def oddQ : List String := ["NoneType", "int", "str", "list", "tuple", "bool", "dict"]
def fn : List He.DefD := [dD "cut_one" (topQ 28), dD "cut" (topQ 29), dD "joined" (topQ 35), dD "signed_at" (topQ 36), dD "line_rows" (topQ 37), dD "want_code" (topQ 16), dD "is_number" (topQ 7), dD "is_string" (topQ 8), dD "is_byte" (topQ 9), dD "are_bytes" (topQ 10), dD "are_strings" (topQ 11), dD "is_constant" (topQ 12), dD "are_constants" (topQ 13), dD "at_index" (topQ 40), dD "word_of" (topQ 41), dD "operator_of" (topQ 42), dD "constant_told" (topQ 43), dD "number_told" (topQ 44), dD "meaning" (topQ 45), dD "lines_of" (topQ 46), dD "line_at" (topQ 47), dD "instructions" (topQ 48), dD "_law_source_of" (topQ 50), dD "_law_next" (topQ 51), dD "_law_one" (topQ 52), dD "_law_table" (topQ 53), dD "_law_packed" (topQ 54), dD "_law_great" (topQ 55), dD "_law_pieces" (topQ 56), dD "_law_marked" (topQ 57), dD "_law_joined" (topQ 58), dD "_law_entry" (topQ 59), dD "_law_line_bytes" (topQ 60), dD "_law_told_operator" (topQ 61), dD "_law_told_number" (topQ 62), dD "_law_drawn" (topQ 63), dD "_law_meaning" (topQ 64), dD "_law_line_at" (topQ 65), dD "_law_told" (topQ 66), dD "_law_lines" (topQ 67), dD "law" (topQ 68), dM "Code" "__init__" "Code.__init__" (metOf (topQ 15) 0), dM "Code" "look" "Code.look" (metOf (topQ 15) 1)]
def fa : List He.Fa := ([.glo "cut_one", .glo "cut", .glo "joined", .glo "signed_at", .glo "line_rows", .glo "want_code", .glo "is_number", .glo "is_string", .glo "is_byte", .glo "are_bytes", .glo "are_strings", .glo "is_constant", .glo "are_constants", .glo "at_index", .glo "word_of", .glo "operator_of", .glo "constant_told", .glo "number_told", .glo "meaning", .glo "lines_of", .glo "line_at", .glo "instructions", .glo "_law_source_of", .glo "_law_next", .glo "_law_one", .glo "_law_table", .glo "_law_packed", .glo "_law_great", .glo "_law_pieces", .glo "_law_marked", .glo "_law_joined", .glo "_law_entry", .glo "_law_line_bytes", .glo "_law_told_operator", .glo "_law_told_number", .glo "_law_drawn", .glo "_law_meaning", .glo "_law_line_at", .glo "_law_told", .glo "_law_lines"] : List He.Fa) ++ ([.glo "law", .glo "Code", .glo "NoCode", .glo "CodeError", .glo "NoTable", .glo "NUMBERS", .glo "WORDS", .glo "CACHES", .glo "SORTS", .glo "OPERATORS", .glo "COMPARES", .glo "INTRINSICS", .glo "ATTRIBUTES", .glo "MORE", .free "int", .free "len", .free "range", .free "tuple", .free "isinstance", .free "bool", .free "str", .free "all", .free "any", .free "ord", .free "list", .free "dict", .free "max", .free "min", .free "repr", .free "sorted", .free "super", .int "MOST_NUMBER" 2147483647, .int "MOST_NESTED" 100, .int "IN_PLACE" 13, .int "TRUTH" 16, .int "MARK" 128, .int "FURTHER" 64, .int "NO_LINE" 15, .int "ONE_LINE" 13, .cls "Code"] : List He.Fa) ++ ([.mkr "Code", .meth "Code" "look", .noat "Code" "argcount", .noat "Code" "onlycount", .noat "Code" "stacksize", .noat "Code" "flags", .noat "Code" "code", .noat "Code" "constants", .noat "Code" "names", .noat "Code" "slots", .noat "Code" "kinds", .noat "Code" "name", .noat "Code" "path", .noat "Code" "line", .noat "Code" "lines", .noat "Code" "handlers", .noat "Code" "nested"] : List He.Fa)
def ex (K : PySem.W.Frag) : Bool := nxB "/claim/cut.py" K (He.ga K "NoCode") (He.ma K (He.ga K "NoCode") "__init__") && (nxBA "/claim/cut.py" K (He.ga K "NoTable") (He.ma K (He.ga K "NoTable") "__init__") && (insB K (He.ga K "Code") && ((oddQ.all fun t => decide (PySem.W.kitOne K (.type t) (.ref (He.ga K "Code")) = some false)) && (decide (PySem.W.exmOne K (.ref (He.ga K "NoTable")) (.ref (He.ga K "NoTable")) = some true) && (decide (PySem.W.kitOne K (.ref (He.ga K "Code")) (.type "tuple") = some false))))))
abbrev Bt : Type := List NxV × List (Option (List (Option (Str × Int)))) × (List (Option (List (Option (Key × Int × Vo)))))
def nxo (K : PySem.W.Frag) : Bt := ([nxObs "NoCode" K, nxObs "NoTable" K], [], [dicM K (He.ga K "NUMBERS"), dicM K (He.ga K "WORDS"), dicM K (He.ga K "CACHES"), dicM K (He.ga K "SORTS"), dicM K (He.ga K "OPERATORS"), dicM K (He.ga K "COMPARES"), dicM K (He.ga K "INTRINSICS"), dicM K (He.ga K "ATTRIBUTES"), dicM K (He.ga K "MORE")])
def nv (w : World) : Bt := ([nxVal ⟨6, 17, 6, 21⟩ ⟨6, 23, 6, 28⟩ (PySem.Nx.iB ⟨7, 8, 7, 13⟩ ⟨7, 8, 7, 15⟩ ⟨7, 8, 7, 24⟩ ⟨7, 25, 7, 30⟩ ⟨7, 8, 7, 31⟩ ⟨7, 8, 7, 31⟩ ⟨8, 8, 8, 12⟩ ⟨8, 8, 8, 18⟩ ⟨8, 21, 8, 26⟩ ⟨8, 8, 8, 26⟩), nxValA ⟨11, 17, 11, 21⟩ ⟨11, 23, 11, 25⟩ (PySem.NxA.iB ⟨12, 8, 12, 13⟩ ⟨12, 8, 12, 15⟩ ⟨12, 8, 12, 24⟩ ⟨12, 25, 12, 27⟩ ⟨12, 8, 12, 28⟩ ⟨12, 8, 12, 28⟩ ⟨13, 8, 13, 12⟩ ⟨13, 8, 13, 15⟩ ⟨13, 18, 13, 20⟩ ⟨13, 8, 13, 20⟩)], [], [some (exM w.params tN), some (exM w.params tW), some (exM w.params tC), some (exM w.params tS), some (exM w.params tO), some (exM w.params tP), some (exM w.params tI), some (exM w.params tA), some (exM w.params tM)])
abbrev R : PySem.W.OpenRow := PySem.W.OpenLaw.row PySem.Challenge.rw_codewalk_k57_instructions_told_as_dis_te
def tf : List He.Defn := [("law", none)]
abbrev hk : PySem.W.Hook := hookN 5 fa fn tf ex nxo nv
def ob (s : PySem.W.SharedT) : (He.AlD × Bool) × Bt := obsN 5 fa fn tf ex nxo (HandSHeadRun.getT s)
theorem ob_eq (s : PySem.W.SharedT) : ob s = hk.obs s.abs := obsN_eq (HandSHeadRun.getT_eq s)
def loose : List Str := (["CodeError", "NoCode", "NoTable", "MOST_NUMBER", "MOST_NESTED", "is_number", "is_string", "is_byte", "are_bytes", "are_strings", "is_constant", "are_constants", "are_same", "Code", "want_code", "NUMBERS"] : List Str) ++ (["WORDS", "CACHES", "SORTS", "OPERATORS", "IN_PLACE", "COMPARES", "TRUTH", "INTRINSICS", "ATTRIBUTES", "cut_one", "cut", "MARK", "FURTHER", "NO_LINE", "ONE_LINE", "joined"] : List Str) ++ (["signed_at", "line_rows", "MORE", "at_index", "word_of", "operator_of", "constant_told", "number_told", "meaning", "lines_of", "line_at", "instructions", "_law_source_of", "_law_next", "_law_one", "_law_table"] : List Str) ++ (["_law_packed", "_law_great", "_law_pieces", "_law_marked", "_law_joined", "_law_entry", "_law_line_bytes", "_law_told_operator", "_law_told_number", "_law_drawn", "_law_meaning", "_law_line_at", "_law_told", "_law_lines"] : List Str)
theorem run_false1 (w : World) (os : OsState) : (Nd.runX R 10000 (w.withFollow "special-get-raises" false) os).map (fun s => (HandSHeadRun.looksF R.prog (PySem.W.boot_heap (w.withFollow "special-get-raises" false).params) s.abs, (HandSHeadRun.seenQ (PySem.W.view R.prog [68]) loose (PySem.importedModules R.prog.main.body) (fun s => PySem.W.xlAt (PySem.W.view R.prog [68]) [] s && PySem.W.recOk R.toRowW.records s) s.abs).1)) = some (true, (PySem.W.openGood (PySem.W.view R.prog [68]) loose).1) := by
  kernel_rfl
theorem run_false2 (w : World) (os : OsState) : (Nd.runX R 10000 (w.withFollow "special-get-raises" false) os).map (fun s => (HandSHeadRun.seenQ (PySem.W.view R.prog [68]) loose (PySem.importedModules R.prog.main.body) (fun s => PySem.W.xlAt (PySem.W.view R.prog [68]) [] s && PySem.W.recOk R.toRowW.records s) s.abs).2) = some (PySem.W.openGood (PySem.W.view R.prog [68]) loose).2 := by
  kernel_rfl
theorem run_false3 (w : World) (os : OsState) : (Nd.runX R 10000 (w.withFollow "special-get-raises" false) os).map (fun s => (ob s).1) = some (hk.val (w.withFollow "special-get-raises" false)).1 := by
  kernel_rfl
theorem run_false4 (w : World) (os : OsState) : (Nd.runX R 10000 (w.withFollow "special-get-raises" false) os).map (fun s => (ob s).2) = some (hk.val (w.withFollow "special-get-raises" false)).2 := by
  kernel_rfl
theorem run_false (w : World) : HandSHeadRun.RunEq R (PySem.W.view R.prog [68]) hk ob 10000 loose (w.withFollow "special-get-raises" false) := runS Prod.fst Prod.snd (fun _ _ => Prod.ext) (run_false1 w) (run_false2 w) (run_false3 w) (run_false4 w)
theorem run_true1 (w : World) (os : OsState) : (Nd.runX R 10000 (w.withFollow "special-get-raises" true) os).map (fun s => (HandSHeadRun.looksF R.prog (PySem.W.boot_heap (w.withFollow "special-get-raises" true).params) s.abs, (HandSHeadRun.seenQ (PySem.W.view R.prog [68]) loose (PySem.importedModules R.prog.main.body) (fun s => PySem.W.xlAt (PySem.W.view R.prog [68]) [] s && PySem.W.recOk R.toRowW.records s) s.abs).1)) = some (true, (PySem.W.openGood (PySem.W.view R.prog [68]) loose).1) := by
  kernel_rfl
theorem run_true2 (w : World) (os : OsState) : (Nd.runX R 10000 (w.withFollow "special-get-raises" true) os).map (fun s => (HandSHeadRun.seenQ (PySem.W.view R.prog [68]) loose (PySem.importedModules R.prog.main.body) (fun s => PySem.W.xlAt (PySem.W.view R.prog [68]) [] s && PySem.W.recOk R.toRowW.records s) s.abs).2) = some (PySem.W.openGood (PySem.W.view R.prog [68]) loose).2 := by
  kernel_rfl
theorem run_true3 (w : World) (os : OsState) : (Nd.runX R 10000 (w.withFollow "special-get-raises" true) os).map (fun s => (ob s).1) = some (hk.val (w.withFollow "special-get-raises" true)).1 := by
  kernel_rfl
theorem run_true4 (w : World) (os : OsState) : (Nd.runX R 10000 (w.withFollow "special-get-raises" true) os).map (fun s => (ob s).2) = some (hk.val (w.withFollow "special-get-raises" true)).2 := by
  kernel_rfl
theorem run_true (w : World) : HandSHeadRun.RunEq R (PySem.W.view R.prog [68]) hk ob 10000 loose (w.withFollow "special-get-raises" true) := runS Prod.fst Prod.snd (fun _ _ => Prod.ext) (run_true1 w) (run_true2 w) (run_true3 w) (run_true4 w)
theorem run (w : World) : HandSHeadRun.RunEq R (PySem.W.view R.prog [68]) hk ob 10000 loose w := PySem.W.byRow2 "special-get-raises" (P := fun w => HandSHeadRun.RunEq R (PySem.W.view R.prog [68]) hk ob 10000 loose w) run_false run_true w
end K57
set_option maxHeartbeats 4000000
/-! ### what laws with lambdas and slices need -/
namespace Nd
open PySem PySem.Spec PyProof.Rows L2
theorem cut_take (xs : List V) {k : Nat} (h : k ≤ xs.length) : cutV xs none (some (k : Int)) = xs.take k := by
  unfold cutV
  rw [HT.sIx_none, HT.sIx_nat]
  simp [Nat.min_eq_left h]
theorem cut_drop (xs : List V) {k : Nat} (h : k ≤ xs.length) : cutV xs (some (k : Int)) none = xs.drop k := by
  unfold cutV
  rw [HT.sIx_none, HT.sIx_nat, Nat.min_eq_left h]
  exact List.take_of_length_le (by rw [List.length_drop]; exact Nat.le_refl _)
theorem TupsAt.takeN {α : Type} {f : α → List V} {H : Hp} : ∀ {xs : List V} {rs : List α} (k : Nat), TupsAt f H xs rs → TupsAt f H (xs.take k) (rs.take k)
  | _, _, 0, _ => trivial
  | [], [], _ + 1, _ => trivial
  | [], _ :: _, _ + 1, h => False.elim h
  | _ :: _, [], _ + 1, h => False.elim h
  | x :: xs, r :: rs, k + 1, ⟨h, t⟩ => ⟨h, TupsAt.takeN k t⟩
theorem pe_cx0 {X : Cx} {k j : Nat} {x : Str} {sp : Sp} {p pos : Pos} (c : CalX X.prog X.w X.K X.mg X.base k x sp) (hr : Room j X.A) (hk : k ≤ j) (hg : Gl X x) (hdb : (x == ("__debug__" : Str)) = false := by decide) :
    PE X (.Call (.Name x p) [] [] pos) (tCall sp [] E0 tNil) := by
  obtain ⟨f, fd, ps, F, hm, kp, b⟩ := c.ex
  exact pe_call0 F (hr.mono hk) hg hm kp b .nil passL hdb
theorem Tabs_but {H H' : Hp} {T : List (Addr × Str)} {a : Addr} {ys : List V} (h : LamX.Tabs T H) (b : But a H H') (ha : H a = some (.lst ys)) : LamX.Tabs T H' := fun p hp => by
  obtain ⟨ps, h1, h2, h3⟩ := h p hp
  refine ⟨ps, b _ _ (fun z => by rw [z, ha] at h1; cases h1) h1, h2, fun pos cv hc => ?_⟩
  obtain ⟨c, e1, e2⟩ := h3 pos cv hc
  exact ⟨c, e1, b _ _ (fun z => by rw [z, ha] at e2; cases e2) e2⟩
theorem TyX.ext {K : PySem.W.Frag} {H H' : Hp} {x : V} {t : Value} (s : LamX.ExtN H H') (h : TyX K H x t) : TyX K H' x t := by
  cases h with
  | base b =>
    refine .base ?_
    cases b with
    | non => exact .non
    | bl y => exact .bl y
    | int i => exact .int i
    | str y => exact .str y
    | flt y => exact .flt y
    | lst e => exact .lst (s _ _ e fun _ z => by cases z)
    | frz e => exact .frz (s _ _ e fun _ z => by cases z)
    | tup e => exact .tup (s _ _ e fun _ z => by cases z)
    | dK e => exact .dK (s _ _ e fun _ z => by cases z)
    | dT e => exact .dT (s _ _ e fun _ z => by cases z)
    | ins e c1 c2 c3 c4 c5 => exact .ins (s _ _ e fun _ z => by cases z) c1 c2 c3 c4 c5
  | byt b => exact .byt b
  | set e => exact .set (s _ _ e fun _ z => by cases z)
  | kList e c => exact .kList e c
  | kTuple e c => exact .kTuple e c
  | kDict e c => exact .kDict e c
  | fTuple e => exact .fTuple (s _ _ e fun _ z => by cases z)
  | fDict e => exact .fDict (s _ _ e fun _ z => by cases z)
theorem cutV_mem {l : List V} {lo hi : Option Int} {x : V} (h : x ∈ cutV l lo hi) : x ∈ l := by
  unfold cutV at h
  exact List.mem_of_mem_drop (List.mem_of_mem_take h)
theorem ScrL.same {K : PySem.W.Frag} {H H' : Hp} {a : Addr} {xs : List V} (s : Same H H') (h : ScrL K H a xs) : ScrL K H' a xs := by
  rcases h with ⟨vs, h⟩ | h
  · exact .inl ⟨vs, s _ _ h⟩
  · exact .inr h
end Nd
set_option maxHeartbeats 4000000
/-! ### defs that are called where no repr is under way: they may ask repr of lists and tuples -/
namespace Nd
open PySem PySem.Spec PyProof.Rows L2
/-- FnOk, where no repr is under way -/
structure FnG (P : Program) (w : World) (K : PySem.W.Frag) (mg : Str → Option Value) (base : Heap) (k : Nat) (f : Addr) (fd : FuncData) (ps : List Str) (sp : Sp) : Prop where
  len : ∀ vs H Q E, sp vs H Q E → vs.length = ps.length
  run : ∀ (A : Around) (outer : List Env) (s : Shared) (H : Hp) (args : Args) (us : List Value) (vs : List V) (Q : VK) (E : XK), Room k A → A.guards = some [] → Env0 P w K mg base A outer s H → BindsTo s fd args (ps.zip us) → Vals vs us → sp vs H Q E →
    codeAny (model P w) A (.call (.ref f) args) (CR (L2.CX P w) outer P w H s Q E) s
section
variable {P : Program} {w : World} {K : PySem.W.Frag} {mg : Str → Option Value} {base : Heap}
theorem FunD.okG {x qual : Str} {params : Arguments} {body : List Stmt} {scope : Scope} {dvs : List V} {kws : List (Str × V)} {f : Addr} {fd : FuncData} {N ps : List Str} {k : Nat} {sp : Sp} (F : FunD K x qual params body scope dvs kws f fd) (S : FnScope N ps scope) (len : ∀ vs H Q E, sp vs H Q E → vs.length = ps.length)
    (hbody : ∀ (cdv : Value) (A : Around) (outer : List Env) (s : Shared) (H : Hp) (vs : List V) (Q : VK) (E : XK), Room k (A.deeper (envOfC qual scope s.heap.objs.size f cdv)) → (A.deeper (envOfC qual scope s.heap.objs.size f cdv)).guards = some [] → sp vs H Q E →
      ∃ t, PSs (cxOf (L2.CX P w) P w K mg base N qual scope f cdv A outer s H E) body t ∧ t { nx := fun _ H' => Q .non H', rt := Q } (start N vs) H) : FnG P w K mg base (k + 1) f fd ps sp := by
  obtain ⟨oc, od, dV, kV, doc, pm, an, cdv, ct, osl, rfl, lk, hcd, _, _⟩ := F.ex
  refine ⟨len, fun A outer s H args us vs Q E hr hg e0 hb r hsp => ?_⟩
  have hl := len _ _ _ _ hsp
  have KX : K.In s.heap := e0.mod.kin.keeps fun b o e => (e0.bs b o e).1
  have lim : s.heap.NoLimit := e0.mod.nolimit.keeps fun b o e => (e0.bs b o e).1
  have hkind : ∀ y ∈ ps.zip us, scope.names.lookup y.1 = some .local ∨ (scope.names.lookup y.1 = some .cell ∧ ((cellsFrom (s.heap.objs.size + 1) scope.names []).lookup y.1).isSome = true) := fun ⟨n, v⟩ hy => by
    rcases S.par n (List.of_mem_zip hy).1 with q | q
    · exact .inl q
    · exact .inr ⟨q, PySem.W.cellsFrom_some _ _ _ (.inl q)⟩
  refine codeAny_call_function hr.depth (KX _ _ lk) rfl S.co S.gen rfl (PySem.W.codeRec_of KX hcd) (hb _ _ _ _ ?_)
  refine wpAny_newFunctionEnv_cells S.kind hkind fun env he s1 x => ?_
  subst he
  refine ⟨lim.keeps x.toInCall.keep, codeAny_func ?_⟩
  obtain ⟨t, ht, hq⟩ := hbody cdv A outer s H vs Q E (hr.deeper _) hg hsp
  have I : Inv (cxOf (L2.CX P w) P w K mg base N qual scope f cdv A outer s H E) [] (start N vs) H s1 := inv_start S hr.hd e0 hl r x
  refine wpAny_mono (ht.run [] s1 (start N vs) H _ I hq) (fun fl s' hs => ?_) fun e s' hs => hs
  have fin : ∀ {σ' : L2.St} {H' : Hp} {v : V} {u : Value}, Inv (cxOf (L2.CX P w) P w K mg base N qual scope f cdv A outer s H E) [] σ' H' s' → RelV v u → Q v H' → CE outer P w H s Q u s' :=
    fun {σ' H' v u} J rv q => ⟨v, H', J.os, J.bare, J.base, J.hok, rv, q⟩
  cases fl with
  | ret u =>
    obtain ⟨v, σ', H', J, rv, q⟩ := hs
    exact fin J rv q
  | next =>
    obtain ⟨σ', H', J, q⟩ := hs
    exact fin (v := V.non) (u := Value.none) J rfl q
  | brk =>
    obtain ⟨_, _, _, q⟩ := hs
    exact False.elim q
  | cont =>
    obtain ⟨_, _, _, q⟩ := hs
    exact False.elim q
/-- the module's name x is a def that keeps sp where no repr is under way -/
structure CalG (P : Program) (w : World) (K : PySem.W.Frag) (mg : Str → Option Value) (base : Heap) (k : Nat) (x : Str) (sp : Sp) : Prop where
  ex : ∃ (f : Addr) (fd : FuncData) (ps : List Str), FnG P w K mg base k f fd ps sp ∧ mg x = some (.ref f) ∧ PySem.W.keepIn K (.ref f) = true ∧ Binds K fd ps []
theorem DefX.calg {x : Str} {st : Stmt} {f : Addr} {fd : FuncData} {ps : List Str} {k : Nat} {sp : Sp} (F : DefX K mg x st ps f fd) (h : FnG P w K mg base k f fd ps sp) : CalG P w K mg base k x sp := ⟨f, fd, ps, h, F.mgf, F.fn.kp, F.bi⟩
/-- the same with a keyword -/
structure CalGK (P : Program) (w : World) (K : PySem.W.Frag) (mg : Str → Option Value) (base : Heap) (k : Nat) (x p : Str) (sp : Sp) : Prop where
  ex : ∃ (f : Addr) (fd : FuncData), FnG P w K mg base k f fd [p] sp ∧ mg x = some (.ref f) ∧ PySem.W.keepIn K (.ref f) = true ∧ KBn K fd [p] 0 [p] (fun _ ws => ws) (fun _ zs => zs)
theorem DefX.calgk {x : Str} {st : Stmt} {f : Addr} {fd : FuncData} {p : Str} {k : Nat} {sp : Sp} (F : DefX K mg x st [p] f fd) (h : FnG P w K mg base k f fd [p] sp)
    (hb : ∀ (kV doc pm : Value) (an : Option Addr) (cdv ct : Value) (u : Value), bindArgs (PySem.W.fnOf x x (defArgs st) (defBody st) (defScope st) .none kV doc pm an cdv ct) ⟨[], [(p, u)]⟩ = pure [(p, u)]) : CalGK P w K mg base k x p sp :=
  ⟨f, fd, h, F.mgf, F.fn.kp, kb1 F.fn hb⟩
end
section
variable {X : Cx} {k j : Nat} {x q : Str} {sp : Sp} {p pos : Pos} {e : Expr} {es : List Expr} {t : TA}
theorem run_fng {f : Addr} {fd : FuncData} {ps : List Str} {E : XK} {pins : List (Addr × Obj)} {σ : L2.St} {H : Hp} {s : Shared} {Q : VK} {us : List Value} {vs : List V} (F : FnG X.prog X.w X.K X.mg X.base k f fd ps sp) (hr : Room k X.A) (hg : X.A.guards = some []) (hb : Binds X.K fd ps []) (hx : Passes (L2.CX X.prog X.w) X E)
    (I : Inv X pins σ H s) (r : Vals vs us) (h : sp vs H Q E) : wpAny (model X.prog X.w) X.A (call (.ref f) us) (EP X pins σ Q) X.xe s := by
  have hl : us.length = ps.length := by rw [← r.length]; exact F.len _ _ _ _ h
  have hb2 : BindsTo s fd ⟨us, []⟩ (ps.zip us) := by
    have z := hb s us I.kIn (by rw [List.append_nil]; exact hl)
    rw [List.append_nil] at z
    exact z
  refine wpAny_call (codeAny_mono (F.run X.A X.stack s H ⟨us, []⟩ us vs Q E hr hg I.env0 hb2 r h) fun r s' hq => ?_)
  cases r with
  | error e => exact hx pins σ H s e s' I hq
  | ok fl =>
    cases fl with
    | ret u => exact I.after hq
    | next => exact False.elim hq
    | brk => exact False.elim hq
    | cont => exact False.elim hq
/-- a call; E: what is wished if it raises -/
theorem pe_cg {E : XK} (c : CalG X.prog X.w X.K X.mg X.base k x sp) (hr : Room j X.A) (hk : k ≤ j) (hG : X.A.guards = some []) (hg : Gl X x) (hx : Passes (L2.CX X.prog X.w) X E) (ha : PA X (e :: es) t)
    (hdb : (x == ("__debug__" : Str)) = false := by decide) (he : starEach (e :: es) X.env = (false, eval e X.env) :: starEach es X.env := by rfl) (hpl : (backTo pos (starEach es X.env)).any (·.1) = false := by rfl) :
    PE X (.Call (.Name x p) (e :: es) [] pos) (tCall sp [] E t) := by
  obtain ⟨f, fd, ps, F, hm, kp, b⟩ := c.ex
  refine ⟨fun pins s σ H Q I h => ?_⟩
  refine wpAny_Call_Name_kw (ld_glob I hg hm ?_ hdb)
  refine PySem.W.callWith_K (h₀ := X.base) I.ok.mod.kin kp (thn (ha.run pos pins s σ H _ I h) fun us s1 ⟨vs, H1, I1, r, q⟩ => ⟨I1.kIn, ?_⟩) he hpl
  have q : sp (vs ++ []) H1 Q E := q
  rw [List.append_nil] at q
  exact run_fng F (hr.mono hk) hG b hx I1 r q
/-- x(q = e) -/
theorem pe_cgk {E : XK} {kws : List Keyword} {tk : TA} (c : CalGK X.prog X.w X.K X.mg X.base k x q sp) (hr : Room j X.A) (hk : k ≤ j) (hG : X.A.guards = some []) (hg : Gl X x) (hx : Passes (L2.CX X.prog X.w) X E) (hkw : PK X kws tk)
    (hall : (backToKw pos (keywordEach kws X.env)).all (·.1.isSome) = true := by rfl) (hks : (backToKw pos (keywordEach kws X.env)).filterMap (·.1) = [q] := by rfl) (hdb : (x == ("__debug__" : Str)) = false := by decide)
    (hpl : ((backTo pos (starEach [] X.env)).any (·.1) || (backToKw pos (keywordEach kws X.env)).any (·.1.isNone)) = false := by rfl) :
    PE X (.Call (.Name x p) [] kws pos) (tCallK1 sp E tk) := by
  obtain ⟨f, fd, F, hm, kp, b⟩ := c.ex
  refine ⟨fun pins s σ H Q I h => ?_⟩
  refine wpAny_Call_Name_kw (ld_glob I hg hm ?_ hdb)
  refine PySem.W.callWith_KW0 (h₀ := X.base) I.ok.mod.kin kp hall ?_ hpl
  refine thn (hkw.run pos pins s σ H _ I h) fun ws s2 ⟨zs, H2, I2, rz, l1, q2⟩ => ⟨I2.kIn, ?_⟩
  rw [hks]
  have r2 := b.rel (vs := []) (us := []) .nil rz
  refine wpAny_call (codeAny_mono (F.run X.A X.stack s2 H2 ⟨[], [q].zip ws⟩ ws zs Q E (hr.mono hk) hG I2.env0 (b.to s2 [] ws I2.kIn rfl (rz.length.symm.trans l1)) r2 q2) fun r s' hq => ?_)
  cases r with
  | error e => exact hx pins σ H2 s2 e s' I2 hq
  | ok fl =>
    cases fl with
    | ret u => exact I2.after hq
    | next => exact False.elim hq
    | brk => exact False.elim hq
    | cont => exact False.elim hq
end
end Nd
set_option maxHeartbeats 4000000
/-! ### sorted of a dict of texts, any number of them -/
namespace SrtO
open PySem PyProof.Rows Srt
def sv : Value → List Nat
  | .str x _ => x.cps.toList
  | _ => []
def ltSv (v u : Value) : Bool := decide (sv v < sv u)
theorem swo_str : Swo ltSv := by
  refine ⟨fun x y h => ?_, fun x y z h1 h2 => ?_⟩
  · have a := of_decide_eq_true (p := sv x < sv y) h
    exact decide_eq_false (p := sv y < sv x) (List.lt_asymm a)
  · have a : ¬ sv y < sv x := of_decide_eq_false (p := sv y < sv x) h1
    have b : ¬ sv z < sv y := of_decide_eq_false (p := sv z < sv y) h2
    exact decide_eq_false (p := sv z < sv x) (List.le_trans (α := Nat) (l₁ := sv x) (l₂ := sv y) (l₃ := sv z) a b)
theorem strs_mem : ∀ {vs : List Value} {ns : List PySem.Str}, StrsAre vs ns → ∀ v ∈ vs, ∃ i t, v = Value.str i t
  | _, _, .nil, v, h => absurd h (by simp)
  | _, _, .cons n t r, v, h => by
    rcases List.mem_cons.mp h with e | h
    · exact ⟨n, t, e⟩
    · exact strs_mem r v h
def strOf : Value → PySem.Str
  | .str x _ => x
  | _ => PySem.Str.empty
theorem strs_of : ∀ {vs : List Value}, (∀ v ∈ vs, ∃ i t, v = Value.str i t) → StrsAre vs (vs.map strOf)
  | [], _ => .nil
  | v :: vs, h => by
    obtain ⟨i, t, e⟩ := h v List.mem_cons_self
    subst e
    exact .cons i t (strs_of fun u hu => h u (List.mem_cons_of_mem _ hu))
theorem of_strs : ∀ {vs : List Value} {ns : List PySem.Str}, StrsAre vs ns → vs.map strOf = ns
  | _, _, .nil => rfl
  | _, _, .cons n t r => congrArg (n :: ·) (of_strs r)
section
variable {prog : Program} {w : World} {A : Around} {s : Shared}
theorem str_cmp {vs : List Value} {ns : List PySem.Str} (hI : StrsAre vs ns) : Cmp prog w A s oneType' (fun p => p.1 ∈ vs) (lt2 ltSv) := by
  intro p q hm hm'
  obtain ⟨a, t, e⟩ := strs_mem hI _ hm
  obtain ⟨b, u, e'⟩ := strs_mem hI _ hm'
  show wpAny (model prog w) A (keyLt' oneType' p.1 q.1) (fun r s' => s' = s ∧ r = ltSv p.1 q.1) (fun _ _ => False) s
  rw [e, e', keyLt'_oneType]
  exact oneLt_str ⟨rfl, rfl⟩
theorem strs_sortable {a : Addr} {vs : List Value} {ns : List PySem.Str} (hI : StrsAre vs ns) (h2 : 2 ≤ vs.length) : SortableO prog w A s a vs ltSv := by
  intro h' _
  refine ⟨oneType', fun Q E hq => ?_, str_cmp hI⟩
  match vs, hI, h2 with
  | v1 :: v2 :: rest, hI, _ =>
    rw [keyKind_strs hI]
    exact wpAny_pure hq
  | [], _, h => exact absurd h (by decide)
  | [v], _, h => exact absurd h (by simp)
theorem strs_out {vs out : List Value} {ns : List PySem.Str} (hI : StrsAre vs ns) (hb : Stb ltSv out vs) : StrsAre out (out.map strOf) ∧ (out.map strOf).Perm ns := by
  refine ⟨strs_of fun v hv => strs_mem hI v (hb.perm.mem_iff.mp hv), ?_⟩
  have q := hb.perm.map strOf
  rw [of_strs hI] at q
  exact q
end
end SrtO
namespace L2
open PySem PySem.Spec PyProof.Rows
section
variable {X : Cx}
/-- sorted(d) of a dict of texts, any number: some order of the keys -/
theorem call_sortedDA (hcalm : X.calm = true) : CallR X (.builtin "sorted") (fun xs H Q => ∃ (a : Addr) (kvs : List (Key × V)) (ks : List Str), xs = [.ref a] ∧ Rd H a (.dK kvs) ∧ kvs.map (·.1) = ks.map Sum.inr ∧ ks.length ≤ 100000 ∧
    ∀ (ys : List Str) (p : Addr), ys.Perm ks → H p = none → Q (.ref p) (upd H p (.lst (ys.map V.str)))) := by
  intro pins s σ H xs us Q I r q
  obtain ⟨a, kvs, ks, ex, hd, hks, h64, q⟩ := q
  subst ex
  obtain ⟨u, eu, rx⟩ := vals1 r
  subst eu
  cases rx
  obtain ⟨z, lo, vs, rel, dd⟩ := dk_rd I.hok hd
  obtain ⟨ep, hat⟩ := dd.dictAt
  have hkeys : vs.map (·.1) = ks.map Sum.inr := rel.keys.symm.trans hks
  have hl : vs.length = ks.length := by
    have e := congrArg List.length hkeys
    rw [List.length_map, List.length_map] at e
    exact e
  have h16 : vs.length ≤ sizeLine := by rw [hl, sizeLine_eq]; omega
  refine Calls.call_function_entry PyProof.Rows.kind_sorted PyProof.Rows.plain_sorted PyProof.Rows.entry_sorted (PyProof.Rows.args_sorted1 _) ?_
  unfold Builtin.«sorted»
  refine wpAny_bind (m := checkCount "sorted" 1 1 _) (wpAny_pure ?_)
  refine wpAny_bind (PySem.W.kdu_collect (A := X.A.in1) (PySem.W.kdl_dict (knd := mixKind X.prog X.w) (kvs := vs) (ep := ep) lo) (I.ok.hd hcalm) hat h16 fun h' tk acc hk hacc => ?_)
  have hal : acc.toList.length = ks.length := by rw [Array.length_toList, hacc.1, hl]
  have hS : StrsAre acc.toList ks := strs_at hal fun j v e => by
    obtain ⟨k, x, e1, e2⟩ := hacc.2 j v (by rw [← Array.getElem?_toList]; exact e)
    have e3 : (vs.map (·.1))[j]? = some k := by rw [List.getElem?_map, e1]; all_goals rfl
    rw [hkeys, List.getElem?_map] at e3
    cases e4 : ks[j]? with
    | none => rw [e4] at e3; cases e3
    | some y =>
      rw [e4] at e3
      have e5 : Sum.inr y = k := Option.some.inj e3
      subst e5
      obtain ⟨t, ev⟩ := Value.isStrOf_shape (x := y) (v := v) e2
      exact ⟨y, t, rfl, ev⟩
  have I1 : Inv X pins σ H { s with heap := h', toks := tk } := I.kept hk
  have hz : acc.toList.length ≤ sizeLine := by rw [hal, sizeLine_eq]; omega
  refine wpAny_bind (wpAny_newList ?_ hz)
  have hoL : (h'.push (seqObj "list" acc.toList.toArray 0)).get? h'.objs.size = some (seqObj "list" acc.toList.toArray 0) := Heap.get?_push_size _ rfl
  show wpAny _ _ _ _ _ { s with heap := h'.push (seqObj "list" acc.toList.toArray 0), toks := tk }
  refine wpAny_bind (wpAny_holding (wpAny_call_entry PyProof.Rows.slot_list_sort ⟨_, hoL, rfl⟩ PyProof.Rows.entry_list_sort
    (SrtO.list_sort_ord (s := { s with heap := h'.push (seqObj "list" acc.toList.toArray 0), toks := tk }) SrtO.swo_str hoL hz (fun h2 => SrtO.strs_sortable hS h2) fun out h1 h2 => ⟨_, rfl, ?_⟩)
    (PyProof.Rows.args_list_sort _)))
  obtain ⟨g1, g2⟩ := SrtO.strs_out hS h2
  obtain ⟨e', he'⟩ := PyProof.Rows.sortedHeap_at (vs := acc.toList) (out := out.toArray) hoL
  have hlen : ((out.map SrtO.strOf).map V.str).length ≤ sizeLine := by
    rw [List.length_map, g2.length_eq, sizeLine_eq]
    omega
  refine wpAny_pure ⟨_, rfl, .ref h'.objs.size, upd H h'.objs.size (.lst ((out.map SrtO.strOf).map V.str)), I1.laid (t' := tk) (fun b u e => ?_) (Nat.le_refl _)
    (show ObjOk X.prog X.w _ _ _ (.lst ((out.map SrtO.strOf).map V.str)) from ⟨hlen, out, e', vals_of_strs g1, he'⟩), rfl, q _ _ g2 (I1.hok.fresh (Nat.le_refl _))⟩
  have hb : b < h'.objs.size := Heap.lt_size e
  rw [PyProof.Rows.sortedHeap_old (Nat.ne_of_lt hb) (by rw [size_push']; exact Nat.lt_succ_of_lt hb)]
  exact Heap.get?_push_of_some _ e
end
end L2
set_option maxHeartbeats 4000000
namespace K57
open PySem PySem.Spec PyProof.Rows L2 Nd
/-- a word: its number, its caches, its sort -/
abbrev Rw : Type := Str × Int × Nat × Str
def rw0 : List Rw := [("BEFORE_WITH", 2, 0, "-"), ("BINARY_SLICE", 4, 0, "-"), ("BINARY_SUBSCR", 5, 1, "-"), ("CHECK_EXC_MATCH", 7, 0, "-"), ("CLEANUP_THROW", 8, 0, "-"), ("DELETE_SUBSCR", 9, 0, "-"), ("END_FOR", 11, 0, "-"), ("END_SEND", 12, 0, "-"), ("GET_ITER", 19, 0, "-"), ("GET_YIELD_FROM_ITER", 21, 0, "-"), ("LOAD_ASSERTION_ERROR", 23, 0, "-"), ("LOAD_BUILD_CLASS", 24, 0, "-"), ("LOAD_LOCALS", 25, 0, "-"), ("MAKE_FUNCTION", 26, 0, "-"), ("NOP", 30, 0, "-")]
def rw1 : List Rw := [("POP_EXCEPT", 31, 0, "-"), ("POP_TOP", 32, 0, "-"), ("PUSH_EXC_INFO", 33, 0, "-"), ("PUSH_NULL", 34, 0, "-"), ("RETURN_GENERATOR", 35, 0, "-"), ("RETURN_VALUE", 36, 0, "-"), ("STORE_SLICE", 38, 0, "-"), ("STORE_SUBSCR", 39, 1, "-"), ("TO_BOOL", 40, 3, "-"), ("UNARY_INVERT", 41, 0, "-"), ("UNARY_NEGATIVE", 42, 0, "-"), ("UNARY_NOT", 43, 0, "-"), ("WITH_EXCEPT_START", 44, 0, "-"), ("BINARY_OP", 45, 1, "o"), ("BUILD_CONST_KEY_MAP", 46, 0, "k")]
def rw2 : List Rw := [("BUILD_LIST", 47, 0, "k"), ("BUILD_MAP", 48, 0, "k"), ("BUILD_TUPLE", 52, 0, "k"), ("CALL", 53, 3, "k"), ("CALL_FUNCTION_EX", 54, 0, "k"), ("CALL_INTRINSIC_1", 55, 0, "k"), ("CALL_KW", 57, 0, "k"), ("COMPARE_OP", 58, 1, "x"), ("CONTAINS_OP", 59, 1, "k"), ("COPY", 61, 0, "k"), ("COPY_FREE_VARS", 62, 0, "k"), ("DELETE_ATTR", 63, 0, "n"), ("DELETE_DEREF", 64, 0, "l"), ("DELETE_FAST", 65, 0, "l"), ("DELETE_GLOBAL", 66, 0, "n")]
def rw3 : List Rw := [("DELETE_NAME", 67, 0, "n"), ("DICT_MERGE", 68, 0, "k"), ("FOR_ITER", 72, 1, "j"), ("IS_OP", 76, 0, "k"), ("JUMP_BACKWARD", 77, 1, "j"), ("JUMP_BACKWARD_NO_INTERRUPT", 78, 0, "j"), ("JUMP_FORWARD", 79, 0, "j"), ("LIST_APPEND", 80, 0, "k"), ("LIST_EXTEND", 81, 0, "k"), ("LOAD_ATTR", 82, 9, "m"), ("LOAD_CONST", 83, 0, "c"), ("LOAD_DEREF", 84, 0, "l"), ("LOAD_FAST", 85, 0, "l"), ("LOAD_FAST_CHECK", 87, 0, "l"), ("LOAD_FAST_LOAD_FAST", 88, 0, "p")]
def rw4 : List Rw := [("LOAD_FROM_DICT_OR_DEREF", 89, 0, "l"), ("LOAD_GLOBAL", 91, 4, "m"), ("LOAD_NAME", 92, 0, "n"), ("MAKE_CELL", 94, 0, "l"), ("MAP_ADD", 95, 0, "k"), ("POP_JUMP_IF_FALSE", 97, 1, "j"), ("POP_JUMP_IF_NONE", 98, 1, "j"), ("POP_JUMP_IF_NOT_NONE", 99, 1, "j"), ("POP_JUMP_IF_TRUE", 100, 1, "j"), ("RAISE_VARARGS", 101, 0, "k"), ("RERAISE", 102, 0, "k"), ("RETURN_CONST", 103, 0, "c"), ("SEND", 104, 1, "j"), ("SET_FUNCTION_ATTRIBUTE", 106, 0, "k"), ("STORE_ATTR", 108, 4, "n")]
def rw5 : List Rw := [("STORE_DEREF", 109, 0, "l"), ("STORE_FAST", 110, 0, "l"), ("STORE_FAST_LOAD_FAST", 111, 0, "p"), ("STORE_FAST_STORE_FAST", 112, 0, "p"), ("STORE_GLOBAL", 113, 0, "n"), ("STORE_NAME", 114, 0, "n"), ("SWAP", 115, 0, "k"), ("UNPACK_EX", 116, 0, "k"), ("UNPACK_SEQUENCE", 117, 1, "k"), ("YIELD_VALUE", 118, 0, "k"), ("RESUME", 149, 0, "k")]
def rws : List Rw := rw0 ++ rw1 ++ rw2 ++ rw3 ++ rw4 ++ rw5
def kv (l : List (Key × Vo)) : List (Key × V) := l.map fun p => (p.1, voV p.2)
structure GlT (K : PySem.W.Frag) (w : World) (mg : Str → Option Value) (dN dW dC dS : Addr) : Prop where
  c_NUMBERS : ∃ u, mg "NUMBERS" = some u ∧ RelV (.ref dN) u
  c_WORDS : ∃ u, mg "WORDS" = some u ∧ RelV (.ref dW) u
  c_CACHES : ∃ u, mg "CACHES" = some u ∧ RelV (.ref dC) u
  c_SORTS : ∃ u, mg "SORTS" = some u ∧ RelV (.ref dS) u
  N : MDict K w dN (kv tN)
  W : MDict K w dW (kv tW)
  C : MDict K w dC (kv tC)
  S : MDict K w dS (kv tS)
def sortOf (z : Str) : Str := if z = "o" then "operator" else if z = "k" then "number" else if z = "x" then "compare" else if z = "n" then "name" else if z = "l" then "slot" else if z = "j" then "jump" else if z = "m" then "more" else if z = "c" then "constant" else if z = "p" then "pair" else ""
theorem w_of : ∀ r ∈ rws, valV (kv tW) (.inl r.2.1) = some (.str r.1) := by decide +kernel
theorem c_of : ∀ r ∈ rws, (valV (kv tC) (.inr r.1)).getD (.int 0) = .int r.2.2.1 := by decide +kernel
theorem s_of : ∀ r ∈ rws, (valV (kv tS) (.inr r.1)).getD (.str "") = .str (sortOf r.2.2.2) := by decide +kernel
theorem n_of : ∀ r ∈ rws, valV (kv tN) (.inr r.1) = some (.int r.2.1) := by decide +kernel
theorem n_ext : valV (kv tN) (.inr "EXTENDED_ARG") = some (.int 71) := by decide +kernel
theorem n_cache : valV (kv tN) (.inr "CACHE") = some (.int 0) := by decide +kernel
/-- the word of a number, but CACHE -/
def rowOf (i : Int) : Option Rw := rws.find? fun r => r.2.1 == i
theorem rowOf_mem {i : Int} {r : Rw} (h : rowOf i = some r) : r ∈ rws ∧ r.2.1 = i := ⟨List.mem_of_find?_eq_some h, by simpa using List.find?_some h⟩
theorem w_all : ∀ n ∈ List.range 256, ((valV (kv tW) (.inl (n : Int))).isSome = false → rowOf n = none) ∧ (rowOf n = none → (valV (kv tW) (.inl (n : Int))).isSome = true → (n : Int) = 0 ∨ (n : Int) = 71) := by decide +kernel
end K57
set_option maxHeartbeats 4000000
set_option pp.maxSteps 600
set_option hygiene false in
local macro_rules | `(tactic| walk_at "new1") => `(tactic| (intro p1 n1; generalize e1 : upd _ p1 _ = H1; (have s1 := (congrArg (Same _) e1).mp (Same.new n1)); (have h1 := (congrArg (fun z : Hp => z p1 = some _) e1).mp upd_same); clear e1))
set_option hygiene false in
local macro_rules | `(tactic| walk_at "new2") => `(tactic| (intro p2 n2; generalize e2 : upd _ p2 _ = H2; (have s2 := (congrArg (Same _) e2).mp (Same.new n2)); (have h2 := (congrArg (fun z : Hp => z p2 = some _) e2).mp upd_same); clear e2))
set_option hygiene false in
local macro_rules | `(tactic| walk_at "new3") => `(tactic| (intro p3 n3; generalize e3 : upd _ p3 _ = H3; (have s3 := (congrArg (Same _) e3).mp (Same.new n3)); (have h3 := (congrArg (fun z : Hp => z p3 = some _) e3).mp upd_same); clear e3))
set_option hygiene false in
local macro_rules | `(tactic| walk_at "new4") => `(tactic| (intro p4 n4; generalize e4 : upd _ p4 _ = H4; (have s4 := (congrArg (Same _) e4).mp (Same.new n4)); (have h4 := (congrArg (fun z : Hp => z p4 = some _) e4).mp upd_same); clear e4))
set_option hygiene false in
local macro_rules | `(tactic| walk_at "new5") => `(tactic| (intro p5 n5; generalize e5 : upd _ p5 _ = H5; (have s5 := (congrArg (Same _) e5).mp (Same.new n5)); (have h5 := (congrArg (fun z : Hp => z p5 = some _) e5).mp upd_same); clear e5))
set_option hygiene false in
local macro_rules | `(tactic| walk_at "new6") => `(tactic| (intro p6 n6; generalize e6 : upd _ p6 _ = H6; (have s6 := (congrArg (Same _) e6).mp (Same.new n6)); (have h6 := (congrArg (fun z : Hp => z p6 = some _) e6).mp upd_same); clear e6))
set_option hygiene false in
local macro_rules | `(tactic| walk_at "new7") => `(tactic| (intro p7 n7; generalize e7 : upd _ p7 _ = H7; (have s7 := (congrArg (Same _) e7).mp (Same.new n7)); (have h7 := (congrArg (fun z : Hp => z p7 = some _) e7).mp upd_same); clear e7))
set_option hygiene false in
local macro_rules | `(tactic| walk_at "new8") => `(tactic| (intro p8 n8; generalize e8 : upd _ p8 _ = H8; (have s8 := (congrArg (Same _) e8).mp (Same.new n8)); (have h8 := (congrArg (fun z : Hp => z p8 = some _) e8).mp upd_same); clear e8))
set_option hygiene false in
local macro_rules | `(tactic| walk_at "new9") => `(tactic| (intro p9 n9; generalize e9 : upd _ p9 _ = H9; (have s9 := (congrArg (Same _) e9).mp (Same.new n9)); (have h9 := (congrArg (fun z : Hp => z p9 = some _) e9).mp upd_same); clear e9))
set_option hygiene false in
local macro_rules | `(tactic| walk_at "new10") => `(tactic| (intro p10 n10; generalize e10 : upd _ p10 _ = H10; (have s10 := (congrArg (Same _) e10).mp (Same.new n10)); (have h10 := (congrArg (fun z : Hp => z p10 = some _) e10).mp upd_same); clear e10))
set_option hygiene false in
local macro_rules | `(tactic| walk_at "new11") => `(tactic| (intro p11 n11; generalize e11 : upd _ p11 _ = H11; (have s11 := (congrArg (Same _) e11).mp (Same.new n11)); (have h11 := (congrArg (fun z : Hp => z p11 = some _) e11).mp upd_same); clear e11))
set_option hygiene false in
local macro_rules | `(tactic| walk_at "new12") => `(tactic| (intro p12 n12; generalize e12 : upd _ p12 _ = H12; (have s12 := (congrArg (Same _) e12).mp (Same.new n12)); (have h12 := (congrArg (fun z : Hp => z p12 = some _) e12).mp upd_same); clear e12))
set_option hygiene false in
local macro_rules | `(tactic| walk_at "new13") => `(tactic| (intro p13 n13; generalize e13 : upd _ p13 _ = H13; (have s13 := (congrArg (Same _) e13).mp (Same.new n13)); (have h13 := (congrArg (fun z : Hp => z p13 = some _) e13).mp upd_same); clear e13))
set_option hygiene false in
local macro_rules | `(tactic| walk_at "new14") => `(tactic| (intro p14 n14; generalize e14 : upd _ p14 _ = H14; (have s14 := (congrArg (Same _) e14).mp (Same.new n14)); (have h14 := (congrArg (fun z : Hp => z p14 = some _) e14).mp upd_same); clear e14))
set_option hygiene false in
local macro_rules | `(tactic| walk_at "new15") => `(tactic| (intro p15 n15; generalize e15 : upd _ p15 _ = H15; (have s15 := (congrArg (Same _) e15).mp (Same.new n15)); (have h15 := (congrArg (fun z : Hp => z p15 = some _) e15).mp upd_same); clear e15))
set_option hygiene false in
local macro_rules | `(tactic| walk_at "new16") => `(tactic| (intro p16 n16; generalize e16 : upd _ p16 _ = H16; (have s16 := (congrArg (Same _) e16).mp (Same.new n16)); (have h16 := (congrArg (fun z : Hp => z p16 = some _) e16).mp upd_same); clear e16))
set_option hygiene false in
local macro_rules | `(tactic| walk_at "new17") => `(tactic| (intro p17 n17; generalize e17 : upd _ p17 _ = H17; (have s17 := (congrArg (Same _) e17).mp (Same.new n17)); (have h17 := (congrArg (fun z : Hp => z p17 = some _) e17).mp upd_same); clear e17))
set_option hygiene false in
local macro_rules | `(tactic| walk_at "new18") => `(tactic| (intro p18 n18; generalize e18 : upd _ p18 _ = H18; (have s18 := (congrArg (Same _) e18).mp (Same.new n18)); (have h18 := (congrArg (fun z : Hp => z p18 = some _) e18).mp upd_same); clear e18))
set_option hygiene false in
local macro_rules | `(tactic| walk_at "new19") => `(tactic| (intro p19 n19; generalize e19 : upd _ p19 _ = H19; (have s19 := (congrArg (Same _) e19).mp (Same.new n19)); (have h19 := (congrArg (fun z : Hp => z p19 = some _) e19).mp upd_same); clear e19))
set_option hygiene false in
local macro_rules | `(tactic| walk_at "new20") => `(tactic| (intro p20 n20; generalize e20 : upd _ p20 _ = H20; (have s20 := (congrArg (Same _) e20).mp (Same.new n20)); (have h20 := (congrArg (fun z : Hp => z p20 = some _) e20).mp upd_same); clear e20))
set_option hygiene false in
local macro_rules | `(tactic| walk_at "new21") => `(tactic| (intro p21 n21; generalize e21 : upd _ p21 _ = H21; (have s21 := (congrArg (Same _) e21).mp (Same.new n21)); (have h21 := (congrArg (fun z : Hp => z p21 = some _) e21).mp upd_same); clear e21))
set_option hygiene false in
local macro_rules | `(tactic| walk_at "new22") => `(tactic| (intro p22 n22; generalize e22 : upd _ p22 _ = H22; (have s22 := (congrArg (Same _) e22).mp (Same.new n22)); (have h22 := (congrArg (fun z : Hp => z p22 = some _) e22).mp upd_same); clear e22))
set_option hygiene false in
local macro_rules | `(tactic| walk_at "new23") => `(tactic| (intro p23 n23; generalize e23 : upd _ p23 _ = H23; (have s23 := (congrArg (Same _) e23).mp (Same.new n23)); (have h23 := (congrArg (fun z : Hp => z p23 = some _) e23).mp upd_same); clear e23))
set_option hygiene false in
local macro_rules | `(tactic| walk_at "new24") => `(tactic| (intro p24 n24; generalize e24 : upd _ p24 _ = H24; (have s24 := (congrArg (Same _) e24).mp (Same.new n24)); (have h24 := (congrArg (fun z : Hp => z p24 = some _) e24).mp upd_same); clear e24))
set_option hygiene false in
local macro_rules | `(tactic| walk_at "new25") => `(tactic| (intro p25 n25; generalize e25 : upd _ p25 _ = H25; (have s25 := (congrArg (Same _) e25).mp (Same.new n25)); (have h25 := (congrArg (fun z : Hp => z p25 = some _) e25).mp upd_same); clear e25))
set_option hygiene false in
local macro_rules | `(tactic| walk_at "new26") => `(tactic| (intro p26 n26; generalize e26 : upd _ p26 _ = H26; (have s26 := (congrArg (Same _) e26).mp (Same.new n26)); (have h26 := (congrArg (fun z : Hp => z p26 = some _) e26).mp upd_same); clear e26))
set_option hygiene false in
local macro_rules | `(tactic| walk_at "new27") => `(tactic| (intro p27 n27; generalize e27 : upd _ p27 _ = H27; (have s27 := (congrArg (Same _) e27).mp (Same.new n27)); (have h27 := (congrArg (fun z : Hp => z p27 = some _) e27).mp upd_same); clear e27))
set_option hygiene false in
local macro_rules | `(tactic| walk_at "new28") => `(tactic| (intro p28 n28; generalize e28 : upd _ p28 _ = H28; (have s28 := (congrArg (Same _) e28).mp (Same.new n28)); (have h28 := (congrArg (fun z : Hp => z p28 = some _) e28).mp upd_same); clear e28))
set_option hygiene false in
local macro_rules | `(tactic| walk_at "new29") => `(tactic| (intro p29 n29; generalize e29 : upd _ p29 _ = H29; (have s29 := (congrArg (Same _) e29).mp (Same.new n29)); (have h29 := (congrArg (fun z : Hp => z p29 = some _) e29).mp upd_same); clear e29))
set_option hygiene false in
local macro_rules | `(tactic| walk_at "new30") => `(tactic| (intro p30 n30; generalize e30 : upd _ p30 _ = H30; (have s30 := (congrArg (Same _) e30).mp (Same.new n30)); (have h30 := (congrArg (fun z : Hp => z p30 = some _) e30).mp upd_same); clear e30))
namespace K57
open PySem PySem.Spec PyProof.Rows L2 Nd
theorem none_back {H H' : Hp} {p : Addr} (s : Same H H') (n : H' p = none) : H p = none := by
  cases e : H p with
  | none => rfl
  | some o =>
    rw [s _ _ e] at n
    cases n
/-! ### how one instruction is cut, in plain words -/
def g (d : List Int) (i : Nat) : Int := d.getD i 0
theorem g_get {d : List Int} {i : Nat} (h : i < d.length) : d[i]? = some (g d i) := by
  unfold g
  rw [List.getD_eq_getElem?_getD, List.getElem?_eq_getElem h] <;> rfl
theorem g_at {d : List Int} {i : Nat} (h : i < d.length) : atI (d.map V.int) ((i : Nat) : Int) = some (V.int (g d i)) := map_at (g_get h)
def xGo (d : List Int) (b : Nat) : Nat → Nat → Int → Option (Nat × Int)
  | 0, _, _ => none
  | f + 1, i, n => if i + 1 < d.length ∧ g d i = 71 then (if i = b + 6 ∨ (i = b ∧ g d (i + 1) = 0) then none else xGo d b f (i + 2) ((n + g d (i + 1)) * 256)) else some (i, n)
def endOf (a : Nat) (r : Rw) : Nat := a + 2 + 2 * r.2.2.1
def oneC (d : List Int) (b : Nat) : Option (Nat × Rw × Int) := match xGo d b 4 b 0 with
  | none => none
  | some (a, n) => if d.length ≤ a + 1 then none else match rowOf (g d a) with
    | none => none
    | some r => if d.length < endOf a r ∨ ((d.drop (a + 2)).take (endOf a r - (a + 2))).any (fun n => n != 0) = true then none else some (a, r, n + g d (a + 1))
theorem oneC_x {d : List Int} {b : Nat} (h : xGo d b 4 b 0 = none) : oneC d b = none := by
  unfold oneC
  rw [h]
theorem oneC_s {d : List Int} {b a : Nat} {n : Int} (h : xGo d b 4 b 0 = some (a, n)) : oneC d b = if d.length ≤ a + 1 then none else match rowOf (g d a) with
    | none => none
    | some r => if d.length < endOf a r ∨ ((d.drop (a + 2)).take (endOf a r - (a + 2))).any (fun n => n != 0) = true then none else some (a, r, n + g d (a + 1)) := by
  unfold oneC
  rw [h]
def Bys (d : List Int) : Prop := (∀ x ∈ d, 0 ≤ x ∧ x ≤ 255) ∧ d.length ≤ 100000
theorem Bys.g {d : List Int} (b : Bys d) {i : Nat} (h : i < d.length) : 0 ≤ g d i ∧ g d i ≤ 255 := b.1 _ (List.mem_of_getElem? (g_get h))
theorem no_word {i : Int} (h0 : 0 ≤ i) (h1 : i ≤ 255) : ((valV (kv tW) (.inl i)).isSome = false → rowOf i = none) ∧ (rowOf i = none → (valV (kv tW) (.inl i)).isSome = true → i = 0 ∨ i = 71) := by
  obtain ⟨n, rfl⟩ := Int.eq_ofNat_of_zero_le h0
  exact w_all n (List.mem_range.mpr (by omega))
theorem row_zero : rowOf 0 = none := by decide +kernel
theorem cut_map {d : List Int} {a e : Nat} (h : a ≤ d.length) (h2 : e ≤ d.length) : cutV (d.map V.int) (some (a : Int)) (some (e : Int)) = ((d.drop a).take (e - a)).map V.int := by
  unfold cutV
  rw [HT.sIx_nat, HT.sIx_nat, List.length_map, Nat.min_eq_left h, Nat.min_eq_left h2, List.map_take, List.map_drop]
abbrev s_cut_one : Stmt := top 28
structure GlU (mg : Str → Option Value) : Prop where
  n_len : mg "len" = none
  n_any : mg "any" = none
def spCutOne (K : PySem.W.Frag) : Sp := fun vs H Q _ => ∃ (h : Addr) (d : List Int) (b : Nat), vs = [.ref h, .int (b : Int)] ∧ H h = some (.tup (d.map V.int)) ∧ Bys d ∧ b ≤ d.length ∧ (oneC d b = none → ∀ H', Same H H' → Q .non H') ∧
  ∀ a r n, oneC d b = some (a, r, n) → ∀ q H', H q = none → Same H H' → H' q = some (.tup [.int (b : Int), .int ((a : Nat) : Int), .str r.1, .int n, .int ((endOf a r : Nat) : Int)]) → Q (.ref q) H'
section
variable {P : Program} {w : World} {K : PySem.W.Frag} {mg : Str → Option Value} {base : Heap} {dN dW dC dS : Addr}
abbrev N_cut_one : List Str := ["data", "begin", "at", "number", "word", "end"]
theorem sc_cut_one : FnScope N_cut_one ["data", "begin"] (defScope s_cut_one) := ⟨rfl, rfl, rfl, by decide +kernel, rfl, by decide +kernel, by decide +kernel⟩
theorem ok_cut_one {f : Addr} {fd : FuncData} (T : GlU mg) (G : GlT K w mg dN dW dC dS) (F : DefX K mg "cut_one" s_cut_one ["data", "begin"] f fd) : CalX P w K mg base 1 "cut_one" (spCutOne K) := by
  refine calx F sc_cut_one (fun vs H Q E h => ?_) (fun cdv A outer s H vs Q E hr h => ?_)
  · obtain ⟨h, d, b, rfl, _⟩ := h
    rfl
  · obtain ⟨h, d, b, rfl, hH, by1, hb, kN, kS⟩ := h
    have hB : SqT K H h (d.map V.int) := SqT.of hH
    refine ⟨_, (pss_cons (ps_par (i := 2) (j := 3) (by rfl) sc_cut_one.nd rfl rfl (by decide) rfl rfl (pa_cons (pv 1) (pa_cons pe_int pa_nil)) (by rfl))
    (pss_cons (ps_while PassesOwn.never (PW.pt (pw_and (pt_cmpR op_lt (pe_op op_add (pv 2) pe_int) (pe_callB call_len_seq (by rfl) T.n_len Boot.«len» (pa_cons (pv 0) pa_nil)) (nomark _)) (pw_and1 (pt_cmpR op_eq (pe_ix ix_tup (pv 0) (pv 2) (fun _ _ => rfl)) (pe_ix (ix_m G.N) (C8.pe_gc rfl G.c_NUMBERS) pe_str (fun _ _ => rfl)) (nomark _)))))
      (pss_cons (ps_if (PW.pt (pw_or (pt_cmpR op_eq (pv 2) (pe_op op_add (pv 1) pe_int) (nomark _)) (pw_or1 (PW.pt (pw_and (pt_cmpR op_eq (pv 2) (pv 1) (nomark _)) (pw_and1 (pt_cmpR op_eq (pe_ix ix_tup (pv 0) (pe_op op_add (pv 2) pe_int) (fun _ _ => rfl)) pe_int (nomark _))))))))
      (pss_one (ps_ret pe_non))
      pss_nil)
    (pss_cons (ps_set (i := 3) sc_cut_one.nd rfl (.inl rfl) (pe_op op_mul (pe_op op_add (pv 3) (pe_ix ix_tup (pv 0) (pe_op op_add (pv 2) pe_int) (fun _ _ => rfl))) pe_int))
    (pss_one (ps_set (i := 2) sc_cut_one.nd rfl (.inl rfl) (pe_op op_add (pv 2) pe_int))))))
    (pss_cons (ps_if (PW.pt (pw_or (pt_cmpR op_ge (pe_op op_add (pv 2) pe_int) (pe_callB call_len_seq (by rfl) T.n_len Boot.«len» (pa_cons (pv 0) pa_nil)) (nomark _)) (pw_or (pt_cmpR (op_notIn_m G.W) (pe_ix ix_tup (pv 0) (pv 2) (fun _ _ => rfl)) (C8.pe_gc rfl G.c_WORDS) (by rfl)) (pw_or1 (pt_cmpR op_eq (pe_ix ix_tup (pv 0) (pv 2) (fun _ _ => rfl)) (pe_ix (ix_m G.N) (C8.pe_gc rfl G.c_NUMBERS) pe_str (fun _ _ => rfl)) (nomark _))))))
      (pss_one (ps_ret pe_non))
      pss_nil)
    (pss_cons (ps_set (i := 4) sc_cut_one.nd rfl (.inl rfl) (pe_ix (ix_m G.W) (C8.pe_gc rfl G.c_WORDS) (pe_ix ix_tup (pv 0) (pv 2) (fun _ _ => rfl)) (fun _ _ => rfl)))
    (pss_cons (ps_set (i := 5) sc_cut_one.nd rfl (.inl rfl) (pe_op op_add (pe_op op_add (pv 2) pe_int) (pe_op op_mul pe_int (pe_mget2 G.C (C8.pe_gc rfl G.c_CACHES) (pv 4) pe_int ⟨rfl, rfl, rfl, rfl⟩))))
    (pss_cons (ps_if (PW.pt (pw_or (pt_cmpR op_gt (pv 5) (pe_callB call_len_seq (by rfl) T.n_len Boot.«len» (pa_cons (pv 0) pa_nil)) (nomark _)) (pw_or1 (pt_val (pe_callB (cr_anyT rfl) (by rfl) T.n_any Boot.«any» (pa_cons (pe_slice sl_tup (pv 0) (po_some (pe_op op_add (pv 2) pe_int)) (po_some (pv 5))) pa_nil))))))
      (pss_one (ps_ret pe_non))
      pss_nil)
    (pss_one (ps_ret (pe_tup (pa_cons (pv 1) (pa_cons (pv 2) (pa_cons (pv 4) (pa_cons (pe_op op_add (pv 3) (pe_ix ix_tup (pv 0) (pe_op op_add (pv 2) pe_int) (fun _ _ => rfl))) (pa_cons (pv 5) pa_nil)))))))))))))), ?_⟩
    refine ⟨_, rfl, _, _, rfl, ?_⟩
    refine while_by (fun σ H' => H' = H ∧ ∃ (i f : Nat) (n : Int), σ = [some (.ref h), some (.int (b : Int)), some (.int (i : Int)), some (.int n), none, none] ∧ b ≤ i ∧ i + 2 * f = b + 8 ∧ 1 ≤ f ∧ xGo d b f i n = xGo d b 4 b 0) (fun σ _ => match σ with | _ :: _ :: some (.int m) :: _ => b + 8 - m.toNat | _ => 0)
      ⟨rfl, b, 4, 0, rfl, Nat.le_refl _, rfl, by decide, rfl⟩ ?_ ?_
    · rintro σ H' ⟨rfl, i, f, n, rfl, hbi, hif, hf, he⟩
      obtain ⟨f, rfl⟩ : ∃ f', f = f' + 1 := ⟨f - 1, by omega⟩
      have ea : ((i : Nat) : Int) + 1 = ((i + 1 : Nat) : Int) := by omega
      have end_ : ¬ (i + 1 < d.length ∧ g d i = 71) → xGo d b 4 b 0 = some (i, n) := fun c => by
        rw [← he]
        unfold xGo
        rw [if_neg c]
      refine ⟨_, rfl, _, _, rfl, rfl, _, rfl, h, _, rfl, .inr hB, _, _, rfl, rfl, _, rfl, ite2 (fun c => ?_) (fun c => ?_)⟩
      · have c0 : ((i : Nat) : Int) + 1 < (((d.map V.int).length : Nat) : Int) := of_decide_eq_true c
        have c0 : i + 1 < d.length := by
          rw [List.length_map] at c0
          omega
        have hi0 : i < d.length := by omega
        refine ⟨_, rfl, _, rfl, h, _, _, _, rfl, rfl, hB, g_at hi0, .inr "EXTENDED_ARG", _, rfl, rfl, n_ext, rfl, _, rfl, ite2 (fun c => ?_) (fun c => ?_)⟩
        · have c71 := of_decide_eq_true c
          have c71 : g d i = 71 := by injection c71
          unfold xGo at he
          rw [if_pos ⟨c0, c71⟩] at he
          have q0 := g_at c0
          refine ⟨_, rfl, _, rfl, _, _, rfl, rfl, rfl, _, rfl, ite2 (fun c => ?_) (fun c => ?_)⟩
          · have z := of_decide_eq_true c
            have z : ((i : Nat) : Int) = (b : Int) + 6 := by injection z
            rw [if_pos (.inl (by omega))] at he
            exact kN (oneC_x he.symm) _ (Same.refl _)
          have n6 : ¬ i = b + 6 := fun z => c (decide_eq_true (congrArg V.int (by omega)))
          refine ⟨_, rfl, _, rfl, rfl, _, rfl, ite2 (fun cb => ?_) (fun cb => ?_)⟩
          · have zb := of_decide_eq_true cb
            have zb : ((i : Nat) : Int) = (b : Int) := by injection zb
            refine ⟨_, rfl, _, rfl, _, _, rfl, rfl, h, _, _, _, rfl, rfl, hB, (by rw [ea]; exact q0), rfl, _, rfl, ite2 (fun c => ?_) (fun c => ?_)⟩
            · have z := of_decide_eq_true c
              have z : g d (i + 1) = 0 := by injection z
              rw [if_pos (.inr ⟨by omega, z⟩)] at he
              exact kN (oneC_x he.symm) _ (Same.refl _)
            have n0 : ¬ g d (i + 1) = 0 := fun z => c (decide_eq_true (congrArg V.int z))
            rw [if_neg (fun z => z.elim n6 fun z => n0 z.2)] at he
            have ea2 : ((i : Nat) : Int) + 2 = ((i + 2 : Nat) : Int) := by omega
            refine ⟨_, rfl, _, rfl, _, rfl, _, _, rfl, rfl, h, _, _, _, rfl, rfl, hB, (by rw [ea]; exact q0), _, _, rfl, rfl, _, _, rfl, rfl, .inr ⟨by decide, by decide⟩, ?_⟩
            refine ⟨_, rfl, _, _, rfl, rfl, ⟨rfl, i + 2, f, (n + g d (i + 1)) * 256, ?_, by omega, by omega, by omega, he⟩, ?_⟩
            · rw [← ea2]
              rfl
            · show b + 8 - (((i : Nat) : Int) + 2).toNat < b + 8 - (((i : Nat) : Int)).toNat
              omega
          have nb : ¬ i = b := fun z => cb (decide_eq_true (congrArg V.int (by omega)))
          rw [if_neg (fun z => z.elim n6 fun z => nb z.1)] at he
          have ea2 : ((i : Nat) : Int) + 2 = ((i + 2 : Nat) : Int) := by omega
          refine ⟨_, rfl, _, rfl, _, rfl, _, _, rfl, rfl, h, _, _, _, rfl, rfl, hB, (by rw [ea]; exact q0), _, _, rfl, rfl, _, _, rfl, rfl, .inr ⟨by decide, by decide⟩, ?_⟩
          refine ⟨_, rfl, _, _, rfl, rfl, ⟨rfl, i + 2, f, (n + g d (i + 1)) * 256, ?_, by omega, by omega, by omega, he⟩, ?_⟩
          · rw [← ea2]
            rfl
          · show b + 8 - (((i : Nat) : Int) + 2).toNat < b + 8 - (((i : Nat) : Int)).toNat
            omega
        have n71 : ¬ g d i = 71 := fun z => c (decide_eq_true (congrArg V.int z))
        have hend : ¬ (i + 1 < d.length ∧ g d i = 71) := fun z => n71 z.2
        have hx := end_ hend
        clear he end_ c c0
        refine ⟨_, rfl, _, _, rfl, rfl, _, rfl, h, _, rfl, .inr hB, _, _, rfl, rfl, _, rfl, ite2 (fun c => ?_) (fun c => ?_)⟩
        · have c : (((d.map V.int).length : Nat) : Int) ≤ ((i : Nat) : Int) + 1 := of_decide_eq_true c
          refine kN ?_ _ (Same.refl _)
          rw [oneC_s hx, if_pos (by rw [List.length_map] at c; omega)]
        have c1 : ¬ d.length ≤ i + 1 := fun z => c (decide_eq_true (by rw [List.length_map]; omega))
        have hi : i < d.length := by omega
        obtain ⟨g0, g1⟩ := by1.g hi
        obtain ⟨nw1, nw2⟩ := no_word g0 g1
        refine ⟨_, rfl, _, rfl, h, _, _, _, rfl, rfl, hB, g_at hi, .inl (g d i), rfl, rfl, _, rfl, ite2 (fun c => ?_) (fun c => ?_)⟩
        · refine kN ?_ _ (Same.refl _)
          rw [oneC_s hx, if_neg c1, nw1 (by simpa using c)]
        have c2 : (valV (kv tW) (.inl (g d i))).isSome = true := by
          cases hv : (valV (kv tW) (.inl (g d i))).isSome with
          | true => rfl
          | false =>
            rw [hv] at c
            exact absurd rfl c
        refine ⟨_, rfl, _, rfl, h, _, _, _, rfl, rfl, hB, g_at hi, .inr "CACHE", _, rfl, rfl, n_cache, rfl, _, rfl, ite2 (fun c => ?_) (fun c => ?_)⟩
        · have z := of_decide_eq_true c
          have z : g d i = 0 := by injection z
          refine kN ?_ _ (Same.refl _)
          rw [oneC_s hx, if_neg c1, z, row_zero]
        have c3 : ¬ g d i = 0 := fun z => c (decide_eq_true (congrArg V.int z))
        obtain ⟨r, hr1⟩ : ∃ r, rowOf (g d i) = some r := by
          cases e : rowOf (g d i) with
          | some r => exact ⟨r, rfl⟩
          | none =>
            exfalso
            rcases nw2 e c2 with z | z
            · exact c3 z
            · exact hend ⟨by omega, z⟩
        obtain ⟨hrm, hrn⟩ := rowOf_mem hr1
        have hw : valV (kv tW) (.inl (g d i)) = some (.str r.1) := by
          rw [← hrn]
          exact w_of r hrm
        refine ⟨_, rfl, _, rfl, h, _, _, _, rfl, rfl, hB, g_at hi, .inl (g d i), _, rfl, rfl, hw, ?_⟩
        refine ⟨_, rfl, _, _, rfl, rfl, rfl, _, rfl, .inr r.1, rfl, ?_⟩
        rw [c_of r hrm]
        have he2 : (((i : Nat) : Int) + 2) + 2 * ((r.2.2.1 : Nat) : Int) = ((endOf i r : Nat) : Int) := by
          unfold endOf
          omega
        refine ⟨_, _, rfl, rfl, .inl ⟨by decide, by decide⟩, _, _, rfl, rfl, ?_⟩
        dsimp (config := { proj := false }) only
        rw [he2]
        refine ⟨_, rfl, _, rfl, h, _, rfl, .inr hB, _, _, rfl, rfl, _, rfl, ite2 (fun c => ?_) (fun c => ?_)⟩
        · have c : (((d.map V.int).length : Nat) : Int) < ((endOf i r : Nat) : Int) := of_decide_eq_true c
          refine kN ?_ _ (Same.refl _)
          rw [oneC_s hx, if_neg c1, hr1]
          exact if_pos (.inl (by rw [List.length_map] at c; omega))
        have c4 : ¬ d.length < endOf i r := fun z => c (decide_eq_true (by rw [List.length_map]; omega))
        refine ⟨_, rfl, _, rfl, _, _, rfl, rfl, _, rfl, _, rfl, _, rfl, h, _, rfl, hB, ?_, ?_⟩
        · rintro ⟨z, _⟩
          have e2 : ((i : Nat) : Int) + 2 = ((i + 2 : Nat) : Int) := by omega
          rw [e2, HT.sIx_nat, List.length_map] at z
          omega
        walk_at "new1"
        have e2 : ((i : Nat) : Int) + 2 = ((i + 2 : Nat) : Int) := by omega
        rw [e2, cut_map (by unfold endOf at c4; omega) (by omega)] at h1
        refine ⟨p1, _, rfl, SqT.of h1, ?_⟩
        refine ⟨_, rfl, ite2 (fun c => ?_) (fun c => ?_)⟩
        · refine kN ?_ _ s1
          rw [oneC_s hx, if_neg c1, hr1]
          exact if_pos (.inr c)
        have hB1 : SqT K H1 h (d.map V.int) := SqT.of (s1 _ _ hH)
        have e1 : ((i : Nat) : Int) + 1 = ((i + 1 : Nat) : Int) := by omega
        refine ⟨_, rfl, _, rfl, _, rfl, _, rfl, _, rfl, _, rfl, _, _, rfl, rfl, h, _, _, _, rfl, rfl, hB1, (by rw [e1]; exact g_at (by omega)), _, _, rfl, rfl, _, rfl, (by show 5 ≤ sizeLine; decide), ?_⟩
        walk_at "new2"
        refine kS i r (n + g d (i + 1)) ?_ p2 H2 (none_back s1 n2) (s1.trans s2) h2
        rw [oneC_s hx, if_neg c1, hr1]
        exact if_neg (fun z => z.elim c4 c)
      have c0 : ¬ i + 1 < d.length := fun z => c (decide_eq_true (by rw [List.length_map]; omega))
      have hend : ¬ (i + 1 < d.length ∧ g d i = 71) := fun z => c0 z.1
      have hx := end_ hend
      clear he end_ c c0
      refine ⟨_, rfl, _, _, rfl, rfl, _, rfl, h, _, rfl, .inr hB, _, _, rfl, rfl, _, rfl, ite2 (fun c => ?_) (fun c => ?_)⟩
      · have c : (((d.map V.int).length : Nat) : Int) ≤ ((i : Nat) : Int) + 1 := of_decide_eq_true c
        refine kN ?_ _ (Same.refl _)
        rw [oneC_s hx, if_pos (by rw [List.length_map] at c; omega)]
      have c1 : ¬ d.length ≤ i + 1 := fun z => c (decide_eq_true (by rw [List.length_map]; omega))
      have hi : i < d.length := by omega
      obtain ⟨g0, g1⟩ := by1.g hi
      obtain ⟨nw1, nw2⟩ := no_word g0 g1
      refine ⟨_, rfl, _, rfl, h, _, _, _, rfl, rfl, hB, g_at hi, .inl (g d i), rfl, rfl, _, rfl, ite2 (fun c => ?_) (fun c => ?_)⟩
      · refine kN ?_ _ (Same.refl _)
        rw [oneC_s hx, if_neg c1, nw1 (by simpa using c)]
      have c2 : (valV (kv tW) (.inl (g d i))).isSome = true := by
        cases hv : (valV (kv tW) (.inl (g d i))).isSome with
        | true => rfl
        | false =>
          rw [hv] at c
          exact absurd rfl c
      refine ⟨_, rfl, _, rfl, h, _, _, _, rfl, rfl, hB, g_at hi, .inr "CACHE", _, rfl, rfl, n_cache, rfl, _, rfl, ite2 (fun c => ?_) (fun c => ?_)⟩
      · have z := of_decide_eq_true c
        have z : g d i = 0 := by injection z
        refine kN ?_ _ (Same.refl _)
        rw [oneC_s hx, if_neg c1, z, row_zero]
      have c3 : ¬ g d i = 0 := fun z => c (decide_eq_true (congrArg V.int z))
      obtain ⟨r, hr1⟩ : ∃ r, rowOf (g d i) = some r := by
        cases e : rowOf (g d i) with
        | some r => exact ⟨r, rfl⟩
        | none =>
          exfalso
          rcases nw2 e c2 with z | z
          · exact c3 z
          · exact hend ⟨by omega, z⟩
      obtain ⟨hrm, hrn⟩ := rowOf_mem hr1
      have hw : valV (kv tW) (.inl (g d i)) = some (.str r.1) := by
        rw [← hrn]
        exact w_of r hrm
      refine ⟨_, rfl, _, rfl, h, _, _, _, rfl, rfl, hB, g_at hi, .inl (g d i), _, rfl, rfl, hw, ?_⟩
      refine ⟨_, rfl, _, _, rfl, rfl, rfl, _, rfl, .inr r.1, rfl, ?_⟩
      rw [c_of r hrm]
      have he2 : (((i : Nat) : Int) + 2) + 2 * ((r.2.2.1 : Nat) : Int) = ((endOf i r : Nat) : Int) := by
        unfold endOf
        omega
      refine ⟨_, _, rfl, rfl, .inl ⟨by decide, by decide⟩, _, _, rfl, rfl, ?_⟩
      dsimp (config := { proj := false }) only
      rw [he2]
      refine ⟨_, rfl, _, rfl, h, _, rfl, .inr hB, _, _, rfl, rfl, _, rfl, ite2 (fun c => ?_) (fun c => ?_)⟩
      · have c : (((d.map V.int).length : Nat) : Int) < ((endOf i r : Nat) : Int) := of_decide_eq_true c
        refine kN ?_ _ (Same.refl _)
        rw [oneC_s hx, if_neg c1, hr1]
        exact if_pos (.inl (by rw [List.length_map] at c; omega))
      have c4 : ¬ d.length < endOf i r := fun z => c (decide_eq_true (by rw [List.length_map]; omega))
      refine ⟨_, rfl, _, rfl, _, _, rfl, rfl, _, rfl, _, rfl, _, rfl, h, _, rfl, hB, ?_, ?_⟩
      · rintro ⟨z, _⟩
        have e2 : ((i : Nat) : Int) + 2 = ((i + 2 : Nat) : Int) := by omega
        rw [e2, HT.sIx_nat, List.length_map] at z
        omega
      walk_at "new1"
      have e2 : ((i : Nat) : Int) + 2 = ((i + 2 : Nat) : Int) := by omega
      rw [e2, cut_map (by unfold endOf at c4; omega) (by omega)] at h1
      refine ⟨p1, _, rfl, SqT.of h1, ?_⟩
      refine ⟨_, rfl, ite2 (fun c => ?_) (fun c => ?_)⟩
      · refine kN ?_ _ s1
        rw [oneC_s hx, if_neg c1, hr1]
        exact if_pos (.inr c)
      have hB1 : SqT K H1 h (d.map V.int) := SqT.of (s1 _ _ hH)
      have e1 : ((i : Nat) : Int) + 1 = ((i + 1 : Nat) : Int) := by omega
      refine ⟨_, rfl, _, rfl, _, rfl, _, rfl, _, rfl, _, rfl, _, _, rfl, rfl, h, _, _, _, rfl, rfl, hB1, (by rw [e1]; exact g_at (by omega)), _, _, rfl, rfl, _, rfl, (by show 5 ≤ sizeLine; decide), ?_⟩
      walk_at "new2"
      refine kS i r (n + g d (i + 1)) ?_ p2 H2 (none_back s1 n2) (s1.trans s2) h2
      rw [oneC_s hx, if_neg c1, hr1]
      exact if_neg (fun z => z.elim c4 c)
    · rintro σ H' Q1 Q2 hq ⟨v1, e1, i1, j1, e2, e3, v2, e4, h1, x1, e5, sq, i2, j2, e6, e7, b1, e8, q⟩
      refine ⟨v1, e1, i1, j1, e2, e3, v2, e4, h1, x1, e5, sq, i2, j2, e6, e7, b1, e8, ?_⟩
      cases b1 with
      | false => exact hq _ _ q
      | true =>
        obtain ⟨w1, f1, w2, f2, h2, y1, y2, y3, f3, f4, sq2, f5, k1, w3, f6, f7, f8, f9, b2, f10, q⟩ := q
        exact ⟨w1, f1, w2, f2, h2, y1, y2, y3, f3, f4, sq2, f5, k1, w3, f6, f7, f8, f9, b2, f10, hq _ _ q⟩
end
end K57
set_option maxHeartbeats 4000000
set_option pp.maxSteps 600
namespace K57
open PySem PySem.Spec PyProof.Rows L2 Nd
/-! ### cut -/
structure Cr where
  b : Nat
  a : Nat
  r : Rw
  n : Int
def Cr.e (c : Cr) : Nat := endOf c.a c.r
def Cr.vs (c : Cr) : List V := [.int (c.b : Int), .int ((c.a : Nat) : Int), .str c.r.1, .int c.n, .int ((c.e : Nat) : Int)]
def Cr.ds (c : Cr) : List PyData := [.int (c.b : Int), .int ((c.a : Nat) : Int), .str c.r.1, .int c.n, .int ((c.e : Nat) : Int)]
theorem dp_cr {K : PySem.W.Frag} {H : Hp} (c : Cr) : DpAll K H c.vs c.ds := .cons (.int _) (.cons (.int _) (.cons (.str _) (.cons (.int _) (.cons (.int _) .nil))))
def crsD (rs : List Cr) : PyData := .list (rs.map fun r => .tuple r.ds)
theorem str_ok : ∀ r ∈ rws, PyData.strOk r.1 = true := by decide +kernel
theorem lay_cr {r : Cr} (h : r.r ∈ rws) : PyData.canLayAll0 r.ds = true := by
  have := str_ok _ h
  simp only [Cr.ds, PyData.canLayAll0, PyData.canLay0, this]
  rfl
theorem dep_cr (r : Cr) : PyData.depthAll r.ds = 0 := rfl
theorem lay_crs : ∀ rs : List Cr, (∀ c ∈ rs, c.r ∈ rws) → PyData.canLayAll0 (rs.map fun r => .tuple r.ds) = true
  | [], _ => by simp [PyData.canLayAll0]
  | r :: t, h => by
    simp only [List.map_cons, PyData.canLayAll0, PyData.canLay0, lay_crs t fun c hc => h c (List.mem_cons_of_mem _ hc), lay_cr (h r (List.mem_cons_self ..))]
    rfl
theorem dep_crs : ∀ rs : List Cr, PyData.depthAll (rs.map fun r => PyData.tuple r.ds) ≤ 1
  | [] => by simp [PyData.depthAll]
  | r :: t => by
    have := dep_crs t
    simp only [List.map_cons, PyData.depthAll, PyData.depth, dep_cr r]
    omega
theorem shaped_crs (rs : List Cr) (h : ∀ c ∈ rs, c.r ∈ rws) : SeqAt.shaped (crsD rs) = true := by
  have h1 := dep_crs rs
  have h2 : PyData.depth (crsD rs) ≤ 64 := by
    unfold crsD
    simp only [PyData.depth]
    omega
  show (PyData.canLay0 (crsD rs) && decide (PyData.depth (crsD rs) ≤ 64)) = true
  rw [Bool.and_eq_true]
  exact ⟨by unfold crsD; simp only [PyData.canLay0]; exact lay_crs rs h, decide_eq_true h2⟩
def cutGo (d : List Int) : Nat → Nat → List Cr → List Cr × Option Nat
  | 0, i, acc => (acc, some i)
  | f + 1, i, acc => if i < d.length then (match oneC d i with
    | none => (acc, some i)
    | some (a, r, n) => cutGo d f (endOf a r) (acc ++ [⟨i, a, r, n⟩])) else (acc, if acc = [] then some 0 else none)
def cutAll (d : List Int) : List Cr × Option Nat := cutGo d (d.length + 1) 0 []
theorem xGo_le {d : List Int} {b : Nat} : ∀ (f i : Nat) (n : Int) (a : Nat) (m : Int), xGo d b f i n = some (a, m) → i ≤ a
  | 0, i, n, a, m, h => by cases h
  | f + 1, i, n, a, m, h => by
    unfold xGo at h
    split at h
    · split at h
      · cases h
      · exact Nat.le_trans (by omega) (xGo_le f _ _ a m h)
    · injection h with h
      injection h with h _
      omega
theorem oneC_bd {d : List Int} {b a : Nat} {r : Rw} {n : Int} (h : oneC d b = some (a, r, n)) : b ≤ a ∧ endOf a r ≤ d.length ∧ r ∈ rws := by
  cases hx : xGo d b 4 b 0 with
  | none => rw [oneC_x hx] at h; cases h
  | some p =>
    obtain ⟨a', n'⟩ := p
    have l := xGo_le _ _ _ _ _ hx
    rw [oneC_s hx] at h
    split at h
    · cases h
    · cases hr : rowOf (g d a') with
      | none => rw [hr] at h; cases h
      | some r' =>
        rw [hr] at h
        dsimp only at h
        split at h
        · cases h
        · rename_i c
          injection h with h
          injection h with h1 h
          injection h with h2 h3
          subst h1 h2
          exact ⟨l, by have := fun z => c (.inl z); omega, (rowOf_mem hr).1⟩
theorem endOf_gt (a : Nat) (r : Rw) : a < endOf a r := by
  unfold endOf
  omega
abbrev s_cut : Stmt := top 29
def wrV : Option Nat → V
  | none => .non
  | some i => .int (i : Int)
def spCut (K : PySem.W.Frag) : Sp := fun vs H Q _ => ∃ (h : Addr) (d : List Int), vs = [.ref h] ∧ H h = some (.tup (d.map V.int)) ∧ Bys d ∧
  ∀ q f xs H', Same H H' → H' q = some (.tup [.ref f, wrV (cutAll d).2]) → H' f = some (.lst xs) → TupsAt Cr.vs H' xs (cutAll d).1 → Q (.ref q) H'
section
variable {P : Program} {w : World} {K : PySem.W.Frag} {mg : Str → Option Value} {base : Heap} {dN dW dC dS : Addr}
abbrev N_cut : List Str := ["data", "found", "at", "row"]
theorem sc_cut : FnScope N_cut ["data"] (defScope s_cut) := ⟨rfl, rfl, rfl, by decide +kernel, rfl, by decide +kernel, by decide +kernel⟩
theorem ok_cut {f : Addr} {fd : FuncData} (T : GlU mg) (c_cut_one : CalX P w K mg base 1 "cut_one" (spCutOne K)) (F : DefX K mg "cut" s_cut ["data"] f fd) : CalX P w K mg base 2 "cut" (spCut K) := by
  refine calx F sc_cut (fun vs H Q E h => ?_) (fun cdv A outer s H vs Q E hr h => ?_)
  · obtain ⟨h, d, rfl, _⟩ := h
    rfl
  · obtain ⟨h, d, rfl, hH, by1, k⟩ := h
    refine ⟨_, (pss_cons (ps_set (i := 1) sc_cut.nd rfl (.inl rfl) (pe_lst pa_nil))
    (pss_cons (ps_set (i := 2) sc_cut.nd rfl (.inl rfl) pe_int)
    (pss_cons (ps_while PassesOwn.never (pt_cmpR op_lt (pv 2) (pe_callB call_len_seq (by rfl) T.n_len Boot.«len» (pa_cons (pv 0) pa_nil)) (nomark _))
      (pss_cons (ps_set (i := 3) sc_cut.nd rfl (.inl rfl) (pe_cx c_cut_one hr (by decide) rfl (pa_cons (pv 0) (pa_cons (pv 2) pa_nil))))
    (pss_cons (ps_if (pt_cmpR op_isN (pv 3) pe_non (nomark _))
      (pss_one (ps_ret (pe_tup (pa_cons (pv 1) (pa_cons (pv 2) pa_nil)))))
      pss_nil)
    (pss_cons (ps_expr (pe_bm PySem.F.plainAttrs_list PySem.F.slot_list_append PySem.F.type_list_append mt_append (pv 1) (pa_cons (pv 3) pa_nil)))
    (pss_one (ps_set (i := 2) sc_cut.nd rfl (.inl rfl) (pe_ix ix_tup (pv 3) pe_int (fun _ _ => rfl))))))))
    (pss_one (ps_ret (pe_tup (pa_cons (pv 1) (pa_cons (pe_ifExp (pt_cmpR (op_neD hr.units) (pv 1) (pe_lst pa_nil) (nomark _)) pe_non pe_int) pa_nil)))))))), ?_⟩
    refine ⟨(by show 0 ≤ sizeLine; decide), ?_⟩
    walk_at "new1"
    have hl1 := s1 _ _ hH
    refine while_by (fun σ H' => ∃ (i f : Nat) (acc : List Cr) (xs : List V) (vr : Option V), σ = [some (.ref h), some (.ref p1), some (.int (i : Int)), vr] ∧ Same H H' ∧ H' p1 = some (.lst xs) ∧ TupsAt Cr.vs H' xs acc ∧ i ≤ d.length ∧ acc.length ≤ i ∧ d.length + 1 ≤ i + f ∧ cutGo d f i acc = cutAll d ∧ ∀ c ∈ acc, c.r ∈ rws) (fun σ _ => match σ with | _ :: _ :: some (.int m) :: _ => d.length + 1 - m.toNat | _ => 0)
      ⟨0, d.length + 1, [], [], none, rfl, s1, h1, trivial, Nat.zero_le _, Nat.le_refl _, by omega, rfl, (fun c hc => by cases hc)⟩ ?_ ?_
    · rintro σ H' ⟨i, f, acc, xs, vr, rfl, S, hp, hT, hi, hal, hf, he, hrs⟩
      obtain ⟨f, rfl⟩ : ∃ f', f = f' + 1 := ⟨f - 1, by omega⟩
      have hxl := hT.len
      unfold cutGo at he
      refine ⟨_, rfl, _, rfl, h, _, rfl, .inr (SqT.of (S _ _ hH)), _, _, rfl, rfl, _, rfl, ite2 (fun c => ?_) (fun c => ?_)⟩
      · have c0 : i < d.length := by
          have c : ((i : Nat) : Int) < (((d.map V.int).length : Nat) : Int) := of_decide_eq_true c
          rw [List.length_map] at c
          omega
        rw [if_pos c0] at he
        refine ⟨_, rfl, _, rfl, h, d, i, rfl, S _ _ hH, by1, hi, fun e J sJ => ?_, fun a r n e q J nq sJ hq => ?_⟩
        · rw [e] at he
          refine ⟨_, rfl, rfl, _, rfl, iteT ?_⟩
          refine ⟨_, rfl, _, rfl, (by show 2 ≤ sizeLine; decide), ?_⟩
          walk_at "new2"
          refine k p2 p1 xs H2 ((S.trans sJ).trans s2) ?_ (s2 _ _ (sJ _ _ hp)) ?_
          · rw [← he]
            exact h2
          · rw [← he]
            exact (hT.same sJ).same s2
        · obtain ⟨b1, b2, b3⟩ := oneC_bd e
          rw [e] at he
          have hp' := sJ _ _ hp
          have hT' := (hT.same sJ).snoc (r := ⟨i, a, r, n⟩) hq
          refine ⟨_, rfl, rfl, _, rfl, iteF ?_⟩
          refine ⟨_, rfl, .inl ⟨rfl, _, SqL.of hp'⟩, _, rfl, _, _, _, rfl, rfl, hp', ?_, ?_⟩
          · rw [hxl]
            exact Nat.lt_of_le_of_lt (Nat.le_trans hal (Nat.le_trans hi by1.2)) (by decide)
          have nqp : q ≠ p1 := fun z => by rw [z, hp] at nq; cases nq
          have hg := endOf_gt a r
          refine ⟨_, rfl, q, _, 4, _, rfl, rfl, SqT.of (by rw [upd_ne nqp]; exact hq), rfl, ?_⟩
          refine ⟨⟨endOf a r, f, acc ++ [⟨i, a, r, n⟩], xs ++ [.ref q], _, rfl, Same.mut (S.trans sJ) n1, upd_same, hT'.upd hp', b2, ?_, by omega, he, fun c hc => (List.mem_append.mp hc).elim (hrs c) fun z => by rw [List.mem_singleton.mp z]; exact b3⟩, ?_⟩
          · rw [List.length_append]
            show acc.length + 1 ≤ endOf a r
            omega
          · show d.length + 1 - (((endOf a r : Nat) : Int)).toNat < d.length + 1 - (((i : Nat) : Int)).toNat
            omega
      · have c0 : ¬ i < d.length := fun z => c (decide_eq_true (by rw [List.length_map]; omega))
        rw [if_neg c0] at he
        refine ⟨_, rfl, _, rfl, (by show 0 ≤ sizeLine; decide), ?_⟩
        walk_at "new2"
        refine ⟨crsD acc, .list [], Dp.lst (SqL.of (s2 _ _ hp)) (dp_tups dp_cr (hT.same s2)), Dp.lst (SqL.of h2) .nil, shaped_crs _ hrs, rfl, _, rfl, ?_⟩
        cases acc with
        | nil =>
          refine iteF ?_
          refine ⟨(by show 2 ≤ sizeLine; decide), ?_⟩
          walk_at "new3"
          refine k p3 p1 xs H3 ((S.trans s2).trans s3) ?_ (s3 _ _ (s2 _ _ hp)) ?_
          · rw [← he]
            exact h3
          · rw [← he]
            exact (hT.same s2).same s3
        | cons x t =>
          have e : PyData.eqv (crsD (x :: t)) (.list []) = false := rfl
          rw [e]
          refine iteT ?_
          refine ⟨(by show 2 ≤ sizeLine; decide), ?_⟩
          walk_at "new3"
          refine k p3 p1 xs H3 ((S.trans s2).trans s3) ?_ (s3 _ _ (s2 _ _ hp)) ?_
          · rw [← he]
            exact h3
          · rw [← he]
            exact (hT.same s2).same s3
    · rintro σ H' Q1 Q2 hq ⟨v1, e1, v2, e2, h1, x1, e3, sq, i1, i2, e4, e5, b1, e6, q⟩
      exact ⟨v1, e1, v2, e2, h1, x1, e3, sq, i1, i2, e4, e5, b1, e6, hq _ _ q⟩
end
end K57
set_option maxHeartbeats 4000000
set_option pp.maxSteps 600
namespace K57
open PySem PySem.Spec PyProof.Rows L2 Nd
/-! ### bounds of the numbers that are cut -/
theorem pw256 {a b : Nat} (h : a ≤ b) : (256 : Int) ^ a ≤ 256 ^ b := by
  have := Nat.pow_le_pow_right (n := 256) (by decide) h
  exact_mod_cast this
theorem xGo_n {d : List Int} {b : Nat} (by1 : Bys d) : ∀ (f i : Nat) (n : Int) (a : Nat) (m : Int), xGo d b f i n = some (a, m) → f ≤ 4 → 0 ≤ n → n + 256 ≤ 256 ^ (5 - f) → 0 ≤ m ∧ m + 256 ≤ 4294967296
  | 0, i, n, a, m, h, _, _, _ => by cases h
  | f + 1, i, n, a, m, h, hf, h0, h1 => by
    unfold xGo at h
    split at h
    · rename_i c
      split at h
      · cases h
      · obtain ⟨g0, g1⟩ := by1.g c.1
        refine xGo_n by1 f _ _ a m h (by omega) (by omega) ?_
        have e : (256 : Int) ^ (5 - f) = 256 ^ (5 - (f + 1)) * 256 := by
          rw [← Int.pow_succ]
          congr 1
          omega
        rw [e]
        have h2 : n + g d (i + 1) + 1 ≤ 256 ^ (5 - (f + 1)) := by omega
        have h3 := Int.mul_le_mul_of_nonneg_right h2 (by decide : (0 : Int) ≤ 256)
        omega
    · injection h with h
      injection h with _ h
      subst h
      have := pw256 (a := 5 - (f + 1)) (b := 4) (by omega)
      exact ⟨h0, by omega⟩
theorem oneC_n {d : List Int} {b a : Nat} {r : Rw} {n : Int} (by1 : Bys d) (h : oneC d b = some (a, r, n)) : 0 ≤ n ∧ n < 4294967296 := by
  cases hx : xGo d b 4 b 0 with
  | none => rw [oneC_x hx] at h; cases h
  | some p =>
    obtain ⟨a', n'⟩ := p
    obtain ⟨l0, l1⟩ := xGo_n by1 _ _ _ _ _ hx (Nat.le_refl _) (Int.le_refl _) (by decide)
    rw [oneC_s hx] at h
    split at h
    · cases h
    · rename_i c1
      cases hr : rowOf (g d a') with
      | none => rw [hr] at h; cases h
      | some r' =>
        rw [hr] at h
        dsimp only at h
        split at h
        · cases h
        · injection h with h
          injection h with h1 h
          injection h with h2 h3
          have c2 : a' + 1 < d.length := Nat.lt_of_not_le c1
          obtain ⟨g0, g1⟩ := by1.g c2
          omega
/-- words of extension: three at most -/
theorem xGo_ev {d : List Int} {b : Nat} : ∀ (f i : Nat) (n : Int) (a : Nat) (m : Int), xGo d b f i n = some (a, m) → ∃ t, a = i + 2 * t ∧ t < f
  | 0, i, n, a, m, h => by cases h
  | f + 1, i, n, a, m, h => by
    unfold xGo at h
    split at h
    · split at h
      · cases h
      · obtain ⟨t, e, l⟩ := xGo_ev f _ _ a m h
        exact ⟨t + 1, by omega, by omega⟩
    · injection h with h
      injection h with h _
      exact ⟨0, by omega, by omega⟩
theorem oneC_ev {d : List Int} {b a : Nat} {r : Rw} {n : Int} (h : oneC d b = some (a, r, n)) : ∃ t, a = b + 2 * t ∧ t < 4 := by
  cases hx : xGo d b 4 b 0 with
  | none => rw [oneC_x hx] at h; cases h
  | some p =>
    obtain ⟨a', n'⟩ := p
    have l := xGo_ev _ _ _ _ _ hx
    rw [oneC_s hx] at h
    split at h
    · cases h
    · cases hr : rowOf (g d a') with
      | none => rw [hr] at h; cases h
      | some r' =>
        rw [hr] at h
        dsimp only at h
        split at h
        · cases h
        · injection h with h
          injection h with h1 h
          subst h1
          exact l
theorem cutGo_mem {d : List Int} : ∀ (f i : Nat) (acc : List Cr), (∀ c ∈ acc, oneC d c.b = some (c.a, c.r, c.n)) → ∀ c ∈ (cutGo d f i acc).1, oneC d c.b = some (c.a, c.r, c.n)
  | 0, i, acc, h => h
  | f + 1, i, acc, h => by
    unfold cutGo
    split
    · cases e : oneC d i with
      | none => exact h
      | some p =>
        obtain ⟨a, r, n⟩ := p
        refine cutGo_mem f _ _ fun c hc => ?_
        rcases List.mem_append.mp hc with z | z
        · exact h c z
        · rw [List.mem_singleton.mp z]
          exact e
    · exact h
theorem cut_mem {d : List Int} {c : Cr} (h : c ∈ (cutAll d).1) : oneC d c.b = some (c.a, c.r, c.n) := cutGo_mem _ _ [] (fun c hc => by cases hc) c h
theorem cutGo_len {d : List Int} : ∀ (f i : Nat) (acc : List Cr), i ≤ d.length → (cutGo d f i acc).1.length ≤ acc.length + (d.length - i)
  | 0, i, acc, _ => Nat.le_add_right _ _
  | f + 1, i, acc, hi => by
    unfold cutGo
    split
    · cases e : oneC d i with
      | none => exact Nat.le_add_right _ _
      | some p =>
        obtain ⟨a, r, n⟩ := p
        obtain ⟨b1, b2, _⟩ := oneC_bd e
        have hg := endOf_gt a r
        have := cutGo_len f (endOf a r) (acc ++ [⟨i, a, r, n⟩]) b2
        rw [List.length_append] at this
        have e1 : ([⟨i, a, r, n⟩] : List Cr).length = 1 := rfl
        dsimp only
        omega
    · exact Nat.le_add_right _ _
theorem cut_len (d : List Int) : (cutAll d).1.length ≤ d.length := by
  have := cutGo_len (d := d) (d.length + 1) 0 [] (Nat.zero_le _)
  have e : ([] : List Cr).length = 0 := rfl
  unfold cutAll
  omega
theorem rg2 {b a : Int} {t : Nat} (h0 : 0 ≤ b) (h1 : b ≤ 100000) (ht : t < 4) (e : a = b + 2 * (t : Int)) : RgC b a 2 t := by
  subst e
  have hs : Builtin.Range.rangeSize b (b + 2 * (t : Int)) 2 = t := by
    unfold Builtin.Range.rangeSize
    rw [if_pos (by decide)]
    split <;> omega
  refine ⟨by decide, by decide, ?_, hs⟩
  unfold Builtin.Range.small
  rw [hs]
  simp only [Builtin.Range.rangeFitsLong, beq_iff_eq, Bool.or_eq_true, decide_eq_true_eq, Bool.and_eq_true, show (2 : Int) > 0 from by decide, if_true]
  omega
end K57
set_option maxHeartbeats 4000000
namespace K57
open PySem PySem.Spec PyProof.Rows L2 Nd
abbrev s_joined : Stmt := top 35
abbrev s_law_joined : Stmt := top 58
/-! ### rows of lines: from, to, line or none -/
structure R3 where
  lo : Int
  hi : Int
  ln : Option Int
def lnV : Option Int → V
  | none => .non
  | some i => .int i
def lnD : Option Int → PyData
  | none => .none
  | some i => .int i
def R3.vs (r : R3) : List V := [.int r.lo, .int r.hi, lnV r.ln]
def R3.ds (r : R3) : List PyData := [.int r.lo, .int r.hi, lnD r.ln]
theorem dp_ln {K : PySem.W.Frag} {H : Hp} : ∀ o, Dp K H (lnV o) (lnD o)
  | none => .non
  | some i => .int i
theorem dp_r3 {K : PySem.W.Frag} {H : Hp} (r : R3) : DpAll K H r.vs r.ds := .cons (.int _) (.cons (.int _) (.cons (dp_ln _) .nil))
def rowsD (rs : List R3) : PyData := .list (rs.map fun r => .tuple r.ds)
theorem lay_r3 (r : R3) : PyData.canLayAll0 r.ds = true := by
  obtain ⟨a, b, c⟩ := r
  cases c <;> rfl
theorem dep_r3 (r : R3) : PyData.depthAll r.ds = 0 := by
  obtain ⟨a, b, c⟩ := r
  cases c <;> rfl
theorem lay_r3s : ∀ rs : List R3, PyData.canLayAll0 (rs.map fun r => .tuple r.ds) = true
  | [] => by simp [PyData.canLayAll0]
  | r :: t => by
    simp only [List.map_cons, PyData.canLayAll0, PyData.canLay0, lay_r3s t, lay_r3 r]
    rfl
theorem dep_r3s : ∀ rs : List R3, PyData.depthAll (rs.map fun r => PyData.tuple r.ds) ≤ 1
  | [] => by simp [PyData.depthAll]
  | r :: t => by
    have := dep_r3s t
    simp only [List.map_cons, PyData.depthAll, PyData.depth, dep_r3 r]
    omega
theorem shaped_r3s (rs : List R3) : SeqAt.shaped (rowsD rs) = true := by
  have h1 := dep_r3s rs
  have h2 : PyData.depth (rowsD rs) ≤ 64 := by
    unfold rowsD
    simp only [PyData.depth]
    omega
  show (PyData.canLay0 (rowsD rs) && decide (PyData.depth (rowsD rs) ≤ 64)) = true
  rw [Bool.and_eq_true]
  exact ⟨by unfold rowsD; simp only [PyData.canLay0]; exact lay_r3s rs, decide_eq_true h2⟩
theorem ln_eq (a b : Option Int) : decide (lnV a = lnV b) = decide (a = b) := by
  cases a <;> cases b <;> simp [lnV]
theorem ln_scal (a b : Option Int) : scal (lnV a) (lnV b) = true := by
  cases a <;> cases b <;> rfl
/-- one row more: neighbours of one line are joined -/
def jstep (acc : List R3) (r : R3) : List R3 := match acc.getLast? with
  | some q => if q.ln = r.ln then acc.dropLast ++ [⟨q.lo, r.hi, r.ln⟩] else acc ++ [r]
  | none => [r]
def joinR (rs : List R3) : List R3 := rs.foldl jstep []
theorem jstep_nil (r : R3) : jstep [] r = [r] := rfl
theorem jstep_eq {qs : List R3} {q r : R3} (h : q.ln = r.ln) : jstep (qs ++ [q]) r = qs ++ [⟨q.lo, r.hi, r.ln⟩] := by
  unfold jstep
  rw [List.getLast?_concat]
  show (if q.ln = r.ln then _ else _) = _
  rw [if_pos h, List.dropLast_concat]
theorem jstep_ne {qs : List R3} {q r : R3} (h : q.ln ≠ r.ln) : jstep (qs ++ [q]) r = qs ++ [q] ++ [r] := by
  unfold jstep
  rw [List.getLast?_concat]
  show (if q.ln = r.ln then _ else _) = _
  rw [if_neg h]
theorem jstep_len (acc : List R3) (r : R3) : (jstep acc r).length ≤ acc.length + 1 := by
  rcases List.eq_nil_or_concat acc with rfl | ⟨qs, q, rfl⟩
  · simp [jstep]
  · by_cases h : q.ln = r.ln
    · rw [List.concat_eq_append, jstep_eq h]
      simp
    · rw [List.concat_eq_append, jstep_ne h]
      simp
theorem join_take {rs : List R3} {i : Nat} {r : R3} (h : rs[i]? = some r) : joinR (rs.take (i + 1)) = jstep (joinR (rs.take i)) r := by
  unfold joinR
  rw [List.take_add_one, h, List.foldl_append]
  rfl
theorem fold_len : ∀ (rs acc : List R3), (rs.foldl jstep acc).length ≤ acc.length + rs.length
  | [], acc => by simp
  | r :: t, acc => by
    have h1 := fold_len t (jstep acc r)
    have h2 := jstep_len acc r
    rw [List.foldl_cons, List.length_cons]
    omega
theorem join_len (rs : List R3) : (joinR rs).length ≤ rs.length := by
  have := fold_len rs []
  simp at this
  exact this
/-- joined: rows in a list or a tuple, a new list of joined ones -/
def spJoined (K : PySem.W.Frag) : Sp := fun vs H Q _ => ∃ (a : Addr) (xs : List V) (rs : List R3), vs = [.ref a] ∧ SqB K H a xs ∧ TupsAt R3.vs H xs rs ∧ rs.length ≤ 100000 ∧
  ∀ q H' ys, H q = none → Same H H' → H' q = some (.lst ys) → TupsAt R3.vs H' ys (joinR rs) → Q (.ref q) H'
section
variable {P : Program} {w : World} {K : PySem.W.Frag} {mg : Str → Option Value} {base : Heap}
abbrev N_joined : List Str := ["rows", "found", "begin", "end", "line"]
theorem sc_joined : FnScope N_joined ["rows"] (defScope s_joined) := ⟨rfl, rfl, rfl, by decide +kernel, rfl, by decide +kernel, by decide +kernel⟩
theorem ok_joined {f : Addr} {fd : FuncData} (F : DefX K mg "joined" s_joined ["rows"] f fd) : CalX P w K mg base 1 "joined" (spJoined K) := by
  refine calx F sc_joined (fun vs H Q E h => ?_) (fun cdv A outer s H vs Q E hr h => ?_)
  · obtain ⟨a, xs, rs, rfl, _⟩ := h
    rfl
  · obtain ⟨a, xs, rs, rfl, hq, hR, hlen, k⟩ := h
    refine ⟨_, (pss_cons (ps_set (i := 1) sc_joined.nd rfl (.inl rfl) (pe_lst pa_nil))
    (pss_cons (ps_for PassesOwn.never rfl (pi_seq (pv 0)) (pg_tup (by rfl) (pgs_cons (pg_name (i := 2) sc_joined.nd rfl (.inl rfl)) (pgs_cons (pg_name (i := 3) sc_joined.nd rfl (.inl rfl)) (pgs_cons (pg_name (i := 4) sc_joined.nd rfl (.inl rfl)) pgs_nil))))
      (pss_one (ps_if (PW.pt (pw_and (pt_cmpR (op_neD hr.units) (pv 1) (pe_lst pa_nil) (nomark _)) (pw_and1 (pt_cmpR op_eq (pe_ix ix_tup (pe_ix ix_list (pv 1) (pe_un un_neg pe_int) (fun _ _ => rfl)) pe_int (fun _ _ => rfl)) (pv 4) (nomark _)))))
      (pss_one (ps_asg (pe_tup (pa_cons (pe_ix ix_tup (pe_ix ix_list (pv 1) (pe_un un_neg pe_int) (fun _ _ => rfl)) pe_int (fun _ _ => rfl)) (pa_cons (pv 3) (pa_cons (pv 4) pa_nil)))) (pg_sub (pv 1) (pe_un un_neg pe_int) set_list)))
      (pss_one (ps_expr (pe_bm PySem.F.plainAttrs_list PySem.F.slot_list_append PySem.F.type_list_append mt_append (pv 1) (pa_cons (pe_tup (pa_cons (pv 2) (pa_cons (pv 3) (pa_cons (pv 4) pa_nil)))) pa_nil)))))))
    (pss_one (ps_ret (pv 1))))), ?_⟩
    refine ⟨(by show 0 ≤ sizeLine; decide), ?_⟩
    intro f0 m0
    have s0 : Same H (upd H f0 (.lst [])) := Same.new m0
    have h0 : upd H f0 (.lst []) f0 = some (.lst []) := upd_same
    generalize upd H f0 (.lst []) = Hs at s0 h0 ⊢
    refine ⟨_, rfl, a, rfl, for_both (K := K) (xs := xs) hq
      (fun i σ H' => ∃ v2 v3 v4 ys, σ = [some (.ref a), some (.ref f0), v2, v3, v4] ∧ Same H H' ∧ H' f0 = some (.lst ys) ∧ TupsAt R3.vs H' ys (joinR (rs.take i)))
      ⟨_, _, _, [], rfl, s0, h0, trivial⟩ ?_ ?_ ?_⟩
    · rintro i σ H' hi ⟨v2, v3, v4, ys, rfl, s1, h1, t1⟩
      exact s1
    · rintro i x σ H' hi ⟨v2, v3, v4, ys, rfl, s1, h1, t1⟩
      obtain ⟨p, r, hri, rfl, hp⟩ := (hR.same s1).get hi
      rw [join_take hri]
      refine ⟨p, _, rfl, SqT.of hp, rfl, _, _, rfl, _, _, rfl, _, _, rfl, rfl, ?_⟩
      refine ⟨_, rfl, (by show 0 ≤ sizeLine; decide), ?_⟩
      intro p1 n1
      have s1' := Same.new (o := .lst []) n1
      have h1n : upd H' p1 (.lst []) p1 = some (.lst []) := upd_same
      generalize upd H' p1 (.lst []) = H1 at s1' h1n ⊢
      have h1' := s1' _ _ h1
      have t1' := t1.same s1'
      refine ⟨rowsD (joinR (rs.take i)), .list [], Dp.lst (SqL.of h1') (dp_tups dp_r3 t1'), Dp.lst (SqL.of h1n) .nil, shaped_r3s _, rfl, _, rfl, ?_⟩
      have hl : (joinR (rs.take i)).length ≤ 100000 := by
        have h1 := join_len (rs.take i)
        have h2 : (rs.take i).length ≤ rs.length := by
          rw [List.length_take]
          exact Nat.min_le_right _ _
        omega
      have Sx := s1.trans s1'
      have add : ∀ {J : Hp}, Same H1 J → ∀ q, J q = none → (jstep (joinR (rs.take i)) r = joinR (rs.take i) ++ [r]) → ∃ ys', upd (upd J q (.tup [.int r.lo, .int r.hi, lnV r.ln])) f0 (.lst (ys ++ [.ref q])) f0 = some (.lst ys') ∧ Same H (upd (upd J q (.tup [.int r.lo, .int r.hi, lnV r.ln])) f0 (.lst (ys ++ [.ref q]))) ∧
          TupsAt R3.vs (upd (upd J q (.tup [.int r.lo, .int r.hi, lnV r.ln])) f0 (.lst (ys ++ [.ref q]))) ys' (jstep (joinR (rs.take i)) r) := by
        intro J sJ q nq e
        have sq : Same J (upd J q (.tup [.int r.lo, .int r.hi, lnV r.ln])) := Same.new nq
        have hJ := sq _ _ (sJ _ _ h1')
        refine ⟨ys ++ [.ref q], upd_same, Same.mut ((Sx.trans sJ).trans sq) m0, ?_⟩
        rw [e]
        refine TupsAt.snoc (p := q) ?_ (((t1'.same sJ).same sq).upd hJ)
        rw [upd_ne (by
          rintro rfl
          rw [sJ _ _ h1'] at nq
          cases nq)]
        exact upd_same
      rcases List.eq_nil_or_concat (joinR (rs.take i)) with e | ⟨qs, q, e⟩
      · rw [e]
        refine iteF ?_
        refine iteF ?_
        refine ⟨_, rfl, .inl ⟨rfl, _, SqL.of h1'⟩, _, rfl, _, rfl, _, rfl, (by show 3 ≤ sizeLine; decide), fun n nn => ?_⟩
        obtain ⟨ys', a1, a2, a3⟩ := add (Same.refl _) n nn (by rw [e]; rfl)
        rw [e] at a3
        refine ⟨f0, ys, _, rfl, rfl, (Same.new nn) _ _ h1', ?_, ⟨_, _, _, ys', rfl, a2, a1, a3⟩⟩
        rw [t1.len]
        exact Nat.lt_of_le_of_lt hl (by decide)
      · rw [List.concat_eq_append] at e
        have e3 : PyData.eqv (rowsD (joinR (rs.take i))) (.list []) = false := by
          rw [e]
          unfold rowsD
          rw [List.map_append]
          cases qs <;> simp [PyData.eqv, PyData.eqvAll]
        rw [e3]
        refine iteT ?_
        rw [e] at t1'
        obtain ⟨ys0, pq, eys, hpq, t0⟩ := t1'.unsnoc
        subst eys
        refine ⟨_, rfl, _, rfl, f0, _, _, _, rfl, rfl, SqL.of h1', atI_last _ _, pq, _, _, _, rfl, rfl, SqT.of hpq, (atI_nat (j := 2) rfl : atI q.vs 2 = some (lnV q.ln)), _, rfl, ln_scal _ _, _, rfl, ?_⟩
        rw [ln_eq]
        refine ite2 (fun c => ?_) (fun c => ?_)
        · have c' : q.ln = r.ln := of_decide_eq_true c
          rw [e, jstep_eq c']
          refine ⟨_, rfl, _, rfl, f0, _, _, _, rfl, rfl, SqL.of h1', atI_last _ _, pq, _, _, _, rfl, rfl, SqT.of hpq, (atI_nat (j := 0) rfl : atI q.vs 0 = some (.int q.lo)), _, rfl, _, rfl, (by show 3 ≤ sizeLine; decide), fun n nn => ?_⟩
          have sn : Same H1 (upd H1 n (.tup [.int q.lo, .int r.hi, lnV r.ln])) := Same.new nn
          refine ⟨_, rfl, _, rfl, f0, _, _, _, rfl, rfl, sn _ _ h1', ix_last, ?_⟩
          rw [set_last]
          refine ⟨_, _, _, ys0 ++ [.ref n], rfl, Same.mut (Sx.trans sn) m0, upd_same, ?_⟩
          refine TupsAt.snoc (p := n) ?_ ((t0.same sn).upd (sn _ _ h1'))
          rw [upd_ne (by
            rintro rfl
            rw [h1'] at nn
            cases nn)]
          exact upd_same
        · have c' : q.ln ≠ r.ln := fun z => c (decide_eq_true z)
          refine ⟨_, rfl, .inl ⟨rfl, _, SqL.of h1'⟩, _, rfl, _, rfl, _, rfl, (by show 3 ≤ sizeLine; decide), fun n nn => ?_⟩
          obtain ⟨ys', a1, a2, a3⟩ := add (Same.refl _) n nn (by rw [e]; exact jstep_ne c')
          refine ⟨f0, _, _, rfl, rfl, (Same.new nn) _ _ h1', ?_, ⟨_, _, _, ys', rfl, a2, a1, a3⟩⟩
          rw [t1.len]
          exact Nat.lt_of_le_of_lt hl (by decide)
    · rintro σ H' ⟨v2, v3, v4, ys, rfl, s1, h1, t1⟩
      rw [hR.len, List.take_length] at t1
      exact ⟨_, rfl, k f0 H' ys m0 s1 h1 t1⟩
abbrev N_law_joined : List Str := ["some", "found", "low", "high", "line"]
theorem sc_law_joined : FnScope N_law_joined ["some"] (defScope s_law_joined) := ⟨rfl, rfl, rfl, by decide +kernel, rfl, by decide +kernel, by decide +kernel⟩
theorem ok_law_joined {f : Addr} {fd : FuncData} (F : DefX K mg "_law_joined" s_law_joined ["some"] f fd) : CalX P w K mg base 1 "_law_joined" (spJoined K) := by
  refine calx F sc_law_joined (fun vs H Q E h => ?_) (fun cdv A outer s H vs Q E hr h => ?_)
  · obtain ⟨a, xs, rs, rfl, _⟩ := h
    rfl
  · obtain ⟨a, xs, rs, rfl, hq, hR, hlen, k⟩ := h
    refine ⟨_, (pss_cons (ps_set (i := 1) sc_law_joined.nd rfl (.inl rfl) (pe_lst pa_nil))
    (pss_cons (ps_for PassesOwn.never rfl (pi_seq (pv 0)) (pg_tup (by rfl) (pgs_cons (pg_name (i := 2) sc_law_joined.nd rfl (.inl rfl)) (pgs_cons (pg_name (i := 3) sc_law_joined.nd rfl (.inl rfl)) (pgs_cons (pg_name (i := 4) sc_law_joined.nd rfl (.inl rfl)) pgs_nil))))
      (pss_one (ps_if (PW.pt (pw_and (pt_cmpR (op_neD hr.units) (pv 1) (pe_lst pa_nil) (nomark _)) (pw_and1 (pt_cmpR op_eq (pe_ix ix_tup (pe_ix ix_list (pv 1) (pe_un un_neg pe_int) (fun _ _ => rfl)) pe_int (fun _ _ => rfl)) (pv 4) (nomark _)))))
      (pss_one (ps_asg (pe_tup (pa_cons (pe_ix ix_tup (pe_ix ix_list (pv 1) (pe_un un_neg pe_int) (fun _ _ => rfl)) pe_int (fun _ _ => rfl)) (pa_cons (pv 3) (pa_cons (pv 4) pa_nil)))) (pg_sub (pv 1) (pe_un un_neg pe_int) set_list)))
      (pss_one (ps_expr (pe_bm PySem.F.plainAttrs_list PySem.F.slot_list_append PySem.F.type_list_append mt_append (pv 1) (pa_cons (pe_tup (pa_cons (pv 2) (pa_cons (pv 3) (pa_cons (pv 4) pa_nil)))) pa_nil)))))))
    (pss_one (ps_ret (pv 1))))), ?_⟩
    refine ⟨(by show 0 ≤ sizeLine; decide), ?_⟩
    intro f0 m0
    have s0 : Same H (upd H f0 (.lst [])) := Same.new m0
    have h0 : upd H f0 (.lst []) f0 = some (.lst []) := upd_same
    generalize upd H f0 (.lst []) = Hs at s0 h0 ⊢
    refine ⟨_, rfl, a, rfl, for_both (K := K) (xs := xs) hq
      (fun i σ H' => ∃ v2 v3 v4 ys, σ = [some (.ref a), some (.ref f0), v2, v3, v4] ∧ Same H H' ∧ H' f0 = some (.lst ys) ∧ TupsAt R3.vs H' ys (joinR (rs.take i)))
      ⟨_, _, _, [], rfl, s0, h0, trivial⟩ ?_ ?_ ?_⟩
    · rintro i σ H' hi ⟨v2, v3, v4, ys, rfl, s1, h1, t1⟩
      exact s1
    · rintro i x σ H' hi ⟨v2, v3, v4, ys, rfl, s1, h1, t1⟩
      obtain ⟨p, r, hri, rfl, hp⟩ := (hR.same s1).get hi
      rw [join_take hri]
      refine ⟨p, _, rfl, SqT.of hp, rfl, _, _, rfl, _, _, rfl, _, _, rfl, rfl, ?_⟩
      refine ⟨_, rfl, (by show 0 ≤ sizeLine; decide), ?_⟩
      intro p1 n1
      have s1' := Same.new (o := .lst []) n1
      have h1n : upd H' p1 (.lst []) p1 = some (.lst []) := upd_same
      generalize upd H' p1 (.lst []) = H1 at s1' h1n ⊢
      have h1' := s1' _ _ h1
      have t1' := t1.same s1'
      refine ⟨rowsD (joinR (rs.take i)), .list [], Dp.lst (SqL.of h1') (dp_tups dp_r3 t1'), Dp.lst (SqL.of h1n) .nil, shaped_r3s _, rfl, _, rfl, ?_⟩
      have hl : (joinR (rs.take i)).length ≤ 100000 := by
        have h1 := join_len (rs.take i)
        have h2 : (rs.take i).length ≤ rs.length := by
          rw [List.length_take]
          exact Nat.min_le_right _ _
        omega
      have Sx := s1.trans s1'
      have add : ∀ {J : Hp}, Same H1 J → ∀ q, J q = none → (jstep (joinR (rs.take i)) r = joinR (rs.take i) ++ [r]) → ∃ ys', upd (upd J q (.tup [.int r.lo, .int r.hi, lnV r.ln])) f0 (.lst (ys ++ [.ref q])) f0 = some (.lst ys') ∧ Same H (upd (upd J q (.tup [.int r.lo, .int r.hi, lnV r.ln])) f0 (.lst (ys ++ [.ref q]))) ∧
          TupsAt R3.vs (upd (upd J q (.tup [.int r.lo, .int r.hi, lnV r.ln])) f0 (.lst (ys ++ [.ref q]))) ys' (jstep (joinR (rs.take i)) r) := by
        intro J sJ q nq e
        have sq : Same J (upd J q (.tup [.int r.lo, .int r.hi, lnV r.ln])) := Same.new nq
        have hJ := sq _ _ (sJ _ _ h1')
        refine ⟨ys ++ [.ref q], upd_same, Same.mut ((Sx.trans sJ).trans sq) m0, ?_⟩
        rw [e]
        refine TupsAt.snoc (p := q) ?_ (((t1'.same sJ).same sq).upd hJ)
        rw [upd_ne (by
          rintro rfl
          rw [sJ _ _ h1'] at nq
          cases nq)]
        exact upd_same
      rcases List.eq_nil_or_concat (joinR (rs.take i)) with e | ⟨qs, q, e⟩
      · rw [e]
        refine iteF ?_
        refine iteF ?_
        refine ⟨_, rfl, .inl ⟨rfl, _, SqL.of h1'⟩, _, rfl, _, rfl, _, rfl, (by show 3 ≤ sizeLine; decide), fun n nn => ?_⟩
        obtain ⟨ys', a1, a2, a3⟩ := add (Same.refl _) n nn (by rw [e]; rfl)
        rw [e] at a3
        refine ⟨f0, ys, _, rfl, rfl, (Same.new nn) _ _ h1', ?_, ⟨_, _, _, ys', rfl, a2, a1, a3⟩⟩
        rw [t1.len]
        exact Nat.lt_of_le_of_lt hl (by decide)
      · rw [List.concat_eq_append] at e
        have e3 : PyData.eqv (rowsD (joinR (rs.take i))) (.list []) = false := by
          rw [e]
          unfold rowsD
          rw [List.map_append]
          cases qs <;> simp [PyData.eqv, PyData.eqvAll]
        rw [e3]
        refine iteT ?_
        rw [e] at t1'
        obtain ⟨ys0, pq, eys, hpq, t0⟩ := t1'.unsnoc
        subst eys
        refine ⟨_, rfl, _, rfl, f0, _, _, _, rfl, rfl, SqL.of h1', atI_last _ _, pq, _, _, _, rfl, rfl, SqT.of hpq, (atI_nat (j := 2) rfl : atI q.vs 2 = some (lnV q.ln)), _, rfl, ln_scal _ _, _, rfl, ?_⟩
        rw [ln_eq]
        refine ite2 (fun c => ?_) (fun c => ?_)
        · have c' : q.ln = r.ln := of_decide_eq_true c
          rw [e, jstep_eq c']
          refine ⟨_, rfl, _, rfl, f0, _, _, _, rfl, rfl, SqL.of h1', atI_last _ _, pq, _, _, _, rfl, rfl, SqT.of hpq, (atI_nat (j := 0) rfl : atI q.vs 0 = some (.int q.lo)), _, rfl, _, rfl, (by show 3 ≤ sizeLine; decide), fun n nn => ?_⟩
          have sn : Same H1 (upd H1 n (.tup [.int q.lo, .int r.hi, lnV r.ln])) := Same.new nn
          refine ⟨_, rfl, _, rfl, f0, _, _, _, rfl, rfl, sn _ _ h1', ix_last, ?_⟩
          rw [set_last]
          refine ⟨_, _, _, ys0 ++ [.ref n], rfl, Same.mut (Sx.trans sn) m0, upd_same, ?_⟩
          refine TupsAt.snoc (p := n) ?_ ((t0.same sn).upd (sn _ _ h1'))
          rw [upd_ne (by
            rintro rfl
            rw [h1'] at nn
            cases nn)]
          exact upd_same
        · have c' : q.ln ≠ r.ln := fun z => c (decide_eq_true z)
          refine ⟨_, rfl, .inl ⟨rfl, _, SqL.of h1'⟩, _, rfl, _, rfl, _, rfl, (by show 3 ≤ sizeLine; decide), fun n nn => ?_⟩
          obtain ⟨ys', a1, a2, a3⟩ := add (Same.refl _) n nn (by rw [e]; exact jstep_ne c')
          refine ⟨f0, _, _, rfl, rfl, (Same.new nn) _ _ h1', ?_, ⟨_, _, _, ys', rfl, a2, a1, a3⟩⟩
          rw [t1.len]
          exact Nat.lt_of_le_of_lt hl (by decide)
    · rintro σ H' ⟨v2, v3, v4, ys, rfl, s1, h1, t1⟩
      rw [hR.len, List.take_length] at t1
      exact ⟨_, rfl, k f0 H' ys m0 s1 h1 t1⟩
end
end K57
set_option maxHeartbeats 4000000
/-! ### entries of a table of lines, in plain words -/
namespace K57
open PySem PySem.Spec PyProof.Rows L2 Nd
abbrev En : Type := Nat × Option Int
/-- a number with its sign, as one of its own -/
def sg (n : Int) : Nat := if 0 ≤ n then (2 * n).toNat else (1 - 2 * n).toNat
theorem sg_pos {n : Int} (h : 0 ≤ n) : ((sg n : Nat) : Int) = 2 * n := by
  unfold sg
  rw [if_pos h]
  omega
theorem sg_neg {n : Int} (h : ¬ 0 ≤ n) : ((sg n : Nat) : Int) = 1 - 2 * n := by
  unfold sg
  rw [if_neg h]
  omega
theorem sg_one (n : Int) : sg n ≠ 1 := by
  unfold sg
  split <;> omega
theorem sg_lt {n : Int} {k : Nat} (h1 : -(k : Int) < n) (h2 : n < k) : sg n < 2 * k + 1 := by
  unfold sg
  split <;> omega
def ent (u : Nat) (m : Option Int) : List Int := match m with
  | none => [248 + (u : Int) - 1]
  | some n => (232 + (u : Int) - 1) :: mk (dig (sg n))
/-- the bytes of entries, behind the line last -/
def tb : List En → Int → List Int
  | [], _ => []
  | e :: r, last => ent e.1 (e.2.map (· - last)) ++ tb r (e.2.getD last)
def lastOf (es : List En) (last : Int) : Int := es.foldl (fun a e => e.2.getD a) last
theorem tb_app : ∀ (xs ys : List En) (l : Int), tb (xs ++ ys) l = tb xs l ++ tb ys (lastOf xs l)
  | [], ys, l => rfl
  | e :: r, ys, l => by
    show ent e.1 _ ++ tb (r ++ ys) _ = (ent e.1 _ ++ tb r _) ++ _
    rw [tb_app r ys, List.append_assoc]
    rfl
theorem tb_one (e : En) (l : Int) : tb [e] l = ent e.1 (e.2.map (· - l)) := by
  show ent e.1 _ ++ [] = _
  rw [List.append_nil]
theorem last_app (xs ys : List En) (l : Int) : lastOf (xs ++ ys) l = lastOf ys (lastOf xs l) := by
  unfold lastOf
  rw [List.foldl_append]
def rowsOf : List En → Int → List R3
  | [], _ => []
  | e :: r, b => ⟨b, b + 2 * (e.1 : Int), e.2⟩ :: rowsOf r (b + 2 * (e.1 : Int))
def endE (es : List En) (b : Int) : Int := es.foldl (fun a e => a + 2 * (e.1 : Int)) b
theorem rows_app : ∀ (xs ys : List En) (b : Int), rowsOf (xs ++ ys) b = rowsOf xs b ++ rowsOf ys (endE xs b)
  | [], ys, b => rfl
  | e :: r, ys, b => by
    show _ :: rowsOf (r ++ ys) _ = _ :: (rowsOf r _ ++ _)
    rw [rows_app r ys]
    rfl
theorem end_app (xs ys : List En) (b : Int) : endE (xs ++ ys) b = endE ys (endE xs b) := by
  unfold endE
  rw [List.foldl_append]
theorem rows_len : ∀ (es : List En) (b : Int), (rowsOf es b).length = es.length
  | [], _ => rfl
  | e :: r, b => congrArg (· + 1) (rows_len r _)
/-! joining -/
def jE (acc : List En) (e : En) : List En := match acc.getLast? with
  | some q => if q.2 = e.2 then acc.dropLast ++ [(q.1 + e.1, e.2)] else acc ++ [e]
  | none => [e]
def joinE (es : List En) : List En := es.foldl jE []
theorem jE_eq {qs : List En} {q e : En} (h : q.2 = e.2) : jE (qs ++ [q]) e = qs ++ [(q.1 + e.1, e.2)] := by
  unfold jE
  rw [List.getLast?_concat]
  show (if q.2 = e.2 then _ else _) = _
  rw [if_pos h, List.dropLast_concat]
theorem jE_ne {qs : List En} {q e : En} (h : q.2 ≠ e.2) : jE (qs ++ [q]) e = qs ++ [q] ++ [e] := by
  unfold jE
  rw [List.getLast?_concat]
  show (if q.2 = e.2 then _ else _) = _
  rw [if_neg h]
/-- rows of entries, joined -/
theorem fold_rows : ∀ (es acc : List En) (b : Int), (rowsOf es (endE acc b)).foldl jstep (rowsOf acc b) = rowsOf (es.foldl jE acc) b
  | [], acc, b => rfl
  | e :: r, acc, b => by
    have step : jstep (rowsOf acc b) ⟨endE acc b, endE acc b + 2 * (e.1 : Int), e.2⟩ = rowsOf (jE acc e) b ∧ endE (jE acc e) b = endE acc b + 2 * (e.1 : Int) := by
      rcases List.eq_nil_or_concat acc with rfl | ⟨qs, q, rfl⟩
      · exact ⟨rfl, rfl⟩
      · rw [List.concat_eq_append, rows_app, end_app]
        show jstep (rowsOf qs b ++ [⟨endE qs b, endE qs b + 2 * (q.1 : Int), q.2⟩]) _ = _ ∧ _
        by_cases h : q.2 = e.2
        · rw [jstep_eq h, jE_eq h, rows_app, end_app]
          have e1 : endE qs b + 2 * (q.1 : Int) + 2 * (e.1 : Int) = endE qs b + 2 * ((q.1 + e.1 : Nat) : Int) := by omega
          refine ⟨?_, ?_⟩
          · show rowsOf qs b ++ [⟨endE qs b, endE qs b + 2 * (q.1 : Int) + 2 * (e.1 : Int), e.2⟩] = rowsOf qs b ++ [⟨endE qs b, endE qs b + 2 * ((q.1 + e.1 : Nat) : Int), e.2⟩]
            rw [e1]
          · exact e1.symm
        · rw [jstep_ne h, jE_ne h, rows_app (qs ++ [q]) [e], rows_app qs [q], end_app (qs ++ [q]) [e], end_app qs [q]]
          exact ⟨rfl, rfl⟩
    obtain ⟨h1, h2⟩ := step
    show (rowsOf r (endE acc b + 2 * (e.1 : Int))).foldl jstep (jstep (rowsOf acc b) _) = rowsOf (r.foldl jE (jE acc e)) b
    rw [h1, ← h2]
    exact fold_rows r (jE acc e) b
theorem join_rows (es : List En) : joinR (rowsOf es 0) = rowsOf (joinE es) 0 := fold_rows es [] 0
/-- cut into pieces of one to eight units -/
inductive Cut : List En → List En → Prop
  | nil : Cut [] []
  | cons {u : Nat} {l : Option Int} {ps : List Nat} {cs es : List En} (hs : ps.sum = u) (hn : ps ≠ []) (hp : ∀ p ∈ ps, 1 ≤ p ∧ p ≤ 8) (t : Cut cs es) : Cut (ps.map (·, l) ++ cs) ((u, l) :: es)
theorem jE_more (l : Option Int) : ∀ (ps : List Nat) (qs : List En) (u : Nat), (ps.map ((·, l) : Nat → En)).foldl jE (qs ++ [(u, l)]) = qs ++ [(u + ps.sum, l)]
  | [], qs, u => by simp
  | p :: r, qs, u => by
    show (r.map ((·, l) : Nat → En)).foldl jE (jE (qs ++ [(u, l)]) (p, l)) = _
    rw [jE_eq (q := (u, l)) (e := (p, l)) rfl]
    show (r.map ((·, l) : Nat → En)).foldl jE (qs ++ [(u + p, l)]) = _
    rw [jE_more l r qs (u + p), List.sum_cons, Nat.add_assoc]
theorem jE_cut {l : Option Int} {ps : List Nat} (hn : ps ≠ []) (acc : List En) : (ps.map ((·, l) : Nat → En)).foldl jE acc = jE acc (ps.sum, l) := by
  cases ps with
  | nil => exact (hn rfl).elim
  | cons p r =>
    show (r.map ((·, l) : Nat → En)).foldl jE (jE acc (p, l)) = _
    rcases List.eq_nil_or_concat acc with rfl | ⟨qs, q, rfl⟩
    · have := jE_more l r [] p
      rw [List.sum_cons]
      exact this
    · rw [List.concat_eq_append]
      by_cases h : q.2 = l
      · rw [jE_eq (e := (p, l)) h, jE_eq (e := ((p :: r).sum, l)) h]
        show (r.map ((·, l) : Nat → En)).foldl jE (qs ++ [(q.1 + p, l)]) = qs ++ [(q.1 + (p :: r).sum, l)]
        rw [jE_more l r qs (q.1 + p), List.sum_cons, Nat.add_assoc]
      · rw [jE_ne (e := (p, l)) h, jE_ne (e := ((p :: r).sum, l)) h, jE_more l r (qs ++ [q]) p, List.sum_cons]
theorem cut_fold {cs es : List En} (h : Cut cs es) : ∀ acc, cs.foldl jE acc = es.foldl jE acc := by
  induction h with
  | nil => intro acc; rfl
  | @cons u l ps cs es hs hn hp t ih =>
    intro acc
    rw [List.foldl_append, jE_cut hn, hs]
    exact ih _
theorem cut_join {cs es : List En} (h : Cut cs es) : joinE cs = joinE es := cut_fold h []
/-- neighbours of unlike lines -/
def Sep (l : List En) : Prop := ∀ p q a b, l = p ++ a :: b :: q → a.2 ≠ b.2
theorem sep_nil : Sep [] := fun p q a b h => by simp at h
theorem sep_step {acc : List En} (h : Sep acc) (e : En) : Sep (jE acc e) := by
  rcases List.eq_nil_or_concat acc with rfl | ⟨qs, q, rfl⟩
  · intro p t a b z
    have z : [e] = p ++ a :: b :: t := z
    have := congrArg List.length z
    simp at this
    omega
  · rw [List.concat_eq_append] at h ⊢
    by_cases c : q.2 = e.2
    · rw [jE_eq c]
      intro p t a b z
      rcases List.eq_nil_or_concat t with rfl | ⟨t', x, rfl⟩
      · have z' : qs ++ [(q.1 + e.1, e.2)] = (p ++ [a]) ++ [b] := by rw [z]; simp
        obtain ⟨z1, z2⟩ := List.append_inj' z' rfl
        have z3 : (q.1 + e.1, e.2) = b := by injection z2
        rw [← z3]
        show a.2 ≠ e.2
        rw [← c]
        exact h p [] a q (by rw [z1]; simp)
      · rw [List.concat_eq_append] at z
        have z' : qs ++ [(q.1 + e.1, e.2)] = (p ++ a :: b :: t') ++ [x] := by rw [z]; simp
        obtain ⟨z1, _⟩ := List.append_inj' z' rfl
        exact h p (t' ++ [q]) a b (by rw [z1]; simp)
    · rw [jE_ne c]
      intro p t a b z
      rcases List.eq_nil_or_concat t with rfl | ⟨t', x, rfl⟩
      · have z' : qs ++ [q] ++ [e] = (p ++ [a]) ++ [b] := by rw [z]; simp
        obtain ⟨z1, z2⟩ := List.append_inj' z' rfl
        obtain ⟨_, z4⟩ := List.append_inj' z1 rfl
        have z3 : e = b := by injection z2
        have z5 : q = a := by injection z4
        rw [← z3, ← z5]
        exact c
      · rw [List.concat_eq_append] at z
        have z' : qs ++ [q] ++ [e] = (p ++ a :: b :: t') ++ [x] := by rw [z]; simp
        obtain ⟨z1, _⟩ := List.append_inj' z' rfl
        exact h p t' a b z1
theorem sep_fold : ∀ (es acc : List En), Sep acc → Sep (es.foldl jE acc)
  | [], _, h => h
  | e :: r, acc, h => sep_fold r _ (sep_step h e)
theorem sep_id : ∀ (es acc : List En), Sep (acc ++ es) → es.foldl jE acc = acc ++ es
  | [], acc, _ => by simp
  | e :: r, acc, h => by
    have s : jE acc e = acc ++ [e] := by
      rcases List.eq_nil_or_concat acc with rfl | ⟨qs, q, rfl⟩
      · rfl
      · rw [List.concat_eq_append] at h ⊢
        exact jE_ne (h qs r q e (by simp))
    show r.foldl jE (jE acc e) = _
    rw [s, sep_id r (acc ++ [e]) (by rw [List.append_assoc]; exact h), List.append_assoc]
    rfl
theorem join_join (es : List En) : joinE (joinE es) = joinE es := by
  have h := sep_fold es [] sep_nil
  exact sep_id (joinE es) [] h
/-- what holds of all units and lines -/
theorem fold_all {U : Nat → Prop} {L : Option Int → Prop} (hU : ∀ a b, U a → U b → U (a + b)) : ∀ (es acc : List En), (∀ e ∈ acc, U e.1 ∧ L e.2) → (∀ e ∈ es, U e.1 ∧ L e.2) → ∀ e ∈ es.foldl jE acc, U e.1 ∧ L e.2
  | [], _, h, _ => h
  | x :: r, acc, h, g => by
    refine fold_all hU r (jE acc x) (fun e he => ?_) fun e he => g e (by simp [he])
    have gx := g x (by simp)
    rcases List.eq_nil_or_concat acc with rfl | ⟨qs, q, rfl⟩
    · have : e = x := by simpa [jE] using he
      rw [this]
      exact gx
    · rw [List.concat_eq_append] at h he
      by_cases c : q.2 = x.2
      · rw [jE_eq c] at he
        rcases List.mem_append.mp he with z | z
        · exact h e (by simp [z])
        · have z : e = (q.1 + x.1, x.2) := by simpa using z
          rw [z]
          exact ⟨hU _ _ (h q (by simp)).1 gx.1, gx.2⟩
      · rw [jE_ne c] at he
        rcases List.mem_append.mp he with z | z
        · exact h e z
        · have z : e = x := by simpa using z
          rw [z]
          exact gx
/-! eight units at most -/
def chunks (u : Nat) : List Nat := (List.range ((u + 7) / 8)).map fun k => min 8 (u - 8 * k)
theorem chunks_sum (u : Nat) : (chunks u).sum = u := by
  have key : ∀ n, ((List.range n).map fun k => min 8 (u - 8 * k)).sum = min u (8 * n) := by
    intro n
    induction n with
    | zero => simp
    | succ n ih =>
      rw [List.range_succ, List.map_append, List.sum_append, ih]
      simp
      omega
  unfold chunks
  rw [key]
  omega
theorem chunks_mem {u : Nat} : ∀ p ∈ chunks u, 1 ≤ p ∧ p ≤ 8 := by
  intro p h
  unfold chunks at h
  obtain ⟨k, hk, rfl⟩ := List.mem_map.mp h
  have := List.mem_range.mp hk
  omega
theorem chunks_ne {u : Nat} (h : 1 ≤ u) : chunks u ≠ [] := by
  intro z
  have := chunks_sum u
  rw [z] at this
  simp at this
  omega
theorem chunks_at {u k : Nat} (h : k < (u + 7) / 8) : (chunks u)[k]? = some (min 8 (u - 8 * k)) := by
  unfold chunks
  rw [List.getElem?_map, List.getElem?_range h]
  rfl
def chE (es : List En) : List En := es.flatMap fun e => (chunks e.1).map (·, e.2)
theorem cut_ch : ∀ es : List En, (∀ e ∈ es, 1 ≤ e.1) → Cut (chE es) es
  | [], _ => .nil
  | (u, l) :: r, h => .cons (chunks_sum u) (chunks_ne (h (u, l) (by simp))) chunks_mem (cut_ch r fun e he => h e (by simp [he]))
end K57
set_option maxHeartbeats 4000000
namespace K57
open PySem PySem.Spec PyProof.Rows L2 Nd
abbrev s_law_entry : Stmt := top 59
def Mid (n : Int) : Prop := -(2 ^ 28) < n ∧ n < 2 ^ 28
theorem Mid.sg5 {n : Int} (h : Mid n) : sg n < 64 ^ 5 := by
  obtain ⟨a, b⟩ := h
  have := sg_lt (k := 2 ^ 28) (n := n) (by omega) (by omega)
  have e : (64 : Nat) ^ 5 = 2 ^ 30 := by decide
  omega
theorem Mid.sg {n : Int} (h : Mid n) : sg n < 64 ^ 20 := Nat.lt_of_lt_of_le h.sg5 (by decide)
theorem dig_len' {n : Int} (h : Mid n) : (dig (sg n)).length ≤ 2000 := Nat.le_trans (dig_len 20 _ h.sg) (by decide)
section
variable {P : Program} {w : World} {K : PySem.W.Frag} {mg : Str → Option Value} {base : Heap}
/-! ### _law_entry -/
def spEntry : Sp := fun vs H Q _ => ∃ (u : Nat) (m : Option Int), vs = [.int (u : Int), lnV m] ∧ (∀ n, m = some n → Mid n) ∧ ∀ p H', H p = none → Same H H' → H' p = some (.lst ((ent u m).map V.int)) → Q (.ref p) H'
abbrev N_law_entry : List Str := ["units", "more", "number"]
theorem sc_law_entry : FnScope N_law_entry ["units", "more"] (defScope s_law_entry) := ⟨rfl, rfl, rfl, by decide +kernel, rfl, by decide +kernel, by decide +kernel⟩
theorem ok_law_entry {f : Addr} {fd : FuncData} (c_law_pieces : CalX P w K mg base 1 "_law_pieces" spLPieces) (c_law_marked : CalX P w K mg base 1 "_law_marked" (spMarked K)) (F : DefX K mg "_law_entry" s_law_entry ["units", "more"] f fd) : CalX P w K mg base 2 "_law_entry" spEntry := by
  refine calx F sc_law_entry (fun vs H Q E h => ?_) (fun cdv A outer s H vs Q E hr h => ?_)
  · obtain ⟨u, m, rfl, _⟩ := h
    rfl
  · obtain ⟨u, m, rfl, hm, k⟩ := h
    refine ⟨_, (pss_cons (ps_if (pt_cmpR op_isN (pv 1) pe_non (nomark _))
      (pss_one (ps_ret (pe_lst (pa_cons (pe_op op_sub (pe_op op_add pe_int (pv 0)) pe_int) pa_nil))))
      pss_nil)
    (pss_cons (ps_set (i := 2) sc_law_entry.nd rfl (.inl rfl) (pe_ifExp (pt_cmpR op_ge (pv 1) pe_int (nomark _)) (pe_op op_mul pe_int (pv 1)) (pe_op op_sub pe_int (pe_op op_mul pe_int (pv 1)))))
    (pss_one (ps_ret (pe_op op_cat (pe_lst (pa_cons (pe_op op_sub (pe_op op_add pe_int (pv 0)) pe_int) pa_nil)) (pe_cx c_law_marked hr (by decide) rfl (pa_cons (pe_cx c_law_pieces hr (by decide) rfl (pa_cons (pv 2) pa_nil)) pa_nil))))))), ?_⟩
    cases m with
    | none =>
      refine ⟨_, rfl, rfl, _, rfl, iteT ?_⟩
      refine ⟨_, rfl, _, _, rfl, rfl, _, _, rfl, rfl, (by show 1 ≤ sizeLine; decide), fun p n1 => ?_⟩
      exact k p _ n1 (Same.new n1) upd_same
    | some n =>
      have hm := hm n rfl
      refine ⟨_, rfl, rfl, _, rfl, iteF ?_⟩
      refine ⟨_, rfl, _, _, rfl, rfl, _, rfl, ?_⟩
      refine ite2 (fun c => ?_) (fun c => ?_)
      · have hp : 0 ≤ n := of_decide_eq_true c
        refine ⟨_, rfl, _, _, rfl, rfl, .inl ⟨by decide, by decide⟩, ?_⟩
        refine ⟨_, rfl, _, _, rfl, rfl, _, _, rfl, rfl, (by show 1 ≤ sizeLine; decide), ?_⟩
        walk_at "new1"
        refine ⟨_, rfl, sg n, by rw [sg_pos hp]; rfl, lt60 hm.sg, fun p2 H2 n2 s2 h2 => ?_⟩
        refine ⟨p2, _, rfl, SqL.of h2, dig_ne _, dig_len' hm, fun p3 H3 n3 s3 h3 => ?_⟩
        refine ⟨p1, p3, _, _, rfl, rfl, (s2.trans s3) _ _ h1, h3, ?_, ?_⟩
        · rw [List.length_map, mk_len]
          exact Nat.le_trans (Nat.add_le_add_left (dig_len' hm) 1) (by decide)
        · walk_at "new4"
          exact k p4 H4 (s1.free (s2.free (s3.free n4))) (((s1.trans s2).trans s3).trans s4) (by rw [h4]; rfl)
      · have hp : ¬ 0 ≤ n := fun z => c (decide_eq_true z)
        refine ⟨_, rfl, _, _, rfl, rfl, .inl ⟨by decide, by decide⟩, _, _, rfl, rfl, ?_⟩
        refine ⟨_, rfl, _, _, rfl, rfl, _, _, rfl, rfl, (by show 1 ≤ sizeLine; decide), ?_⟩
        walk_at "new1"
        refine ⟨_, rfl, sg n, by rw [sg_neg hp]; rfl, lt60 hm.sg, fun p2 H2 n2 s2 h2 => ?_⟩
        refine ⟨p2, _, rfl, SqL.of h2, dig_ne _, dig_len' hm, fun p3 H3 n3 s3 h3 => ?_⟩
        refine ⟨p1, p3, _, _, rfl, rfl, (s2.trans s3) _ _ h1, h3, ?_, ?_⟩
        · rw [List.length_map, mk_len]
          exact Nat.le_trans (Nat.add_le_add_left (dig_len' hm) 1) (by decide)
        · walk_at "new4"
          exact k p4 H4 (s1.free (s2.free (s3.free n4))) (((s1.trans s2).trans s3).trans s4) (by rw [h4]; rfl)
end
end K57
set_option maxHeartbeats 4000000
/-! ### bounds of entries -/
namespace K57
open PySem PySem.Spec PyProof.Rows L2 Nd
def Lok (o : Option Int) : Prop := ∀ i, o = some i → 0 ≤ i ∧ i < 2 ^ 27
def tot (es : List En) : Nat := (es.map (·.1)).sum
structure EsOk (es : List En) : Prop where
  u : ∀ e ∈ es, 1 ≤ e.1
  l : ∀ e ∈ es, Lok e.2
  t : tot es ≤ 10000
def Bas (i : Int) : Prop := 0 ≤ i ∧ i < 2 ^ 27
theorem tot_app (xs ys : List En) : tot (xs ++ ys) = tot xs + tot ys := by
  unfold tot
  rw [List.map_append, List.sum_append]
theorem tot_jE (acc : List En) (e : En) : tot (jE acc e) = tot acc + e.1 := by
  rcases List.eq_nil_or_concat acc with rfl | ⟨qs, q, rfl⟩
  · simp [jE, tot]
  · rw [List.concat_eq_append]
    by_cases c : q.2 = e.2
    · rw [jE_eq c, tot_app, tot_app]
      simp [tot]
      omega
    · rw [jE_ne c, tot_app, tot_app]
      simp [tot]
theorem tot_fold : ∀ (es acc : List En), tot (es.foldl jE acc) = tot acc + tot es
  | [], acc => by simp [tot]
  | e :: r, acc => by
    rw [List.foldl_cons, tot_fold r, tot_jE]
    have : tot (e :: r) = e.1 + tot r := by simp [tot]
    omega
theorem len_tot : ∀ es : List En, (∀ e ∈ es, 1 ≤ e.1) → es.length ≤ tot es
  | [], _ => by simp [tot]
  | e :: r, h => by
    have h1 := len_tot r fun x hx => h x (by simp [hx])
    have h2 := h e (by simp)
    have e2 : tot (e :: r) = e.1 + tot r := by simp [tot]
    rw [List.length_cons]
    omega
theorem EsOk.len {es : List En} (h : EsOk es) : es.length ≤ 100000 := Nat.le_trans (len_tot es h.u) (Nat.le_trans h.t (by decide))
theorem EsOk.join {es : List En} (h : EsOk es) : EsOk (joinE es) := by
  have a := fold_all (U := fun u => 1 ≤ u) (L := Lok) (fun a b x y => Nat.le_trans x (Nat.le_add_right _ _)) es [] (by simp) fun e he => ⟨h.u e he, h.l e he⟩
  refine ⟨fun e he => (a e he).1, fun e he => (a e he).2, ?_⟩
  have := tot_fold es []
  have z : tot ([] : List En) = 0 := rfl
  have := h.t
  show tot (es.foldl jE []) ≤ 10000
  omega
theorem last_bas : ∀ (es : List En) (last : Int), (∀ e ∈ es, Lok e.2) → Bas last → Bas (lastOf es last)
  | [], _, _, h => h
  | (u, none) :: r, last, g, h => last_bas r last (fun e he => g e (by simp [he])) h
  | (u, some i) :: r, last, g, h => last_bas r i (fun e he => g e (by simp [he])) (g (u, some i) (by simp) i rfl)
theorem mid_of {a b : Int} (h : Bas a) (g : Bas b) : Mid (a - b) := by
  obtain ⟨h1, h2⟩ := h
  obtain ⟨g1, g2⟩ := g
  exact ⟨by omega, by omega⟩
theorem diff_mid {o : Option Int} {last n : Int} (h : Lok o) (g : Bas last) (e : o.map (· - last) = some n) : Mid n := by
  cases o with
  | none => cases e
  | some i =>
    have e : i - last = n := by injection e
    rw [← e]
    exact mid_of (h i rfl) g
theorem ent_len {u : Nat} {m : Option Int} (h : ∀ n, m = some n → Mid n) : (ent u m).length ≤ 7 := by
  cases m with
  | none => show 1 ≤ 7; decide
  | some n =>
    show (mk (dig (sg n))).length + 1 ≤ 7
    rw [mk_len]
    have := dig_len 5 _ (h n rfl).sg5
    omega
theorem tb_len : ∀ (es : List En) (last : Int), (∀ e ∈ es, Lok e.2) → Bas last → (tb es last).length ≤ 7 * es.length
  | [], _, _, _ => by simp [tb]
  | e :: r, last, h, g => by
    have h1 := ent_len (u := e.1) (m := e.2.map (· - last)) fun n z => diff_mid (h e (by simp)) g z
    have gl : Bas (e.2.getD last) := last_bas [e] last (by simpa using h e (by simp)) g
    have h2 := tb_len r (e.2.getD last) (fun x hx => h x (by simp [hx])) gl
    show (ent e.1 _ ++ tb r _).length ≤ _
    rw [List.length_append, List.length_cons]
    omega
theorem ch_len1 (u : Nat) : (chunks u).length ≤ u := by
  unfold chunks
  rw [List.length_map, List.length_range]
  omega
theorem chE_len : ∀ es : List En, (chE es).length ≤ tot es
  | [] => by simp [chE, tot]
  | e :: r => by
    have h1 := chE_len r
    have h2 := ch_len1 e.1
    have e1 : chE (e :: r) = (chunks e.1).map (·, e.2) ++ chE r := rfl
    have e2 : tot (e :: r) = e.1 + tot r := by simp [tot]
    rw [e1, List.length_append, List.length_map]
    omega
theorem tot_take (es : List En) (i : Nat) : tot (es.take i) ≤ tot es := by
  have : tot es = tot (es.take i) + tot (es.drop i) := by rw [← tot_app, List.take_append_drop]
  omega
theorem tot_mem {es : List En} {e : En} (h : e ∈ es) : e.1 ≤ tot es := by
  obtain ⟨a, b, rfl⟩ := List.append_of_mem h
  rw [tot_app]
  simp [tot]
  omega
theorem chE_mem {es : List En} {e : En} (h : e ∈ chE es) : ∃ x ∈ es, e.2 = x.2 ∧ 1 ≤ e.1 ∧ e.1 ≤ 8 := by
  unfold chE at h
  obtain ⟨x, hx, h⟩ := List.mem_flatMap.mp h
  obtain ⟨p, hp, rfl⟩ := List.mem_map.mp h
  exact ⟨x, hx, rfl, chunks_mem p hp⟩
theorem chE_take {es : List En} {i : Nat} {e : En} (h : es[i]? = some e) : chE (es.take (i + 1)) = chE (es.take i) ++ (chunks e.1).map (·, e.2) := by
  unfold chE
  rw [List.take_add_one, h, List.flatMap_append]
  simp
theorem rows_get : ∀ {es : List En} {b : Int} {i : Nat} {r : R3}, (rowsOf es b)[i]? = some r → ∃ e, es[i]? = some e ∧ r.hi - r.lo = 2 * (e.1 : Int) ∧ r.ln = e.2
  | [], b, i, r, h => by simp [rowsOf] at h
  | e :: t, b, 0, r, h => by
    have h' : (⟨b, b + 2 * (e.1 : Int), e.2⟩ : R3) = r := Option.some.inj h
    subst h'
    exact ⟨e, rfl, by show b + 2 * (e.1 : Int) - b = _; omega, rfl⟩
  | e :: t, b, i + 1, r, h => rows_get (es := t) h
/-- one entry more -/
theorem tb_more (done : List En) (p : Nat) (l : Option Int) (line : Int) : tb (done ++ [(p, l)]) line = tb done line ++ ent p (l.map (· - lastOf done line)) := by
  rw [tb_app, tb_one]
theorem last_more (done : List En) (p : Nat) (l : Option Int) (line : Int) : lastOf (done ++ [(p, l)]) line = l.getD (lastOf done line) := by
  rw [last_app]
  rfl
/-- what is done of a row: k chunks of it -/
def part (es : List En) (e : En) (k : Nat) : List En := chE es ++ ((chunks e.1).take k).map (·, e.2)
theorem part_zero (es : List En) (e : En) : part es e 0 = chE es := by simp [part]
theorem part_succ {es : List En} {e : En} {k : Nat} (h : k < (e.1 + 7) / 8) : part es e (k + 1) = part es e k ++ [(min 8 (e.1 - 8 * k), e.2)] := by
  unfold part
  rw [List.take_add_one, chunks_at h, List.map_append, List.append_assoc]
  rfl
theorem chunks_len (u : Nat) : (chunks u).length = (u + 7) / 8 := by
  unfold chunks
  rw [List.length_map, List.length_range]
theorem part_all (es : List En) (e : En) : part es e ((e.1 + 7) / 8) = chE es ++ (chunks e.1).map (·, e.2) := by
  unfold part
  rw [← chunks_len, List.take_length]
theorem part_ok {es : List En} (h : EsOk es) {i : Nat} {e : En} (hi : es[i]? = some e) (k : Nat) : (∀ x ∈ part (es.take i) e k, Lok x.2) ∧ (part (es.take i) e k).length ≤ 20000 := by
  have he := List.mem_of_getElem? hi
  refine ⟨fun x hx => ?_, ?_⟩
  · rcases List.mem_append.mp hx with z | z
    · obtain ⟨y, hy, e1, _⟩ := chE_mem z
      rw [e1]
      exact h.l y (List.mem_of_mem_take hy)
    · obtain ⟨p, _, rfl⟩ := List.mem_map.mp z
      exact h.l e he
  · have h1 := chE_len (es.take i)
    have h2 := tot_take es i
    have h3 := h.t
    have h4 := ch_len1 e.1
    have h5 := tot_mem he
    have h6 : ((chunks e.1).take k).length ≤ (chunks e.1).length := by
      rw [List.length_take]
      exact Nat.min_le_right _ _
    unfold part
    rw [List.length_append, List.length_map]
    omega
end K57
set_option maxHeartbeats 4000000
namespace K57
open PySem PySem.Spec PyProof.Rows L2 Nd
structure Gl4 (mg : Str → Option Value) : Prop where
  c_NO_LINE : ∃ u, mg "NO_LINE" = some u ∧ RelV (.int 15) u
  c_ONE_LINE : ∃ u, mg "ONE_LINE" = some u ∧ RelV (.int 13) u
  n_min : mg "min" = none
/-- the rows of es stand in the list or tuple at a -/
def RowsIn (K : PySem.W.Frag) (H : Hp) (a : Addr) (es : List En) : Prop := ∃ xs, SqB K H a xs ∧ TupsAt R3.vs H xs (rowsOf es 0)
theorem RowsIn.same {K : PySem.W.Frag} {H H' : Hp} {a : Addr} {es : List En} (h : RowsIn K H a es) (s : Same H H') : RowsIn K H' a es := by
  obtain ⟨xs, h1, h2⟩ := h
  exact ⟨xs, h1.same s, h2.same s⟩
theorem lo_none {o : Option Int} (h : lnV o = .non) : o = none := by
  cases o with
  | none => rfl
  | some i => cases h
section
variable {P : Program} {w : World} {K : PySem.W.Frag} {mg : Str → Option Value} {base : Heap}
end
end K57
set_option maxHeartbeats 4000000
namespace K57
open PySem PySem.Spec PyProof.Rows L2 Nd
abbrev s_law_line_bytes : Stmt := top 60
def spLLineBytes : Sp := fun vs H Q _ => ∃ (a : Addr) (xs : List V) (es : List En) (line : Int), vs = [.ref a, .int line] ∧ H a = some (.lst xs) ∧ TupsAt R3.vs H xs (rowsOf es 0) ∧ EsOk es ∧ Bas line ∧
  ∀ q H', H q = none → Same H H' → H' q = some (.lst ((tb (chE (joinE es)) line).map V.int)) → Q (.ref q) H'
theorem getD_if (o : Option Int) (x : Int) : (match o with | none => x | some i => i) = o.getD x := by
  cases o <;> rfl
section
variable {P : Program} {w : World} {K : PySem.W.Frag} {mg : Str → Option Value} {base : Heap}
abbrev N_law_line_bytes : List Str := ["some", "line", "found", "low", "high", "here", "many", "k"]
theorem sc_law_line_bytes : FnScope N_law_line_bytes ["some", "line"] (defScope s_law_line_bytes) := ⟨rfl, rfl, rfl, by decide +kernel, rfl, by decide +kernel, by decide +kernel⟩
theorem ok_law_line_bytes {f : Addr} {fd : FuncData} (T0 : Gl0 mg) (T : Gl4 mg) (c_law_joined : CalX P w K mg base 1 "_law_joined" (spJoined K)) (c_law_entry : CalX P w K mg base 2 "_law_entry" spEntry) (F : DefX K mg "_law_line_bytes" s_law_line_bytes ["some", "line"] f fd) : CalX P w K mg base 3 "_law_line_bytes" spLLineBytes := by
  refine calx F sc_law_line_bytes (fun vs H Q E h => ?_) (fun cdv A outer s H vs Q E hr h => ?_)
  · obtain ⟨a, xs, es, line, rfl, _⟩ := h
    rfl
  · obtain ⟨a, xs, es, line, rfl, ha, hR, ok, bl, k⟩ := h
    refine ⟨_, (pss_cons (ps_set (i := 2) sc_law_line_bytes.nd rfl (.inl rfl) (pe_lst pa_nil))
    (pss_cons (ps_for PassesOwn.never rfl (pi_list (pe_cx c_law_joined hr (by decide) rfl (pa_cons (pv 0) pa_nil))) (pg_tup (by rfl) (pgs_cons (pg_name (i := 3) sc_law_line_bytes.nd rfl (.inl rfl)) (pgs_cons (pg_name (i := 4) sc_law_line_bytes.nd rfl (.inl rfl)) (pgs_cons (pg_name (i := 5) sc_law_line_bytes.nd rfl (.inl rfl)) pgs_nil))))
      (pss_cons (ps_set (i := 6) sc_law_line_bytes.nd rfl (.inl rfl) (pe_op op_fdiv (pe_op op_sub (pv 4) (pv 3)) pe_int))
    (pss_one (ps_for PassesOwn.never rfl (pi_range1 (by rfl) T0.n_range (pa_cons (pe_op op_fdiv (pe_op op_add (pv 6) pe_int) pe_int) pa_nil)) (pg_name (i := 7) sc_law_line_bytes.nd rfl (.inl rfl))
      (pss_cons (ps_expr (pe_bm PySem.F.plainAttrs_list PySem.F.slot_list_extend PySem.F.type_list_extend mt_extend (pv 2) (pa_cons (pe_cx c_law_entry hr (by decide) rfl (pa_cons (pe_callB (call_min2 rfl) (by rfl) T.n_min Boot.«min» (pa_cons pe_int (pa_cons (pe_op op_sub (pv 6) (pe_op op_mul pe_int (pv 7))) pa_nil))) (pa_cons (pe_ifExp (pt_cmpR op_isN (pv 5) pe_non (nomark _)) pe_non (pe_op op_sub (pv 5) (pv 1))) pa_nil))) pa_nil)))
    (pss_one (ps_set (i := 1) sc_law_line_bytes.nd rfl (.inl rfl) (pe_ifExp (pt_cmpR op_isN (pv 5) pe_non (nomark _)) (pv 1) (pv 5)))))))))
    (pss_one (ps_ret (pv 2))))), ?_⟩
    refine ⟨(by show 0 ≤ sizeLine; decide), fun f0 m0 => ?_⟩
    have s0 : Same H (upd H f0 (.lst [])) := Same.new m0
    have h0 : upd H f0 (.lst []) f0 = some (.lst []) := upd_same
    generalize upd H f0 (.lst []) = H0 at s0 h0 ⊢
    refine ⟨_, rfl, a, xs, rowsOf es 0, rfl, .inl (SqL.of (s0 _ _ ha)), hR.same s0, ?_, fun q H1 ys nq s1 hy hT => ?_⟩
    · rw [rows_len]
      exact ok.len
    rw [join_rows] at hT
    have okj := ok.join
    generalize joinE es = js at okj hT k
    have hf1 := s1 _ _ h0
    have qf : q ≠ f0 := by
      rintro rfl
      rw [h0] at nq
      cases nq
    refine ⟨q, rfl, ⟨_, SqL.of hy⟩, for_list (K := K) (a := q) (xs := ys) (fun i σ H' => ∃ v3 v4 v5 v6 v7, σ = [some (.ref a), some (.int (lastOf (chE (js.take i)) line)), some (.ref f0), v3, v4, v5, v6, v7] ∧ But f0 H1 H' ∧ H' f0 = some (.lst ((tb (chE (js.take i)) line).map V.int)))
      ⟨none, none, none, none, none, rfl, But.refl, hf1⟩ (fun i σ H' _ p => by
        obtain ⟨_, _, _, _, _, _, bu, _⟩ := p
        exact SqL.of (bu _ _ qf hy)) ?_ ?_⟩
    · rintro i x σ H' hi ⟨v3, v4, v5, v6, v7, rfl, bu, hf⟩
      obtain ⟨p, r, hri, rfl, hp⟩ := hT.get hi
      obtain ⟨e, he, hu, hln⟩ := rows_get hri
      have hp' := bu p _ (by
        rintro rfl
        rw [hf1] at hp
        cases hp) hp
      refine ⟨p, _, rfl, SqT.of hp', rfl, _, _, rfl, _, _, rfl, _, _, rfl, rfl, ?_⟩
      refine ⟨_, rfl, _, rfl, _, _, rfl, rfl, _, _, rfl, rfl, ⟨by show (0 : Int) < 2; decide, by decide⟩, ?_⟩
      have eleft : (r.hi - r.lo) / 2 = (e.1 : Int) := by omega
      have he1 := tot_mem (List.mem_of_getElem? he)
      have ht := okj.t
      have en : ((e.1 : Int) + 7) / 8 = (((e.1 + 7) / 8 : Nat) : Int) := by omega
      dsimp (config := { proj := false }) only
      rw [eleft, hln]
      refine ⟨_, rfl, _, _, rfl, rfl, _, _, rfl, rfl, ⟨by show (0 : Int) < 8; decide, by decide⟩, ?_⟩
      dsimp (config := { proj := false }) only
      rw [en]
      have pe := part_ok okj he
      refine ⟨_, rfl, by omega, Int.lt_of_le_of_lt (by omega : _ ≤ (2000 : Int)) (by decide), for_range (lo := 0) (n := (e.1 + 7) / 8) (fun kk σ J => ∃ v7, σ = [some (.ref a), some (.int (lastOf (part (js.take i) e kk) line)), some (.ref f0), some (.int r.lo), some (.int r.hi), some (lnV e.2), some (.int (e.1 : Int)), v7] ∧ But f0 H1 J ∧
          J f0 = some (.lst ((tb (part (js.take i) e kk) line).map V.int)))
        ⟨v7, by rw [part_zero]; rfl, bu, by rw [part_zero]; exact hf⟩ ?_ ?_⟩
      · rintro kk σ J hk ⟨v7', rfl, bj, hfj⟩
        obtain ⟨pl, pn⟩ := pe kk
        have bL := last_bas _ line pl bl
        have tl := tb_len _ line pl bl
        have psucc := part_succ (es := js.take i) hk
        have tmore := tb_more (part (js.take i) e kk) (min 8 (e.1 - 8 * kk)) e.2 line
        rw [← psucc] at tmore
        have lmore := last_more (part (js.take i) e kk) (min 8 (e.1 - 8 * kk)) e.2 line
        rw [← psucc] at lmore
        have emin : (if ((e.1 : Int) - 8 * (0 + (kk : Int))) < 8 then ((e.1 : Int) - 8 * (0 + (kk : Int))) else 8) = ((min 8 (e.1 - 8 * kk) : Nat) : Int) := by
          split <;> omega
        refine ⟨_, rfl, .inl ⟨rfl, _, SqL.of hfj⟩, ?_⟩
        refine ⟨_, rfl, _, rfl, _, _, rfl, rfl, .inl ⟨by decide, by decide⟩, _, _, rfl, rfl, _, _, rfl, ?_⟩
        cases hl : e.2 with
        | none =>
          rw [hl] at tmore lmore
          refine ⟨_, rfl, rfl, _, rfl, iteT ?_⟩
          refine ⟨min 8 (e.1 - 8 * kk), none, congrArg (fun z => [V.int z, V.non]) emin, (fun n z => by cases z), fun p2 J2 n2 s2 h2 => ?_⟩
          refine ⟨f0, p2, _, _, rfl, rfl, s2 _ _ hfj, h2, ?_, ?_⟩
          · rw [List.length_map, List.length_map]
            have : (ent (min 8 (e.1 - 8 * kk)) none).length = 1 := rfl
            exact Nat.le_trans (by omega : _ ≤ 140010) (by decide)
          refine ⟨_, rfl, rfl, _, rfl, iteT ⟨_, rfl, ?_⟩⟩
          refine ⟨some (.int (0 + (kk : Int))), ?_, (bj.trans (But.of s2)).upd, ?_⟩
          · rw [lmore]
            rfl
          · rw [upd_same, tmore, List.map_append]
            rfl
        | some n =>
          rw [hl] at tmore lmore
          have hm : Mid (n - lastOf (part (js.take i) e kk) line) := mid_of (okj.l e (List.mem_of_getElem? he) n hl) bL
          refine ⟨_, rfl, rfl, _, rfl, iteF ?_⟩
          refine ⟨_, rfl, _, rfl, _, _, rfl, rfl, ?_⟩
          refine ⟨min 8 (e.1 - 8 * kk), some (n - lastOf (part (js.take i) e kk) line), congrArg (fun z => [V.int z, V.int (n - lastOf (part (js.take i) e kk) line)]) emin, (fun n' z => by cases z; exact hm), fun p2 J2 n2 s2 h2 => ?_⟩
          refine ⟨f0, p2, _, _, rfl, rfl, s2 _ _ hfj, h2, ?_, ?_⟩
          · rw [List.length_map, List.length_map]
            have := ent_len (u := min 8 (e.1 - 8 * kk)) (m := some (n - lastOf (part (js.take i) e kk) line)) fun n' z => by cases z; exact hm
            exact Nat.le_trans (by omega : _ ≤ 140010) (by decide)
          refine ⟨_, rfl, rfl, _, rfl, iteF ⟨_, rfl, ?_⟩⟩
          refine ⟨some (.int (0 + (kk : Int))), ?_, (bj.trans (But.of s2)).upd, ?_⟩
          · rw [lmore]
            rfl
          · rw [upd_same, tmore, List.map_append]
            rfl
      · rintro σ J ⟨v7', rfl, bj, hfj⟩
        rw [part_all, ← chE_take he] at hfj
        refine ⟨some (.int r.lo), some (.int r.hi), some (lnV e.2), some (.int (e.1 : Int)), v7', ?_, bj, hfj⟩
        rw [part_all, ← chE_take he]
    · rintro σ H' ⟨v3, v4, v5, v6, v7, rfl, bu, hf⟩
      have el : ys.length = js.length := by rw [hT.len, rows_len]
      rw [el, List.take_length] at hf
      have S : Same H H' := fun b o e => bu b o (ne_of_none e m0) (s1 _ _ (s0 _ _ e))
      exact ⟨_, rfl, k f0 H' m0 S hf⟩
end
end K57
set_option maxHeartbeats 4000000
namespace K57
open PySem PySem.Spec PyProof.Rows L2 Nd
theorem Cut.snoc {cs es : List En} (h : Cut cs es) {u : Nat} {l : Option Int} {ps : List Nat} (hs : ps.sum = u) (hn : ps ≠ []) (hp : ∀ p ∈ ps, 1 ≤ p ∧ p ≤ 8) : Cut (cs ++ ps.map (·, l)) (es ++ [(u, l)]) := by
  induction h with
  | nil =>
    have := Cut.cons (l := l) hs hn hp Cut.nil
    rw [List.append_nil] at this
    exact this
  | @cons u' l' ps' cs es hs' hn' hp' t ih =>
    rw [List.append_assoc]
    exact Cut.cons hs' hn' hp' ih
theorem sum_len : ∀ ps : List Nat, (∀ p ∈ ps, 1 ≤ p ∧ p ≤ 8) → ps.length ≤ ps.sum
  | [], _ => by simp
  | p :: r, h => by
    have h1 := sum_len r fun x hx => h x (by simp [hx])
    have h2 := h p (by simp)
    rw [List.length_cons, List.sum_cons]
    omega
theorem Cut.len {cs es : List En} (h : Cut cs es) : cs.length ≤ tot es := by
  induction h with
  | nil => simp
  | @cons u l ps cs es hs hn hp t ih =>
    have h1 := sum_len ps hp
    have e2 : tot ((u, l) :: es) = u + tot es := by simp [tot]
    rw [List.length_append, List.length_map, e2]
    omega
theorem Cut.lines {cs es : List En} (h : Cut cs es) (g : ∀ e ∈ es, Lok e.2) : ∀ e ∈ cs, Lok e.2 ∧ 1 ≤ e.1 ∧ e.1 ≤ 8 := by
  induction h with
  | nil => simp
  | @cons u l ps cs es hs hn hp t ih =>
    intro e he
    rcases List.mem_append.mp he with z | z
    · obtain ⟨p, hp', rfl⟩ := List.mem_map.mp z
      exact ⟨g (u, l) (by simp), hp p hp'⟩
    · exact ih (fun x hx => g x (by simp [hx])) e z
section
variable {P : Program} {w : World} {K : PySem.W.Frag} {mg : Str → Option Value} {base : Heap}
end
end K57
set_option maxHeartbeats 4000000
set_option pp.maxSteps 600
namespace K57
open PySem PySem.Spec PyProof.Rows L2 Nd
abbrev s_signed_at : Stmt := top 36
/-! ### a number, the lowest piece first, read back -/
def lv : List Int → Int
  | [] => 0
  | d :: r => d + 64 * lv r
theorem lv_dig (n : Nat) : lv (dig n) = (n : Int) := by
  induction n using Nat.strongRecOn with
  | ind n ih =>
    by_cases c : n < 64
    · rw [dig_lt c]
      show (n : Int) + 64 * 0 = n
      omega
    · rw [dig_ge c]
      show ((n % 64 : Nat) : Int) + 64 * lv (dig (n / 64)) = n
      rw [ih (n / 64) (by omega)]
      omega
theorem lv_snoc : ∀ (xs : List Int) (d : Int), lv (xs ++ [d]) = lv xs + d * 64 ^ xs.length
  | [], d => by simp [lv]
  | x :: r, d => by
    show x + 64 * lv (r ++ [d]) = x + 64 * lv r + d * 64 ^ (r.length + 1)
    rw [lv_snoc r d, Int.pow_succ]
    have : d * (64 ^ r.length * 64) = 64 * (d * 64 ^ r.length) := by
      rw [← Int.mul_assoc, Int.mul_comm]
    rw [this]
    omega
theorem two_six (j : Nat) : (2 : Int) ^ (6 * j) = 64 ^ j := by
  induction j with
  | zero => rfl
  | succ j ih =>
    have e : 6 * (j + 1) = 6 * j + 1 + 1 + 1 + 1 + 1 + 1 := by omega
    rw [e]
    simp only [Int.pow_succ, ih]
    omega
/-- the number with the digits ds, the lowest first, stands in B at at0 -/
structure NumL (B : List Int) (at0 : Nat) (ds : List Int) : Prop where
  get : ∀ (j : Nat) (d : Int), ds[j]? = some d → B[at0 + j]? = some (d + (if j + 1 < ds.length then 64 else 0))
theorem numL_of (n : Nat) (pre suf : List Int) : NumL (pre ++ (mk (dig n) ++ suf)) pre.length (dig n) := by
  refine ⟨fun j d h => ?_⟩
  have hj : j < (dig n).length := (List.getElem?_eq_some_iff.mp h).1
  rw [List.getElem?_append_right (by omega), Nat.add_sub_cancel_left, List.getElem?_append_left (by rw [mk_len]; exact hj)]
  exact mk_get _ j d h
def spSignedAt (K : PySem.W.Frag) : Sp := fun vs H Q _ => ∃ (h : Addr) (B : List Int) (at0 : Nat) (n : Int), vs = [.ref h, .int (at0 : Int)] ∧ SqT K H h (B.map V.int) ∧ NumL B at0 (dig (sg n)) ∧ Mid n ∧
  ∀ q H', H q = none → Same H H' → H' q = some (.tup [.int n, .int ((at0 + (dig (sg n)).length : Nat) : Int)]) → Q (.ref q) H'
theorem last_digit {n : Nat} {d : Int} (h : (dig n)[(dig n).length - 1]? = some d) (hl : 1 < (dig n).length) : d ≠ 0 := by
  have t := dig_top n (by
    rcases Nat.eq_zero_or_pos n with e | e
    · rw [e, dig_lt (by decide)] at hl
      exact absurd hl (by decide)
    · exact e)
  rw [List.getElem?_reverse (by omega)] at t
  rintro rfl
  exact t h
section
variable {P : Program} {w : World} {K : PySem.W.Frag} {mg : Str → Option Value} {base : Heap}
abbrev N_signed_at : List Str := ["data", "at", "number", "shift"]
theorem sc_signed_at : FnScope N_signed_at ["data", "at"] (defScope s_signed_at) := ⟨rfl, rfl, rfl, by decide +kernel, rfl, by decide +kernel, by decide +kernel⟩
theorem ok_signed_at {f : Addr} {fd : FuncData} (T0 : Gl0 mg) (T : Gl1 mg) (F : DefX K mg "signed_at" s_signed_at ["data", "at"] f fd) : CalX P w K mg base 1 "signed_at" (spSignedAt K) := by
  refine calx F sc_signed_at (fun vs H Q E h => ?_) (fun cdv A outer s H vs Q E hr h => ?_)
  · obtain ⟨h, B, at0, n, rfl, _⟩ := h
    rfl
  · obtain ⟨h, B, at0, n, rfl, hB, N, hm, k⟩ := h
    refine ⟨_, (pss_cons (ps_asg (pe_tup (pa_cons pe_int (pa_cons pe_int pa_nil))) (pg_tup (by rfl) (pgs_cons (pg_name (i := 2) sc_signed_at.nd rfl (.inl rfl)) (pgs_cons (pg_name (i := 3) sc_signed_at.nd rfl (.inl rfl)) pgs_nil))))
    (pss_cons (ps_while PassesOwn.never (pt_val pe_bl)
      (pss_cons (ps_if (PW.pt (pw_or (pt_cmpR op_eq (pv 1) (pe_callB call_len_seq (by rfl) T0.n_len Boot.«len» (pa_cons (pv 0) pa_nil)) (nomark _)) (pw_or1 (pt_cmpR op_ge (pe_ix ix_tup (pv 0) (pv 1) (fun _ _ => rfl)) (C8.pe_gc rfl T.c_MARK) (nomark _)))))
      (pss_one ps_never)
      pss_nil)
    (pss_cons (ps_set (i := 2) sc_signed_at.nd rfl (.inl rfl) (pe_op op_add (pv 2) (pe_op op_shl (pe_op op_and (pe_ix ix_tup (pv 0) (pv 1) (fun _ _ => rfl)) pe_int) (pv 3))))
    (pss_cons (ps_set (i := 1) sc_signed_at.nd rfl (.inl rfl) (pe_op op_add (pv 1) pe_int))
    (pss_cons (ps_if (pt_cmpR op_eq (pe_op op_and (pe_ix ix_tup (pv 0) (pe_op op_sub (pv 1) pe_int) (fun _ _ => rfl)) (C8.pe_gc rfl T.c_FURTHER)) pe_int (nomark _))
      (pss_one ps_break)
      pss_nil)
    (pss_one (ps_set (i := 3) sc_signed_at.nd rfl (.inl rfl) (pe_op op_add (pv 3) pe_int))))))))
    (pss_cons (ps_if (PW.pt (pw_or (PW.pt (pw_and (pt_cmpR op_eq (pe_ix ix_tup (pv 0) (pe_op op_sub (pv 1) pe_int) (fun _ _ => rfl)) pe_int (nomark _)) (pw_and1 (pt_cmpR op_gt (pv 3) pe_int (nomark _))))) (pw_or1 (pt_cmpR op_eq (pv 2) pe_int (nomark _)))))
      (pss_one ps_never)
      pss_nil)
    (pss_one (ps_ret (pe_tup (pa_cons (pe_ifExp (pt_cmpR op_eq (pe_op op_and (pv 2) pe_int) pe_int (nomark _)) (pe_op op_fdiv (pv 2) pe_int) (pe_un un_neg (pe_op op_fdiv (pv 2) pe_int))) (pa_cons (pv 1) pa_nil)))))))), ?_⟩
    have hdl : (dig (sg n)).length ≤ 6 := dig_len 5 _ hm.sg5
    have hdp := dig_pos (sg n)
    have hdd := dig_dig (sg n)
    have hlt : ∀ j d, (dig (sg n))[j]? = some d → at0 + j < B.length := fun j d e => (List.getElem?_eq_some_iff.mp (N.get j d e)).1
    refine ⟨(by show 2 ≤ sizeLine; decide), ?_⟩
    walk_at "new1"
    refine ⟨p1, _, rfl, SqT.of h1, rfl, _, _, rfl, _, _, rfl, rfl, ?_⟩
    have hB := seqT s1 hB
    refine while_by (fun σ H' => H' = H1 ∧ ∃ j, σ = [some (.ref h), some (.int ((at0 + j : Nat) : Int)), some (.int (lv ((dig (sg n)).take j))), some (.int ((6 * j : Nat) : Int))] ∧ j < (dig (sg n)).length) (fun σ _ => match σ with | _ :: some (.int m) :: _ => at0 + (dig (sg n)).length - m.toNat | _ => 0)
      ⟨rfl, 0, rfl, hdp⟩ ?_ ?_
    · rintro σ H' ⟨rfl, j, rfl, hj⟩
      obtain ⟨d, hd⟩ : ∃ d, (dig (sg n))[j]? = some d := ⟨(dig (sg n))[j]'hj, List.getElem?_eq_getElem hj⟩
      have gj := N.get j d hd
      obtain ⟨r0, r1⟩ := hdd d (List.mem_of_getElem? hd)
      have mj := map_at gj
      have hlj := hlt j d hd
      generalize eb' : d + (if j + 1 < (dig (sg n)).length then 64 else 0) = b at mj
      have hb : 0 ≤ b ∧ b < 128 ∧ b % 64 = d ∧ (b / 64 % 2 = if j + 1 < (dig (sg n)).length then 1 else 0) := by
        rw [← eb']
        split <;> omega
      refine ⟨_, rfl, iteT ?_⟩
      refine ⟨_, rfl, _, rfl, h, _, rfl, .inr hB, rfl, _, rfl, ?_⟩
      refine ite2 (fun c => ?_) (fun _ => ?_)
      · exfalso
        have := of_decide_eq_true c
        rw [List.length_map] at this
        have q : ((at0 + j : Nat) : Int) = (B.length : Int) := by injection this
        omega
      refine ⟨_, rfl, _, rfl, h, _, _, _, rfl, rfl, hB, mj, _, _, rfl, rfl, _, rfl, ?_⟩
      refine ite2 (fun c => ?_) (fun _ => ?_)
      · exfalso
        have q : (128 : Int) ≤ b := of_decide_eq_true c
        omega
      refine ⟨_, rfl, _, rfl, _, rfl, h, _, _, _, rfl, rfl, hB, mj, _, _, rfl, rfl, _, rfl, _, _, rfl, rfl, ⟨by omega, by omega, ?_⟩, _, _, rfl, rfl, ?_⟩
      · show (Builtin.bitAnd b 63).natAbs < 2 ^ 64
        rw [bitAnd_m6, hb.2.2.1]
        omega
      have ea : ((at0 + j : Nat) : Int) + 1 = ((at0 + (j + 1) : Nat) : Int) := by omega
      have es : ((at0 + (j + 1) : Nat) : Int) - 1 = ((at0 + j : Nat) : Int) := by omega
      have en : lv ((dig (sg n)).take j) + Builtin.bitAnd b 63 * 2 ^ (((6 * j : Nat) : Int)).toNat = lv ((dig (sg n)).take (j + 1)) := by
        rw [bitAnd_m6, hb.2.2.1, List.take_add_one, hd, Option.toList_some, lv_snoc, List.length_take, Nat.min_eq_left (Nat.le_of_lt hj)]
        show _ + d * 2 ^ (6 * j) = _
        rw [two_six]
      dsimp (config := { proj := false }) only
      rw [en]
      refine ⟨_, rfl, _, _, rfl, rfl, ?_⟩
      dsimp (config := { proj := false }) only
      rw [ea]
      refine ⟨_, rfl, _, rfl, _, _, rfl, rfl, ?_⟩
      dsimp (config := { proj := false }) only
      rw [es]
      refine ⟨h, _, _, _, rfl, rfl, hB, mj, _, _, rfl, rfl, rfl, _, rfl, ?_⟩
      have ev : Builtin.bitAnd b 64 = 64 * (if j + 1 < (dig (sg n)).length then 1 else 0) := by rw [and64 hb.1 (by omega), hb.2.2.2]
      by_cases hj1 : j + 1 < (dig (sg n)).length
      · have ev' : Builtin.bitAnd b 64 = 64 := by rw [ev, if_pos hj1] <;> rfl
        refine ite2 (fun c => absurd (of_decide_eq_true c) (fun z => by
          have z : Builtin.bitAnd b 64 = 0 := by injection z
          omega)) (fun _ => ?_)
        refine ⟨_, rfl, _, _, rfl, rfl, ⟨rfl, j + 1, ?_, hj1⟩, ?_⟩
        · have e6 : ((6 * j : Nat) : Int) + 6 = ((6 * (j + 1) : Nat) : Int) := by omega
          dsimp (config := { proj := false }) only
          rw [e6]
          rfl
        · show at0 + (dig (sg n)).length - (((at0 + (j + 1) : Nat) : Int)).toNat < at0 + (dig (sg n)).length - (((at0 + j : Nat) : Int)).toNat
          omega
      · have ev' : Builtin.bitAnd b 64 = 0 := by rw [ev, if_neg hj1] <;> rfl
        refine ite2 (fun _ => ?_) (fun c => absurd (decide_eq_true (congrArg V.int ev')) c)
        have ejl : j + 1 = (dig (sg n)).length := by omega
        have ejd : j = (dig (sg n)).length - 1 := by omega
        have eN : lv ((dig (sg n)).take (j + 1)) = ((sg n : Nat) : Int) := by rw [ejl, List.take_length, lv_dig]
        have bd : b = d := by
          rw [← eb', if_neg hj1]
          omega
        rw [eN]
        have ez : at0 + (j + 1) = at0 + (dig (sg n)).length := by omega
        refine ⟨_, rfl, _, rfl, _, _, rfl, rfl, ?_⟩
        dsimp (config := { proj := false }) only
        rw [es]
        refine ⟨h, _, _, _, rfl, rfl, hB, mj, rfl, _, rfl, ?_⟩
        have key : b = 0 → j = 0 := fun z => by
          rcases Nat.eq_zero_or_pos j with q | q
          · exact q
          · exfalso
            refine last_digit (n := sg n) (d := d) (by rw [← ejd]; exact hd) (by omega) ?_
            rw [← bd, z]
        have one : ¬ (decide (V.int ((sg n : Nat) : Int) = V.int 1) = true) := fun c => by
          have q := of_decide_eq_true c
          have q : ((sg n : Nat) : Int) = 1 := by injection q
          exact sg_one n (by omega)
        have fin : ∀ {q : Addr}, H' q = none → n = n → ∀ m : Int, m = n → Q (.ref q) (upd H' q (.tup [.int m, .int ((at0 + (j + 1) : Nat) : Int)])) := fun {q} nq _ m em => by
          subst em
          exact k q _ (s1.free nq) (s1.trans (Same.new nq)) (by rw [upd_same, ez])
        refine ite2 (fun c => ?_) (fun _ => iteF ?_)
        · have b0 : b = 0 := by
            have q := of_decide_eq_true c
            injection q
          have j0 := key b0
          subst j0
          refine ⟨_, rfl, _, _, rfl, rfl, _, rfl, ite2 (fun c2 => absurd (of_decide_eq_true c2) (by decide)) (fun _ => ?_)⟩
          refine ⟨_, rfl, rfl, _, rfl, ite2 (fun c => absurd c one) (fun _ => ?_)⟩
          refine ⟨_, rfl, _, _, rfl, rfl, rfl, _, rfl, ?_⟩
          refine ite2 (fun c => ?_) (fun c => ?_)
          · have q := of_decide_eq_true c
            have q : Builtin.bitAnd ((sg n : Nat) : Int) 1 = 0 := by injection q
            rw [bitAnd_m1] at q
            refine ⟨_, rfl, _, _, rfl, rfl, ⟨by show (0 : Int) < 2; decide, by decide⟩, _, rfl, (by show 2 ≤ sizeLine; decide), fun p np => fin np rfl _ ?_⟩
            by_cases hp : 0 ≤ n
            · rw [sg_pos hp]
              omega
            · rw [sg_neg hp] at q
              omega
          · have q : ¬ Builtin.bitAnd ((sg n : Nat) : Int) 1 = 0 := fun z => c (decide_eq_true (congrArg V.int z))
            rw [bitAnd_m1] at q
            refine ⟨_, rfl, _, _, rfl, rfl, ⟨by show (0 : Int) < 2; decide, by decide⟩, _, rfl, _, rfl, (by show 2 ≤ sizeLine; decide), fun p np => fin np rfl _ ?_⟩
            by_cases hp : 0 ≤ n
            · rw [sg_pos hp] at q
              omega
            · rw [sg_neg hp]
              omega
        · refine ⟨_, rfl, rfl, _, rfl, ite2 (fun c => absurd c one) (fun _ => ?_)⟩
          refine ⟨_, rfl, _, _, rfl, rfl, rfl, _, rfl, ?_⟩
          refine ite2 (fun c => ?_) (fun c => ?_)
          · have q := of_decide_eq_true c
            have q : Builtin.bitAnd ((sg n : Nat) : Int) 1 = 0 := by injection q
            rw [bitAnd_m1] at q
            refine ⟨_, rfl, _, _, rfl, rfl, ⟨by show (0 : Int) < 2; decide, by decide⟩, _, rfl, (by show 2 ≤ sizeLine; decide), fun p np => fin np rfl _ ?_⟩
            by_cases hp : 0 ≤ n
            · rw [sg_pos hp]
              omega
            · rw [sg_neg hp] at q
              omega
          · have q : ¬ Builtin.bitAnd ((sg n : Nat) : Int) 1 = 0 := fun z => c (decide_eq_true (congrArg V.int z))
            rw [bitAnd_m1] at q
            refine ⟨_, rfl, _, _, rfl, rfl, ⟨by show (0 : Int) < 2; decide, by decide⟩, _, rfl, _, rfl, (by show 2 ≤ sizeLine; decide), fun p np => fin np rfl _ ?_⟩
            by_cases hp : 0 ≤ n
            · rw [sg_pos hp] at q
              omega
            · rw [sg_neg hp]
              omega
    · rintro σ H' Q1 Q2 hq ⟨b, e, q⟩
      exact ⟨b, e, hq _ _ q⟩
end
end K57
set_option maxHeartbeats 4000000
set_option pp.maxSteps 600
namespace K57
open PySem PySem.Spec PyProof.Rows L2 Nd
structure GTb (P : Program) (K : PySem.W.Frag) (mg : Str → Option Value) (Ct fT : Addr) : Prop where
  nx : PySem.NxA.Txt P K mg Ct fT
  gT : mg "NoTable" = some (.ref Ct)
/-- NoTable(n) is wished for -/
def errT (Ct : Addr) (H : Hp) (n : Int) (E : XK) : Prop := ∀ d H', Same H H' → H' d = none → E (.ref Ct) (some d) (upd H' d (.xd [("at", .int n)]))
abbrev s_line_rows : Stmt := top 37
/-- entries as they may stand in a table -/
structure CsOk (cs : List En) : Prop where
  u : ∀ e ∈ cs, 1 ≤ e.1 ∧ e.1 ≤ 8
  l : ∀ e ∈ cs, Lok e.2
  n : cs.length ≤ 10000
def spLRows (K : PySem.W.Frag) (Cc Cn Ct : Addr) : Sp := fun vs H Q E => ∃ x, vs = [x] ∧ ((∃ (a dx : Addr) (fs : List (Str × V)) (first : Int) (h : Addr) (cs : List En), x = .ref a ∧ H a = some (.ins Cc dx fs) ∧ fs.lookup ("line" : Str) = some (.int first) ∧ fs.lookup ("lines" : Str) = some (V.ref h) ∧
    SqT K H h ((tb cs first).map V.int) ∧ CsOk cs ∧ Bas first ∧ ∀ q H' xs, H q = none → Same H H' → H' q = some (.lst xs) → TupsAt R3.vs H' xs (joinR (rowsOf cs 0)) → Q (.ref q) H') ∨ (∃ (a dx : Addr) (fs : List (Str × V)) (first : Int) (h : Addr), x = .ref a ∧ H a = some (.ins Cc dx fs) ∧ fs.lookup ("line" : Str) = some (.int first) ∧ fs.lookup ("lines" : Str) = some (V.ref h) ∧ SqT K H h [.int 7] ∧ errT Ct H 0 E) ∨ (Odd K H x ∧ errCode Cn H E))
theorem tb_split {cs : List En} {i : Nat} {e : En} (h : cs[i]? = some e) (first : Int) : ∃ suf, tb cs first = tb (cs.take i) first ++ (ent e.1 (e.2.map (· - lastOf (cs.take i) first)) ++ suf) := by
  have hi : i < cs.length := (List.getElem?_eq_some_iff.mp h).1
  have e' : cs[i] = e := (List.getElem?_eq_some_iff.mp h).2
  refine ⟨tb (cs.drop (i + 1)) (e.2.getD (lastOf (cs.take i) first)), ?_⟩
  conv => lhs; rw [← List.take_append_drop i cs, List.drop_eq_getElem_cons hi, e', tb_app]
  rfl
theorem take_succ' {cs : List En} {i : Nat} {e : En} (h : cs[i]? = some e) : cs.take (i + 1) = cs.take i ++ [e] := by
  rw [List.take_add_one, h]
  rfl
theorem ent_pos (u : Nat) (m : Option Int) : 0 < (ent u m).length := by
  cases m <;> simp [ent]
theorem end_more (done : List En) (e : En) (b : Int) : endE (done ++ [e]) b = endE done b + 2 * (e.1 : Int) := by
  rw [end_app]
  rfl
theorem rows_more (done : List En) (e : En) (b : Int) : rowsOf (done ++ [e]) b = rowsOf done b ++ [⟨endE done b, endE done b + 2 * (e.1 : Int), e.2⟩] := by
  rw [rows_app]
  rfl
section
variable {P : Program} {w : World} {K : PySem.W.Frag} {mg : Str → Option Value} {base : Heap} {Cc Cn fI Ct fT : Addr}
abbrev N_line_rows : List Str := ["code", "found", "at", "begin", "line", "first", "sort", "end", "here", "more"]
theorem sc_line_rows : FnScope N_line_rows ["code"] (defScope s_line_rows) := ⟨rfl, rfl, rfl, by decide +kernel, rfl, by decide +kernel, by decide +kernel⟩
theorem ok_line_rows {f : Addr} {fd : FuncData} (T0 : Gl0 mg) (T1 : Gl1 mg) (T : Gl4 mg) (TT : GTb P K mg Ct fT) (G : GlK P K mg Cc Cn fI) (c_want_code : CalX P w K mg base 2 "want_code" (spWant K Cc Cn)) (c_joined : CalX P w K mg base 1 "joined" (spJoined K)) (c_signed_at : CalX P w K mg base 1 "signed_at" (spSignedAt K))
    (F : DefX K mg "line_rows" s_line_rows ["code"] f fd) : FnOk P w K mg base (L2.CX P w) 3 f fd ["code"] (spLRows K Cc Cn Ct) := by
  refine F.fn.ok sc_line_rows (fun vs H Q E h => ?_) (fun cdv A outer s H vs Q E hr h => ?_)
  · obtain ⟨x, rfl, _⟩ := h
    rfl
  · obtain ⟨x, rfl, h⟩ := h
    refine ⟨_, (pss_cons (ps_expr (pe_cr c_want_code hr (by decide) rfl (passE (E := E) (takes_of rfl rfl rfl rfl)) (pa_cons (pv 0) pa_nil)))
    (pss_cons (ps_set (i := 1) sc_line_rows.nd rfl (.inl rfl) (pe_lst pa_nil))
    (pss_cons (ps_par3 (i := 2) (j := 3) (l := 4) (by rfl) sc_line_rows.nd rfl rfl rfl (by decide) (by decide) (by decide) rfl rfl rfl (pa_cons pe_int (pa_cons pe_int (pa_cons (pe_fld (pv 0) rfl) pa_nil))) (by rfl))
    (pss_cons (ps_while (passes_of rfl) (pt_cmpR op_lt (pv 2) (pe_callB call_len_seq (by rfl) T0.n_len Boot.«len» (pa_cons (pe_fld (pv 0) rfl) pa_nil)) (nomark _))
      (pss_cons (ps_set (i := 5) sc_line_rows.nd rfl (.inl rfl) (pe_ix ix_tup (pe_fld (pv 0) rfl) (pv 2) (fun _ _ => rfl)))
    (pss_cons (ps_set (i := 6) sc_line_rows.nd rfl (.inl rfl) (pe_op op_shr (pe_op op_sub (pv 5) (C8.pe_gc rfl T1.c_MARK)) pe_int))
    (pss_cons (ps_if (PW.pt (pw_or (pt_cmpR op_lt (pv 5) (C8.pe_gc rfl T1.c_MARK) (nomark _)) (pw_or1 (pt_cmpR op_notIn_seq (pv 6) (pe_tup (pa_cons (C8.pe_gc rfl T.c_NO_LINE) (pa_cons (C8.pe_gc rfl T.c_ONE_LINE) pa_nil))) (by rfl)))))
      (pss_one (ps_raise rfl (takes_of rfl rfl rfl rfl) (pmk_nxA TT.nx hr (pa_cons (pv 2) pa_nil) rfl TT.gT)))
      pss_nil)
    (pss_cons (ps_set (i := 2) sc_line_rows.nd rfl (.inl rfl) (pe_op op_add (pv 2) pe_int))
    (pss_cons (ps_set (i := 7) sc_line_rows.nd rfl (.inl rfl) (pe_op op_add (pv 3) (pe_op op_mul pe_int (pe_op op_add (pe_op op_and (pv 5) pe_int) pe_int))))
    (pss_cons (ps_set (i := 8) sc_line_rows.nd rfl (.inl rfl) pe_non)
    (pss_cons (ps_if (pt_cmpR op_eq (pv 6) (C8.pe_gc rfl T.c_ONE_LINE) (nomark _))
      (pss_cons (ps_asg (pe_cx c_signed_at hr (by decide) rfl (pa_cons (pe_fld (pv 0) rfl) (pa_cons (pv 2) pa_nil))) (pg_tup (by rfl) (pgs_cons (pg_name (i := 9) sc_line_rows.nd rfl (.inl rfl)) (pgs_cons (pg_name (i := 2) sc_line_rows.nd rfl (.inl rfl)) pgs_nil))))
    (pss_cons (ps_set (i := 4) sc_line_rows.nd rfl (.inl rfl) (pe_op op_add (pv 4) (pv 9)))
    (pss_one (ps_set (i := 8) sc_line_rows.nd rfl (.inl rfl) (pv 4)))))
      pss_nil)
    (pss_cons (ps_expr (pe_bm PySem.F.plainAttrs_list PySem.F.slot_list_append PySem.F.type_list_append mt_append (pv 1) (pa_cons (pe_tup (pa_cons (pv 3) (pa_cons (pv 7) (pa_cons (pv 8) pa_nil)))) pa_nil)))
    (pss_one (ps_set (i := 3) sc_line_rows.nd rfl (.inl rfl) (pv 7))))))))))))
    (pss_one (ps_ret (pe_cx c_joined hr (by decide) rfl (pa_cons (pv 1) pa_nil)))))))), ?_⟩
    rcases h with ⟨a, dx, fs, first, h, cs, rfl, ha, hl1, hl2, hB, cok, bf, k⟩ | ⟨a, dx, fs, first, h, rfl, ha, hl1, hl2, hB, kE⟩ | ⟨odd, er⟩
    · have cl := G.ins.cl
      have na1 := G.na "line" (by decide)
      have na2 := G.na "lines" (by decide)
      refine ⟨_, rfl, _, rfl, .inl ⟨a, dx, fs, rfl, ha, ?_⟩⟩
      refine ⟨(by show 0 ≤ sizeLine; decide), ?_⟩
      intro f0 m0
      have s0 : Same H (upd H f0 (.lst [])) := Same.new m0
      have h0 : upd H f0 (.lst []) f0 = some (.lst []) := upd_same
      generalize upd H f0 (.lst []) = H0 at s0 h0 ⊢
      refine ⟨_, rfl, a, Cc, dx, fs, _, rfl, s0 _ _ ha, cl, na1, hl1, _, _, _, rfl, ?_⟩
      refine while_by (fun σ H' => ∃ (i : Nat) (xs : List V) (v5 v6 v7 v8 v9 : Option V), σ = [some (.ref a), some (.ref f0), some (.int (((tb (cs.take i) first).length : Nat) : Int)), some (.int (endE (cs.take i) 0)), some (.int (lastOf (cs.take i) first)), v5, v6, v7, v8, v9] ∧ i ≤ cs.length ∧ Same H H' ∧
          H' f0 = some (.lst xs) ∧ TupsAt R3.vs H' xs (rowsOf (cs.take i) 0))
        (fun σ _ => match σ with | _ :: _ :: some (.int m) :: _ => (tb cs first).length - m.toNat | _ => 0)
        ⟨0, [], none, none, none, none, none, rfl, Nat.zero_le _, s0, h0, trivial⟩ ?_ ?_
      · rintro σ H' ⟨i, xs, v5, v6, v7, v8, v9, rfl, hi, s2, h2, hR⟩
        have hB2 := seqT s2 hB
        have ha2 := s2 _ _ ha
        refine ⟨_, rfl, _, rfl, a, Cc, dx, fs, _, rfl, ha2, cl, na2, hl2, h, _, rfl, .inr hB2, _, _, rfl, rfl, _, rfl, ?_⟩
        rw [List.length_map]
        refine ite2 (fun c => ?_) (fun c => ?_)
        · have c' : (tb (cs.take i) first).length < (tb cs first).length := by
            have z := of_decide_eq_true c
            omega
          have hi' : i < cs.length := by
            rcases Nat.lt_or_ge i cs.length with q | q
            · exact q
            · rw [List.take_of_length_le q] at c'
              omega
          obtain ⟨e, he⟩ : ∃ e, cs[i]? = some e := ⟨cs[i], List.getElem?_eq_getElem hi'⟩
          have hem := List.mem_of_getElem? he
          obtain ⟨u1, u2⟩ := cok.u e hem
          obtain ⟨suf, eS⟩ := tb_split he first
          have eT := take_succ' he
          have xl : xs.length = i := by rw [hR.len, rows_len, List.length_take, Nat.min_eq_left (Nat.le_of_lt hi')]
          have lT : (tb (cs.take (i + 1)) first).length = (tb (cs.take i) first).length + (ent e.1 (e.2.map (· - lastOf (cs.take i) first))).length := by
            rw [eT, tb_more, List.length_append]
          have lL : lastOf (cs.take (i + 1)) first = e.2.getD (lastOf (cs.take i) first) := by rw [eT, last_more]
          have lE : endE (cs.take (i + 1)) 0 = endE (cs.take i) 0 + 2 * (e.1 : Int) := by rw [eT, end_more]
          have lR : rowsOf (cs.take (i + 1)) 0 = rowsOf (cs.take i) 0 ++ [⟨endE (cs.take i) 0, endE (cs.take i) 0 + 2 * (e.1 : Int), e.2⟩] := by rw [eT, rows_more]
          have bL := last_bas (cs.take i) first (fun x hx => cok.l x (List.mem_of_mem_take hx)) bf
          have hx0 : xs.length < sizeLine := by
            have := cok.n
            rw [xl]
            exact Nat.lt_of_lt_of_le hi' (Nat.le_trans this (by decide))
          generalize epre : tb (cs.take i) first = pre at *
          generalize elo : endE (cs.take i) 0 = lo at *
          generalize ela : lastOf (cs.take i) first = la at *
          -- what is laid behind the row
          have lay : ∀ {J : Hp} (sJ : Same H' J) (q : Addr) (nq : J q = none), ∃ xs', upd (upd J q (.tup [.int lo, .int (lo + 2 * (e.1 : Int)), lnV e.2])) f0 (.lst (xs ++ [.ref q])) f0 = some (.lst xs') ∧ Same H (upd (upd J q (.tup [.int lo, .int (lo + 2 * (e.1 : Int)), lnV e.2])) f0 (.lst (xs ++ [.ref q]))) ∧
              TupsAt R3.vs (upd (upd J q (.tup [.int lo, .int (lo + 2 * (e.1 : Int)), lnV e.2])) f0 (.lst (xs ++ [.ref q]))) xs' (rowsOf (cs.take (i + 1)) 0) := by
            intro J sJ q nq
            have sq : Same J (upd J q (.tup [.int lo, .int (lo + 2 * (e.1 : Int)), lnV e.2])) := Same.new nq
            have hJ := sq _ _ (sJ _ _ h2)
            refine ⟨xs ++ [.ref q], upd_same, Same.mut ((s2.trans sJ).trans sq) m0, ?_⟩
            rw [lR]
            refine TupsAt.snoc (p := q) ?_ (((hR.same sJ).same sq).upd hJ)
            rw [upd_ne (by
              rintro rfl
              rw [sJ _ _ h2] at nq
              cases nq)]
            exact upd_same
          obtain ⟨eu, el⟩ := e
          cases el with
          | none =>
            have g0 : (tb cs first)[pre.length]? = some (248 + (eu : Int) - 1) := by
              rw [eS, List.getElem?_append_right (Nat.le_refl _), Nat.sub_self]
              rfl
            have m0' := map_at g0
            have esh : (248 + (eu : Int) - 1 - 128) / 2 ^ (3 : Int).toNat = 15 := by
              show (248 + (eu : Int) - 1 - 128) / 8 = 15
              omega
            have eand : lo + 2 * (Builtin.bitAnd (248 + (eu : Int) - 1) 7 + 1) = lo + 2 * (eu : Int) := by
              rw [bitAnd_m3]
              omega
            refine ⟨_, rfl, a, Cc, dx, fs, _, rfl, ha2, cl, na2, hl2, _, rfl, h, _, _, _, rfl, rfl, hB2, m0', ?_⟩
            refine ⟨_, rfl, _, _, rfl, rfl, _, _, rfl, rfl, (by show (0 : Int) ≤ 3; decide), ?_⟩
            dsimp (config := { proj := false }) only
            rw [esh]
            refine ⟨_, rfl, _, _, rfl, rfl, _, rfl, ite2 (fun c => ?_) (fun _ => ?_)⟩
            · exfalso
              have q : 248 + (eu : Int) - 1 < 128 := of_decide_eq_true c
              omega
            refine ⟨_, rfl, (by show 2 ≤ sizeLine; decide), ?_⟩
            intro p1 n1
            have s1 : Same H' (upd H' p1 (.tup [V.int 15, V.int 13])) := Same.new n1
            have h1 : upd H' p1 (.tup [V.int 15, V.int 13]) p1 = some (.tup [V.int 15, V.int 13]) := upd_same
            generalize upd H' p1 (.tup [V.int 15, V.int 13]) = H1 at s1 h1 ⊢
            refine ⟨p1, _, rfl, .inr (SqT.of h1), rfl, rfl, _, rfl, ite2 (fun c => absurd c (by decide +kernel)) (fun _ => ?_)⟩
            refine ⟨_, rfl, _, _, rfl, rfl, ?_⟩
            refine ⟨_, rfl, _, rfl, _, _, rfl, rfl, _, _, rfl, rfl, _, _, rfl, rfl, .inl ⟨by decide, by decide⟩, _, _, rfl, rfl, ?_⟩
            dsimp (config := { proj := false }) only
            rw [eand]
            refine ⟨_, rfl, rfl, _, rfl, ite2 (fun c => absurd c (by decide)) (fun _ => ?_)⟩
            refine ⟨_, rfl, .inl ⟨rfl, _, SqL.of (s1 _ _ h2)⟩, _, rfl, _, rfl, _, rfl, (by show 3 ≤ sizeLine; decide), fun q nq => ?_⟩
            obtain ⟨xs', a1, a2, a3⟩ := lay s1 q nq
            refine ⟨f0, xs, _, rfl, rfl, (Same.new nq) _ _ (s1 _ _ h2), hx0, ?_⟩
            refine ⟨_, rfl, ⟨i + 1, xs', some (.int (248 + (eu : Int) - 1)), some (.int 15), some (.int (lo + 2 * (eu : Int))), some .non, v9, ?_, hi', a2, a1, a3⟩, ?_⟩
            · rw [lT, lL, lE]
              rfl
            · show (tb cs first).length - (((pre.length : Nat) : Int) + 1).toNat < (tb cs first).length - (((pre.length : Nat) : Int)).toNat
              omega
          | some n =>
            have hm : Mid (n - la) := mid_of (cok.l _ hem n rfl) bL
            have g0 : (tb cs first)[pre.length]? = some (232 + (eu : Int) - 1) := by
              rw [eS, List.getElem?_append_right (Nat.le_refl _), Nat.sub_self]
              rfl
            have m0' := map_at g0
            have esh : (232 + (eu : Int) - 1 - 128) / 2 ^ (3 : Int).toNat = 13 := by
              show (232 + (eu : Int) - 1 - 128) / 8 = 13
              omega
            have eand : lo + 2 * (Builtin.bitAnd (232 + (eu : Int) - 1) 7 + 1) = lo + 2 * (eu : Int) := by
              rw [bitAnd_m3]
              omega
            have ea : ((pre.length : Nat) : Int) + 1 = ((pre.length + 1 : Nat) : Int) := by omega
            refine ⟨_, rfl, a, Cc, dx, fs, _, rfl, ha2, cl, na2, hl2, _, rfl, h, _, _, _, rfl, rfl, hB2, m0', ?_⟩
            refine ⟨_, rfl, _, _, rfl, rfl, _, _, rfl, rfl, (by show (0 : Int) ≤ 3; decide), ?_⟩
            dsimp (config := { proj := false }) only
            rw [esh]
            refine ⟨_, rfl, _, _, rfl, rfl, _, rfl, ite2 (fun c => ?_) (fun _ => ?_)⟩
            · exfalso
              have q : 232 + (eu : Int) - 1 < 128 := of_decide_eq_true c
              omega
            refine ⟨_, rfl, (by show 2 ≤ sizeLine; decide), ?_⟩
            intro p1 n1
            have s1 : Same H' (upd H' p1 (.tup [V.int 15, V.int 13])) := Same.new n1
            have h1 : upd H' p1 (.tup [V.int 15, V.int 13]) p1 = some (.tup [V.int 15, V.int 13]) := upd_same
            generalize upd H' p1 (.tup [V.int 15, V.int 13]) = H1 at s1 h1 ⊢
            refine ⟨p1, _, rfl, .inr (SqT.of h1), rfl, rfl, _, rfl, ite2 (fun c => absurd c (by decide +kernel)) (fun _ => ?_)⟩
            refine ⟨_, rfl, _, _, rfl, rfl, ?_⟩
            dsimp (config := { proj := false }) only
            rw [ea]
            refine ⟨_, rfl, _, rfl, _, _, rfl, rfl, _, _, rfl, rfl, _, _, rfl, rfl, .inl ⟨by decide, by decide⟩, _, _, rfl, rfl, ?_⟩
            dsimp (config := { proj := false }) only
            rw [eand]
            refine ⟨_, rfl, rfl, _, rfl, ite2 (fun _ => ?_) (fun c => absurd rfl c)⟩
            have N : NumL (tb cs first) (pre.length + 1) (dig (sg (n - la))) := by
              have := numL_of (sg (n - la)) (pre ++ [232 + (eu : Int) - 1]) suf
              rw [List.length_append] at this
              have e2 : tb cs first = (pre ++ [232 + (eu : Int) - 1]) ++ (mk (dig (sg (n - la))) ++ suf) := by
                rw [eS, List.append_assoc]
                rfl
              rw [e2]
              exact this
            refine ⟨_, rfl, a, Cc, dx, fs, _, rfl, s1 _ _ ha2, cl, na2, hl2, _, rfl, h, tb cs first, pre.length + 1, n - la, rfl, seqT s1 hB2, N, hm, ?_⟩
            intro q2 J2 m2 t2 g2
            have u2' := s1.trans t2
            refine ⟨q2, _, rfl, SqT.of g2, rfl, _, _, rfl, _, _, rfl, rfl, ?_⟩
            refine ⟨_, rfl, _, rfl, _, _, rfl, rfl, ?_⟩
            have eln : la + (n - la) = n := by omega
            dsimp (config := { proj := false }) only
            rw [eln]
            refine ⟨_, rfl, ?_⟩
            refine ⟨_, rfl, .inl ⟨rfl, _, SqL.of (u2' _ _ h2)⟩, _, rfl, _, rfl, _, rfl, (by show 3 ≤ sizeLine; decide), fun q nq => ?_⟩
            obtain ⟨xs', a1, a2, a3⟩ := lay u2' q nq
            refine ⟨f0, xs, _, rfl, rfl, (Same.new nq) _ _ (u2' _ _ h2), hx0, ?_⟩
            have eat : (ent eu (some (n - la))).length = 1 + (dig (sg (n - la))).length := by
              show (mk (dig (sg (n - la)))).length + 1 = _
              rw [mk_len]
              omega
            have eat2 : (tb (cs.take (i + 1)) first).length = pre.length + 1 + (dig (sg (n - la))).length := by
              rw [lT]
              show pre.length + (ent eu (some (n - la))).length = _
              rw [eat]
              omega
            refine ⟨_, rfl, ⟨i + 1, xs', some (.int (232 + (eu : Int) - 1)), some (.int 13), some (.int (lo + 2 * (eu : Int))), some (.int n), some (.int (n - la)), ?_, hi', a2, a1, a3⟩, ?_⟩
            · rw [eat2, lL, lE]
              rfl
            · show (tb cs first).length - (((pre.length + 1 + (dig (sg (n - la))).length : Nat) : Int)).toNat < (tb cs first).length - (((pre.length : Nat) : Int)).toNat
              omega
        · have c' : ¬ (tb (cs.take i) first).length < (tb cs first).length := fun z => c (decide_eq_true (by omega))
          have hi' : i = cs.length := by
            rcases Nat.lt_or_ge i cs.length with q | q
            · exfalso
              obtain ⟨suf, eS⟩ := tb_split (List.getElem?_eq_getElem q) first
              rw [eS, List.length_append, List.length_append] at c'
              have := ent_pos cs[i].1 (cs[i].2.map (· - lastOf (cs.take i) first))
              omega
            · omega
          subst hi'
          rw [List.take_length] at hR
          refine ⟨_, rfl, f0, xs, rowsOf cs 0, rfl, .inl (SqL.of h2), hR, ?_, fun q H2 ys nq t hy hT => ?_⟩
          · rw [rows_len]
            exact Nat.le_trans cok.n (by decide)
          · exact k q H2 ys (s2.free nq) (s2.trans t) hy hT
      · rintro σ H' Q1 Q2 hq ⟨v, e, v2, e', a1, C1, dx1, fs1, v1, x1, x2, x3, x4, x5, l1, l2, l3, l4, i, j, y1, y2, b2, y5, q⟩
        exact ⟨v, e, v2, e', a1, C1, dx1, fs1, v1, x1, x2, x3, x4, x5, l1, l2, l3, l4, i, j, y1, y2, b2, y5, hq _ _ q⟩
    · have cl := G.ins.cl
      have na1 := G.na "line" (by decide)
      have na2 := G.na "lines" (by decide)
      refine ⟨_, rfl, _, rfl, .inl ⟨a, dx, fs, rfl, ha, ?_⟩⟩
      refine ⟨(by show 0 ≤ sizeLine; decide), ?_⟩
      intro f0 m0
      have s0 : Same H (upd H f0 (.lst [])) := Same.new m0
      generalize upd H f0 (.lst []) = H0 at s0 ⊢
      refine ⟨_, rfl, a, Cc, dx, fs, _, rfl, s0 _ _ ha, cl, na1, hl1, _, _, _, rfl, ?_⟩
      refine while_by (fun σ H' => σ = [some (.ref a), some (.ref f0), some (.int 0), some (.int 0), some (.int first), none, none, none, none, none] ∧ H' = H0) (fun _ _ => 0) ⟨rfl, rfl⟩ ?_ ?_
      · rintro σ H' ⟨rfl, rfl⟩
        refine ⟨_, rfl, _, rfl, a, Cc, dx, fs, _, rfl, s0 _ _ ha, cl, na2, hl2, h, _, rfl, .inr (seqT s0 hB), _, _, rfl, rfl, _, rfl, ite2 (fun _ => ?_) (fun z => absurd (decide_eq_true (by decide)) z)⟩
        refine ⟨_, rfl, a, Cc, dx, fs, _, rfl, s0 _ _ ha, cl, na2, hl2, _, rfl, h, _, _, _, rfl, rfl, seqT s0 hB, atI_nat (j := 0) (v := V.int 7) rfl, ?_⟩
        refine ⟨_, rfl, _, _, rfl, rfl, _, _, rfl, rfl, (by show (0 : Int) ≤ 3; decide), ?_⟩
        refine ⟨_, rfl, _, _, rfl, rfl, _, rfl, ite2 (fun _ => ?_) (fun z => absurd (decide_eq_true (by decide)) z)⟩
        exact ⟨_, rfl, _, rfl, fun d hd => kE d _ s0 hd⟩
      · rintro σ H' Q1 Q2 hq ⟨v, e, v2, e', a1, C1, dx1, fs1, v1, x1, x2, x3, x4, x5, l1, l2, l3, l4, i, j, y1, y2, b2, y5, q⟩
        exact ⟨v, e, v2, e', a1, C1, dx1, fs1, v1, x1, x2, x3, x4, x5, l1, l2, l3, l4, i, j, y1, y2, b2, y5, hq _ _ q⟩
    · exact ⟨_, rfl, _, rfl, .inr ⟨odd, er⟩⟩
end
end K57
set_option maxHeartbeats 4000000
set_option pp.maxSteps 600
namespace K57
open PySem PySem.Spec PyProof.Rows L2 Nd
/-! ### at_index, word_of -/
abbrev s_at_index : Stmt := top 40
abbrev s_word_of : Stmt := top 41
/-- NoCode("code") is wished for, later -/
def errAt (Cn : Addr) (H : Hp) (E : XK) : Prop := ∀ d H', Same H H' → H' d = none → E (.ref Cn) (some d) (upd H' d (.xd [("field", .str "code")]))
def keyS : Key → Str
  | .inr z => z
  | .inl _ => ""
/-- the first key of this value -/
def wordOf (kvs : List (Key × V)) (n : Int) : Str := match kvs.find? (fun p => decide (p.2 = V.int n)) with
  | some p => keyS p.1
  | none => ""
def wfs (kvs : List (Key × V)) (n : Int) : List Str := (kvs.filter (fun p => decide (p.2 = V.int n))).map fun p => keyS p.1
theorem wfs_nil {kvs : List (Key × V)} {n : Int} (h : wfs kvs n = []) : wordOf kvs n = "" := by
  unfold wfs at h
  unfold wordOf
  rw [← List.head?_filter, List.map_eq_nil_iff.mp h]
  rfl
theorem wfs_cons {kvs : List (Key × V)} {n : Int} {x : Str} {t : List Str} (h : wfs kvs n = x :: t) : wordOf kvs n = x := by
  unfold wfs at h
  unfold wordOf
  rw [← List.head?_filter]
  cases e : kvs.filter (fun p => decide (p.2 = V.int n)) with
  | nil =>
    rw [e] at h
    cases h
  | cons a b =>
    rw [e] at h
    injection h with h _
theorem wfs_len (kvs : List (Key × V)) (n : Int) : (wfs kvs n).length ≤ kvs.length := by
  unfold wfs
  rw [List.length_map]
  exact List.length_filter_le _ _
theorem wordOf_len {kvs : List (Key × V)} {n : Int} (h : ∀ p ∈ kvs, ∃ z j, p.1 = .inr z ∧ p.2 = .int j ∧ z.length ≤ 20 ∧ PyData.strOk z = true) : (wordOf kvs n).length ≤ 20 := by
  unfold wordOf
  cases e : kvs.find? (fun p => decide (p.2 = V.int n)) with
  | none => decide
  | some p =>
    obtain ⟨z, j, e1, _, l, _⟩ := h p (List.mem_of_find?_eq_some e)
    show (keyS p.1).length ≤ 20
    rw [e1]
    exact l
theorem wfs_ok {kvs : List (Key × V)} {n : Int} (h : ∀ p ∈ kvs, ∃ z j, p.1 = .inr z ∧ p.2 = .int j ∧ z.length ≤ 20 ∧ PyData.strOk z = true) : ∀ z ∈ wfs kvs n, PyData.strOk z = true := by
  intro z hz
  obtain ⟨p, hp, rfl⟩ := List.mem_map.mp hz
  obtain ⟨y, j, e1, _, _, ok⟩ := h p (List.mem_filter.mp hp).1
  rw [e1]
  exact ok
def spAt (Cn : Addr) : Sp := fun vs H Q E => ∃ (h : Addr) (xs : List V) (i : Nat), vs = [.ref h, .int (i : Int)] ∧ H h = some (.tup xs) ∧ (xs.length ≤ i → errAt Cn H E) ∧ ∀ v, xs[i]? = some v → Q v H
def spWord : Sp := fun vs H Q _ => ∃ (k : Addr) (kvs : List (Key × V)) (n : Int), vs = [.ref k, .int n] ∧ H k = some (.dK kvs) ∧ (∀ p ∈ kvs, ∃ z j, p.1 = .inr z ∧ p.2 = .int j ∧ z.length ≤ 20 ∧ PyData.strOk z = true) ∧ kvs.length ≤ 60 ∧ ∀ H', Same H H' → Q (.str (wordOf kvs n)) H'
theorem lay_strs : ∀ l : List Str, (∀ z ∈ l, PyData.strOk z = true) → PyData.canLayAll0 (l.map PyData.str) = true
  | [], _ => by simp [PyData.canLayAll0]
  | z :: t, h => by
    simp only [List.map_cons, PyData.canLayAll0, PyData.canLay0, lay_strs t fun c hc => h c (List.mem_cons_of_mem _ hc), h z (List.mem_cons_self ..)]
    rfl
theorem dep_strs : ∀ l : List Str, PyData.depthAll (l.map PyData.str) = 0
  | [] => by simp [PyData.depthAll]
  | z :: t => by
    simp only [List.map_cons, PyData.depthAll, PyData.depth, dep_strs t]
    rfl
theorem shaped_strs (l : List Str) (h : ∀ z ∈ l, PyData.strOk z = true) : SeqAt.shaped (.list (l.map PyData.str)) = true := by
  have h1 := dep_strs l
  have h2 : PyData.depth (.list (l.map PyData.str)) ≤ 64 := by
    simp only [PyData.depth]
    omega
  show (PyData.canLay0 (.list (l.map PyData.str)) && decide (PyData.depth (.list (l.map PyData.str)) ≤ 64)) = true
  rw [Bool.and_eq_true]
  exact ⟨by simp only [PyData.canLay0]; exact lay_strs l h, decide_eq_true h2⟩
theorem dp_strs {K : PySem.W.Frag} {H : Hp} : ∀ l : List Str, DpAll K H (l.map V.str) (l.map PyData.str)
  | [] => .nil
  | z :: t => .cons (.str _) (dp_strs t)
section
variable {P : Program} {w : World} {K : PySem.W.Frag} {mg : Str → Option Value} {base : Heap} {Cc Cn fI : Addr}
abbrev N_at_index : List Str := ["row", "number"]
theorem sc_at_index : FnScope N_at_index ["row", "number"] (defScope s_at_index) := ⟨rfl, rfl, rfl, by decide +kernel, rfl, by decide +kernel, by decide +kernel⟩
theorem ok_at_index {f : Addr} {fd : FuncData} (T : GlU mg) (G : GlK P K mg Cc Cn fI) (F : DefX K mg "at_index" s_at_index ["row", "number"] f fd) : CalX P w K mg base 2 "at_index" (spAt Cn) := by
  refine calr F sc_at_index (fun vs H Q E h => ?_) (fun cdv A outer s H vs Q E hr h => ?_)
  · obtain ⟨h, xs, i, rfl, _⟩ := h
    rfl
  · obtain ⟨h, xs, i, rfl, hH, kE, k⟩ := h
    refine ⟨_, (pss_cons (ps_if (pt_cmpR op_ge (pv 1) (pe_callB call_len_seq (by rfl) T.n_len Boot.«len» (pa_cons (pv 0) pa_nil)) (nomark _))
      (pss_one (ps_raise rfl (takes_of rfl rfl rfl rfl) (pmk_nx G.nx hr (pa_cons pe_str pa_nil) rfl G.gN)))
      pss_nil)
    (pss_one (ps_ret (pe_ix ix_tup (pv 0) (pv 1) (fun _ _ => rfl))))), ?_⟩
    refine ⟨_, rfl, _, rfl, h, _, rfl, .inr (SqT.of hH), _, _, rfl, rfl, _, rfl, ite2 (fun c => ?_) (fun c => ?_)⟩
    · have c : ((xs.length : Nat) : Int) ≤ ((i : Nat) : Int) := of_decide_eq_true c
      exact ⟨_, rfl, fun d hd => kE (by omega) d H (Same.refl _) hd⟩
    · have c0 : i < xs.length := by
        have : ¬ ((xs.length : Nat) : Int) ≤ ((i : Nat) : Int) := fun z => c (decide_eq_true z)
        omega
      have e : xs[i]? = some xs[i] := List.getElem?_eq_getElem c0
      exact ⟨_, rfl, _, rfl, h, _, _, _, rfl, rfl, SqT.of hH, atI_nat e, k _ e⟩
abbrev N_word_of : List Str := ["known", "number", "found", "word", "other"]
theorem sc_word_of : FnScope N_word_of ["known", "number"] (defScope s_word_of) := ⟨rfl, rfl, rfl, by decide +kernel, rfl, by decide +kernel, by decide +kernel⟩
theorem ok_word_of {f : Addr} {fd : FuncData} (F : DefX K mg "word_of" s_word_of ["known", "number"] f fd) : CalX P w K mg base 1 "word_of" spWord := by
  refine calx F sc_word_of (fun vs H Q E h => ?_) (fun cdv A outer s H vs Q E hr h => ?_)
  · obtain ⟨k, kvs, n, rfl, _⟩ := h
    rfl
  · obtain ⟨k0, kvs, n, rfl, hk, hz, hl, k⟩ := h
    refine ⟨_, (pss_cons (ps_lock (ps_setLc (i := 2) (y := "found") (own := [("word", 3), ("other", 4)]) (g := gTup K 2 (gCons (gName 3) (gCons (gName 4) gNil))) rfl sc_word_of.nd rfl rfl (sw_true rfl rfl rfl (by decide +kernel)) (pi_items (pv 0)) (blkOk_by (own := [("word", 3), ("other", 4)]) (N := N_word_of) (sc := defScope s_word_of) (by decide +kernel)) (fun _ _ _ _ _ => (pg_tup rfl (pgs_cons (pg_name (i := 3) sc_word_of.nd rfl (Or.inl rfl)) (pgs_cons (pg_name (i := 4) sc_word_of.nd rfl (Or.inl rfl)) pgs_nil)))) (fun _ _ _ _ _ => (pts_one (pt_cmpR op_eq (pv 4) (pv 1) (nomark _)))) (fun _ _ _ _ _ => (pv 3))))
    (pss_one (ps_ret (pe_ifExp (pt_cmpR (op_neD hr.units) (pv 2) (pe_lst pa_nil) (nomark _)) (pe_ix ix_list (pv 2) pe_int (fun _ _ => rfl)) pe_str)))), ?_⟩
    refine ⟨k0, _, hk, trivial, fun od => ?_⟩
    refine ⟨_, rfl, k0, od, kvs, rfl, upd_same, fun D nD => lc_it walk_items (fun i H' => Same (upd H k0 (.frz od (.dK kvs))) H' ∧ H' D = some (.lst ((wfs (kvs.take i) n).map V.str))) ⟨Same.new nD, upd_same⟩ (fun i H' _ p => p.1 _ _ upd_same) ?_ ?_⟩
    · rintro i x H' H'' hi ⟨s, hD⟩ ⟨t, a, b, rfl, nt, rfl, ha, hb⟩
      have hkv : kvs[i]? = some kvs[i] := List.getElem?_eq_getElem hi
      obtain ⟨z, j, e1, e2, z20, zok⟩ := hz _ (List.mem_of_getElem? hkv)
      dsimp only at ha hb
      rw [hkv] at ha hb
      obtain rfl : V.str z = a := by
        have := Option.some.inj ha
        dsimp only at this
        rw [e1] at this
        exact this
      obtain rfl : V.int j = b := by
        have := Option.some.inj hb
        rw [e2] at this
        exact this
      have st := Same.new (o := .tup [.str z, .int j]) nt
      have hnext : wfs (kvs.take (i + 1)) n = wfs (kvs.take i) n ++ (if decide (V.int j = V.int n) = true then [z] else []) := by
        rw [List.take_add_one, hkv]
        unfold wfs
        rw [List.filter_append, List.map_append]
        congr 1
        show List.map _ (List.filter _ [kvs[i]]) = _
        rw [List.filter_cons, e2]
        split
        · show [keyS kvs[i].1] = [z]
          rw [e1]
          rfl
        · rfl
      refine ⟨t, _, rfl, SqT.of upd_same, rfl, _, _, rfl, _, _, rfl, rfl, ?_⟩
      refine ⟨rfl, _, rfl, _, rfl, rfl, _, rfl, ite2 (fun c => ?_) (fun c => ?_)⟩
      · refine ⟨_, rfl, _, st _ _ hD, ?_, Same.mut (s.trans st) nD, ?_⟩
        · rw [List.length_map]
          have := wfs_len (kvs.take i) n
          rw [List.length_take] at this
          exact Nat.lt_of_le_of_lt this (Nat.lt_of_le_of_lt (Nat.min_le_left _ _) (Nat.lt_of_lt_of_le hi (Nat.le_trans hl (by decide))))
        · rw [upd_same, hnext, if_pos c, List.map_append]
          rfl
      · refine ⟨s.trans st, ?_⟩
        rw [hnext, if_neg c, List.append_nil]
        exact st _ _ hD
    · rintro H' ⟨s, hD⟩
      rw [List.take_length] at hD
      refine ⟨s _ _ upd_same, ?_⟩
      have nDk : D ≠ k0 := fun z => by
        rw [z, upd_same] at nD
        cases nD
      have S : Same H (upd H' k0 (.dK kvs)) := fun b o e => by
        by_cases c : b = k0
        · subst c
          rw [upd_same, ← hk]
          exact e
        · rw [upd_ne c]
          exact s _ _ (by rw [upd_ne c]; exact e)
      have hD2 : upd H' k0 (.dK kvs) D = some (.lst ((wfs kvs n).map V.str)) := by
        rw [upd_ne nDk]
        exact hD
      generalize upd H' k0 (.dK kvs) = J at S hD2 ⊢
      refine ⟨_, rfl, (by show 0 ≤ sizeLine; decide), ?_⟩
      walk_at "new1"
      have hok := wfs_ok (n := n) hz
      refine ⟨.list ((wfs kvs n).map PyData.str), .list [], Dp.lst (SqL.of (s1 _ _ hD2)) (dp_strs _), Dp.lst (SqL.of h1) .nil, shaped_strs _ hok, rfl, _, rfl, ?_⟩
      cases e9 : wfs kvs n with
      | nil =>
        refine iteF ?_
        have := k _ (S.trans s1)
        rw [wfs_nil e9] at this
        exact this
      | cons x t =>
        have e : PyData.eqv (.list ((x :: t).map PyData.str)) (.list []) = false := rfl
        rw [e]
        refine iteT ?_
        rw [e9] at hD2
        have := k _ (S.trans s1)
        rw [wfs_cons e9] at this
        exact ⟨_, rfl, D, _, _, _, rfl, rfl, SqL.of (s1 _ _ hD2), atI_nat (j := 0) (v := V.str x) rfl, this⟩
end
end K57
set_option maxHeartbeats 4000000
set_option pp.maxSteps 600
namespace K57
open PySem PySem.Spec PyProof.Rows L2 Nd
/-! ### operator_of, number_told, constant_told -/
abbrev s_operator_of : Stmt := top 42
abbrev s_number_told : Stmt := top 44
abbrev s_constant_told : Stmt := top 43
/-- repr of data, as far as it is shown -/
theorem call_reprA {X : Cx} (hg : X.A.guards = some []) (hu : X.A.units + 64 < cLine) : CallR X (.builtin "repr") (fun xs H Q => ∃ (x : V) (d : PyData), xs = [x] ∧ Dp X.K H x d ∧ d.showable = true ∧ d.hasDict = false ∧ d.depth ≤ 20 ∧ shB d ≤ 1000000 ∧ Q (.str d.shown) H) := by
  intro pins s σ H xs us Q I r h
  obtain ⟨x, d, rfl, hd, hs, hn, hp, hl, q⟩ := h
  have hl0 := hl
  cases hd with
  | non =>
    obtain ⟨u, rfl, rx⟩ := vals1 r
    cases rx
    exact PySem.P.repr_of_none ⟨.str "None", H, I.tok _, ⟨_, rfl⟩, q⟩
  | bl b =>
    obtain ⟨u, rfl, rx⟩ := vals1 r
    cases rx
    refine PySem.P.repr_of_bool ⟨.str (if b then "True" else "False"), H, I.tok _, ⟨_, rfl⟩, ?_⟩
    cases b
    · exact q
    · exact q
  | int i => exact SkE.call_repr_int pins s σ H _ us Q I r ⟨i, rfl, of_decide_eq_true hs, q⟩
  | str x =>
    obtain ⟨u, rfl, rx⟩ := vals1 r
    obtain ⟨t, rfl⟩ := rx
    exact PySem.P.repr_of_str ⟨.str (reprText x), H, I.tok _, ⟨_, rfl⟩, q⟩ (Nat.le_trans hl0 (by rw [sizeLine_eq]; decide))
  | lst h1 h2 => exact call_repr hg hu pins s σ H _ us Q I r ⟨_, _, rfl, .lst h1 h2, hs, hn, hp, hl, q⟩
  | tup h1 h2 => exact call_repr hg hu pins s σ H _ us Q I r ⟨_, _, rfl, .tup h1 h2, hs, hn, hp, hl, q⟩
structure GlO (K : PySem.W.Frag) (w : World) (mg : Str → Option Value) (dO dP dI dA : Addr) : Prop where
  c_OPERATORS : ∃ u, mg "OPERATORS" = some u ∧ RelV (.ref dO) u
  c_COMPARES : ∃ u, mg "COMPARES" = some u ∧ RelV (.ref dP) u
  c_INTRINSICS : ∃ u, mg "INTRINSICS" = some u ∧ RelV (.ref dI) u
  c_ATTRIBUTES : ∃ u, mg "ATTRIBUTES" = some u ∧ RelV (.ref dA) u
  O : MDict K w dO (kv tO)
  Pm : MDict K w dP (kv tP)
  Im : MDict K w dI (kv tI)
  Am : MDict K w dA (kv tA)
  c_IN_PLACE : ∃ u, mg "IN_PLACE" = some u ∧ RelV (.int 13) u
  c_TRUTH : ∃ u, mg "TRUTH" = some u ∧ RelV (.int 16) u
  n_dict : mg "dict" = none
  n_repr : mg "repr" = none
def goodE : Key × Vo → Bool
  | (.inr z, .inl _) => decide (z.length ≤ 20) && PyData.strOk z
  | _ => false
theorem good_kv {l : List (Key × Vo)} (h : l.all goodE = true) : ∀ p ∈ kv l, ∃ z j, p.1 = .inr z ∧ p.2 = .int j ∧ z.length ≤ 20 ∧ PyData.strOk z = true := by
  intro p hp
  obtain ⟨q, hq, rfl⟩ := List.mem_map.mp hp
  have g := List.all_eq_true.mp h q hq
  match q, g with
  | (.inr z, .inl j), g =>
    have g : (decide (z.length ≤ 20) && PyData.strOk z) = true := g
    rw [Bool.and_eq_true] at g
    exact ⟨z, j, rfl, rfl, of_decide_eq_true g.1, g.2⟩
theorem tO_ok : tO.all goodE = true := by decide +kernel
theorem tP_ok : tP.all goodE = true := by decide +kernel
theorem txt_get {l : List (Key × Vo)} (h : l.all (fun p => p.2.isRight) = true) (k : Key) : ∃ z, (valV (kv l) k).getD (.str "") = .str z := by
  cases e : valV (kv l) k with
  | none => exact ⟨"", rfl⟩
  | some v =>
    unfold valV at e
    obtain ⟨p, hp, rfl⟩ := Option.map_eq_some_iff.mp e
    obtain ⟨q, hq, rfl⟩ := List.mem_map.mp (List.mem_of_find?_eq_some hp)
    have g := List.all_eq_true.mp h q hq
    match q, g with
    | (_, .inr z), _ => exact ⟨z, rfl⟩
def strOf : Option V → Str
  | some (.str z) => z
  | _ => ""
theorem txt_str {l : List (Key × Vo)} (h : l.all (fun p => p.2.isRight) = true) (k : Key) : (valV (kv l) k).getD (.str "") = .str (strOf (valV (kv l) k)) := by
  obtain ⟨z, e⟩ := txt_get h k
  rw [e]
  cases c : valV (kv l) k with
  | none =>
    rw [c] at e
    exact e.symm
  | some v =>
    rw [c] at e
    have e : v = .str z := e
    rw [e]
    rfl
/-- the operator of a number -/
def opP (x : Str) (n : Int) : Str := if x = "BINARY_OP" then (if wordOf (kv tO) (n - 13) = "" then wordOf (kv tO) n else wordOf (kv tO) (n - 13) ++ "=")
  else if wordOf (kv tP) (Builtin.bitAnd n (Builtin.bitNot 16)) ≠ "" ∧ Builtin.bitAnd n 16 > 0 then "bool(" ++ wordOf (kv tP) (Builtin.bitAnd n (Builtin.bitNot 16)) ++ ")" else wordOf (kv tP) (Builtin.bitAnd n (Builtin.bitNot 16))
def numP (x : Str) (n : Int) : Str := if x = "IS_OP" ∨ x = "CONTAINS_OP" then (if n = 1 then "not" else "") else if x = "CALL_INTRINSIC_1" then strOf (valV (kv tI) (.inl n)) else if x = "SET_FUNCTION_ATTRIBUTE" then strOf (valV (kv tA) (.inl n)) else ""
def spOper (g : Str → Int → Str) : Sp := fun vs H Q _ => ∃ (x : Str) (n : Int), vs = [.str x, .int n] ∧ ∀ H', Same H H' → Q (.str (g x n)) H'
/-- what a constant is told as -/
inductive CT (K : PySem.W.Frag) (Cc : Addr) (H : Hp) : V → Str → Prop
  | dat {x : V} {d : PyData} (h : Dp K H x d) (o : Odd K H x) (h1 : d.showable = true) (h2 : d.hasDict = false) (h3 : d.depth ≤ 20) (h4 : shB d ≤ 1000) : CT K Cc H x d.shown
  | cod {a dx : Addr} {fs : List (Str × V)} {p : Str} (h : H a = some (.ins Cc dx fs)) (h1 : fs.lookup ("path" : Str) = some (.str p)) (h2 : p.length ≤ 1000) : CT K Cc H (.ref a) ("<code " ++ p ++ ">")
def spTold (K : PySem.W.Frag) (Cc : Addr) : Sp := fun vs H Q _ => ∃ (x : V) (z : Str), vs = [x] ∧ CT K Cc H x z ∧ Q (.str z) H
section
variable {P : Program} {w : World} {K : PySem.W.Frag} {mg : Str → Option Value} {base : Heap} {Cc Cn fI dO dP dI dA : Addr}
abbrev N_operator_of : List Str := ["word", "number", "in_place", "known"]
theorem sc_operator_of : FnScope N_operator_of ["word", "number"] (defScope s_operator_of) := ⟨rfl, rfl, rfl, by decide +kernel, rfl, by decide +kernel, by decide +kernel⟩
theorem ok_operator_of {f : Addr} {fd : FuncData} (T : GlO K w mg dO dP dI dA) (c_word_of : CalX P w K mg base 1 "word_of" spWord) (F : DefX K mg "operator_of" s_operator_of ["word", "number"] f fd) : CalX P w K mg base 2 "operator_of" (spOper opP) := by
  refine calx F sc_operator_of (fun vs H Q E h => ?_) (fun cdv A outer s H vs Q E hr h => ?_)
  · obtain ⟨x, n, rfl, _⟩ := h
    rfl
  · obtain ⟨x, n, rfl, k⟩ := h
    refine ⟨_, (pss_cons (ps_if (pt_cmpR op_eq (pv 0) pe_str (nomark _))
      (pss_cons (ps_set (i := 2) sc_operator_of.nd rfl (.inl rfl) (pe_cx c_word_of hr (by decide) rfl (pa_cons (pe_callTy (call_dictM T.O) (by rfl) T.n_dict Boot.«dict» (pa_cons (C8.pe_gc rfl T.c_OPERATORS) pa_nil)) (pa_cons (pe_op op_sub (pv 1) (C8.pe_gc rfl T.c_IN_PLACE)) pa_nil))))
    (pss_one (ps_ret (pe_ifExp (pt_cmpR op_ne (pv 2) pe_str (nomark _)) (pe_op op_add_str (pv 2) pe_str) (pe_cx c_word_of hr (by decide) rfl (pa_cons (pe_callTy (call_dictM T.O) (by rfl) T.n_dict Boot.«dict» (pa_cons (C8.pe_gc rfl T.c_OPERATORS) pa_nil)) (pa_cons (pv 1) pa_nil)))))))
      pss_nil)
    (pss_cons (ps_set (i := 3) sc_operator_of.nd rfl (.inl rfl) (pe_cx c_word_of hr (by decide) rfl (pa_cons (pe_callTy (call_dictM T.Pm) (by rfl) T.n_dict Boot.«dict» (pa_cons (C8.pe_gc rfl T.c_COMPARES) pa_nil)) (pa_cons (pe_op op_and (pv 1) (pe_un un_inv (C8.pe_gc rfl T.c_TRUTH))) pa_nil))))
    (pss_one (ps_ret (pe_ifExp (PW.pt (pw_and (pt_cmpR op_ne (pv 3) pe_str (nomark _)) (pw_and1 (pt_cmpR op_gt (pe_op op_and (pv 1) (C8.pe_gc rfl T.c_TRUTH)) pe_int (nomark _))))) (pe_op op_add_str (pe_op op_add_str pe_str (pv 3)) pe_str) (pv 3)))))), ?_⟩
    refine ⟨_, rfl, rfl, _, rfl, ite2 (fun c => ?_) (fun c => ?_)⟩
    · have ex : x = "BINARY_OP" := by
        have := of_decide_eq_true c
        injection this
      refine ⟨rfl, ?_⟩
      walk_at "new1"
      refine ⟨_, rfl, _, _, rfl, rfl, p1, kv tO, _, rfl, h1, good_kv tO_ok, by decide, fun J sJ => ?_⟩
      have zl := wordOf_len (n := n - 13) (good_kv tO_ok)
      refine ⟨_, rfl, rfl, _, rfl, ite2 (fun c2 => ?_) (fun c2 => ?_)⟩
      · refine ⟨_, rfl, _, _, rfl, rfl, ?_, ?_⟩
        · exact Nat.le_trans (Nat.add_le_add_right zl _) (by decide)
        · have kk := k _ (s1.trans sJ)
          unfold opP at kk
          rw [if_pos ex, if_neg (fun z => by rw [z] at c2; exact absurd c2 (by decide +kernel))] at kk
          exact kk
      · refine ⟨rfl, ?_⟩
        walk_at "new2"
        refine ⟨_, rfl, p2, kv tO, _, rfl, h2, good_kv tO_ok, by decide, fun J' sJ' => ?_⟩
        have kk := k _ (((s1.trans sJ).trans s2).trans sJ')
        unfold opP at kk
        rw [if_pos ex, if_pos (Decidable.byContradiction fun z => c2 (by
          show (!decide (V.str _ = V.str _)) = true
          rw [decide_eq_false (fun y => z (by injection y))]
          rfl))] at kk
        exact kk
    · have ex : ¬ x = "BINARY_OP" := fun z => c (by rw [z]; exact decide_eq_true rfl)
      refine ⟨rfl, ?_⟩
      walk_at "new1"
      refine ⟨_, rfl, _, rfl, _, _, rfl, rfl, p1, kv tP, _, rfl, h1, good_kv tP_ok, by decide, fun J sJ => ?_⟩
      have zl := wordOf_len (n := Builtin.bitAnd n (Builtin.bitNot 16)) (good_kv tP_ok)
      have kk := k _ (s1.trans sJ)
      unfold opP at kk
      rw [if_neg ex] at kk
      refine ⟨_, rfl, rfl, _, rfl, ite2 (fun c2 => ?_) (fun c2 => ?_)⟩
      · have n1 : ¬ wordOf (kv tP) (Builtin.bitAnd n (Builtin.bitNot 16)) = "" := fun z => by rw [z] at c2; exact absurd c2 (by decide +kernel)
        refine ⟨_, rfl, _, _, rfl, rfl, _, _, rfl, rfl, _, rfl, ite2 (fun c3 => ?_) (fun c3 => ?_)⟩
        · rw [if_pos ⟨n1, of_decide_eq_true c3⟩] at kk
          refine ⟨_, rfl, _, _, rfl, rfl, ?_, _, _, rfl, rfl, ?_, kk⟩
          · exact Nat.le_trans (Nat.add_le_add_left zl _) (by decide)
          · show (("bool(" : Str).cps ++ (wordOf (kv tP) (Builtin.bitAnd n (Builtin.bitNot 16))).cps).size + 1 ≤ sizeLine
            rw [Array.size_append]
            have zl : (wordOf (kv tP) (Builtin.bitAnd n (Builtin.bitNot 16))).cps.size ≤ 20 := zl
            exact Nat.le_trans (Nat.add_le_add_right (Nat.add_le_add_left zl _) 1) (by decide +kernel)
        · rw [if_neg (fun z => c3 (decide_eq_true z.2))] at kk
          exact ⟨_, rfl, kk⟩
      · rw [if_neg (fun z => c2 (by
          show (!decide (V.str _ = V.str _)) = true
          rw [decide_eq_false (fun y => z.1 (by injection y))]
          rfl))] at kk
        exact ⟨_, rfl, kk⟩
abbrev N_number_told : List Str := ["word", "number"]
theorem sc_number_told : FnScope N_number_told ["word", "number"] (defScope s_number_told) := ⟨rfl, rfl, rfl, by decide +kernel, rfl, by decide +kernel, by decide +kernel⟩
theorem ok_number_told {f : Addr} {fd : FuncData} (T : GlO K w mg dO dP dI dA) (F : DefX K mg "number_told" s_number_told ["word", "number"] f fd) : CalX P w K mg base 1 "number_told" (spOper numP) := by
  refine calx F sc_number_told (fun vs H Q E h => ?_) (fun cdv A outer s H vs Q E hr h => ?_)
  · obtain ⟨x, n, rfl, _⟩ := h
    rfl
  · obtain ⟨x, n, rfl, k⟩ := h
    refine ⟨_, (pss_cons (ps_if (pt_cmpR op_in_seq (pv 0) (pe_tup (pa_cons pe_str (pa_cons pe_str pa_nil))) (by rfl))
      (pss_one (ps_ret (pe_ifExp (pt_cmpR op_eq (pv 1) pe_int (nomark _)) pe_str pe_str)))
      pss_nil)
    (pss_cons (ps_if (pt_cmpR op_eq (pv 0) pe_str (nomark _))
      (pss_one (ps_ret (pe_mget2 T.Im (C8.pe_gc rfl T.c_INTRINSICS) (pv 1) pe_str ⟨rfl, rfl, rfl, rfl⟩)))
      pss_nil)
    (pss_one (ps_ret (pe_ifExp (pt_cmpR op_eq (pv 0) pe_str (nomark _)) (pe_mget2 T.Am (C8.pe_gc rfl T.c_ATTRIBUTES) (pv 1) pe_str ⟨rfl, rfl, rfl, rfl⟩) pe_str))))), ?_⟩
    refine ⟨_, rfl, (by show 2 ≤ sizeLine; decide), ?_⟩
    walk_at "new1"
    have kk := k _ s1
    unfold numP at kk
    refine ⟨p1, _, rfl, .inr (SqT.of h1), rfl, rfl, _, rfl, ite2 (fun c => ?_) (fun c => ?_)⟩
    · have e : x = "IS_OP" ∨ x = "CONTAINS_OP" := by
        have c : (decide (("IS_OP" : Str) = x) || (decide (("CONTAINS_OP" : Str) = x) || false)) = true := c
        rw [Bool.or_false, Bool.or_eq_true] at c
        exact c.imp (fun z => (of_decide_eq_true z).symm) fun z => (of_decide_eq_true z).symm
      rw [if_pos e] at kk
      refine ⟨_, rfl, rfl, _, rfl, ite2 (fun c2 => ?_) (fun c2 => ?_)⟩
      · rw [if_pos (by have := of_decide_eq_true c2; injection this)] at kk
        exact kk
      · rw [if_neg (fun z => c2 (decide_eq_true (congrArg V.int z)))] at kk
        exact kk
    · have e : ¬ (x = "IS_OP" ∨ x = "CONTAINS_OP") := fun z => c (by
        show (decide (("IS_OP" : Str) = x) || (decide (("CONTAINS_OP" : Str) = x) || false)) = true
        rw [Bool.or_false, Bool.or_eq_true]
        exact z.imp (fun y => decide_eq_true y.symm) fun y => decide_eq_true y.symm)
      rw [if_neg e] at kk
      refine ⟨_, rfl, rfl, _, rfl, ite2 (fun c2 => ?_) (fun c2 => ?_)⟩
      · rw [if_pos (by have := of_decide_eq_true c2; injection this)] at kk
        refine ⟨rfl, _, rfl, .inl n, rfl, ?_⟩
        rw [txt_str (l := tI) (by decide +kernel) (.inl n)]
        exact kk
      · rw [if_neg (fun z => c2 (decide_eq_true (congrArg V.str z)))] at kk
        refine ⟨_, rfl, rfl, _, rfl, ite2 (fun c3 => ?_) (fun c3 => ?_)⟩
        · rw [if_pos (by have := of_decide_eq_true c3; injection this)] at kk
          refine ⟨rfl, _, rfl, .inl n, rfl, ?_⟩
          rw [txt_str (l := tA) (by decide +kernel) (.inl n)]
          exact kk
        · rw [if_neg (fun z => c3 (decide_eq_true (congrArg V.str z)))] at kk
          exact kk
abbrev N_constant_told : List Str := ["value"]
theorem sc_constant_told : FnScope N_constant_told ["value"] (defScope s_constant_told) := ⟨rfl, rfl, rfl, by decide +kernel, rfl, by decide +kernel, by decide +kernel⟩
theorem ok_constant_told {f : Addr} {fd : FuncData} (T : GlO K w mg dO dP dI dA) (G : GlK P K mg Cc Cn fI) (F : DefX K mg "constant_told" s_constant_told ["value"] f fd) : FnG P w K mg base 1 f fd ["value"] (spTold K Cc) := by
  refine FunD.okG F.fn sc_constant_told (fun vs H Q E h => ?_) (fun cdv A outer s H vs Q E hr hgu h => ?_)
  · obtain ⟨x, z, rfl, _⟩ := h
    rfl
  · obtain ⟨x, z, rfl, hx, k⟩ := h
    refine ⟨_, (pss_one (ps_ret (pe_ifExp (pt_val (pe_callB call_isi (by rfl) G.n_isinstance Boot.«isinstance» (pa_cons (pv 0) (pa_cons (C8.pe_gc rfl G.c_Code) pa_nil)))) (pe_op op_add_str (pe_op op_add_str pe_str (pe_fld (pv 0) rfl)) pe_str) (pe_callB (call_reprA hgu hr.units) (by rfl) T.n_repr Boot.«repr» (pa_cons (pv 0) pa_nil))))), ?_⟩
    cases hx with
    | dat h o h1 h2 h3 h4 =>
      obtain ⟨t, ht, ty⟩ := o
      refine ⟨_, rfl, x, V.ref Cc, .type t, .ref Cc, false, rfl, .own Cc, ty, G.no t ht, _, rfl, iteF ?_⟩
      exact ⟨_, rfl, x, _, rfl, h, h1, h2, h3, Nat.le_trans h4 (by decide), k⟩
    | cod h h1 h2 =>
      rename_i a dx fs p
      refine ⟨_, rfl, V.ref a, V.ref Cc, .ref Cc, .ref Cc, true, rfl, .own Cc, .base (.ins h G.ins.cl G.ins.ha G.ins.hn G.ins.htk G.ins.hm), G.ins.me, _, rfl, iteT ?_⟩
      refine ⟨_, rfl, a, Cc, dx, fs, _, rfl, h, G.ins.cl, G.na _ (by decide), h1, _, _, rfl, rfl, ?_, _, _, rfl, rfl, ?_, k⟩
      · exact Nat.le_trans (Nat.add_le_add_left h2 _) (by decide +kernel)
      · show (("<code " : Str).cps ++ p.cps).size + 1 ≤ sizeLine
        rw [Array.size_append]
        have h2 : p.cps.size ≤ 1000 := h2
        exact Nat.le_trans (Nat.add_le_add_right (Nat.add_le_add_left h2 _) 1) (by decide +kernel)
end
end K57
set_option maxHeartbeats 4000000
set_option pp.maxSteps 600
namespace K57
open PySem PySem.Spec PyProof.Rows L2 Nd
/-! ### meaning -/
abbrev s_meaning : Stmt := top 45
structure GlM (K : PySem.W.Frag) (w : World) (mg : Str → Option Value) (dM : Addr) : Prop where
  c_MORE : ∃ u, mg "MORE" = some u ∧ RelV (.ref dM) u
  M : MDict K w dM (kv tM)
  n_str : mg "str" = none
/-- what the argument tells stands in the tables -/
def mOk (nc nn ns : Nat) (z : Str) (n : Nat) : Prop := if z = "c" then n < nc else if z = "n" then n < nn else if z = "m" then n / 2 < nn else if z = "l" then n < ns else if z = "p" then n / 16 < ns ∧ n % 16 < ns else True
theorem mOk_d {nc nn ns n : Nat} : mOk nc nn ns "-" n ↔ True := by
  unfold mOk
  rw [if_neg (by decide +kernel), if_neg (by decide +kernel), if_neg (by decide +kernel), if_neg (by decide +kernel), if_neg (by decide +kernel)]
theorem mOk_o {nc nn ns n : Nat} : mOk nc nn ns "o" n ↔ True := by
  unfold mOk
  rw [if_neg (by decide +kernel), if_neg (by decide +kernel), if_neg (by decide +kernel), if_neg (by decide +kernel), if_neg (by decide +kernel)]
theorem mOk_k {nc nn ns n : Nat} : mOk nc nn ns "k" n ↔ True := by
  unfold mOk
  rw [if_neg (by decide +kernel), if_neg (by decide +kernel), if_neg (by decide +kernel), if_neg (by decide +kernel), if_neg (by decide +kernel)]
theorem mOk_x {nc nn ns n : Nat} : mOk nc nn ns "x" n ↔ True := by
  unfold mOk
  rw [if_neg (by decide +kernel), if_neg (by decide +kernel), if_neg (by decide +kernel), if_neg (by decide +kernel), if_neg (by decide +kernel)]
theorem mOk_n {nc nn ns n : Nat} : mOk nc nn ns "n" n ↔ n < nn := by
  unfold mOk
  rw [if_neg (by decide +kernel), if_pos rfl]
theorem mOk_l {nc nn ns n : Nat} : mOk nc nn ns "l" n ↔ n < ns := by
  unfold mOk
  rw [if_neg (by decide +kernel), if_neg (by decide +kernel), if_neg (by decide +kernel), if_pos rfl]
theorem mOk_j {nc nn ns n : Nat} : mOk nc nn ns "j" n ↔ True := by
  unfold mOk
  rw [if_neg (by decide +kernel), if_neg (by decide +kernel), if_neg (by decide +kernel), if_neg (by decide +kernel), if_neg (by decide +kernel)]
theorem mOk_m {nc nn ns n : Nat} : mOk nc nn ns "m" n ↔ n / 2 < nn := by
  unfold mOk
  rw [if_neg (by decide +kernel), if_neg (by decide +kernel), if_pos rfl]
theorem mOk_c {nc nn ns n : Nat} : mOk nc nn ns "c" n ↔ n < nc := by
  unfold mOk
  rw [if_pos rfl]
theorem mOk_p {nc nn ns n : Nat} : mOk nc nn ns "p" n ↔ n / 16 < ns ∧ n % 16 < ns := by
  unfold mOk
  rw [if_neg (by decide +kernel), if_neg (by decide +kernel), if_neg (by decide +kernel), if_neg (by decide +kernel), if_pos rfl]
theorem shr1 (n : Nat) : ((n : Nat) : Int) / 2 ^ (1 : Int).toNat = ((n / 2 : Nat) : Int) := by
  rw [show (2 : Int) ^ (1 : Int).toNat = 2 from rfl]
  omega
theorem shr4 (n : Nat) : ((n : Nat) : Int) / 2 ^ (4 : Int).toNat = ((n / 16 : Nat) : Int) := by
  rw [show (2 : Int) ^ (4 : Int).toNat = 16 from rfl]
  omega
theorem and1 (n : Nat) : Builtin.bitAnd (n : Int) 1 = ((n % 2 : Nat) : Int) := by
  show ((n &&& 1 : Nat) : Int) = _
  rw [Nat.and_one_is_mod]
theorem and15 (n : Nat) : Builtin.bitAnd (n : Int) 15 = ((n % 16 : Nat) : Int) := by
  show ((n &&& 15 : Nat) : Int) = _
  rw [show (15 : Nat) = 2 ^ 4 - 1 from rfl, Nat.and_two_pow_sub_one_eq_mod]
theorem lg {i : Int} (h1 : -(2 ^ 60) < i) (h2 : i < 2 ^ 60) : i.natAbs.log2 < 1920 := by
  by_cases z : i.natAbs = 0
  · rw [z]
    decide
  · exact Nat.lt_trans ((Nat.log2_lt z).mpr (by omega : i.natAbs < 2 ^ 60)) (by decide)
theorem sl {i : Int} (h1 : -(2 ^ 60) < i) (h2 : i < 2 ^ 60) : ("to " : Str).length + (toString i : Str).length ≤ sizeLine := by
  have e := PySem.int_text_length_le (a := i) (k := 1920) (by decide) (lg h1 h2)
  have a : (Str.ofString (toString i)).length = (toString i).length := PySem.ofString_length _
  have b : ("to " : Str).length = 3 := by decide +kernel
  have c : (toString i : Str).length = (toString i).length := a
  rw [b, c, sizeLine_eq]
  omega
theorem letters : ∀ r ∈ rws, r.2.2.2 ∈ (["-", "o", "k", "x", "n", "l", "j", "m", "c", "p"] : List Str) := by decide +kernel
theorem more_of : ∀ r ∈ rws, r.2.2.2 = "m" → ∃ z, valV (kv tM) (.inr r.1) = some (.str z) ∧ z.length ≤ 20 := by
  have h : ∀ r ∈ rws, r.2.2.2 = "m" → (match valV (kv tM) (.inr r.1) with | some (.str z) => decide (z.length ≤ 20) | _ => false) = true := by decide +kernel
  intro r hr e
  have g := h r hr e
  split at g
  · rename_i z e'
    exact ⟨z, e', of_decide_eq_true g⟩
  · cases g
def more0 (z : Str) : Str := strOf (valV (kv tM) (.inr z))
def backS (z : Str) : Bool := !(Builtin.Str.occurrences z "BACKWARD" 0 z.length 1).isEmpty
/-- what an argument means, by the letter of its sort -/
def meanL (l : Str) (x : Str) (ts names slots : List Str) (n : Nat) (e : Int) : Str :=
  if l = "c" then ts.getD n "" else if l = "n" then names.getD n "" else if l = "m" then names.getD (n / 2) "" ++ (if n % 2 = 0 then ("" : Str) else more0 x) else if l = "l" then slots.getD n ""
  else if l = "p" then slots.getD (n / 16) "" ++ ", " ++ slots.getD (n % 16) "" else if l = "j" then "to " ++ (toString (if backS x then e - 2 * (n : Int) else e + 2 * (n : Int)) : Str) else if l = "o" ∨ l = "x" then opP x (n : Int) else numP x (n : Int)
def meanS (r : Rw) (ts names slots : List Str) (n : Nat) (e : Int) : Str := meanL r.2.2.2 r.1 ts names slots n e
theorem mean_d {l x : Str} {ts names slots : List Str} {n : Nat} {e : Int} (h : l = "-") : meanL l x ts names slots n e = numP x (n : Int) := by
  subst h
  unfold meanL
  rw [if_neg (by decide +kernel), if_neg (by decide +kernel), if_neg (by decide +kernel), if_neg (by decide +kernel), if_neg (by decide +kernel), if_neg (by decide +kernel), if_neg (by decide +kernel)]
theorem mean_o {l x : Str} {ts names slots : List Str} {n : Nat} {e : Int} (h : l = "o") : meanL l x ts names slots n e = opP x (n : Int) := by
  subst h
  unfold meanL
  rw [if_neg (by decide +kernel), if_neg (by decide +kernel), if_neg (by decide +kernel), if_neg (by decide +kernel), if_neg (by decide +kernel), if_neg (by decide +kernel), if_pos (by decide +kernel)]
theorem mean_k {l x : Str} {ts names slots : List Str} {n : Nat} {e : Int} (h : l = "k") : meanL l x ts names slots n e = numP x (n : Int) := by
  subst h
  unfold meanL
  rw [if_neg (by decide +kernel), if_neg (by decide +kernel), if_neg (by decide +kernel), if_neg (by decide +kernel), if_neg (by decide +kernel), if_neg (by decide +kernel), if_neg (by decide +kernel)]
theorem mean_x {l x : Str} {ts names slots : List Str} {n : Nat} {e : Int} (h : l = "x") : meanL l x ts names slots n e = opP x (n : Int) := by
  subst h
  unfold meanL
  rw [if_neg (by decide +kernel), if_neg (by decide +kernel), if_neg (by decide +kernel), if_neg (by decide +kernel), if_neg (by decide +kernel), if_neg (by decide +kernel), if_pos (by decide +kernel)]
theorem mean_n {l x : Str} {ts names slots : List Str} {n : Nat} {e : Int} (h : l = "n") : meanL l x ts names slots n e = names.getD n "" := by
  subst h
  unfold meanL
  rw [if_neg (by decide +kernel), if_pos rfl]
theorem mean_l {l x : Str} {ts names slots : List Str} {n : Nat} {e : Int} (h : l = "l") : meanL l x ts names slots n e = slots.getD n "" := by
  subst h
  unfold meanL
  rw [if_neg (by decide +kernel), if_neg (by decide +kernel), if_neg (by decide +kernel), if_pos rfl]
theorem mean_j {l x : Str} {ts names slots : List Str} {n : Nat} {e : Int} (h : l = "j") : meanL l x ts names slots n e = "to " ++ (toString (if backS x then e - 2 * (n : Int) else e + 2 * (n : Int)) : Str) := by
  subst h
  unfold meanL
  rw [if_neg (by decide +kernel), if_neg (by decide +kernel), if_neg (by decide +kernel), if_neg (by decide +kernel), if_neg (by decide +kernel), if_pos rfl]
theorem mean_m {l x : Str} {ts names slots : List Str} {n : Nat} {e : Int} (h : l = "m") : meanL l x ts names slots n e = names.getD (n / 2) "" ++ (if n % 2 = 0 then ("" : Str) else more0 x) := by
  subst h
  unfold meanL
  rw [if_neg (by decide +kernel), if_neg (by decide +kernel), if_pos rfl]
theorem mean_c {l x : Str} {ts names slots : List Str} {n : Nat} {e : Int} (h : l = "c") : meanL l x ts names slots n e = ts.getD n "" := by
  subst h
  unfold meanL
  rw [if_pos rfl]
theorem mean_p {l x : Str} {ts names slots : List Str} {n : Nat} {e : Int} (h : l = "p") : meanL l x ts names slots n e = slots.getD (n / 16) "" ++ ", " ++ slots.getD (n % 16) "" := by
  subst h
  unfold meanL
  rw [if_neg (by decide +kernel), if_neg (by decide +kernel), if_neg (by decide +kernel), if_neg (by decide +kernel), if_pos rfl]
def CTs (K : PySem.W.Frag) (Cc : Addr) (H : Hp) (xs : List V) (ts : List Str) : Prop := xs.length = ts.length ∧ ∀ i x, xs[i]? = some x → CT K Cc H x (ts.getD i "")
def spMean (K : PySem.W.Frag) (Cc : Addr) : Sp := fun vs H Q _ => ∃ (c : Addr) (r : Rw) (n : Nat) (e : Int) (D : CD) (m : Int) (ts : List Str), vs = [.ref c, .str r.1, .int (n : Int), .int e] ∧ r ∈ rws ∧ n < 4294967296 ∧ 0 ≤ e ∧ e < 2 ^ 40 ∧ CodeAt Cc H c D m ∧ CTs K Cc H D.consts ts ∧ isStrs D.names ∧ isStrs D.slots ∧
  mOk D.consts.length D.names.length D.slots.length r.2.2.2 n ∧ ∀ H', Same H H' → Q (.str (meanS r ts D.names D.slots n e)) H'
section
variable {P : Program} {w : World} {K : PySem.W.Frag} {mg : Str → Option Value} {base : Heap} {Cc Cn fI dN dW dC dS dM : Addr}
abbrev N_meaning : List Str := ["code", "word", "number", "end", "sort"]
theorem sc_meaning : FnScope N_meaning ["code", "word", "number", "end"] (defScope s_meaning) := ⟨rfl, rfl, rfl, by decide +kernel, rfl, by decide +kernel, by decide +kernel⟩
theorem ok_meaning {f : Addr} {fd : FuncData} (G : GlK P K mg Cc Cn fI) (GT : GlT K w mg dN dW dC dS) (T : GlM K w mg dM) (c_at : CalX P w K mg base 2 "at_index" (spAt Cn)) (c_told : CalG P w K mg base 1 "constant_told" (spTold K Cc)) (c_op : CalX P w K mg base 2 "operator_of" (spOper opP)) (c_num : CalX P w K mg base 1 "number_told" (spOper numP))
    (F : DefX K mg "meaning" s_meaning ["code", "word", "number", "end"] f fd) : FnG P w K mg base 3 f fd ["code", "word", "number", "end"] (spMean K Cc) := by
  refine FunD.okG F.fn sc_meaning (fun vs H Q E h => ?_) (fun cdv A outer s H vs Q E hr hgu h => ?_)
  · obtain ⟨c, r, n, e, D, m, ts, rfl, _⟩ := h
    rfl
  · obtain ⟨c, r, n, ee, D, m, tx, rfl, hr1, hn, e0, e1, hC, hcon, hnm, hsl, hOk, k⟩ := h
    unfold meanS at k
    refine ⟨_, (pss_cons (ps_set (i := 4) sc_meaning.nd rfl (.inl rfl) (pe_mget2 GT.S (C8.pe_gc rfl GT.c_SORTS) (pv 1) pe_str ⟨rfl, rfl, rfl, rfl⟩))
    (pss_cons (ps_if (pt_cmpR op_eq (pv 4) pe_str (nomark _))
      (pss_one (ps_ret (pe_cg (E := E) c_told hr (by decide) hgu rfl (passE (takes_of rfl rfl rfl rfl)) (pa_cons (pe_cr c_at hr (by decide) rfl (passE (E := E) (takes_of rfl rfl rfl rfl)) (pa_cons (pe_fld (pv 0) rfl) (pa_cons (pv 2) pa_nil))) pa_nil))))
      pss_nil)
    (pss_cons (ps_if (pt_cmpR op_eq (pv 4) pe_str (nomark _))
      (pss_one (ps_ret (pe_cr c_at hr (by decide) rfl (passE (E := E) (takes_of rfl rfl rfl rfl)) (pa_cons (pe_fld (pv 0) rfl) (pa_cons (pv 2) pa_nil)))))
      pss_nil)
    (pss_cons (ps_if (pt_cmpR op_eq (pv 4) pe_str (nomark _))
      (pss_one (ps_ret (pe_op op_add_str (pe_cr c_at hr (by decide) rfl (passE (E := E) (takes_of rfl rfl rfl rfl)) (pa_cons (pe_fld (pv 0) rfl) (pa_cons (pe_op op_shr (pv 2) pe_int) pa_nil))) (pe_op op_smul (pe_ix (ix_m T.M) (C8.pe_gc rfl T.c_MORE) (pv 1) (fun _ _ => rfl)) (pe_op op_and (pv 2) pe_int)))))
      pss_nil)
    (pss_cons (ps_if (pt_cmpR op_eq (pv 4) pe_str (nomark _))
      (pss_one (ps_ret (pe_cr c_at hr (by decide) rfl (passE (E := E) (takes_of rfl rfl rfl rfl)) (pa_cons (pe_fld (pv 0) rfl) (pa_cons (pv 2) pa_nil)))))
      pss_nil)
    (pss_cons (ps_if (pt_cmpR op_eq (pv 4) pe_str (nomark _))
      (pss_one (ps_ret (pe_op op_add_str (pe_op op_add_str (pe_cr c_at hr (by decide) rfl (passE (E := E) (takes_of rfl rfl rfl rfl)) (pa_cons (pe_fld (pv 0) rfl) (pa_cons (pe_op op_shr (pv 2) pe_int) pa_nil))) pe_str) (pe_cr c_at hr (by decide) rfl (passE (E := E) (takes_of rfl rfl rfl rfl)) (pa_cons (pe_fld (pv 0) rfl) (pa_cons (pe_op op_and (pv 2) pe_int) pa_nil))))))
      pss_nil)
    (pss_cons (ps_if (pt_cmpR op_eq (pv 4) pe_str (nomark _))
      (pss_one (ps_ret (pe_op op_add_str pe_str (pe_callTy call_str_int (by rfl) T.n_str Boot.«str» (pa_cons (pe_ifExp (pt_cmpR op_in_str pe_str (pv 1) (by rfl)) (pe_op op_sub (pv 3) (pe_op op_mul pe_int (pv 2))) (pe_op op_add (pv 3) (pe_op op_mul pe_int (pv 2)))) pa_nil)))))
      pss_nil)
    (pss_one (ps_ret (pe_ifExp (pt_cmpR op_in_seq (pv 4) (pe_tup (pa_cons pe_str (pa_cons pe_str pa_nil))) (by rfl)) (pe_cx c_op hr (by decide) rfl (pa_cons (pv 1) (pa_cons (pv 2) pa_nil))) (pe_cx c_num hr (by decide) rfl (pa_cons (pv 1) (pa_cons (pv 2) pa_nil))))))))))))), ?_⟩
    refine ⟨rfl, _, rfl, .inr r.1, rfl, ?_⟩
    rw [s_of r hr1]
    obtain ⟨dx, fs, hc, _, _, _, _, _, ⟨tk, lk, hk⟩, ⟨tn, ln, hn'⟩, ⟨ts, ls, hs'⟩, _⟩ := hC
    have hl := letters r hr1
    simp only [List.mem_cons, List.mem_nil_iff, or_false] at hl
    rcases hl with e | e | e | e | e | e | e | e | e | e
    · have es : sortOf r.2.2.2 = "" := by
        rw [e]
        decide +kernel
      rw [es]
      have hm := (show mOk D.consts.length D.names.length D.slots.length r.2.2.2 n ↔ _ from e ▸ mOk_d)
      rw [mean_d e] at k
      refine ⟨_, rfl, rfl, _, rfl, ite2 (fun z => absurd (of_decide_eq_true z) (by decide +kernel)) (fun _ => ?_)⟩
      refine ⟨_, rfl, rfl, _, rfl, ite2 (fun z => absurd (of_decide_eq_true z) (by decide +kernel)) (fun _ => ?_)⟩
      refine ⟨_, rfl, rfl, _, rfl, ite2 (fun z => absurd (of_decide_eq_true z) (by decide +kernel)) (fun _ => ?_)⟩
      refine ⟨_, rfl, rfl, _, rfl, ite2 (fun z => absurd (of_decide_eq_true z) (by decide +kernel)) (fun _ => ?_)⟩
      refine ⟨_, rfl, rfl, _, rfl, ite2 (fun z => absurd (of_decide_eq_true z) (by decide +kernel)) (fun _ => ?_)⟩
      refine ⟨_, rfl, rfl, _, rfl, ite2 (fun z => absurd (of_decide_eq_true z) (by decide +kernel)) (fun _ => ?_)⟩
      refine ⟨_, rfl, (by show 2 ≤ sizeLine; decide), ?_⟩
      walk_at "new1"
      refine ⟨p1, _, rfl, .inr (SqT.of h1), rfl, rfl, _, rfl, ite2 (fun z => absurd z (by decide +kernel)) (fun _ => ?_)⟩
      exact ⟨_, rfl, _, rfl, r.1, _, rfl, fun J sJ => k J (s1.trans sJ)⟩
    · have es : sortOf r.2.2.2 = "operator" := by
        rw [e]
        decide +kernel
      rw [es]
      have hm := (show mOk D.consts.length D.names.length D.slots.length r.2.2.2 n ↔ _ from e ▸ mOk_o)
      rw [mean_o e] at k
      refine ⟨_, rfl, rfl, _, rfl, ite2 (fun z => absurd (of_decide_eq_true z) (by decide +kernel)) (fun _ => ?_)⟩
      refine ⟨_, rfl, rfl, _, rfl, ite2 (fun z => absurd (of_decide_eq_true z) (by decide +kernel)) (fun _ => ?_)⟩
      refine ⟨_, rfl, rfl, _, rfl, ite2 (fun z => absurd (of_decide_eq_true z) (by decide +kernel)) (fun _ => ?_)⟩
      refine ⟨_, rfl, rfl, _, rfl, ite2 (fun z => absurd (of_decide_eq_true z) (by decide +kernel)) (fun _ => ?_)⟩
      refine ⟨_, rfl, rfl, _, rfl, ite2 (fun z => absurd (of_decide_eq_true z) (by decide +kernel)) (fun _ => ?_)⟩
      refine ⟨_, rfl, rfl, _, rfl, ite2 (fun z => absurd (of_decide_eq_true z) (by decide +kernel)) (fun _ => ?_)⟩
      refine ⟨_, rfl, (by show 2 ≤ sizeLine; decide), ?_⟩
      walk_at "new1"
      refine ⟨p1, _, rfl, .inr (SqT.of h1), rfl, rfl, _, rfl, ite2 (fun _ => ?_) (fun z => absurd (by decide +kernel) z)⟩
      exact ⟨_, rfl, _, rfl, r.1, _, rfl, fun J sJ => k J (s1.trans sJ)⟩
    · have es : sortOf r.2.2.2 = "number" := by
        rw [e]
        decide +kernel
      rw [es]
      have hm := (show mOk D.consts.length D.names.length D.slots.length r.2.2.2 n ↔ _ from e ▸ mOk_k)
      rw [mean_k e] at k
      refine ⟨_, rfl, rfl, _, rfl, ite2 (fun z => absurd (of_decide_eq_true z) (by decide +kernel)) (fun _ => ?_)⟩
      refine ⟨_, rfl, rfl, _, rfl, ite2 (fun z => absurd (of_decide_eq_true z) (by decide +kernel)) (fun _ => ?_)⟩
      refine ⟨_, rfl, rfl, _, rfl, ite2 (fun z => absurd (of_decide_eq_true z) (by decide +kernel)) (fun _ => ?_)⟩
      refine ⟨_, rfl, rfl, _, rfl, ite2 (fun z => absurd (of_decide_eq_true z) (by decide +kernel)) (fun _ => ?_)⟩
      refine ⟨_, rfl, rfl, _, rfl, ite2 (fun z => absurd (of_decide_eq_true z) (by decide +kernel)) (fun _ => ?_)⟩
      refine ⟨_, rfl, rfl, _, rfl, ite2 (fun z => absurd (of_decide_eq_true z) (by decide +kernel)) (fun _ => ?_)⟩
      refine ⟨_, rfl, (by show 2 ≤ sizeLine; decide), ?_⟩
      walk_at "new1"
      refine ⟨p1, _, rfl, .inr (SqT.of h1), rfl, rfl, _, rfl, ite2 (fun z => absurd z (by decide +kernel)) (fun _ => ?_)⟩
      exact ⟨_, rfl, _, rfl, r.1, _, rfl, fun J sJ => k J (s1.trans sJ)⟩
    · have es : sortOf r.2.2.2 = "compare" := by
        rw [e]
        decide +kernel
      rw [es]
      have hm := (show mOk D.consts.length D.names.length D.slots.length r.2.2.2 n ↔ _ from e ▸ mOk_x)
      rw [mean_x e] at k
      refine ⟨_, rfl, rfl, _, rfl, ite2 (fun z => absurd (of_decide_eq_true z) (by decide +kernel)) (fun _ => ?_)⟩
      refine ⟨_, rfl, rfl, _, rfl, ite2 (fun z => absurd (of_decide_eq_true z) (by decide +kernel)) (fun _ => ?_)⟩
      refine ⟨_, rfl, rfl, _, rfl, ite2 (fun z => absurd (of_decide_eq_true z) (by decide +kernel)) (fun _ => ?_)⟩
      refine ⟨_, rfl, rfl, _, rfl, ite2 (fun z => absurd (of_decide_eq_true z) (by decide +kernel)) (fun _ => ?_)⟩
      refine ⟨_, rfl, rfl, _, rfl, ite2 (fun z => absurd (of_decide_eq_true z) (by decide +kernel)) (fun _ => ?_)⟩
      refine ⟨_, rfl, rfl, _, rfl, ite2 (fun z => absurd (of_decide_eq_true z) (by decide +kernel)) (fun _ => ?_)⟩
      refine ⟨_, rfl, (by show 2 ≤ sizeLine; decide), ?_⟩
      walk_at "new1"
      refine ⟨p1, _, rfl, .inr (SqT.of h1), rfl, rfl, _, rfl, ite2 (fun _ => ?_) (fun z => absurd (by decide +kernel) z)⟩
      exact ⟨_, rfl, _, rfl, r.1, _, rfl, fun J sJ => k J (s1.trans sJ)⟩
    · have es : sortOf r.2.2.2 = "name" := by
        rw [e]
        decide +kernel
      rw [es]
      have hm := (show mOk D.consts.length D.names.length D.slots.length r.2.2.2 n ↔ _ from e ▸ mOk_n)
      rw [mean_n e] at k
      refine ⟨_, rfl, rfl, _, rfl, ite2 (fun z => absurd (of_decide_eq_true z) (by decide +kernel)) (fun _ => ?_)⟩
      refine ⟨_, rfl, rfl, _, rfl, ite2 (fun _ => ?_) (fun z => absurd (decide_eq_true rfl) z)⟩
      refine ⟨_, rfl, c, Cc, dx, fs, _, rfl, hc, G.ins.cl, G.na _ (by decide), ln, _, rfl, tn, _, n, rfl, hn', (fun q => absurd (hm.mp hOk) (by rw [List.length_map] at q; omega)), fun v hv => ?_⟩
      rw [List.getElem?_map] at hv
      obtain ⟨x, hx, rfl⟩ := Option.map_eq_some_iff.mp hv
      rw [List.getD_eq_getElem?_getD, hx] at k
      exact k _ (Same.refl _)
    · have es : sortOf r.2.2.2 = "slot" := by
        rw [e]
        decide +kernel
      rw [es]
      have hm := (show mOk D.consts.length D.names.length D.slots.length r.2.2.2 n ↔ _ from e ▸ mOk_l)
      rw [mean_l e] at k
      refine ⟨_, rfl, rfl, _, rfl, ite2 (fun z => absurd (of_decide_eq_true z) (by decide +kernel)) (fun _ => ?_)⟩
      refine ⟨_, rfl, rfl, _, rfl, ite2 (fun z => absurd (of_decide_eq_true z) (by decide +kernel)) (fun _ => ?_)⟩
      refine ⟨_, rfl, rfl, _, rfl, ite2 (fun z => absurd (of_decide_eq_true z) (by decide +kernel)) (fun _ => ?_)⟩
      refine ⟨_, rfl, rfl, _, rfl, ite2 (fun _ => ?_) (fun z => absurd (decide_eq_true rfl) z)⟩
      refine ⟨_, rfl, c, Cc, dx, fs, _, rfl, hc, G.ins.cl, G.na _ (by decide), ls, _, rfl, ts, _, n, rfl, hs', (fun q => absurd (hm.mp hOk) (by rw [List.length_map] at q; omega)), fun v hv => ?_⟩
      rw [List.getElem?_map] at hv
      obtain ⟨x, hx, rfl⟩ := Option.map_eq_some_iff.mp hv
      rw [List.getD_eq_getElem?_getD, hx] at k
      exact k _ (Same.refl _)
    · have es : sortOf r.2.2.2 = "jump" := by
        rw [e]
        decide +kernel
      rw [es]
      have hm := (show mOk D.consts.length D.names.length D.slots.length r.2.2.2 n ↔ _ from e ▸ mOk_j)
      rw [mean_j e] at k
      refine ⟨_, rfl, rfl, _, rfl, ite2 (fun z => absurd (of_decide_eq_true z) (by decide +kernel)) (fun _ => ?_)⟩
      refine ⟨_, rfl, rfl, _, rfl, ite2 (fun z => absurd (of_decide_eq_true z) (by decide +kernel)) (fun _ => ?_)⟩
      refine ⟨_, rfl, rfl, _, rfl, ite2 (fun z => absurd (of_decide_eq_true z) (by decide +kernel)) (fun _ => ?_)⟩
      refine ⟨_, rfl, rfl, _, rfl, ite2 (fun z => absurd (of_decide_eq_true z) (by decide +kernel)) (fun _ => ?_)⟩
      refine ⟨_, rfl, rfl, _, rfl, ite2 (fun z => absurd (of_decide_eq_true z) (by decide +kernel)) (fun _ => ?_)⟩
      refine ⟨_, rfl, rfl, _, rfl, ite2 (fun _ => ?_) (fun z => absurd (decide_eq_true rfl) z)⟩
      refine ⟨_, rfl, _, _, rfl, rfl, _, rfl, ite2 (fun c9 => ?_) (fun c9 => ?_)⟩
      · rw [if_pos (show backS r.1 = true from c9)] at k
        refine ⟨_, rfl, _, rfl, _, _, rfl, rfl, .inl ⟨by decide, by decide⟩, _, _, rfl, rfl, _, rfl, lg (by omega) (by omega), _, _, rfl, rfl, sl (by omega) (by omega), k _ (Same.refl _)⟩
      · rw [if_neg (show ¬ backS r.1 = true from c9)] at k
        refine ⟨_, rfl, _, rfl, _, _, rfl, rfl, .inl ⟨by decide, by decide⟩, _, _, rfl, rfl, _, rfl, lg (by omega) (by omega), _, _, rfl, rfl, sl (by omega) (by omega), k _ (Same.refl _)⟩
    · have es : sortOf r.2.2.2 = "more" := by
        rw [e]
        decide +kernel
      rw [es]
      have hm := (show mOk D.consts.length D.names.length D.slots.length r.2.2.2 n ↔ _ from e ▸ mOk_m)
      rw [mean_m e] at k
      refine ⟨_, rfl, rfl, _, rfl, ite2 (fun z => absurd (of_decide_eq_true z) (by decide +kernel)) (fun _ => ?_)⟩
      refine ⟨_, rfl, rfl, _, rfl, ite2 (fun z => absurd (of_decide_eq_true z) (by decide +kernel)) (fun _ => ?_)⟩
      refine ⟨_, rfl, rfl, _, rfl, ite2 (fun _ => ?_) (fun z => absurd (decide_eq_true rfl) z)⟩
      obtain ⟨z, hz, zl⟩ := more_of r hr1 e
      refine ⟨_, rfl, c, Cc, dx, fs, _, rfl, hc, G.ins.cl, G.na _ (by decide), ln, _, rfl, _, _, rfl, rfl, (by show (0 : Int) ≤ 1; decide), tn, _, n / 2, congrArg (fun y => [V.ref tn, V.int y]) (shr1 n), hn', (fun q => absurd (hm.mp hOk) (by rw [List.length_map] at q; omega)), fun v hv => ?_⟩
      rw [List.getElem?_map] at hv
      obtain ⟨x, hx, rfl⟩ := Option.map_eq_some_iff.mp hv
      have ez : more0 r.1 = z := by
        unfold more0
        rw [hz]
        rfl
      rw [List.getD_eq_getElem?_getD, hx, ez] at k
      have xl : x.length ≤ 1000 := (hnm.1 x (List.mem_of_getElem? hx)).1
      refine ⟨_, rfl, .inr r.1, _, rfl, rfl, hz, _, rfl, _, _, rfl, rfl, z, _, rfl, rfl, ?_⟩
      rw [and1 n]
      rcases Nat.mod_two_eq_zero_or_one n with q | q
      · rw [q]
        rw [if_pos q] at k
        exact .inl ⟨rfl, _, _, rfl, rfl, Nat.le_trans (Nat.add_le_add xl (Nat.zero_le 20)) (by decide), k _ (Same.refl _)⟩
      · rw [q]
        rw [if_neg (by omega)] at k
        exact .inr ⟨rfl, _, _, rfl, rfl, Nat.le_trans (Nat.add_le_add xl zl) (by decide), k _ (Same.refl _)⟩
    · have es : sortOf r.2.2.2 = "constant" := by
        rw [e]
        decide +kernel
      rw [es]
      have hm := (show mOk D.consts.length D.names.length D.slots.length r.2.2.2 n ↔ _ from e ▸ mOk_c)
      rw [mean_c e] at k
      refine ⟨_, rfl, rfl, _, rfl, ite2 (fun _ => ?_) (fun z => absurd (decide_eq_true rfl) z)⟩
      refine ⟨_, rfl, c, Cc, dx, fs, _, rfl, hc, G.ins.cl, G.na _ (by decide), lk, _, rfl, tk, D.consts, n, rfl, hk, (fun q => absurd (hm.mp hOk) (Nat.not_lt.mpr q)), fun v hv => ?_⟩
      exact ⟨v, _, rfl, hcon.2 n v hv, k _ (Same.refl _)⟩
    · have es : sortOf r.2.2.2 = "pair" := by
        rw [e]
        decide +kernel
      rw [es]
      have hm := (show mOk D.consts.length D.names.length D.slots.length r.2.2.2 n ↔ _ from e ▸ mOk_p)
      rw [mean_p e] at k
      refine ⟨_, rfl, rfl, _, rfl, ite2 (fun z => absurd (of_decide_eq_true z) (by decide +kernel)) (fun _ => ?_)⟩
      refine ⟨_, rfl, rfl, _, rfl, ite2 (fun z => absurd (of_decide_eq_true z) (by decide +kernel)) (fun _ => ?_)⟩
      refine ⟨_, rfl, rfl, _, rfl, ite2 (fun z => absurd (of_decide_eq_true z) (by decide +kernel)) (fun _ => ?_)⟩
      refine ⟨_, rfl, rfl, _, rfl, ite2 (fun z => absurd (of_decide_eq_true z) (by decide +kernel)) (fun _ => ?_)⟩
      refine ⟨_, rfl, rfl, _, rfl, ite2 (fun _ => ?_) (fun z => absurd (decide_eq_true rfl) z)⟩
      refine ⟨_, rfl, c, Cc, dx, fs, _, rfl, hc, G.ins.cl, G.na _ (by decide), ls, _, rfl, _, _, rfl, rfl, (by show (0 : Int) ≤ 4; decide), ts, _, n / 16, congrArg (fun y => [V.ref ts, V.int y]) (shr4 n), hs', (fun q => absurd (hm.mp hOk).1 (by rw [List.length_map] at q; omega)), fun v hv => ?_⟩
      rw [List.getElem?_map] at hv
      obtain ⟨x, hx, rfl⟩ := Option.map_eq_some_iff.mp hv
      have xl : x.length ≤ 1000 := (hsl.1 x (List.mem_of_getElem? hx)).1
      refine ⟨_, _, rfl, rfl, Nat.le_trans (Nat.add_le_add_right xl _) (by decide), ?_⟩
      refine ⟨_, rfl, c, Cc, dx, fs, _, rfl, hc, G.ins.cl, G.na _ (by decide), ls, _, rfl, _, _, rfl, rfl, ts, _, n % 16, congrArg (fun y => [V.ref ts, V.int y]) (and15 n), hs', (fun q => absurd (hm.mp hOk).2 (by rw [List.length_map] at q; omega)), fun v hv => ?_⟩
      rw [List.getElem?_map] at hv
      obtain ⟨y, hy, rfl⟩ := Option.map_eq_some_iff.mp hv
      have yl : y.length ≤ 1000 := (hsl.1 y (List.mem_of_getElem? hy)).1
      rw [List.getD_eq_getElem?_getD, hx, List.getD_eq_getElem?_getD, hy] at k
      refine ⟨_, _, rfl, rfl, ?_, k _ (Same.refl _)⟩
      show (x.cps ++ (", " : Str).cps).size + y.cps.size ≤ sizeLine
      rw [Array.size_append]
      have xl : x.cps.size ≤ 1000 := xl
      have yl : y.cps.size ≤ 1000 := yl
      exact Nat.le_trans (Nat.add_le_add (Nat.add_le_add_right xl _) yl) (by decide +kernel)
end
end K57
set_option maxHeartbeats 4000000
set_option pp.maxSteps 600
namespace K57
open PySem PySem.Spec PyProof.Rows L2 Nd
/-! ### the line of a place -/
abbrev s_line_at : Stmt := top 47
abbrev s_law_line_at : Stmt := top 65
abbrev s_lines_of : Stmt := top 46
def inR (o : Int) (r : R3) : Bool := decide (r.lo ≤ o) && decide (o < r.hi)
/-- the line of the first row that holds o -/
def lineAt (rows : List R3) (o : Int) : Option Int := match rows.find? (inR o) with
  | some r => r.ln
  | none => none
def fl (rows : List R3) (o : Int) : List (Option Int) := (rows.filter (inR o)).map R3.ln
theorem fl_nil {rows : List R3} {o : Int} (h : fl rows o = []) : lineAt rows o = none := by
  unfold fl at h
  unfold lineAt
  rw [← List.head?_filter, List.map_eq_nil_iff.mp h]
  rfl
theorem fl_cons {rows : List R3} {o : Int} {x : Option Int} {t : List (Option Int)} (h : fl rows o = x :: t) : lineAt rows o = x := by
  unfold fl at h
  unfold lineAt
  rw [← List.head?_filter]
  cases e : rows.filter (inR o) with
  | nil =>
    rw [e] at h
    cases h
  | cons a b =>
    rw [e] at h
    injection h with h _
theorem fl_len (rows : List R3) (o : Int) : (fl rows o).length ≤ rows.length := by
  unfold fl
  rw [List.length_map]
  exact List.length_filter_le _ _
theorem dp_lns {K : PySem.W.Frag} {H : Hp} : ∀ l : List (Option Int), DpAll K H (l.map lnV) (l.map lnD)
  | [] => .nil
  | o :: t => .cons (dp_ln o) (dp_lns t)
theorem lay_lns : ∀ l : List (Option Int), PyData.canLayAll0 (l.map lnD) = true
  | [] => by simp [PyData.canLayAll0]
  | o :: t => by
    simp only [List.map_cons, PyData.canLayAll0, lay_lns t]
    cases o <;> rfl
theorem dep_lns : ∀ l : List (Option Int), PyData.depthAll (l.map lnD) = 0
  | [] => by simp [PyData.depthAll]
  | o :: t => by
    simp only [List.map_cons, PyData.depthAll, dep_lns t]
    cases o <;> rfl
theorem shaped_lns (l : List (Option Int)) : SeqAt.shaped (.list (l.map lnD)) = true := by
  have h1 := dep_lns l
  have h2 : PyData.depth (.list (l.map lnD)) ≤ 64 := by
    simp only [PyData.depth]
    omega
  show (PyData.canLay0 (.list (l.map lnD)) && decide (PyData.depth (.list (l.map lnD)) ≤ 64)) = true
  rw [Bool.and_eq_true]
  exact ⟨by simp only [PyData.canLay0]; exact lay_lns l, decide_eq_true h2⟩
def spLineAt : Sp := fun vs H Q _ => ∃ (a : Addr) (xs : List V) (rows : List R3) (o : Int), vs = [.ref a, .int o] ∧ H a = some (.lst xs) ∧ TupsAt R3.vs H xs rows ∧ rows.length ≤ 100000 ∧ ∀ H', Same H H' → Q (lnV (lineAt rows o)) H'
section
variable {P : Program} {w : World} {K : PySem.W.Frag} {mg : Str → Option Value} {base : Heap} {Cc Cn Ct fT : Addr}
abbrev N_line_at : List Str := ["rows", "offset", "found", "begin", "end", "line"]
theorem sc_line_at : FnScope N_line_at ["rows", "offset"] (defScope s_line_at) := ⟨rfl, rfl, rfl, by decide +kernel, rfl, by decide +kernel, by decide +kernel⟩
theorem ok_line_at {f : Addr} {fd : FuncData} (F : DefX K mg "line_at" s_line_at ["rows", "offset"] f fd) : CalX P w K mg base 1 "line_at" spLineAt := by
  refine calx F sc_line_at (fun vs H Q E h => ?_) (fun cdv A outer s H vs Q E hr h => ?_)
  · obtain ⟨a, xs, rows, o, rfl, _⟩ := h
    rfl
  · obtain ⟨a, xs, rows, o, rfl, ha, hT, hl, k⟩ := h
    refine ⟨_, (pss_cons (ps_setLc (i := 2) (y := "found") (own := [("begin", 3), ("end", 4), ("line", 5)]) (g := gTup K 3 (gCons (gName 3) (gCons (gName 4) (gCons (gName 5) gNil)))) rfl sc_line_at.nd rfl rfl (sw_true rfl rfl rfl (by decide +kernel)) (pi_list (pv 0)) (blkOk_by (own := [("begin", 3), ("end", 4), ("line", 5)]) (N := N_line_at) (sc := defScope s_line_at) (by decide +kernel)) (fun _ _ _ _ _ => (pg_tup rfl (pgs_cons (pg_name (i := 3) sc_line_at.nd rfl (Or.inl rfl)) (pgs_cons (pg_name (i := 4) sc_line_at.nd rfl (Or.inl rfl)) (pgs_cons (pg_name (i := 5) sc_line_at.nd rfl (Or.inl rfl)) pgs_nil))))) (fun _ _ _ _ _ => (pts_one (pt_chain op_le op_lt (pv 3) (pv 1) (pv 4)))) (fun _ _ _ _ _ => (pv 5)))
    (pss_one (ps_ret (pe_ifExp (pt_cmpR (op_neD hr.units) (pv 2) (pe_lst pa_nil) (nomark _)) (pe_ix ix_list (pv 2) pe_int (fun _ _ => rfl)) pe_non)))), ?_⟩
    refine ⟨_, rfl, a, rfl, ⟨_, SqL.of ha⟩, fun D nD => lc_list (K := K) (a := a) (xs := xs) (fun i H' => Same H H' ∧ H' D = some (.lst ((fl (rows.take i) o).map lnV))) ⟨Same.new nD, upd_same⟩ (fun i H' _ p => SqL.of (p.1 _ _ ha)) ?_ ?_⟩
    · rintro i x H' hi ⟨s0, hD⟩
      obtain ⟨p, r, hr0, rfl, hp⟩ := (hT.same s0).get hi
      have hil : i < rows.length := (List.getElem?_eq_some_iff.mp hr0).1
      have hnext : fl (rows.take (i + 1)) o = fl (rows.take i) o ++ (if inR o r = true then [r.ln] else []) := by
        rw [List.take_add_one, hr0]
        unfold fl
        rw [List.filter_append, List.map_append]
        congr 1
        show List.map _ (List.filter _ [r]) = _
        rw [List.filter_cons]
        split <;> rfl
      have hlen : (fl (rows.take i) o).length < sizeLine := by
        have := fl_len (rows.take i) o
        rw [List.length_take] at this
        rw [sizeLine_eq]
        omega
      refine ⟨p, _, rfl, SqT.of hp, rfl, _, _, rfl, _, _, rfl, _, _, rfl, rfl, ?_⟩
      refine ⟨rfl, _, rfl, _, rfl, _, _, rfl, rfl, _, rfl, ite2 (fun c => ?_) (fun c => ?_)⟩
      · have c1 := of_decide_eq_true c
        refine ⟨_, rfl, _, _, rfl, rfl, _, rfl, ite2 (fun c2 => ?_) (fun c2 => ?_)⟩
        · have c2 := of_decide_eq_true c2
          have hin : inR o r = true := by
            unfold inR
            rw [decide_eq_true c1, decide_eq_true c2]
            rfl
          refine ⟨_, rfl, _, hD, (by rw [List.length_map]; exact hlen), Same.mut s0 nD, ?_⟩
          rw [upd_same, hnext, if_pos hin, List.map_append]
          rfl
        · have hin : ¬ inR o r = true := fun z => by
            unfold inR at z
            rw [Bool.and_eq_true] at z
            exact c2 z.2
          refine ⟨s0, ?_⟩
          rw [hnext, if_neg hin, List.append_nil]
          exact hD
      · have hin : ¬ inR o r = true := fun z => by
          unfold inR at z
          rw [Bool.and_eq_true] at z
          exact c z.1
        refine ⟨_, rfl, iteF ⟨s0, ?_⟩⟩
        rw [hnext, if_neg hin, List.append_nil]
        exact hD
    · rintro H' ⟨s0, hD⟩
      rw [hT.len, List.take_length] at hD
      refine ⟨_, rfl, (by show 0 ≤ sizeLine; decide), ?_⟩
      walk_at "new1"
      refine ⟨.list ((fl rows o).map lnD), .list [], Dp.lst (SqL.of (s1 _ _ hD)) (dp_lns _), Dp.lst (SqL.of h1) .nil, shaped_lns _, rfl, _, rfl, ?_⟩
      have kk := k _ (s0.trans s1)
      cases e9 : fl rows o with
      | nil =>
        rw [fl_nil e9] at kk
        exact iteF kk
      | cons x t =>
        have e : PyData.eqv (.list ((x :: t).map lnD)) (.list []) = false := rfl
        rw [e]
        rw [fl_cons e9] at kk
        rw [e9] at hD
        exact iteT ⟨_, rfl, D, _, _, _, rfl, rfl, SqL.of (s1 _ _ hD), atI_nat (j := 0) (v := lnV x) rfl, kk⟩
abbrev N_law_line_at : List Str := ["lines", "at", "found", "low", "high", "line"]
theorem sc_law_line_at : FnScope N_law_line_at ["lines", "at"] (defScope s_law_line_at) := ⟨rfl, rfl, rfl, by decide +kernel, rfl, by decide +kernel, by decide +kernel⟩
theorem ok_law_line_at {f : Addr} {fd : FuncData} (F : DefX K mg "_law_line_at" s_law_line_at ["lines", "at"] f fd) : CalX P w K mg base 1 "_law_line_at" spLineAt := by
  refine calx F sc_law_line_at (fun vs H Q E h => ?_) (fun cdv A outer s H vs Q E hr h => ?_)
  · obtain ⟨a, xs, rows, o, rfl, _⟩ := h
    rfl
  · obtain ⟨a, xs, rows, o, rfl, ha, hT, hl, k⟩ := h
    refine ⟨_, (pss_cons (ps_setLc (i := 2) (y := "found") (own := [("low", 3), ("high", 4), ("line", 5)]) (g := gTup K 3 (gCons (gName 3) (gCons (gName 4) (gCons (gName 5) gNil)))) rfl sc_law_line_at.nd rfl rfl (sw_true rfl rfl rfl (by decide +kernel)) (pi_list (pv 0)) (blkOk_by (own := [("low", 3), ("high", 4), ("line", 5)]) (N := N_law_line_at) (sc := defScope s_law_line_at) (by decide +kernel)) (fun _ _ _ _ _ => (pg_tup rfl (pgs_cons (pg_name (i := 3) sc_law_line_at.nd rfl (Or.inl rfl)) (pgs_cons (pg_name (i := 4) sc_law_line_at.nd rfl (Or.inl rfl)) (pgs_cons (pg_name (i := 5) sc_law_line_at.nd rfl (Or.inl rfl)) pgs_nil))))) (fun _ _ _ _ _ => (pts_one (pt_chain op_le op_lt (pv 3) (pv 1) (pv 4)))) (fun _ _ _ _ _ => (pv 5)))
    (pss_one (ps_ret (pe_ifExp (pt_cmpR (op_neD hr.units) (pv 2) (pe_lst pa_nil) (nomark _)) (pe_ix ix_list (pv 2) pe_int (fun _ _ => rfl)) pe_non)))), ?_⟩
    refine ⟨_, rfl, a, rfl, ⟨_, SqL.of ha⟩, fun D nD => lc_list (K := K) (a := a) (xs := xs) (fun i H' => Same H H' ∧ H' D = some (.lst ((fl (rows.take i) o).map lnV))) ⟨Same.new nD, upd_same⟩ (fun i H' _ p => SqL.of (p.1 _ _ ha)) ?_ ?_⟩
    · rintro i x H' hi ⟨s0, hD⟩
      obtain ⟨p, r, hr0, rfl, hp⟩ := (hT.same s0).get hi
      have hil : i < rows.length := (List.getElem?_eq_some_iff.mp hr0).1
      have hnext : fl (rows.take (i + 1)) o = fl (rows.take i) o ++ (if inR o r = true then [r.ln] else []) := by
        rw [List.take_add_one, hr0]
        unfold fl
        rw [List.filter_append, List.map_append]
        congr 1
        show List.map _ (List.filter _ [r]) = _
        rw [List.filter_cons]
        split <;> rfl
      have hlen : (fl (rows.take i) o).length < sizeLine := by
        have := fl_len (rows.take i) o
        rw [List.length_take] at this
        rw [sizeLine_eq]
        omega
      refine ⟨p, _, rfl, SqT.of hp, rfl, _, _, rfl, _, _, rfl, _, _, rfl, rfl, ?_⟩
      refine ⟨rfl, _, rfl, _, rfl, _, _, rfl, rfl, _, rfl, ite2 (fun c => ?_) (fun c => ?_)⟩
      · have c1 := of_decide_eq_true c
        refine ⟨_, rfl, _, _, rfl, rfl, _, rfl, ite2 (fun c2 => ?_) (fun c2 => ?_)⟩
        · have c2 := of_decide_eq_true c2
          have hin : inR o r = true := by
            unfold inR
            rw [decide_eq_true c1, decide_eq_true c2]
            rfl
          refine ⟨_, rfl, _, hD, (by rw [List.length_map]; exact hlen), Same.mut s0 nD, ?_⟩
          rw [upd_same, hnext, if_pos hin, List.map_append]
          rfl
        · have hin : ¬ inR o r = true := fun z => by
            unfold inR at z
            rw [Bool.and_eq_true] at z
            exact c2 z.2
          refine ⟨s0, ?_⟩
          rw [hnext, if_neg hin, List.append_nil]
          exact hD
      · have hin : ¬ inR o r = true := fun z => by
          unfold inR at z
          rw [Bool.and_eq_true] at z
          exact c z.1
        refine ⟨_, rfl, iteF ⟨s0, ?_⟩⟩
        rw [hnext, if_neg hin, List.append_nil]
        exact hD
    · rintro H' ⟨s0, hD⟩
      rw [hT.len, List.take_length] at hD
      refine ⟨_, rfl, (by show 0 ≤ sizeLine; decide), ?_⟩
      walk_at "new1"
      refine ⟨.list ((fl rows o).map lnD), .list [], Dp.lst (SqL.of (s1 _ _ hD)) (dp_lns _), Dp.lst (SqL.of h1) .nil, shaped_lns _, rfl, _, rfl, ?_⟩
      have kk := k _ (s0.trans s1)
      cases e9 : fl rows o with
      | nil =>
        rw [fl_nil e9] at kk
        exact iteF kk
      | cons x t =>
        have e : PyData.eqv (.list ((x :: t).map lnD)) (.list []) = false := rfl
        rw [e]
        rw [fl_cons e9] at kk
        rw [e9] at hD
        exact iteT ⟨_, rfl, D, _, _, _, rfl, rfl, SqL.of (s1 _ _ hD), atI_nat (j := 0) (v := lnV x) rfl, kk⟩
/-! ### lines_of -/
def LinesOk (D : CD) (rows : List R3) : Prop := (∃ es, D.lines = tb (chE (joinE es)) D.line ∧ EsOk es ∧ Bas D.line ∧ rows = rowsOf (joinE es) 0) ∨ (D.lines = [7] ∧ rows = [])
theorem LinesOk.len {D : CD} {rows : List R3} (h : LinesOk D rows) : rows.length ≤ 100000 := by
  rcases h with ⟨es, _, ok, _, rfl⟩ | ⟨_, rfl⟩
  · rw [rows_len]
    exact ok.join.len
  · exact Nat.zero_le _
def spLinesOf (K : PySem.W.Frag) (Cc : Addr) : Sp := fun vs H Q _ => ∃ (c : Addr) (D : CD) (m : Int) (rows : List R3), vs = [.ref c] ∧ CodeAt Cc H c D m ∧ LinesOk D rows ∧ ∀ q xs H', Same H H' → H' q = some (.lst xs) → TupsAt R3.vs H' xs rows → Q (.ref q) H'
theorem ch_ok {es : List En} (h : EsOk es) : CsOk (chE es) := by
  refine ⟨fun e he => ?_, fun e he => ?_, Nat.le_trans (chE_len es) h.t⟩
  · obtain ⟨x, _, _, h1, h2⟩ := chE_mem he
    exact ⟨h1, h2⟩
  · obtain ⟨x, hx, e1, _⟩ := chE_mem he
    rw [e1]
    exact h.l x hx
theorem join_ch {es : List En} (h : EsOk es) : joinE (chE (joinE es)) = joinE es := by
  rw [cut_join (cut_ch _ h.join.u), join_join]
abbrev N_lines_of : List Str := ["code"]
theorem sc_lines_of : FnScope N_lines_of ["code"] (defScope s_lines_of) := ⟨rfl, rfl, rfl, by decide +kernel, rfl, by decide +kernel, by decide +kernel⟩
theorem ok_lines_of {f f1 : Addr} {fd fd1 : FuncData} {Cn' : Addr} (TT : GTb P K mg Ct fT) (tm : PySem.W.exmOne K (.ref Ct) (.ref Ct) = some true) (L : DefX K mg "line_rows" s_line_rows ["code"] f1 fd1) (FL : FnOk P w K mg base (L2.CX P w) 3 f1 fd1 ["code"] (spLRows K Cc Cn' Ct)) (F : DefX K mg "lines_of" s_lines_of ["code"] f fd) : CalX P w K mg base 4 "lines_of" (spLinesOf K Cc) := by
  refine calx F sc_lines_of (fun vs H Q E h => ?_) (fun cdv A outer s H vs Q E hr h => ?_)
  · obtain ⟨c, D, m, rows, rfl, _⟩ := h
    rfl
  · obtain ⟨c, D, m, rows, rfl, hC, h, k⟩ := h
    refine ⟨_, pss_one (ps_try_only (X := (cxOf C8.CX0 P w K mg base N_lines_of "lines_of" (defScope s_lines_of) f cdv A outer s H C8.E0).nox) (c := .ref Ct) (Wout := fun _ _ _ _ => False) (tb := fun W D σ H => tRet (tCallS (spLRows K Cc Cn' Ct) (fun σ cls d H' => W cls d σ H') (tCons (tVar 0) tNil)) D σ H) (ts := fun _ _ _ => tRet (tLst tNil))
      rfl rfl ⟨rfl, by decide, .inl TT.gT⟩ LamX.takes0 (fun W pn xe tk _ => pss_one (ps_ret (pe_callS FL (hr.mono (by decide)) rfl L.mgf L.fn.kp L.bi (fun σ => passAt tk σ) (pa_cons (pv 0) pa_nil)))) (fun a oe cls d pn _ _ => pss_one (ps_ret (pe_lst pa_nil)))), ?_⟩
    obtain ⟨dx, fs, hc, _, _, _, _, _, _, _, _, _, _, _, ll, ⟨tl, lt, hl⟩, _⟩ := hC
    rcases h with ⟨es, el, ok, bl, rfl⟩ | ⟨el, rfl⟩
    · rw [el] at hl
      refine ⟨_, rfl, .ref c, rfl, .inl ⟨c, dx, fs, D.line, tl, chE (joinE es), rfl, hc, ll, lt, SqT.of hl, ch_ok ok.join, bl, fun q H' xs _ s hq hT => ?_⟩⟩
      rw [join_rows, join_ch ok] at hT
      exact k q xs H' s hq hT
    · rw [el] at hl
      refine ⟨_, rfl, .ref c, rfl, .inr (.inl ⟨c, dx, fs, D.line, tl, rfl, hc, ll, lt, SqT.of hl, fun d H' s hd => ?_⟩)⟩
      refine ⟨true, tm, fun _ a na => ?_, fun z => by cases z⟩
      have s2 : Same H' (upd H' d (.xd [("at", .int 0)])) := Same.new hd
      generalize upd H' d (.xd [("at", .int 0)]) = H2 at s2 na ⊢
      refine ⟨(by show 0 ≤ sizeLine; decide), ?_⟩
      walk_at "new3"
      exact k p3 [] H3 ((s.trans s2).trans s3) h3 trivial
end
end K57
set_option maxHeartbeats 4000000
set_option pp.maxSteps 600
namespace K57
open PySem PySem.Spec PyProof.Rows L2 Nd
abbrev s_law_table : Stmt := top 53
def sm : List Str := (["BEFORE_WITH 2 0 - BINARY_SLICE 4 0 - BINARY_SUBSCR 5 1 - CHECK_EXC_MATCH 7 0 - CLEANUP_THROW 8 0 -", "DELETE_SUBSCR 9 0 - END_FOR 11 0 - END_SEND 12 0 - GET_ITER 19 0 - GET_YIELD_FROM_ITER 21 0 -", "LOAD_ASSERTION_ERROR 23 0 - LOAD_BUILD_CLASS 24 0 - LOAD_LOCALS 25 0 - MAKE_FUNCTION 26 0 -", "NOP 30 0 - POP_EXCEPT 31 0 - POP_TOP 32 0 - PUSH_EXC_INFO 33 0 - PUSH_NULL 34 0 -", "RETURN_GENERATOR 35 0 - RETURN_VALUE 36 0 - STORE_SLICE 38 0 - STORE_SUBSCR 39 1 - TO_BOOL 40 3 -", "UNARY_INVERT 41 0 - UNARY_NEGATIVE 42 0 - UNARY_NOT 43 0 - WITH_EXCEPT_START 44 0 - BINARY_OP 45 1 o", "BUILD_CONST_KEY_MAP 46 0 k BUILD_LIST 47 0 k BUILD_MAP 48 0 k BUILD_TUPLE 52 0 k CALL 53 3 k", "CALL_FUNCTION_EX 54 0 k CALL_INTRINSIC_1 55 0 k CALL_KW 57 0 k COMPARE_OP 58 1 x CONTAINS_OP 59 1 k", "COPY 61 0 k COPY_FREE_VARS 62 0 k DELETE_ATTR 63 0 n DELETE_DEREF 64 0 l DELETE_FAST 65 0 l", "DELETE_GLOBAL 66 0 n DELETE_NAME 67 0 n DICT_MERGE 68 0 k FOR_ITER 72 1 j IS_OP 76 0 k"] : List Str) ++ (["JUMP_BACKWARD 77 1 j JUMP_BACKWARD_NO_INTERRUPT 78 0 j JUMP_FORWARD 79 0 j LIST_APPEND 80 0 k", "LIST_EXTEND 81 0 k LOAD_ATTR 82 9 m LOAD_CONST 83 0 c LOAD_DEREF 84 0 l LOAD_FAST 85 0 l", "LOAD_FAST_CHECK 87 0 l LOAD_FAST_LOAD_FAST 88 0 p LOAD_FROM_DICT_OR_DEREF 89 0 l LOAD_GLOBAL 91 4 m", "LOAD_NAME 92 0 n MAKE_CELL 94 0 l MAP_ADD 95 0 k POP_JUMP_IF_FALSE 97 1 j POP_JUMP_IF_NONE 98 1 j", "POP_JUMP_IF_NOT_NONE 99 1 j POP_JUMP_IF_TRUE 100 1 j RAISE_VARARGS 101 0 k RERAISE 102 0 k", "RETURN_CONST 103 0 c SEND 104 1 j SET_FUNCTION_ATTRIBUTE 106 0 k STORE_ATTR 108 4 n", "STORE_DEREF 109 0 l STORE_FAST 110 0 l STORE_FAST_LOAD_FAST 111 0 p STORE_FAST_STORE_FAST 112 0 p", "STORE_GLOBAL 113 0 n STORE_NAME 114 0 n SWAP 115 0 k UNPACK_EX 116 0 k UNPACK_SEQUENCE 117 1 k", "YIELD_VALUE 118 0 k RESUME 149 0 k"] : List Str)
def wl0 : List Str := ["BEFORE_WITH", "2", "0", "-", "BINARY_SLICE", "4", "0", "-", "BINARY_SUBSCR", "5", "1", "-", "CHECK_EXC_MATCH", "7", "0", "-", "CLEANUP_THROW", "8", "0", "-", "DELETE_SUBSCR", "9", "0", "-"]
def wl1 : List Str := ["END_FOR", "11", "0", "-", "END_SEND", "12", "0", "-", "GET_ITER", "19", "0", "-", "GET_YIELD_FROM_ITER", "21", "0", "-", "LOAD_ASSERTION_ERROR", "23", "0", "-", "LOAD_BUILD_CLASS", "24", "0", "-"]
def wl2 : List Str := ["LOAD_LOCALS", "25", "0", "-", "MAKE_FUNCTION", "26", "0", "-", "NOP", "30", "0", "-", "POP_EXCEPT", "31", "0", "-", "POP_TOP", "32", "0", "-", "PUSH_EXC_INFO", "33", "0", "-"]
def wl3 : List Str := ["PUSH_NULL", "34", "0", "-", "RETURN_GENERATOR", "35", "0", "-", "RETURN_VALUE", "36", "0", "-", "STORE_SLICE", "38", "0", "-", "STORE_SUBSCR", "39", "1", "-", "TO_BOOL", "40", "3", "-"]
def wl4 : List Str := ["UNARY_INVERT", "41", "0", "-", "UNARY_NEGATIVE", "42", "0", "-", "UNARY_NOT", "43", "0", "-", "WITH_EXCEPT_START", "44", "0", "-", "BINARY_OP", "45", "1", "o", "BUILD_CONST_KEY_MAP", "46", "0", "k"]
def wl5 : List Str := ["BUILD_LIST", "47", "0", "k", "BUILD_MAP", "48", "0", "k", "BUILD_TUPLE", "52", "0", "k", "CALL", "53", "3", "k", "CALL_FUNCTION_EX", "54", "0", "k", "CALL_INTRINSIC_1", "55", "0", "k"]
def wl6 : List Str := ["CALL_KW", "57", "0", "k", "COMPARE_OP", "58", "1", "x", "CONTAINS_OP", "59", "1", "k", "COPY", "61", "0", "k", "COPY_FREE_VARS", "62", "0", "k", "DELETE_ATTR", "63", "0", "n"]
def wl7 : List Str := ["DELETE_DEREF", "64", "0", "l", "DELETE_FAST", "65", "0", "l", "DELETE_GLOBAL", "66", "0", "n", "DELETE_NAME", "67", "0", "n", "DICT_MERGE", "68", "0", "k", "FOR_ITER", "72", "1", "j"]
def wl8 : List Str := ["IS_OP", "76", "0", "k", "JUMP_BACKWARD", "77", "1", "j", "JUMP_BACKWARD_NO_INTERRUPT", "78", "0", "j", "JUMP_FORWARD", "79", "0", "j", "LIST_APPEND", "80", "0", "k", "LIST_EXTEND", "81", "0", "k"]
def wl9 : List Str := ["LOAD_ATTR", "82", "9", "m", "LOAD_CONST", "83", "0", "c", "LOAD_DEREF", "84", "0", "l", "LOAD_FAST", "85", "0", "l", "LOAD_FAST_CHECK", "87", "0", "l", "LOAD_FAST_LOAD_FAST", "88", "0", "p"]
def wl10 : List Str := ["LOAD_FROM_DICT_OR_DEREF", "89", "0", "l", "LOAD_GLOBAL", "91", "4", "m", "LOAD_NAME", "92", "0", "n", "MAKE_CELL", "94", "0", "l", "MAP_ADD", "95", "0", "k", "POP_JUMP_IF_FALSE", "97", "1", "j"]
def wl11 : List Str := ["POP_JUMP_IF_NONE", "98", "1", "j", "POP_JUMP_IF_NOT_NONE", "99", "1", "j", "POP_JUMP_IF_TRUE", "100", "1", "j", "RAISE_VARARGS", "101", "0", "k", "RERAISE", "102", "0", "k", "RETURN_CONST", "103", "0", "c"]
def wl12 : List Str := ["SEND", "104", "1", "j", "SET_FUNCTION_ATTRIBUTE", "106", "0", "k", "STORE_ATTR", "108", "4", "n", "STORE_DEREF", "109", "0", "l", "STORE_FAST", "110", "0", "l", "STORE_FAST_LOAD_FAST", "111", "0", "p"]
def wl13 : List Str := ["STORE_FAST_STORE_FAST", "112", "0", "p", "STORE_GLOBAL", "113", "0", "n", "STORE_NAME", "114", "0", "n", "SWAP", "115", "0", "k", "UNPACK_EX", "116", "0", "k", "UNPACK_SEQUENCE", "117", "1", "k"]
def wl14 : List Str := ["YIELD_VALUE", "118", "0", "k", "RESUME", "149", "0", "k"]
def wl : List Str := wl0 ++ wl1 ++ wl2 ++ wl3 ++ wl4 ++ wl5 ++ wl6 ++ wl7 ++ wl8 ++ wl9 ++ wl10 ++ wl11 ++ wl12 ++ wl13 ++ wl14
theorem join_tl : TL.joinL [32] (sm.map TL.tl) = TL.joinL [32] (wl.map TL.tl) := by decide +kernel
theorem wl_no : ∀ p ∈ wl, 32 ∉ TL.tl p := by decide +kernel
theorem wl_len : wl.length = 344 := by decide +kernel
theorem spc : TL.tl (" " : Str) = [32] := by decide +kernel
theorem sm_join : Txt.join " " sm = Txt.join " " wl := TL.ext_tl (by rw [TL.join_eq, TL.join_eq, TL.tl_join, TL.tl_join, spc, join_tl])
theorem split_ok : Txt.split (Txt.join " " sm) " " = wl := by
  rw [sm_join]
  exact TL.split_join (s := 32) (S := []) spc (by decide +kernel) (fun z => by
    have h := wl_len
    rw [z] at h
    cases h) wl_no
def wlB : Bool := (List.range 86).all fun j => match rws[j]? with
  | some r => decide (wl[4 * j]? = some r.1) && ((match wl[4 * j + 1]? with
    | some x => decide (PySem.intText? x = some r.2.1) && decide (x.length ≤ 640)
    | none => false) && ((match wl[4 * j + 2]? with
    | some x => decide (PySem.intText? x = some ((r.2.2.1 : Nat) : Int)) && decide (x.length ≤ 640)
    | none => false) && decide (wl[4 * j + 3]? = some r.2.2.2)))
  | none => false
theorem wlB_ok : wlB = true := by decide +kernel
theorem wl_at {j : Nat} (hj : j < 86) : ∃ r x y, rws[j]? = some r ∧ wl[4 * j]? = some r.1 ∧ wl[4 * j + 1]? = some x ∧ PySem.intText? x = some r.2.1 ∧ x.length ≤ 640 ∧ wl[4 * j + 2]? = some y ∧ PySem.intText? y = some ((r.2.2.1 : Nat) : Int) ∧ y.length ≤ 640 ∧ wl[4 * j + 3]? = some r.2.2.2 := by
  have h := List.all_eq_true.mp wlB_ok j (List.mem_range.mpr hj)
  cases e : rws[j]? with
  | none =>
    rw [e] at h
    cases h
  | some r =>
    rw [e] at h
    obtain ⟨h1, h⟩ := He.ba h
    obtain ⟨h2, h⟩ := He.ba h
    obtain ⟨h3, h4⟩ := He.ba h
    cases e1 : wl[4 * j + 1]? with
    | none =>
      rw [e1] at h2
      cases h2
    | some x =>
      rw [e1] at h2
      cases e2 : wl[4 * j + 2]? with
      | none =>
        rw [e2] at h3
        cases h3
      | some y =>
        rw [e2] at h3
        obtain ⟨a1, a2⟩ := He.ba h2
        obtain ⟨b1, b2⟩ := He.ba h3
        exact ⟨r, x, y, rfl, of_decide_eq_true h1, rfl, of_decide_eq_true a1, of_decide_eq_true a2, rfl, of_decide_eq_true b1, of_decide_eq_true b2, of_decide_eq_true h4⟩
theorem rws_len : rws.length = 86 := by decide +kernel
theorem rws_nd : (rws.map (·.1)).Nodup := by decide +kernel
theorem sm_fit : (sm.map (·.length)).sum + sm.length * (" " : Str).length ≤ 16777216 := by decide +kernel
theorem sm_sz : (TL.joinL [32] (sm.map TL.tl)).length ≤ 2000 := by decide +kernel
theorem sm_len : (Txt.join " " sm).length + 2 ≤ sizeLine := by
  have h := sm_sz
  rw [TL.len_tl, TL.join_eq, TL.tl_join, spc, sizeLine_eq]
  omega
/-! ### the table in the heap -/
def rowT (r : Rw) : List V := [.int r.2.1, .int ((r.2.2.1 : Nat) : Int), .str r.2.2.2]
def KvAt (H : Hp) : List (Key × V) → List Rw → Prop
  | [], [] => True
  | kv :: kvs, r :: rs => (kv.1 = Sum.inr r.1 ∧ ∃ q, kv.2 = .ref q ∧ H q = some (.tup (rowT r))) ∧ KvAt H kvs rs
  | _, _ => False
theorem KvAt.same {H H' : Hp} (s : Same H H') : ∀ {kvs : List (Key × V)} {rs : List Rw}, KvAt H kvs rs → KvAt H' kvs rs
  | [], [], _ => trivial
  | _ :: _, _ :: _, ⟨⟨e, q, e2, h⟩, t⟩ => ⟨⟨e, q, e2, s _ _ h⟩, KvAt.same s t⟩
  | [], _ :: _, h => h.elim
  | _ :: _, [], h => h.elim
theorem KvAt.mono {H H' : Hp} (s : ∀ q xs, H q = some (.tup xs) → H' q = some (.tup xs)) : ∀ {kvs : List (Key × V)} {rs : List Rw}, KvAt H kvs rs → KvAt H' kvs rs
  | [], [], _ => trivial
  | _ :: _, _ :: _, ⟨⟨e, q, e2, h⟩, t⟩ => ⟨⟨e, q, e2, s _ _ h⟩, KvAt.mono s t⟩
  | [], _ :: _, h => h.elim
  | _ :: _, [], h => h.elim
theorem KvAt.keys {H : Hp} : ∀ {kvs : List (Key × V)} {rs : List Rw}, KvAt H kvs rs → kvs.map (·.1) = (rs.map (·.1)).map Sum.inr
  | [], [], _ => rfl
  | _ :: _, _ :: _, ⟨⟨e, _⟩, t⟩ => by
    rw [List.map_cons, List.map_cons, List.map_cons, e, KvAt.keys t]
  | [], _ :: _, h => h.elim
  | _ :: _, [], h => h.elim
theorem KvAt.snoc {H : Hp} {r : Rw} {q : Addr} (hq : H q = some (.tup (rowT r))) : ∀ {kvs : List (Key × V)} {rs : List Rw}, KvAt H kvs rs → KvAt H (kvs ++ [(Sum.inr r.1, .ref q)]) (rs ++ [r])
  | [], [], _ => ⟨⟨rfl, q, rfl, hq⟩, trivial⟩
  | _ :: _, _ :: _, ⟨h, t⟩ => ⟨h, KvAt.snoc hq t⟩
  | [], _ :: _, h => h.elim
  | _ :: _, [], h => h.elim
theorem KvAt.new {H : Hp} {x : Str} : ∀ {kvs : List (Key × V)} {rs : List Rw}, KvAt H kvs rs → x ∉ rs.map (·.1) → valV kvs (Sum.inr x) = none
  | [], [], _, _ => rfl
  | kv :: kvs, r :: rs, ⟨⟨e, _⟩, t⟩, h => by
    rw [valV_neg (p := kv) (by
      rw [e]
      intro z
      exact h (by simp [Sum.inr.inj z]))]
    exact KvAt.new t fun z => h (by rw [List.map_cons]; exact List.mem_cons_of_mem _ z)
  | [], _ :: _, h, _ => h.elim
  | _ :: _, [], h, _ => h.elim
theorem KvAt.get {H : Hp} {r : Rw} : ∀ {kvs : List (Key × V)} {rs : List Rw}, KvAt H kvs rs → (rs.map (·.1)).Nodup → r ∈ rs → ∃ q, valV kvs (Sum.inr r.1) = some (.ref q) ∧ H q = some (.tup (rowT r))
  | [], [], _, _, h => absurd h (by simp)
  | kv :: kvs, r' :: rs, ⟨⟨e, q, e2, hq⟩, t⟩, nd, h => by
    rw [List.map_cons, List.nodup_cons] at nd
    rcases List.mem_cons.mp h with z | z
    · subst z
      exact ⟨q, by rw [valV_pos (p := kv) e, e2], hq⟩
    · obtain ⟨q', h1, h2⟩ := KvAt.get t nd.2 z
      refine ⟨q', ?_, h2⟩
      rw [valV_neg (p := kv) (by
        rw [e]
        intro y
        exact nd.1 (List.mem_map.mpr ⟨r, z, (Sum.inr.inj y).symm⟩))]
      exact h1
  | [], _ :: _, h, _, _ => h.elim
  | _ :: _, [], h, _, _ => h.elim
/-- the law's table lies at p -/
def TabAt (H : Hp) (p : Addr) : Prop := ∃ kvs, H p = some (.dK kvs) ∧ KvAt H kvs rws
theorem TabAt.same {H H' : Hp} {p : Addr} (s : Same H H') (h : TabAt H p) : TabAt H' p := by
  obtain ⟨kvs, h1, h2⟩ := h
  exact ⟨kvs, s _ _ h1, h2.same s⟩
def spTable : Sp := fun vs H Q _ => vs = [] ∧ ∀ p H', H p = none → Same H H' → TabAt H' p → Q (.ref p) H'
theorem rg86 : RgC 0 (((wl.map V.str).length : Nat) : Int) 4 86 := by
  rw [List.length_map, wl_len]
  exact ⟨by decide, by decide, by decide +kernel, by decide +kernel⟩
end K57
set_option maxHeartbeats 4000000
set_option pp.maxSteps 600
namespace K57
open PySem PySem.Spec PyProof.Rows L2 Nd
theorem not_before {i : Nat} {r : Rw} (h : rws[i]? = some r) : r.1 ∉ (rws.take i).map (·.1) := by
  obtain ⟨hi, e⟩ := List.getElem?_eq_some_iff.mp h
  have nd := rws_nd
  rw [← List.take_append_drop i rws, List.drop_eq_getElem_cons hi, e, List.map_append, List.map_cons] at nd
  exact fun z => (List.nodup_append.mp nd).2.2 _ z _ List.mem_cons_self rfl
section
variable {P : Program} {w : World} {K : PySem.W.Frag} {mg : Str → Option Value} {base : Heap}
abbrev N_law_table : List Str := ["some", "words", "found", "k"]
theorem sc_law_table : FnScope N_law_table [] (defScope s_law_table) := ⟨rfl, rfl, rfl, by decide +kernel, rfl, by decide +kernel, by decide +kernel⟩
theorem ok_law_table {f : Addr} {fd : FuncData} (T : Gl0 mg) (F : DefX K mg "_law_table" s_law_table [] f fd) : CalX P w K mg base 1 "_law_table" spTable := by
  refine calx F sc_law_table (fun vs H Q E h => ?_) (fun cdv A outer s H vs Q E hr h => ?_)
  · obtain ⟨rfl, _⟩ := h
    rfl
  · obtain ⟨rfl, k⟩ := h
    refine ⟨_, (pss_cons (ps_set (i := 0) sc_law_table.nd rfl (.inl rfl) (pe_lst (pa_cons pe_str (pa_cons pe_str (pa_cons pe_str (pa_cons pe_str (pa_cons pe_str (pa_cons pe_str (pa_cons pe_str (pa_cons pe_str (pa_cons pe_str (pa_cons pe_str (pa_cons pe_str (pa_cons pe_str (pa_cons pe_str (pa_cons pe_str (pa_cons pe_str (pa_cons pe_str (pa_cons pe_str (pa_cons pe_str (pa_cons pe_str pa_nil)))))))))))))))))))))
    (pss_cons (ps_par (i := 1) (j := 2) (by rfl) sc_law_table.nd rfl rfl (by decide) rfl rfl (pa_cons (pe_split (pe_join pe_str (pv 0)) pe_str) (pa_cons pe_dnewK pa_nil)) (by rfl))
    (pss_cons (ps_for PassesOwn.never rfl (pi_range3 (by rfl) T.n_range (pa_cons pe_int (pa_cons (pe_callB call_len_seq (by rfl) T.n_len Boot.«len» (pa_cons (pv 1) pa_nil)) (pa_cons pe_int pa_nil)))) (pg_name (i := 3) sc_law_table.nd rfl (.inl rfl))
      (pss_one (ps_dput (Nat.lt_of_le_of_lt (Nat.add_le_add_left (by decide : 1 ≤ 64) _) hr.units) (pv 2) (pe_ix ix_list (pv 1) (pv 3) (fun _ _ => rfl)) (pe_tup (pa_cons (pe_callTy call_int_str (by rfl) T.n_int Boot.«int» (pa_cons (pe_ix ix_list (pv 1) (pe_op op_add (pv 3) pe_int) (fun _ _ => rfl)) pa_nil)) (pa_cons (pe_callTy call_int_str (by rfl) T.n_int Boot.«int» (pa_cons (pe_ix ix_list (pv 1) (pe_op op_add (pv 3) pe_int) (fun _ _ => rfl)) pa_nil)) (pa_cons (pe_ix ix_list (pv 1) (pe_op op_add (pv 3) pe_int) (fun _ _ => rfl)) pa_nil)))) rfl)))
    (pss_one (ps_ret (pv 2)))))), ?_⟩
    refine ⟨(by show 19 ≤ sizeLine; decide), ?_⟩
    walk_at "new1"
    replace h1 : H1 p1 = some (.lst (sm.map V.str)) := h1
    refine ⟨⟨_, rfl⟩, _, rfl, " ", p1, sm, rfl, rfl, .inl (SqL.of h1), sm_fit, ⟨_, rfl⟩, _, " ", rfl, rfl, by decide +kernel, sm_len, ?_⟩
    rw [split_ok]
    walk_at "new2"
    walk_at "new3"
    refine ⟨_, _, rfl, ?_⟩
    have h2' := s3 _ _ h2
    refine ⟨_, rfl, p2, _, rfl, .inl (SqL.of h2'), 0, _, 4, 86, rfl, rg86, ?_⟩
    refine for_rangeC (fun i σ H' => (∃ v3, σ = [some (.ref p1), some (.ref p2), some (.ref p3), v3]) ∧ Same H2 H' ∧ ∃ kvs, H' p3 = some (.dK kvs) ∧ KvAt H' kvs (rws.take i)) ⟨⟨_, rfl⟩, s3, [], h3, trivial⟩ ?_ ?_
    · rintro i σ H' hi ⟨⟨v3, rfl⟩, t, kvs, hd, hk⟩
      obtain ⟨r, x, y, er, w0, w1, ex, xl, w2, ey, yl, w3⟩ := wl_at hi
      have hw := SqL.of (K := K) (t _ _ h2)
      have at_ : ∀ {m : Nat} {z : Str} {q : Int}, wl[m]? = some z → q = (m : Int) → atI (wl.map V.str) q = some (V.str z) := fun e eq => by
        subst eq
        exact atI_nat (by rw [List.getElem?_map, e]; rfl)
      -- the value
      refine ⟨_, rfl, _, rfl, _, _, rfl, rfl, p2, _, _, _, rfl, rfl, hw, at_ w1 ?_, x, _, rfl, ex, xl, ?_⟩
      · show (0 : Int) + (i : Nat) * 4 + 1 = _
        omega
      refine ⟨_, rfl, _, rfl, _, _, rfl, rfl, p2, _, _, _, rfl, rfl, hw, at_ w2 ?_, y, _, rfl, ey, yl, ?_⟩
      · show (0 : Int) + (i : Nat) * 4 + 2 = _
        omega
      refine ⟨_, rfl, _, rfl, _, _, rfl, rfl, p2, _, _, _, rfl, rfl, hw, at_ w3 ?_, ?_⟩
      · show (0 : Int) + (i : Nat) * 4 + 3 = _
        omega
      refine ⟨(by show 3 ≤ sizeLine; decide), ?_⟩
      walk_at "new4"
      have hk4 := hk.same s4
      have hd4 := s4 _ _ hd
      have hw4 := SqL.of (K := K) ((t.trans s4) _ _ h2)
      refine ⟨_, rfl, _, rfl, _, rfl, p2, _, _, _, rfl, rfl, hw4, at_ w0 ?_, p3, _, rfl, DPut.k (k := Sum.inr r.1) hd4 ?_, ?_⟩
      · show (0 : Int) + (i : Nat) * 4 = _
        omega
      · have h9 := congrArg List.length hk4.keys
        rw [List.length_map, List.length_map, List.length_map, List.length_take] at h9
        rw [h9, sizeLine_eq]
        omega
      refine ⟨⟨_, rfl⟩, Same.mut (t.trans s4) n3, _, upd_same, ?_⟩
      have hnew : valV kvs (Sum.inr r.1) = none := hk4.new (not_before er)
      rw [putK_new _ hnew, List.take_add_one, er]
      refine KvAt.snoc ?_ (hk4.mono fun q xs e => ?_)
      · rw [upd_ne (fun z => by
          rw [z, hd4] at h4
          cases h4)]
        exact h4
      · rw [upd_ne (fun z => by
          rw [z, hd4] at e
          cases e)]
        exact e
    · rintro σ H' ⟨⟨v3, rfl⟩, t, kvs, hd, hk⟩
      rw [show rws.take 86 = rws from by rw [← rws_len, List.take_length]] at hk
      exact ⟨_, rfl, k p3 H' (s1.free (s2.free n3)) ((s1.trans s2).trans t) ⟨kvs, hd, hk⟩⟩
end
end K57
set_option maxHeartbeats 4000000
set_option pp.maxSteps 600
namespace K57
open PySem PySem.Spec PyProof.Rows L2 Nd
/-! ### the module's tables -/
section
variable {K : PySem.W.Frag} {w : World} {mg : Str → Option Value} {dN dC dS : Addr}
end
/-! ### how wide a number is -/
def wd (n : Nat) : Nat := if n < 256 then 1 else if n < 65536 then 2 else if n < 16777216 then 3 else 4
theorem wd_ok {n : Nat} (h : n < 4294967296) : (if ((PySem.Builtin.Int.intBits (n : Int) : Nat) : Int) + 7 > 15 then ((PySem.Builtin.Int.intBits (n : Int) : Nat) : Int) else 0) ≤ 32 := by
  have a := (PySem.intBits_le_iff (m := 32) (x := (n : Int))).mpr (by rw [Int.natAbs_natCast]; exact h)
  split <;> omega
theorem wd_max {n : Nat} (h : n < 4294967296) : (if (((PySem.Builtin.Int.intBits (n : Int) : Nat) : Int) + 7) / 8 > 1 then (((PySem.Builtin.Int.intBits (n : Int) : Nat) : Int) + 7) / 8 else 1) = ((wd n : Nat) : Int) := by
  have a1 : PySem.Builtin.Int.intBits (n : Int) ≤ 8 ↔ n < 2 ^ 8 := by
    rw [PySem.intBits_le_iff (m := 8) (x := (n : Int)), Int.natAbs_natCast]
  have a2 : PySem.Builtin.Int.intBits (n : Int) ≤ 16 ↔ n < 2 ^ 16 := by
    rw [PySem.intBits_le_iff (m := 16) (x := (n : Int)), Int.natAbs_natCast]
  have a3 : PySem.Builtin.Int.intBits (n : Int) ≤ 24 ↔ n < 2 ^ 24 := by
    rw [PySem.intBits_le_iff (m := 24) (x := (n : Int)), Int.natAbs_natCast]
  have a4 : PySem.Builtin.Int.intBits (n : Int) ≤ 32 ↔ n < 2 ^ 32 := by
    rw [PySem.intBits_le_iff (m := 32) (x := (n : Int)), Int.natAbs_natCast]
  generalize PySem.Builtin.Int.intBits (n : Int) = b at a1 a2 a3 a4 ⊢
  unfold wd
  split
  · split
    · omega
    · split
      · omega
      · split <;> omega
  · split
    · rfl
    · omega
theorem wd_rg (n : Nat) : 1 ≤ wd n ∧ wd n ≤ 4 := by
  unfold wd
  split
  · omega
  · split
    · omega
    · split <;> omega
section
variable {P : Program} {w : World} {K : PySem.W.Frag} {mg : Str → Option Value} {base : Heap} {dN dC dS : Addr}
/-! ### an instruction's bytes -/
def exI (n i : Nat) : List Int := (List.range i).flatMap fun j => [71, ((n / 256 ^ (wd n - 1 - j) % 256 : Nat) : Int)]
def ext (n : Nat) : List Int := exI n (wd n - 1)
theorem exI_len (n : Nat) : ∀ i, (exI n i).length = 2 * i
  | 0 => rfl
  | i + 1 => by
    have h := exI_len n i
    unfold exI at h ⊢
    rw [List.range_succ, List.flatMap_append, List.length_append, h]
    simp
    omega
theorem exI_succ (n i : Nat) : exI n (i + 1) = exI n i ++ [71, ((n / 256 ^ (wd n - 1 - i) % 256 : Nat) : Int)] := by
  unfold exI
  rw [List.range_succ, List.flatMap_append]
  simp
def pk (r : Rw) (n : Nat) : List Int := ext n ++ [r.2.1, ((n % 256 : Nat) : Int)] ++ List.replicate (2 * r.2.2.1) 0
theorem and255 (m : Nat) : Builtin.bitAnd (m : Int) 255 = ((m % 256 : Nat) : Int) := by
  have h := Bits.bitAnd_mask (x := (m : Int)) 8 (Int.natCast_nonneg _)
  have e : (2 : Int) ^ 8 - 1 = 255 := by decide
  have e2 : (2 : Int) ^ 8 = 256 := by decide
  rw [e, e2] at h
  rw [h]
  omega
theorem shr_place (n k i : Nat) (h : i < k) : (n : Int) / 2 ^ ((8 : Int) * ((k : Int) + (i : Int) * -1)).toNat = ((n / 256 ^ (k - i) : Nat) : Int) := by
  have e : ((8 : Int) * ((k : Int) + (i : Int) * -1)).toNat = 8 * (k - i) := by omega
  have e2 : (2 : Int) ^ (8 * (k - i)) = ((256 ^ (k - i) : Nat) : Int) := by
    rw [two_pow_cast]
    exact congrArg Nat.cast (Nat.pow_mul 2 8 (k - i))
  rw [e, e2]
  exact (Int.natCast_ediv _ _).symm
theorem rep1 (x : V) : ∀ m : Nat, (List.replicate m [x]).flatten = List.replicate m x
  | 0 => rfl
  | m + 1 => by rw [List.replicate_succ, List.flatten_cons, rep1 x m]; rfl
theorem cac_small : ∀ r ∈ rws, r.2.2.1 ≤ 9 := by decide +kernel
end
end K57
set_option maxHeartbeats 4000000
set_option pp.maxSteps 600
namespace K57
open PySem PySem.Spec PyProof.Rows L2 Nd
abbrev s_law_packed : Stmt := top 54
theorem NoSl_name {x : Str} {p : Pos} : NoSl (.Name x p) := fun _ _ => rfl
def plc : List Int := [16777216, 65536, 256]
def lx (n : Nat) (ps : List Int) : List Int := ps.flatMap fun p => if p ≤ (n : Int) then [71, (n : Int) / p % 256] else []
theorem lx_ext {n : Nat} (h : n < 4294967296) : lx n plc = ext n := by
  unfold lx plc ext exI wd
  by_cases c1 : n < 256
  · rw [if_pos c1]
    simp only [List.flatMap_cons, List.flatMap_nil, Nat.sub_self, List.range_zero]
    rw [if_neg (by omega), if_neg (by omega), if_neg (by omega)]
    rfl
  · rw [if_neg c1]
    by_cases c2 : n < 65536
    · rw [if_pos c2]
      simp only [List.flatMap_cons, List.flatMap_nil]
      rw [if_neg (by omega), if_neg (by omega), if_pos (by omega)]
      simp [List.range_succ]
    · rw [if_neg c2]
      by_cases c3 : n < 16777216
      · rw [if_pos c3]
        simp only [List.flatMap_cons, List.flatMap_nil]
        rw [if_neg (by omega), if_pos (by omega), if_pos (by omega)]
        simp [List.range_succ]
      · rw [if_neg c3]
        simp only [List.flatMap_cons, List.flatMap_nil]
        rw [if_pos (by omega), if_pos (by omega), if_pos (by omega)]
        simp [List.range_succ]
theorem lx_len (n : Nat) : ∀ (ps : List Int) {m : Nat}, ps.length ≤ m → m ≤ 3 → (lx n ps).length ≤ 6 := by
  intro ps m h hm
  have key : (lx n ps).length ≤ 2 * ps.length := by
    clear h
    induction ps with
    | nil => exact Nat.le_refl _
    | cons p ps ih =>
      unfold lx at ih ⊢
      rw [List.flatMap_cons, List.length_append, List.length_cons]
      split
      · show 2 + _ ≤ _
        omega
      · show 0 + _ ≤ _
        omega
  omega
def spLPacked : Sp := fun vs H Q _ => ∃ (t : Addr) (r : Rw) (n : Nat), vs = [.ref t, .str r.1, .int (n : Int)] ∧ TabAt H t ∧ r ∈ rws ∧ n < 4294967296 ∧ ∀ p H', H p = none → Same H H' → H' p = some (.lst ((pk r n).map V.int)) → Q (.ref p) H'
section
variable {P : Program} {w : World} {K : PySem.W.Frag} {mg : Str → Option Value} {base : Heap}
theorem u1 {k : Nat} {A : Around} (hr : Room k A) : A.units + 1 < cLine := Nat.lt_of_le_of_lt (Nat.add_le_add_left (by decide : 1 ≤ 64) _) hr.units
abbrev N_law_packed : List Str := ["table", "word", "number", "found", "place"]
theorem sc_law_packed : FnScope N_law_packed ["table", "word", "number"] (defScope s_law_packed) := ⟨rfl, rfl, rfl, by decide +kernel, rfl, by decide +kernel, by decide +kernel⟩
theorem ok_law_packed {f : Addr} {fd : FuncData} (T : Gl0 mg) (F : DefX K mg "_law_packed" s_law_packed ["table", "word", "number"] f fd) : CalX P w K mg base 1 "_law_packed" spLPacked := by
  refine calx F sc_law_packed (fun vs H Q E h => ?_) (fun cdv A outer s H vs Q E hr h => ?_)
  · obtain ⟨t, r, n, rfl, _⟩ := h
    rfl
  · obtain ⟨t, r, n, rfl, hT, hrow, hn, k⟩ := h
    refine ⟨_, (pss_cons (ps_set (i := 3) sc_law_packed.nd rfl (.inl rfl) (pe_lst pa_nil))
    (pss_cons (ps_for PassesOwn.never rfl (pi_tup (pe_tup (pa_cons pe_int (pa_cons pe_int (pa_cons pe_int pa_nil))))) (pg_name (i := 4) sc_law_packed.nd rfl (.inl rfl))
      (pss_one (ps_if (pt_cmpR op_ge (pv 2) (pv 4) (nomark _))
      (pss_one (ps_expr (pe_bm PySem.F.plainAttrs_list PySem.F.slot_list_extend PySem.F.type_list_extend mt_extend (pv 3) (pa_cons (pe_lst (pa_cons pe_int (pa_cons (pe_op op_mod (pe_callTy call_int1 (by rfl) T.n_int Boot.«int» (pa_cons (pe_op op_fdiv (pv 2) (pv 4)) pa_nil)) pe_int) pa_nil))) pa_nil))))
      pss_nil)))
    (pss_one (ps_ret (pe_op op_cat (pe_op op_cat (pv 3) (pe_lst (pa_cons (pe_ix ix_tup (pe_dget (u1 hr) (pv 0) (pv 1) NoSl_name) pe_int (fun _ _ => rfl)) (pa_cons (pe_op op_mod (pe_callTy call_int1 (by rfl) T.n_int Boot.«int» (pa_cons (pv 2) pa_nil)) pe_int) pa_nil)))) (pe_op op_rep (pe_lst (pa_cons pe_int pa_nil)) (pe_op op_mul pe_int (pe_ix ix_tup (pe_dget (u1 hr) (pv 0) (pv 1) NoSl_name) pe_int (fun _ _ => rfl))))))))), ?_⟩
    refine ⟨(by show 0 ≤ sizeLine; decide), ?_⟩
    walk_at "new1"
    refine ⟨(by show 3 ≤ sizeLine; decide), ?_⟩
    walk_at "new2"
    replace h2 : H2 p2 = some (.tup (plc.map V.int)) := h2
    refine ⟨p2, rfl, ⟨_, SqT.of h2⟩, for_tup (K := K) (a := p2) (xs := plc.map V.int) (fun i σ H' => (∃ v4, σ = [some (.ref t), some (.str r.1), some (.int (n : Int)), some (.ref p1), v4]) ∧ Same H H' ∧ H' p2 = some (.tup (plc.map V.int)) ∧ i ≤ 3 ∧ H' p1 = some (.lst ((lx n (plc.take i)).map V.int)))
      ⟨⟨_, rfl⟩, s1.trans s2, h2, Nat.zero_le _, s2 _ _ h1⟩ (fun i σ H' _ p => SqT.of p.2.2.1) ?_ ?_⟩
    · rintro i x σ H' hx ⟨⟨v4, rfl⟩, u, hp, hi, hf⟩
      rw [List.getElem?_map] at hx
      obtain ⟨p, hpl, rfl⟩ : ∃ p, plc[i]? = some p ∧ x = .int p := by
        cases e : plc[i]? with
        | none => rw [e] at hx; cases hx
        | some p => rw [e] at hx; exact ⟨p, rfl, (Option.some.inj hx).symm⟩
      have hi3 : i < 3 := (List.getElem?_eq_some_iff.mp hpl).1
      have hpp : 0 < p ∧ p < 1073741824 := by
        have h9 := List.mem_of_getElem? hpl
        simp only [plc, List.mem_cons, List.mem_nil_iff, or_false] at h9
        omega
      have hnx : lx n (plc.take (i + 1)) = lx n (plc.take i) ++ (if p ≤ (n : Int) then [71, (n : Int) / p % 256] else []) := by
        rw [List.take_add_one, hpl]
        unfold lx
        rw [List.flatMap_append]
        simp
      have hln : (lx n (plc.take i)).length ≤ 6 := lx_len n (plc.take i) (by rw [List.length_take]; exact Nat.min_le_left _ _) hi
      refine ⟨_, rfl, _, rfl, _, _, rfl, rfl, _, rfl, ite2 (fun c => ?_) (fun c => ?_)⟩
      · have c := of_decide_eq_true c
        refine ⟨_, rfl, .inl ⟨rfl, _, SqL.of hf⟩, _, rfl, _, rfl, _, _, rfl, rfl, hpp, .inl ⟨_, rfl, _, _, rfl, rfl, (by show (0 : Int) < 256; decide), ?_⟩⟩
        refine ⟨(by show 2 ≤ sizeLine; decide), ?_⟩
        walk_at "new3"
        refine ⟨p1, p3, _, _, rfl, rfl, s3 _ _ hf, h3, ?_, ⟨_, rfl⟩, Same.mut (u.trans s3) n1, ?_, hi3, ?_⟩
        · rw [List.length_map, sizeLine_eq]
          show (lx n (plc.take i)).length + 2 ≤ _
          omega
        · rw [upd_ne (fun z => by rw [z, hf] at hp; cases hp)]
          exact s3 _ _ hp
        · rw [upd_same, hnx, if_pos c, List.map_append]
          rfl
      · rw [hnx, if_neg (fun z => c (decide_eq_true z)), List.append_nil]
        exact ⟨⟨_, rfl⟩, u, hp, hi3, hf⟩
    · rintro σ H' ⟨⟨v4, rfl⟩, u, hp, hi, hf⟩
      rw [show plc.take (plc.map V.int).length = plc from rfl, lx_ext hn] at hf
      obtain ⟨kvs, hd, hk⟩ := hT.same u
      obtain ⟨q, hv, hq⟩ := hk.get rws_nd hrow
      refine ⟨_, rfl, _, rfl, _, rfl, t, _, rfl, (show DGet H' t (.str r.1) (some (.ref q)) from hv ▸ DGet.k (k := Sum.inr r.1) hd), q, _, _, _, rfl, rfl, SqT.of hq, rfl, ?_⟩
      refine ⟨_, rfl, .inl ⟨_, rfl, _, _, rfl, rfl, (by show (0 : Int) < 256; decide), ?_⟩⟩
      refine ⟨(by show 2 ≤ sizeLine; decide), ?_⟩
      walk_at "new3"
      refine ⟨p1, p3, _, _, rfl, rfl, s3 _ _ hf, h3, ?_, ?_⟩
      · rw [List.length_map, sizeLine_eq]
        have h9 := lx_len n plc (Nat.le_refl 3) (Nat.le_refl 3)
        rw [lx_ext hn] at h9
        show (ext n).length + 2 ≤ _
        omega
      walk_at "new4"
      refine ⟨(by show 1 ≤ sizeLine; decide), ?_⟩
      walk_at "new5"
      have u5 := ((u.trans s3).trans s4).trans s5
      have hd5 := ((s3.trans s4).trans s5) _ _ hd
      have hq5 := ((s3.trans s4).trans s5) _ _ hq
      have hsm := cac_small r hrow
      refine ⟨_, rfl, _, rfl, t, _, rfl, (show DGet H5 t (.str r.1) (some (.ref q)) from hv ▸ DGet.k (k := Sum.inr r.1) hd5), q, _, _, _, rfl, rfl, SqT.of hq5, rfl, ?_⟩
      refine ⟨_, _, rfl, rfl, .inl ⟨by decide, by decide⟩, p5, _, _, rfl, rfl, h5, (by omega), (by omega), ?_, ?_⟩
      · show 1 * ((2 : Int) * ((r.2.2.1 : Nat) : Int)).toNat ≤ sizeLine
        rw [sizeLine_eq]
        omega
      walk_at "new6"
      refine ⟨p4, p6, _, _, rfl, rfl, (s5.trans s6) _ _ h4, h6, ?_, ?_⟩
      · rw [List.length_append, List.length_map, rep1, List.length_replicate, sizeLine_eq]
        have h9 := lx_len n plc (Nat.le_refl 3) (Nat.le_refl 3)
        rw [lx_ext hn] at h9
        show (ext n).length + 2 + _ ≤ _
        omega
      walk_at "new7"
      refine k p7 H7 (u5.free (s6.free n7)) ((u5.trans s6).trans s7) ?_
      rw [h7, rep1, pk]
      have e9 : ((2 : Int) * ((r.2.2.1 : Nat) : Int)).toNat = 2 * r.2.2.1 := by omega
      rw [e9]
      simp
end
end K57
set_option maxHeartbeats 4000000
set_option pp.maxSteps 600
namespace K57
open PySem PySem.Spec PyProof.Rows L2 Nd
/-! ### what is cut of bytes, wherever they stand -/
theorem g_app {p e : List Int} {j : Nat} : g (p ++ e) (p.length + j) = g e j := by
  unfold g
  rw [List.getD_eq_getElem?_getD, List.getD_eq_getElem?_getD, List.getElem?_append_right (Nat.le_add_right _ _), Nat.add_sub_cancel_left]
theorem g_drop {e : List Int} {a j : Nat} : g e (a + j) = g (e.drop a) j := by
  unfold g
  rw [List.getD_eq_getElem?_getD, List.getD_eq_getElem?_getD, List.getElem?_drop]
theorem xGo_sh (p e : List Int) : ∀ (f i : Nat) (n : Int), xGo (p ++ e) p.length f (p.length + i) n = (xGo e 0 f i n).map fun z => (p.length + z.1, z.2)
  | 0, i, n => rfl
  | f + 1, i, n => by
    unfold xGo
    have e1 : g (p ++ e) (p.length + i) = g e i := g_app
    have e2 : g (p ++ e) (p.length + i + 1) = g e (i + 1) := by rw [Nat.add_assoc]; exact g_app
    have e3 := xGo_sh p e f (i + 2) ((n + g e (i + 1)) * 256)
    rw [← Nat.add_assoc] at e3
    rw [e1, e2, e3, List.length_append]
    have c1 : (p.length + i + 1 < p.length + e.length ∧ g e i = 71) ↔ (i + 1 < e.length ∧ g e i = 71) := by omega
    have c2 : (p.length + i = p.length + 6 ∨ (p.length + i = p.length ∧ g e (i + 1) = 0)) ↔ (i = 0 + 6 ∨ (i = 0 ∧ g e (i + 1) = 0)) := by omega
    simp only [c1, c2]
    split
    · split <;> rfl
    · rfl
theorem oneC_sh (p e : List Int) : oneC (p ++ e) p.length = (oneC e 0).map fun z => (p.length + z.1, z.2.1, z.2.2) := by
  have h := xGo_sh p e 4 0 0
  rw [Nat.add_zero] at h
  cases hx : xGo e 0 4 0 0 with
  | none =>
    rw [hx] at h
    rw [oneC_x hx, oneC_x h]
    rfl
  | some z =>
    obtain ⟨a, n⟩ := z
    rw [hx] at h
    rw [oneC_s hx, oneC_s (a := p.length + a) (n := n) h, g_app, List.length_append]
    have e2 : g (p ++ e) (p.length + a + 1) = g e (a + 1) := by rw [Nat.add_assoc]; exact g_app
    have c1 : (p.length + e.length ≤ p.length + a + 1) ↔ (e.length ≤ a + 1) := by omega
    rw [e2]
    simp only [c1]
    split
    · rfl
    · cases rowOf (g e a) with
      | none => rfl
      | some r =>
        have e3 : endOf (p.length + a) r = p.length + endOf a r := by
          unfold endOf
          omega
        have e4 : (p ++ e).drop (p.length + a + 2) = e.drop (a + 2) := by
          rw [Nat.add_assoc, ← List.drop_drop, List.drop_left]
        have e5 : p.length + endOf a r - (p.length + a + 2) = endOf a r - (a + 2) := by omega
        dsimp only
        rw [e3, e4, e5]
        have c2 : (p.length + e.length < p.length + endOf a r) ↔ (e.length < endOf a r) := by omega
        simp only [c2]
        split <;> rfl
theorem x_step {d : List Int} {b f i : Nat} {n : Int} (h1 : i + 1 < d.length) (h2 : g d i = 71) (h3 : ¬ (i = b + 6 ∨ (i = b ∧ g d (i + 1) = 0))) : xGo d b (f + 1) i n = xGo d b f (i + 2) ((n + g d (i + 1)) * 256) := by
  conv => lhs; unfold xGo
  rw [if_pos ⟨h1, h2⟩, if_neg h3]
theorem x_stop {d : List Int} {b f i : Nat} {n : Int} (h : ¬ (i + 1 < d.length ∧ g d i = 71)) : xGo d b (f + 1) i n = some (i, n) := by
  conv => lhs; unfold xGo
  rw [if_neg h]
theorem x_wrong {d : List Int} {b f i : Nat} {n : Int} (h1 : i + 1 < d.length) (h2 : g d i = 71) (h3 : i = b + 6 ∨ (i = b ∧ g d (i + 1) = 0)) : xGo d b (f + 1) i n = none := by
  conv => lhs; unfold xGo
  rw [if_pos ⟨h1, h2⟩, if_pos h3]
theorem row_self : ∀ r ∈ rws, rowOf r.2.1 = some r := by decide +kernel
theorem row_not71 : ∀ r ∈ rws, r.2.1 ≠ 71 := by decide +kernel
theorem one_core {e rest : List Int} {a : Nat} {m x : Int} {r : Rw} (hr : r ∈ rws) (hx : xGo e 0 4 0 0 = some (a, m)) (he : e.drop a = r.2.1 :: x :: (List.replicate (2 * r.2.2.1) 0 ++ rest)) : oneC e 0 = some (a, r, m + x) := by
  have hl := congrArg List.length he
  simp only [List.length_drop, List.length_cons, List.length_append, List.length_replicate] at hl
  have g0 : g e a = r.2.1 := by
    have := g_drop (e := e) (a := a) (j := 0)
    rw [Nat.add_zero, he] at this
    exact this
  have g1 : g e (a + 1) = x := by
    rw [g_drop, he]
    rfl
  have e2 : e.drop (a + 2) = List.replicate (2 * r.2.2.1) 0 ++ rest := by
    rw [← List.drop_drop, he]
    rfl
  have e3 : endOf a r - (a + 2) = 2 * r.2.2.1 := by
    unfold endOf
    omega
  rw [oneC_s hx, if_neg (by omega), g0, row_self r hr, g1]
  dsimp only
  rw [e2, e3, List.take_left' (by rw [List.length_replicate])]
  rw [if_neg]
  rintro (z | z)
  · unfold endOf at z
    omega
  · rw [List.any_eq_true] at z
    obtain ⟨y, hy, z⟩ := z
    rw [List.eq_of_mem_replicate hy] at z
    exact absurd z (by decide)
theorem ext_1 {n : Nat} (h : n < 256) : ext n = [] := by
  rw [← lx_ext (by omega)]
  unfold lx plc
  simp only [List.flatMap_cons, List.flatMap_nil]
  rw [if_neg (by omega), if_neg (by omega), if_neg (by omega)]
  rfl
theorem ext_2 {n : Nat} (h0 : 256 ≤ n) (h : n < 65536) : ext n = [71, (n : Int) / 256 % 256] := by
  rw [← lx_ext (by omega)]
  unfold lx plc
  simp only [List.flatMap_cons, List.flatMap_nil]
  rw [if_neg (by omega), if_neg (by omega), if_pos (by omega)]
  rfl
theorem ext_3 {n : Nat} (h0 : 65536 ≤ n) (h : n < 16777216) : ext n = [71, (n : Int) / 65536 % 256, 71, (n : Int) / 256 % 256] := by
  rw [← lx_ext (by omega)]
  unfold lx plc
  simp only [List.flatMap_cons, List.flatMap_nil]
  rw [if_neg (by omega), if_pos (by omega), if_pos (by omega)]
  rfl
theorem ext_4 {n : Nat} (h0 : 16777216 ≤ n) (h : n < 4294967296) : ext n = [71, (n : Int) / 16777216 % 256, 71, (n : Int) / 65536 % 256, 71, (n : Int) / 256 % 256] := by
  rw [← lx_ext h]
  unfold lx plc
  simp only [List.flatMap_cons, List.flatMap_nil]
  rw [if_pos (by omega), if_pos (by omega), if_pos (by omega)]
  rfl
theorem pk_app (r : Rw) (n : Nat) (post : List Int) : pk r n ++ post = ext n ++ (r.2.1 :: ((n % 256 : Nat) : Int) :: (List.replicate (2 * r.2.2.1) 0 ++ post)) := by
  unfold pk
  simp
theorem g_0 (x : Int) (l : List Int) : g (x :: l) 0 = x := rfl
theorem g_s (x : Int) (l : List Int) (i : Nat) : g (x :: l) (i + 1) = g l i := rfl
theorem xo {x : Int} {l : List Int} (h : x ≠ 71) (b f i : Nat) (n : Int) {e : List Int} (he : g e i = x) : xGo e b (f + 1) i n = some (i, n) := x_stop fun z => h (he.symm.trans z.2)
theorem one_pk {r : Rw} {n : Nat} {post : List Int} (hr : r ∈ rws) (hn : n < 4294967296) : oneC (pk r n ++ post) 0 = some ((ext n).length, r, (n : Int)) := by
  have h71 := row_not71 r hr
  rw [pk_app]
  generalize hx : ((n % 256 : Nat) : Int) = x
  generalize ht : (r.2.1 :: x :: (List.replicate (2 * r.2.2.1) 0 ++ post)) = t
  have gt : g t 0 = r.2.1 := by rw [← ht]; rfl
  have tl : 2 ≤ t.length := by rw [← ht]; simp
  by_cases c1 : n < 256
  · rw [ext_1 c1]
    have h := one_core (e := t) (a := 0) (m := 0) (x := x) (rest := post) hr (x_stop (fun z => h71 (gt.symm.trans z.2))) ht.symm
    refine Eq.trans h ?_
    refine congrArg some (Prod.ext rfl (Prod.ext rfl ?_))
    show (0 : Int) + x = n
    omega
  by_cases c2 : n < 65536
  · rw [ext_2 (by omega) c2]
    have hx1 : ¬ (n : Int) / 256 % 256 = 0 := by omega
    generalize hx3 : (n : Int) / 256 % 256 = x3 at hx1
    have h := one_core (e := 71 :: x3 :: t) (a := 2) (m := (0 + x3) * 256) (x := x) (rest := post) hr
      (Eq.trans (x_step (by simp) rfl (fun z => z.elim (fun z => by omega) fun z => hx1 z.2)) (x_stop (fun z => h71 (gt.symm.trans z.2)))) ht.symm
    refine Eq.trans h ?_
    refine congrArg some (Prod.ext rfl (Prod.ext rfl ?_))
    show (0 + x3) * 256 + x = n
    omega
  by_cases c3 : n < 16777216
  · rw [ext_3 (by omega) c3]
    have hx1 : ¬ (n : Int) / 65536 % 256 = 0 := by omega
    generalize hx3 : (n : Int) / 65536 % 256 = x3 at hx1
    generalize hx4 : (n : Int) / 256 % 256 = x4
    have h := one_core (e := 71 :: x3 :: 71 :: x4 :: t) (a := 4) (m := ((0 + x3) * 256 + x4) * 256) (x := x) (rest := post) hr
      (Eq.trans (x_step (by simp) rfl (fun z => z.elim (fun z => by omega) fun z => hx1 z.2)) (Eq.trans (x_step (by simp) rfl (fun z => z.elim (fun z => by omega) fun z => by omega)) (x_stop (fun z => h71 (gt.symm.trans z.2))))) ht.symm
    refine Eq.trans h ?_
    refine congrArg some (Prod.ext rfl (Prod.ext rfl ?_))
    show ((0 + x3) * 256 + x4) * 256 + x = n
    omega
  · rw [ext_4 (by omega) hn]
    have hx1 : ¬ (n : Int) / 16777216 % 256 = 0 := by omega
    generalize hx3 : (n : Int) / 16777216 % 256 = x3 at hx1
    generalize hx4 : (n : Int) / 65536 % 256 = x4
    generalize hx5 : (n : Int) / 256 % 256 = x5
    have h := one_core (e := 71 :: x3 :: 71 :: x4 :: 71 :: x5 :: t) (a := 6) (m := (((0 + x3) * 256 + x4) * 256 + x5) * 256) (x := x) (rest := post) hr
      (Eq.trans (x_step (by simp) rfl (fun z => z.elim (fun z => by omega) fun z => hx1 z.2)) (Eq.trans (x_step (by simp) rfl (fun z => z.elim (fun z => by omega) fun z => by omega)) (Eq.trans (x_step (by simp) rfl (fun z => z.elim (fun z => by omega) fun z => by omega)) (x_stop (fun z => h71 (gt.symm.trans z.2)))))) ht.symm
    refine Eq.trans h ?_
    refine congrArg some (Prod.ext rfl (Prod.ext rfl ?_))
    show (((0 + x3) * 256 + x4) * 256 + x5) * 256 + x = n
    omega
/-! ### chunks -/
def chs (cs : List (Rw × Nat)) : List Int := cs.flatMap fun c => pk c.1 c.2
theorem pk_len (r : Rw) (n : Nat) : (pk r n).length = (ext n).length + 2 + 2 * r.2.2.1 := by
  unfold pk
  simp
  omega
def COk (c : Rw × Nat) : Prop := c.1 ∈ rws ∧ c.2 < 4294967296
def crOf (low : Nat) (c : Rw × Nat) : Cr := ⟨low, low + (ext c.2).length, c.1, (c.2 : Int)⟩
def crsOf : Nat → List (Rw × Nat) → List Cr
  | _, [] => []
  | low, c :: t => crOf low c :: crsOf (low + (pk c.1 c.2).length) t
theorem crOf_e (low : Nat) (c : Rw × Nat) : (crOf low c).e = low + (pk c.1 c.2).length := by
  show endOf (low + (ext c.2).length) c.1 = _
  rw [pk_len]
  unfold endOf
  omega
theorem cut_chs : ∀ (cs : List (Rw × Nat)) (p : List Int) (f : Nat) (acc : List Cr), (∀ c ∈ cs, COk c) → (chs cs).length < f →
    cutGo (p ++ chs cs) f p.length acc = (acc ++ crsOf p.length cs, if acc ++ crsOf p.length cs = [] then some 0 else none)
  | [], p, f, acc, _, hf => by
    obtain ⟨f, rfl⟩ : ∃ f', f = f' + 1 := ⟨f - 1, by omega⟩
    have e : p ++ chs [] = p := List.append_nil _
    have e2 : acc ++ crsOf p.length [] = acc := List.append_nil _
    rw [e, e2]
    unfold cutGo
    rw [if_neg (Nat.lt_irrefl _)]
  | c :: t, p, f, acc, h, hf => by
    obtain ⟨f, rfl⟩ : ∃ f', f = f' + 1 := ⟨f - 1, by omega⟩
    obtain ⟨h1, h2⟩ := h c (List.mem_cons_self ..)
    have ec : chs (c :: t) = pk c.1 c.2 ++ chs t := rfl
    have hpl := pk_len c.1 c.2
    rw [ec, List.length_append] at hf
    have ih := cut_chs t (p ++ pk c.1 c.2) f (acc ++ [crOf p.length c]) (fun x hx => h x (List.mem_cons_of_mem _ hx)) (by omega)
    have e1 : oneC (p ++ pk c.1 c.2 ++ chs t) p.length = some (p.length + (ext c.2).length, c.1, (c.2 : Int)) := by
      rw [List.append_assoc, oneC_sh, one_pk h1 h2]
      rfl
    have e2 : endOf (p.length + (ext c.2).length) c.1 = (p ++ pk c.1 c.2).length := by
      rw [List.length_append, hpl]
      unfold endOf
      omega
    have ed : p ++ chs (c :: t) = p ++ pk c.1 c.2 ++ chs t := by rw [ec, List.append_assoc]
    rw [ed]
    conv => lhs; unfold cutGo
    rw [if_pos (by simp only [List.length_append, hpl]; omega), e1]
    dsimp only
    rw [e2]
    refine ih.trans ?_
    have e3 : crsOf p.length (c :: t) = [crOf p.length c] ++ crsOf (p ++ pk c.1 c.2).length t := by
      rw [List.length_append]
      rfl
    rw [e3, List.append_assoc]
theorem cut_all {cs : List (Rw × Nat)} (h : ∀ c ∈ cs, COk c) (hn : cs ≠ []) : cutAll (chs cs) = (crsOf 0 cs, none) := by
  have e := cut_chs cs [] ((chs cs).length + 1) [] h (by omega)
  unfold cutAll
  refine Eq.trans e ?_
  cases cs with
  | nil => exact absurd rfl hn
  | cons c t => rfl
theorem chs_app (a b : List (Rw × Nat)) : chs (a ++ b) = chs a ++ chs b := by
  unfold chs
  rw [List.flatMap_append]
theorem crs_len : ∀ (cs : List (Rw × Nat)) (low : Nat), (crsOf low cs).length = cs.length
  | [], _ => rfl
  | c :: t, low => congrArg Nat.succ (crs_len t _)
theorem crs_get : ∀ {cs : List (Rw × Nat)} {low i : Nat} {x : Cr}, (crsOf low cs)[i]? = some x → ∃ c, cs[i]? = some c ∧ x = crOf (low + (chs (cs.take i)).length) c
  | [], low, i, x, h => by simp [crsOf] at h
  | c :: t, low, 0, x, h => ⟨c, rfl, (Option.some.inj h).symm⟩
  | c :: t, low, i + 1, x, h => by
    obtain ⟨d, h1, h2⟩ := crs_get (cs := t) (i := i) h
    refine ⟨d, h1, ?_⟩
    rw [h2]
    have e : chs ((c :: t).take (i + 1)) = pk c.1 c.2 ++ chs (t.take i) := rfl
    rw [e, List.length_append, Nat.add_assoc]
end K57
set_option maxHeartbeats 4000000
set_option pp.maxSteps 600
namespace K57
open PySem PySem.Spec PyProof.Rows L2 Nd
/-! ### instructions -/
abbrev s_instructions : Stmt := top 48
mutual
theorem Dp.same {K : PySem.W.Frag} {H H' : Hp} (s : Same H H') : ∀ {x : V} {d : PyData}, Dp K H x d → Dp K H' x d
  | _, _, .non => .non
  | _, _, .bl b => .bl b
  | _, _, .int i => .int i
  | _, _, .str x => .str x
  | _, _, .lst h g => .lst (s.seq h) (DpAll.same s g)
  | _, _, .tup h g => .tup (seqT s h) (DpAll.same s g)
theorem DpAll.same {K : PySem.W.Frag} {H H' : Hp} (s : Same H H') : ∀ {xs : List V} {ds : List PyData}, DpAll K H xs ds → DpAll K H' xs ds
  | _, _, .nil => .nil
  | _, _, .cons h g => .cons (Dp.same s h) (DpAll.same s g)
end
theorem CT.same {K : PySem.W.Frag} {Cc : Addr} {H H' : Hp} {x : V} {z : Str} (s : Same H H') (h : CT K Cc H x z) : CT K Cc H' x z := by
  cases h with
  | dat h o h1 h2 h3 h4 => exact .dat (Dp.same s h) (o.same s) h1 h2 h3 h4
  | cod h h1 h2 => exact .cod (s _ _ h) h1 h2
theorem CTs.same {K : PySem.W.Frag} {Cc : Addr} {H H' : Hp} {xs : List V} {ts : List Str} (s : Same H H') (h : CTs K Cc H xs ts) : CTs K Cc H' xs ts := ⟨h.1, fun i x e => (h.2 i x e).same s⟩
/-- a row that is told -/
structure Ir where
  at_ : Int
  word : Str
  arg : Option Int
  means : Str
  line : Option Int
def Ir.vs (r : Ir) : List V := [.int r.at_, .str r.word, lnV r.arg, .str r.means, lnV r.line]
def exR (rows : List R3) (low : Nat) (c : Rw × Nat) (j : Nat) : Ir := ⟨((low + 2 * j : Nat) : Int), "EXTENDED_ARG", some ((ext c.2).getD (2 * j + 1) 0), "", lineAt rows ((low + 2 * j : Nat) : Int)⟩
def exRs (rows : List R3) (low : Nat) (c : Rw × Nat) (t : Nat) : List Ir := (List.range t).map (exR rows low c)
def argOf (c : Rw × Nat) : Option Int := if c.1.2.2.2 = "-" then none else some (c.2 : Int)
def lastR (ts names slots : List Str) (rows : List R3) (low : Nat) (c : Rw × Nat) : Ir := ⟨((low + (ext c.2).length : Nat) : Int), c.1.1, argOf c, meanS c.1 ts names slots c.2 ((low + (pk c.1 c.2).length : Nat) : Int), lineAt rows ((low + (ext c.2).length : Nat) : Int)⟩
def irC (ts names slots : List Str) (rows : List R3) (low : Nat) (c : Rw × Nat) : List Ir := exRs rows low c (wd c.2 - 1) ++ [lastR ts names slots rows low c]
def irAll (ts names slots : List Str) (rows : List R3) : Nat → List (Rw × Nat) → List Ir
  | _, [] => []
  | low, c :: t => irC ts names slots rows low c ++ irAll ts names slots rows (low + (pk c.1 c.2).length) t
theorem irAll_snoc {ts names slots : List Str} {rows : List R3} : ∀ (cs : List (Rw × Nat)) (low : Nat) (c : Rw × Nat), irAll ts names slots rows low (cs ++ [c]) = irAll ts names slots rows low cs ++ irC ts names slots rows (low + (chs cs).length) c
  | [], low, c => by
    show irC ts names slots rows low c ++ [] = [] ++ irC ts names slots rows (low + 0) c
    rw [List.append_nil]
    rfl
  | d :: t, low, c => by
    show irC ts names slots rows low d ++ irAll ts names slots rows _ (t ++ [c]) = _
    rw [irAll_snoc t]
    have e : (chs (d :: t)).length = (pk d.1 d.2).length + (chs t).length := by
      show (pk d.1 d.2 ++ chs t).length = _
      rw [List.length_append]
    rw [e, ← Nat.add_assoc, ← List.append_assoc]
    rfl
theorem exRs_succ (rows : List R3) (low : Nat) (c : Rw × Nat) (j : Nat) : exRs rows low c (j + 1) = exRs rows low c j ++ [exR rows low c j] := by
  unfold exRs
  rw [List.range_succ, List.map_append]
  rfl
theorem ext_length (n : Nat) : (ext n).length = 2 * (wd n - 1) := exI_len n _
theorem irC_len (ts names slots : List Str) (rows : List R3) (low : Nat) (c : Rw × Nat) : (irC ts names slots rows low c).length ≤ 4 := by
  have := (wd_rg c.2).2
  unfold irC exRs
  simp
  omega
theorem irAll_len (ts names slots : List Str) (rows : List R3) : ∀ (cs : List (Rw × Nat)) (low : Nat), (irAll ts names slots rows low cs).length ≤ 4 * cs.length
  | [], _ => Nat.le_refl _
  | c :: t, low => by
    have h1 := irC_len ts names slots rows low c
    have h2 := irAll_len ts names slots rows t (low + (pk c.1 c.2).length)
    show (irC ts names slots rows low c ++ irAll ts names slots rows _ t).length ≤ _
    rw [List.length_append, List.length_cons]
    omega
theorem sort_dash : ∀ r ∈ rws, (sortOf r.2.2.2 = "" ↔ r.2.2.2 = "-") := by
  have h : ∀ r ∈ rws, decide (sortOf r.2.2.2 = "") = decide (r.2.2.2 = ("-" : Str)) := by decide +kernel
  exact fun r hr => decide_eq_decide.mp (h r hr)
/-- what stands at the begin of a chunk -/
theorem chs_at {cs : List (Rw × Nat)} {i : Nat} {c : Rw × Nat} (h : cs[i]? = some c) : ∃ rest, chs cs = chs (cs.take i) ++ (pk c.1 c.2 ++ rest) ∧ (chs (cs.take i)).length + (pk c.1 c.2).length ≤ (chs cs).length := by
  obtain ⟨hi, e⟩ := List.getElem?_eq_some_iff.mp h
  have ed : cs = cs.take i ++ (c :: cs.drop (i + 1)) := by
    conv => lhs; rw [← List.take_append_drop i cs, List.drop_eq_getElem_cons hi, e]
  have e1 : chs cs = chs (cs.take i) ++ (pk c.1 c.2 ++ chs (cs.drop (i + 1))) := by
    conv => lhs; rw [ed, chs_app]
    rfl
  exact ⟨_, e1, by rw [e1, List.length_append, List.length_append]; omega⟩
theorem ext_at {cs : List (Rw × Nat)} {i : Nat} {c : Rw × Nat} (h : cs[i]? = some c) {j : Nat} (hj : j < (ext c.2).length) : g (chs cs) ((chs (cs.take i)).length + j) = (ext c.2).getD j 0 := by
  obtain ⟨rest, e, _⟩ := chs_at h
  rw [e, g_app]
  unfold g pk
  rw [List.append_assoc, List.append_assoc, List.getD_eq_getElem?_getD, List.getD_eq_getElem?_getD, List.getElem?_append_left hj]
def spInstr (K : PySem.W.Frag) (Cc : Addr) : Sp := fun vs H Q _ => ∃ (c : Addr) (D : CD) (m : Int) (cs : List (Rw × Nat)) (ts : List Str) (rows : List R3), vs = [.ref c] ∧ CodeAt Cc H c D m ∧ D.code = chs cs ∧ cs ≠ [] ∧ (∀ x ∈ cs, COk x ∧ mOk D.consts.length D.names.length D.slots.length x.1.2.2.2 x.2) ∧ Bys D.code ∧ cs.length ≤ 1000 ∧
  CTs K Cc H D.consts ts ∧ isStrs D.names ∧ isStrs D.slots ∧ LinesOk D rows ∧ ∀ p xs H', H p = none → Same H H' → H' p = some (.lst xs) → TupsAt Ir.vs H' xs (irAll ts D.names D.slots rows 0 cs) → Q (.ref p) H'
section
variable {P : Program} {w : World} {K : PySem.W.Frag} {mg : Str → Option Value} {base : Heap} {Cc Cn fI dN dW dC dS : Addr}
abbrev N_instructions : List Str := ["code", "rows", "wrong", "lines", "found", "begin", "offset", "word", "number", "end", "at", "argument"]
theorem sc_instructions : FnScope N_instructions ["code"] (defScope s_instructions) := ⟨rfl, rfl, rfl, by decide +kernel, rfl, by decide +kernel, by decide +kernel⟩
theorem ok_instructions {f : Addr} {fd : FuncData} (n_range : mg "range" = none) (G : GlK P K mg Cc Cn fI) (GT : GlT K w mg dN dW dC dS) (c_want_code : CalX P w K mg base 2 "want_code" (spWant K Cc Cn)) (c_cut : CalX P w K mg base 2 "cut" (spCut K)) (c_lines_of : CalX P w K mg base 4 "lines_of" (spLinesOf K Cc))
    (c_line_at : CalX P w K mg base 1 "line_at" spLineAt) (c_meaning : CalG P w K mg base 3 "meaning" (spMean K Cc)) (F : DefX K mg "instructions" s_instructions ["code"] f fd) : FnG P w K mg base 5 f fd ["code"] (spInstr K Cc) := by
  refine FunD.okG F.fn sc_instructions (fun vs H Q E h => ?_) (fun cdv A outer s H vs Q E hr hgu h => ?_)
  · obtain ⟨c, D, m, cs, ts, rows, rfl, _⟩ := h
    rfl
  · obtain ⟨c, D, m, cs, ts, rows, rfl, hC, eco, hne, hok, by1, hcl, hct, hnm, hsl, hli, k⟩ := h
    refine ⟨_, (pss_cons (ps_expr (pe_cr c_want_code hr (by decide) rfl (passE (E := E) (takes_of rfl rfl rfl rfl)) (pa_cons (pv 0) pa_nil)))
    (pss_cons (ps_asg (pe_cx c_cut hr (by decide) rfl (pa_cons (pe_fld (pv 0) rfl) pa_nil)) (pg_tup (by rfl) (pgs_cons (pg_name (i := 1) sc_instructions.nd rfl (.inl rfl)) (pgs_cons (pg_name (i := 2) sc_instructions.nd rfl (.inl rfl)) pgs_nil))))
    (pss_cons (ps_if (pt_cmpR op_notN (pv 2) pe_non (nomark _))
      (pss_one (ps_raise rfl (takes_of rfl rfl rfl rfl) (pmk_nx G.nx hr (pa_cons pe_str pa_nil) rfl G.gN)))
      pss_nil)
    (pss_cons (ps_set (i := 3) sc_instructions.nd rfl (.inl rfl) (pe_cx c_lines_of hr (by decide) rfl (pa_cons (pv 0) pa_nil)))
    (pss_cons (ps_set (i := 4) sc_instructions.nd rfl (.inl rfl) (pe_lst pa_nil))
    (pss_cons (ps_for (passes_of rfl) rfl (pi_list (pv 1)) (pg_tup (by rfl) (pgs_cons (pg_name (i := 5) sc_instructions.nd rfl (.inl rfl)) (pgs_cons (pg_name (i := 6) sc_instructions.nd rfl (.inl rfl)) (pgs_cons (pg_name (i := 7) sc_instructions.nd rfl (.inl rfl)) (pgs_cons (pg_name (i := 8) sc_instructions.nd rfl (.inl rfl)) (pgs_cons (pg_name (i := 9) sc_instructions.nd rfl (.inl rfl)) pgs_nil))))))
      (pss_cons (ps_for (passes_of rfl) rfl (pi_range3 (by rfl) n_range (pa_cons (pv 5) (pa_cons (pv 6) (pa_cons pe_int pa_nil)))) (pg_name (i := 10) sc_instructions.nd rfl (.inl rfl))
      (pss_one (ps_expr (pe_bm PySem.F.plainAttrs_list PySem.F.slot_list_append PySem.F.type_list_append mt_append (pv 4) (pa_cons (pe_tup (pa_cons (pv 10) (pa_cons pe_str (pa_cons (pe_ix ix_tup (pe_fld (pv 0) rfl) (pe_op op_add (pv 10) pe_int) (fun _ _ => rfl)) (pa_cons pe_str (pa_cons (pe_cx c_line_at hr (by decide) rfl (pa_cons (pv 3) (pa_cons (pv 10) pa_nil))) pa_nil)))))) pa_nil)))))
    (pss_cons (ps_set (i := 11) sc_instructions.nd rfl (.inl rfl) (pe_ifExp (pt_cmpR op_eq (pe_mget2 GT.S (C8.pe_gc rfl GT.c_SORTS) (pv 7) pe_str ⟨rfl, rfl, rfl, rfl⟩) pe_str (nomark _)) pe_non (pv 8)))
    (pss_one (ps_expr (pe_bm PySem.F.plainAttrs_list PySem.F.slot_list_append PySem.F.type_list_append mt_append (pv 4) (pa_cons (pe_tup (pa_cons (pv 6) (pa_cons (pv 7) (pa_cons (pv 11) (pa_cons (pe_cg (E := E) c_meaning hr (by decide) hgu rfl (passE (takes_of rfl rfl rfl rfl)) (pa_cons (pv 0) (pa_cons (pv 7) (pa_cons (pv 8) (pa_cons (pv 9) pa_nil))))) (pa_cons (pe_cx c_line_at hr (by decide) rfl (pa_cons (pv 3) (pa_cons (pv 6) pa_nil))) pa_nil)))))) pa_nil)))))))
    (pss_one (ps_ret (pv 4))))))))), ?_⟩
    have hC0 := hC
    obtain ⟨dx, fs, hc, _, _, _, _, ⟨tc, lc, hcode⟩, _⟩ := hC
    have hcut := cut_all (fun x hx => (hok x hx).1) hne
    refine ⟨_, rfl, _, rfl, .inl ⟨c, dx, fs, rfl, hc, ?_⟩⟩
    refine ⟨_, rfl, c, Cc, dx, fs, _, rfl, hc, G.ins.cl, G.na _ (by decide), lc, tc, D.code, rfl, hcode, by1, fun q f0 xs H1 s1 hq hf hT => ?_⟩
    rw [eco, hcut] at hq hT
    refine ⟨q, _, rfl, SqT.of hq, rfl, _, _, rfl, _, _, rfl, rfl, ?_⟩
    refine ⟨_, rfl, rfl, _, rfl, iteF ?_⟩
    refine ⟨_, rfl, c, D, m, rows, rfl, hC0.same s1, hli, fun pl lx J sl hpl hL => ?_⟩
    · refine ⟨(by show 0 ≤ sizeLine; decide), ?_⟩
      walk_at "new2"
      have SJ := s1.trans sl
      have hcJ : ∀ {A : Hp}, Same J A → A c = some (.ins Cc dx fs) := fun u => u _ _ (SJ _ _ hc)
      have hrows := hT.same sl
      have hxl : xs.length = cs.length := by rw [hT.len, crs_len]
      have rl := hli.len
      have W0 : ∀ i, (irAll ts D.names D.slots rows 0 (cs.take i)).length ≤ 4000 := fun i => by
        have := irAll_len ts D.names D.slots rows (cs.take i) 0
        rw [List.length_take] at this
        omega
      refine ⟨_, rfl, f0, rfl, ⟨_, SqL.of (s2 _ _ (sl _ _ hf))⟩, for_list (K := K) (a := f0) (xs := xs) (fun i σ H' => (∃ v5 v6 v7 v8 v9 v10 v11 ys, σ = [some (.ref c), some (.ref f0), some .non, some (.ref pl), some (.ref p2), v5, v6, v7, v8, v9, v10, v11] ∧ H' p2 = some (.lst ys) ∧ TupsAt Ir.vs H' ys (irAll ts D.names D.slots rows 0 (cs.take i))) ∧ Same J H')
        ⟨⟨_, _, _, _, _, _, _, [], rfl, h2, trivial⟩, s2⟩ (fun i σ H' _ p => SqL.of (p.2 _ _ (sl _ _ hf))) ?_ ?_⟩
      · rintro i x σ H' hi ⟨⟨v5, v6, v7, v8, v9, v10, v11, ys, rfl, hys, hI⟩, sJ⟩
        obtain ⟨pr, cr, hr0, rfl, hpr⟩ := hrows.get hi
        obtain ⟨cc, hcc, rfl⟩ := crs_get hr0
        rw [Nat.zero_add] at hpr
        have hm := List.mem_of_getElem? hcc
        obtain ⟨⟨k1, k2⟩, k3⟩ := hok cc hm
        obtain ⟨rest, _, hlow⟩ := chs_at hcc
        have hext := fun (j : Nat) (hj : j < (ext cc.2).length) => ext_at hcc hj
        have snoc := irAll_snoc (ts := ts) (names := D.names) (slots := D.slots) (rows := rows) (cs.take i) 0 cc
        rw [Nat.zero_add] at snoc
        have etake : cs.take (i + 1) = cs.take i ++ [cc] := by
          rw [List.take_add_one, hcc]
          rfl
        rw [← etake] at snoc
        have yl : ys.length ≤ 4000 := by
          rw [hI.len]
          exact W0 i
        have el := ext_length cc.2
        have epl := pk_len cc.1 cc.2
        have wr := wd_rg cc.2
        generalize elow : (chs (cs.take i)).length = low at *
        generalize epre : irAll ts D.names D.slots rows 0 (cs.take i) = pre at *
        have blen : (chs cs).length ≤ 100000 := by
          rw [← eco]
          exact by1.2
        have hpr := sJ _ _ hpr
        refine ⟨pr, _, rfl, SqT.of hpr, rfl, _, _, rfl, _, _, rfl, _, _, rfl, _, _, rfl, _, _, rfl, rfl, ?_⟩
        refine ⟨_, rfl, _, rfl, _, _, _, wd cc.2 - 1, rfl, rg2 (b := (low : Int)) (a := ((low + (ext cc.2).length : Nat) : Int)) (by omega) (by omega) (by omega) (by omega), for_rangeC (lo := (low : Int)) (c := 2) (n := wd cc.2 - 1) (fun j σ H'' => (∃ v10 v11 ys', σ = [some (.ref c), some (.ref f0), some .non, some (.ref pl), some (.ref p2), some (.int (low : Int)), some (.int ((low + (ext cc.2).length : Nat) : Int)), some (.str cc.1.1), some (.int (cc.2 : Int)), some (.int (((crOf low cc).e : Nat) : Int)), v10, v11] ∧ H'' p2 = some (.lst ys') ∧ TupsAt Ir.vs H'' ys' (pre ++ exRs rows low cc j) ∧ ys'.length ≤ 4000 + j) ∧ Same J H'')
          ⟨⟨_, _, ys, rfl, hys, (by rw [show exRs rows low cc 0 = [] from rfl, List.append_nil]; exact hI), yl⟩, sJ⟩ ?_ ?_⟩
        · rintro j σ H'' hj ⟨⟨v10, v11, ys', rfl, hy, hI2, yl2⟩, sJ2⟩
          have ea : ((low : Int) + (j : Nat) * 2) = ((low + 2 * j : Nat) : Int) := by omega
          have hjl : 2 * j + 1 < (ext cc.2).length := by omega
          have hg : g D.code (low + 2 * j + 1) = (ext cc.2).getD (2 * j + 1) 0 := by
            rw [eco, Nat.add_assoc]
            exact hext _ hjl
          have hix : low + 2 * j + 1 < D.code.length := by
            rw [eco]
            omega
          have hat := g_at hix
          rw [hg] at hat
          rw [ea]
          refine ⟨_, rfl, .inl ⟨rfl, _, SqL.of hy⟩, _, rfl, _, rfl, c, Cc, dx, fs, _, rfl, hcJ sJ2, G.ins.cl, G.na _ (by decide), lc, _, rfl, _, _, rfl, rfl, tc, _, _, _, rfl, rfl, SqT.of (sJ2 _ _ (SJ _ _ hcode)), (by rw [show (((low + 2 * j : Nat) : Int) + 1) = ((low + 2 * j + 1 : Nat) : Int) from by omega]; exact hat), _, rfl, _, rfl, pl, lx, rows, _, rfl, sJ2 _ _ hpl, hL.same sJ2, rl, fun J3 s3 => ?_⟩
          refine ⟨(by show 5 ≤ sizeLine; decide), ?_⟩
          walk_at "new4"
          have hy4 := s4 _ _ (s3 _ _ hy)
          refine ⟨_, _, _, rfl, rfl, hy4, Nat.lt_of_le_of_lt (by omega : ys'.length ≤ 5000) (by decide), ?_⟩
          refine ⟨⟨_, _, ys' ++ [.ref p4], rfl, upd_same, ?_, ?_⟩, Same.mut ((sJ2.trans s3).trans s4) n2⟩
          · rw [exRs_succ, ← List.append_assoc]
            exact TupsAt.snoc (r := exR rows low cc j) (by rw [upd_ne (fun z => by rw [z, hy4] at h4; cases h4)]; exact h4) (((hI2.same s3).same s4).upd hy4)
          · rw [List.length_append]
            show ys'.length + 1 ≤ 4000 + (j + 1)
            omega
        · rintro σ H'' ⟨⟨v10, v11, ys', rfl, hy, hI2, yl2⟩, sJ2⟩
          have ee : (((crOf low cc).e : Nat) : Int) = ((low + (pk cc.1 cc.2).length : Nat) : Int) := by rw [crOf_e]
          refine ⟨rfl, _, rfl, .inr cc.1.1, rfl, ?_⟩
          rw [s_of cc.1 k1]
          have tail : ∀ {oa : V}, oa = lnV (argOf cc) → ∀ (J3 : Hp) (s3 : Same H'' J3) (q : Addr), J3 q = none → ∃ ys'', upd (upd J3 q (.tup [.int ((low + (ext cc.2).length : Nat) : Int), .str cc.1.1, oa, .str (meanS cc.1 ts D.names D.slots cc.2 ((low + (pk cc.1 cc.2).length : Nat) : Int)), lnV (lineAt rows ((low + (ext cc.2).length : Nat) : Int))])) p2 (.lst (ys' ++ [.ref q])) p2 = some (.lst ys'') ∧
              TupsAt Ir.vs (upd (upd J3 q (.tup [.int ((low + (ext cc.2).length : Nat) : Int), .str cc.1.1, oa, .str (meanS cc.1 ts D.names D.slots cc.2 ((low + (pk cc.1 cc.2).length : Nat) : Int)), lnV (lineAt rows ((low + (ext cc.2).length : Nat) : Int))])) p2 (.lst (ys' ++ [.ref q]))) ys'' (irAll ts D.names D.slots rows 0 (cs.take (i + 1))) ∧
              Same J (upd (upd J3 q (.tup [.int ((low + (ext cc.2).length : Nat) : Int), .str cc.1.1, oa, .str (meanS cc.1 ts D.names D.slots cc.2 ((low + (pk cc.1 cc.2).length : Nat) : Int)), lnV (lineAt rows ((low + (ext cc.2).length : Nat) : Int))])) p2 (.lst (ys' ++ [.ref q]))) := by
            intro oa eoa J3 s3 q nq
            subst eoa
            have sq : Same J3 (upd J3 q (.tup (lastR ts D.names D.slots rows low cc).vs)) := Same.new nq
            have hq : upd J3 q (.tup (lastR ts D.names D.slots rows low cc).vs) q = some (.tup (lastR ts D.names D.slots rows low cc).vs) := upd_same
            have hy5 := sq _ _ (s3 _ _ hy)
            refine ⟨ys' ++ [.ref q], upd_same, ?_, Same.mut ((sJ2.trans s3).trans sq) n2⟩
            rw [snoc]
            unfold irC
            rw [← List.append_assoc]
            refine TupsAt.snoc (r := lastR ts D.names D.slots rows low cc) ?_ (((hI2.same s3).same sq).upd hy5)
            rw [upd_ne (fun z => by
              rw [z, s3 _ _ hy] at nq
              cases nq)]
            exact hq
          have yl3 : ys'.length ≤ 5000 := by omega
          refine ⟨rfl, _, rfl, ite2 (fun c9 => ?_) (fun c9 => ?_)⟩
          · have ed : argOf cc = none := by
              have := of_decide_eq_true c9
              unfold argOf
              rw [if_pos ((sort_dash cc.1 k1).mp (by injection this))]
            refine ⟨_, rfl, .inl ⟨rfl, _, SqL.of hy⟩, _, rfl, _, rfl, _, rfl, _, rfl, _, rfl, _, rfl, _, rfl, c, cc.1, cc.2, ((low + (pk cc.1 cc.2).length : Nat) : Int), D, m, ts, (by rw [ee] <;> rfl), k1, k2, by omega, by omega, (hC0.same SJ).same sJ2, (hct.same SJ).same sJ2, hnm, hsl, k3, fun J3 s3 => ?_⟩
            refine ⟨_, rfl, _, rfl, pl, lx, rows, _, rfl, s3 _ _ (sJ2 _ _ hpl), (hL.same sJ2).same s3, rl, fun J4 s4 => ?_⟩
            refine ⟨(by show 5 ≤ sizeLine; decide), fun q nq => ?_⟩
            obtain ⟨ys'', t1, t2, t3⟩ := tail (oa := .non) (by rw [ed]; rfl) J4 (s3.trans s4) q nq
            refine ⟨_, _, _, rfl, rfl, (Same.new nq) _ _ (s4 _ _ (s3 _ _ hy)), Nat.lt_of_le_of_lt yl3 (by decide), ?_⟩
            exact ⟨⟨_, _, _, _, _, _, _, ys'', rfl, t1, t2⟩, t3⟩
          · have ed : argOf cc = some (cc.2 : Int) := by
              unfold argOf
              rw [if_neg (fun z => c9 (by rw [(sort_dash cc.1 k1).mpr z]; rfl))]
            refine ⟨_, rfl, ?_⟩
            refine ⟨_, rfl, .inl ⟨rfl, _, SqL.of hy⟩, _, rfl, _, rfl, _, rfl, _, rfl, _, rfl, _, rfl, _, rfl, c, cc.1, cc.2, ((low + (pk cc.1 cc.2).length : Nat) : Int), D, m, ts, (by rw [ee] <;> rfl), k1, k2, by omega, by omega, (hC0.same SJ).same sJ2, (hct.same SJ).same sJ2, hnm, hsl, k3, fun J3 s3 => ?_⟩
            refine ⟨_, rfl, _, rfl, pl, lx, rows, _, rfl, s3 _ _ (sJ2 _ _ hpl), (hL.same sJ2).same s3, rl, fun J4 s4 => ?_⟩
            refine ⟨(by show 5 ≤ sizeLine; decide), fun q nq => ?_⟩
            obtain ⟨ys'', t1, t2, t3⟩ := tail (oa := .int (cc.2 : Int)) (by rw [ed]; rfl) J4 (s3.trans s4) q nq
            refine ⟨_, _, _, rfl, rfl, (Same.new nq) _ _ (s4 _ _ (s3 _ _ hy)), Nat.lt_of_le_of_lt yl3 (by decide), ?_⟩
            exact ⟨⟨_, _, _, _, _, _, _, ys'', rfl, t1, t2⟩, t3⟩
      · rintro σ H' ⟨⟨v5, v6, v7, v8, v9, v10, v11, ys, rfl, hys, hI⟩, sJ⟩
        rw [hxl, List.take_length] at hI
        have n0 : H p2 = none := by
          cases e : H p2 with
          | none => rfl
          | some o =>
            rw [SJ _ _ e] at n2
            cases n2
        exact ⟨_, rfl, k p2 ys H' n0 (SJ.trans sJ) hys hI⟩
end
end K57
set_option maxHeartbeats 4000000
set_option pp.maxSteps 600
namespace K57
open PySem PySem.Spec PyProof.Rows L2 Nd
/-! ### the law's own words -/
abbrev s_law_told_operator : Stmt := top 61
abbrev s_law_told_number : Stmt := top 62
abbrev s_law_great : Stmt := top 55
abbrev s_law_drawn : Stmt := top 63
def cmpK : List (Key × V) := [(.inl 2, .str "<"), (.inl 42, .str "<="), (.inl 72, .str "=="), (.inl 103, .str "!="), (.inl 132, .str ">"), (.inl 172, .str ">=")]
def ops : List Str := ["+", "&", "//", "<<", "", "*", "mod", "|", "**", ">>", "-", "", "^"]
def cmpN (n : Nat) : Str := strOf (valV (mergeK [] cmpK) (.inl ((n : Int) - 16 * ((n / 16 % 2 : Nat) : Int))))
def lawOp (x : Str) (n : Nat) : Str := if x = "COMPARE_OP" then (if cmpN n ≠ "" ∧ n / 16 % 2 = 1 then "bool(" ++ cmpN n ++ ")" else cmpN n)
  else if n < 13 then ops.getD n "" else if n < 26 ∧ ops.getD (n - 13) "" ≠ "" then ops.getD (n - 13) "" ++ "=" else ""
def xs24 : List Nat := [2, 42, 72, 103, 132, 172].flatMap fun a => [0, 16, 1, 256].map (a + ·)
theorem op_bin : ∀ n ∈ List.range 30, lawOp "BINARY_OP" n = opP "BINARY_OP" (n : Int) := by decide +kernel
theorem op_cmp : ∀ n ∈ xs24, lawOp "COMPARE_OP" n = opP "COMPARE_OP" (n : Int) := by decide +kernel
theorem o_word : ∀ r ∈ rws, r.2.2.2 = "o" → r.1 = "BINARY_OP" := by
  have h : ∀ r ∈ rws, (decide (r.2.2.2 = ("o" : Str)) && !decide (r.1 = ("BINARY_OP" : Str))) = false := by decide +kernel
  intro r hr e
  have z := h r hr
  rw [decide_eq_true e, Bool.true_and, Bool.not_eq_false'] at z
  exact of_decide_eq_true z
theorem x_word : ∀ r ∈ rws, r.2.2.2 = "x" → r.1 = "COMPARE_OP" := by
  have h : ∀ r ∈ rws, (decide (r.2.2.2 = ("x" : Str)) && !decide (r.1 = ("COMPARE_OP" : Str))) = false := by decide +kernel
  intro r hr e
  have z := h r hr
  rw [decide_eq_true e, Bool.true_and, Bool.not_eq_false'] at z
  exact of_decide_eq_true z
theorem cmpK_txt (k : Key) : (valV (mergeK [] cmpK) k).getD (.str "") = .str (strOf (valV (mergeK [] cmpK) k)) := by
  cases e : valV (mergeK [] cmpK) k with
  | none => rfl
  | some v =>
    unfold valV at e
    obtain ⟨p, hp, rfl⟩ := Option.map_eq_some_iff.mp e
    have hm := List.mem_of_find?_eq_some hp
    have h : ∀ p ∈ mergeK [] cmpK, ∃ z, p.2 = V.str z := by
      intro p hp
      have e2 : mergeK [] cmpK = cmpK := by decide +kernel
      rw [e2] at hp
      simp only [cmpK, List.mem_cons, List.mem_nil_iff, or_false] at hp
      rcases hp with rfl | rfl | rfl | rfl | rfl | rfl <;> exact ⟨_, rfl⟩
    obtain ⟨z, ez⟩ := h p hm
    rw [ez]
    rfl
theorem cmpN_len (n : Nat) : (cmpN n).length ≤ 20 := by
  have h : ∀ p ∈ mergeK [] cmpK, (strOf (some p.2)).length ≤ 20 := by decide +kernel
  unfold cmpN valV
  cases e : (mergeK [] cmpK).find? _ with
  | none => decide
  | some p => exact h p (List.mem_of_find?_eq_some e)
theorem ops_len : ∀ z ∈ ops, z.length ≤ 20 := by decide +kernel
theorem ops_get {n : Nat} (h : n < 13) : atI (ops.map V.str) (n : Int) = some (V.str (ops.getD n "")) ∧ (ops.getD n "").length ≤ 20 := by
  have hl : n < ops.length := h
  have e : ops[n]? = some (ops.getD n "") := by
    rw [List.getD_eq_getElem?_getD, List.getElem?_eq_getElem hl]
    rfl
  exact ⟨atI_nat (by rw [List.getElem?_map, e]; rfl), ops_len _ (List.mem_of_getElem? e)⟩
def spLOper (g : Str → Nat → Str) : Sp := fun vs H Q _ => ∃ (x : Str) (n : Nat), vs = [.str x, .int (n : Int)] ∧ n < 4294967296 ∧ ∀ H', Same H H' → Q (.str (g x n)) H'
section
variable {P : Program} {w : World} {K : PySem.W.Frag} {mg : Str → Option Value} {base : Heap}
theorem u1' {k : Nat} {A : Around} (hr : Room k A) : A.units + 1 < cLine := Nat.lt_of_le_of_lt (Nat.add_le_add_left (by decide : 1 ≤ 64) _) hr.units
abbrev N_law_told_operator : List Str := ["word", "number", "known", "bit", "name", "some"]
theorem sc_law_told_operator : FnScope N_law_told_operator ["word", "number"] (defScope s_law_told_operator) := ⟨rfl, rfl, rfl, by decide +kernel, rfl, by decide +kernel, by decide +kernel⟩
theorem ok_law_told_operator {f : Addr} {fd : FuncData} (T : Gl0 mg) (F : DefX K mg "_law_told_operator" s_law_told_operator ["word", "number"] f fd) : CalX P w K mg base 1 "_law_told_operator" (spLOper lawOp) := by
  refine calx F sc_law_told_operator (fun vs H Q E h => ?_) (fun cdv A outer s H vs Q E hr h => ?_)
  · obtain ⟨x, n, rfl, _⟩ := h
    rfl
  · obtain ⟨x, n, rfl, hn, k⟩ := h
    refine ⟨_, (pss_cons (ps_if (pt_cmpR op_eq (pv 0) pe_str (nomark _))
      (pss_cons (ps_set (i := 2) sc_law_told_operator.nd rfl (.inl rfl) (pe_disp (pps_cons pe_int pe_str (pps_cons pe_int pe_str (pps_cons pe_int pe_str (pps_cons pe_int pe_str (pps_cons pe_int pe_str (pps_cons pe_int pe_str pps_nil)))))) (by rfl) (by rfl) (fun z => by cases z) (by decide)))
      (pss_cons (ps_set (i := 3) sc_law_told_operator.nd rfl (.inl rfl) (pe_op op_mod (pe_callTy call_int1 (by rfl) T.n_int Boot.«int» (pa_cons (pe_op op_fdiv (pv 1) pe_int) pa_nil)) pe_int))
      (pss_cons (ps_set (i := 4) sc_law_told_operator.nd rfl (.inl rfl) (pe_dget2 (u1' hr) (pv 2) (pe_op op_sub (pv 1) (pe_op op_mul pe_int (pv 3))) pe_str ⟨rfl, rfl, rfl, rfl⟩))
      (pss_one (ps_ret (pe_ifExp (PW.pt (pw_and (pt_cmpR op_ne (pv 4) pe_str (nomark _)) (pw_and1 (pt_cmpR op_eq (pv 3) pe_int (nomark _))))) (pe_op op_add_str (pe_op op_add_str pe_str (pv 4)) pe_str) (pv 4)))))))
      pss_nil)
    (pss_cons (ps_set (i := 5) sc_law_told_operator.nd rfl (.inl rfl) (pe_lst (pa_cons pe_str (pa_cons pe_str (pa_cons pe_str (pa_cons pe_str (pa_cons pe_str (pa_cons pe_str (pa_cons pe_str (pa_cons pe_str (pa_cons pe_str (pa_cons pe_str (pa_cons pe_str (pa_cons pe_str (pa_cons pe_str pa_nil)))))))))))))))
    (pss_cons (ps_if (pt_cmpR op_lt (pv 1) pe_int (nomark _))
      (pss_one (ps_ret (pe_ix ix_list (pv 5) (pv 1) (fun _ _ => rfl))))
      pss_nil)
    (pss_one (ps_ret (pe_ifExp (PW.pt (pw_and (pt_cmpR op_lt (pv 1) pe_int (nomark _)) (pw_and1 (pt_cmpR op_ne (pe_ix ix_list (pv 5) (pe_op op_sub (pv 1) pe_int) (fun _ _ => rfl)) pe_str (nomark _))))) (pe_op op_add_str (pe_ix ix_list (pv 5) (pe_op op_sub (pv 1) pe_int) (fun _ _ => rfl)) pe_str) pe_str)))))), ?_⟩
    have ne_of : ∀ {z : Str}, (!decide (V.str z = V.str ("" : Str))) = true → z ≠ "" := fun {z} c e => by
      rw [e] at c
      exact absurd c (by decide +kernel)
    have eq_of : ∀ {z : Str}, ¬ (!decide (V.str z = V.str ("" : Str))) = true → z = "" := fun {z} c => Decidable.byContradiction fun e => c (by
      rw [decide_eq_false (fun y => e (by injection y))]
      rfl)
    refine ⟨_, rfl, rfl, _, rfl, ite2 (fun c => ?_) (fun c => ?_)⟩
    · have ex : x = "COMPARE_OP" := by
        have := of_decide_eq_true c
        injection this
      intro pd nd
      have sd : Same H (upd H pd (.dK [])) := Same.new nd
      have hpd : upd H pd (.dK []) pd = some (.dK []) := upd_same
      generalize upd H pd (.dK []) = H1 at sd hpd ⊢
      refine ⟨hpd, cmpK, rfl, by decide, ?_⟩
      have s2 : Same H (upd H1 pd (.dK (mergeK [] cmpK))) := Same.mut sd nd
      have h2 : upd H1 pd (.dK (mergeK [] cmpK)) pd = some (.dK (mergeK [] cmpK)) := upd_same
      generalize upd H1 pd (.dK (mergeK [] cmpK)) = H2 at s2 h2 ⊢
      refine ⟨_, rfl, _, _, rfl, rfl, (by decide : (0 : Int) < 16 ∧ (16 : Int) < 1073741824), .inl ⟨_, rfl, _, _, rfl, rfl, (by show (0 : Int) < 2; decide), ?_⟩⟩
      have eb : (n : Int) / 16 % 2 = ((n / 16 % 2 : Nat) : Int) := by omega
      show gName 3 (V.int ((n : Int) / 16 % 2)) _ _ _
      rw [eb]
      refine ⟨_, rfl, pd, rfl, .inl ⟨_, .inl h2⟩, _, rfl, _, rfl, _, _, rfl, rfl, .inl ⟨by decide, by decide⟩, _, _, rfl, rfl, _, DGet.k (k := Sum.inl ((n : Int) - 16 * ((n / 16 % 2 : Nat) : Int))) h2, ?_⟩
      rw [cmpK_txt]
      have kk := k H2 s2
      unfold lawOp at kk
      rw [if_pos ex] at kk
      have zl := cmpN_len n
      show gName 4 (V.str (cmpN n)) _ _ _
      refine ⟨_, rfl, rfl, _, rfl, ite2 (fun c2 => ?_) (fun c2 => ?_)⟩
      · have n1 := ne_of c2
        refine ⟨_, rfl, rfl, _, rfl, ite2 (fun c3 => ?_) (fun c3 => ?_)⟩
        · have e3 : n / 16 % 2 = 1 := by
            have z := of_decide_eq_true c3
            have z : ((n / 16 % 2 : Nat) : Int) = 1 := by injection z
            omega
          rw [if_pos ⟨n1, e3⟩] at kk
          refine ⟨_, rfl, _, _, rfl, rfl, ?_, _, _, rfl, rfl, ?_, kk⟩
          · exact Nat.le_trans (Nat.add_le_add_left zl _) (by decide)
          · show (("bool(" : Str).cps ++ (cmpN n).cps).size + 1 ≤ sizeLine
            rw [Array.size_append]
            have zl : (cmpN n).cps.size ≤ 20 := zl
            exact Nat.le_trans (Nat.add_le_add_right (Nat.add_le_add_left zl _) 1) (by decide +kernel)
        · rw [if_neg (fun z => c3 (decide_eq_true (by rw [z.2] <;> rfl)))] at kk
          exact ⟨_, rfl, kk⟩
      · rw [if_neg (fun z => z.1 (eq_of c2))] at kk
        exact ⟨_, rfl, kk⟩
    · have ex : ¬ x = "COMPARE_OP" := fun z => c (by rw [z]; exact decide_eq_true rfl)
      refine ⟨(by show 13 ≤ sizeLine; decide), ?_⟩
      walk_at "new1"
      have hB : SqL K H1 p1 (ops.map V.str) := SqL.of h1
      have kk := k H1 s1
      unfold lawOp at kk
      rw [if_neg ex] at kk
      refine ⟨_, rfl, _, _, rfl, rfl, _, rfl, ite2 (fun c2 => ?_) (fun c2 => ?_)⟩
      · have l2 : n < 13 := by
          have z : (n : Int) < 13 := of_decide_eq_true c2
          omega
        rw [if_pos l2] at kk
        exact ⟨_, rfl, _, rfl, p1, _, _, _, rfl, rfl, hB, (ops_get l2).1, kk⟩
      · have l2 : ¬ n < 13 := fun z => c2 (decide_eq_true (by show (n : Int) < 13; omega))
        rw [if_neg l2] at kk
        refine ⟨_, rfl, _, _, rfl, rfl, _, rfl, ite2 (fun c3 => ?_) (fun c3 => ?_)⟩
        · have l3 : n < 26 := by
            have z : (n : Int) < 26 := of_decide_eq_true c3
            omega
          have e13 : (n : Int) - 13 = ((n - 13 : Nat) : Int) := by omega
          obtain ⟨g1, g2⟩ := ops_get (n := n - 13) (by omega)
          rw [← e13] at g1
          refine ⟨_, rfl, _, rfl, _, _, rfl, rfl, p1, _, _, _, rfl, rfl, hB, g1, rfl, _, rfl, ite2 (fun c4 => ?_) (fun c4 => ?_)⟩
          · rw [if_pos ⟨l3, ne_of c4⟩] at kk
            refine ⟨_, rfl, _, rfl, _, _, rfl, rfl, p1, _, _, _, rfl, rfl, hB, g1, _, _, rfl, rfl, ?_, kk⟩
            exact Nat.le_trans (Nat.add_le_add_right g2 _) (by decide)
          · rw [if_neg (fun z => z.2 (eq_of c4))] at kk
            exact kk
        · rw [if_neg (fun z => c3 (decide_eq_true (by show (n : Int) < 26; omega)))] at kk
          exact kk
abbrev N_law_told_number : List Str := ["word", "number"]
theorem sc_law_told_number : FnScope N_law_told_number ["word", "number"] (defScope s_law_told_number) := ⟨rfl, rfl, rfl, by decide +kernel, rfl, by decide +kernel, by decide +kernel⟩
def intK : List (Key × V) := [(.inl 3, .str "INTRINSIC_STOPITERATION_ERROR"), (.inl 6, .str "INTRINSIC_LIST_TO_TUPLE")]
def attK : List (Key × V) := [(.inl 1, .str "defaults"), (.inl 2, .str "kwdefaults"), (.inl 8, .str "closure")]
theorem intK_kv : mergeK [] intK = kv tI := by decide +kernel
theorem attK_kv : mergeK [] attK = kv tA := by decide +kernel
theorem ok_law_told_number {f : Addr} {fd : FuncData} (T : Gl0 mg) (F : DefX K mg "_law_told_number" s_law_told_number ["word", "number"] f fd) : CalX P w K mg base 1 "_law_told_number" (spLOper fun x n => numP x (n : Int)) := by
  refine calx F sc_law_told_number (fun vs H Q E h => ?_) (fun cdv A outer s H vs Q E hr h => ?_)
  · obtain ⟨x, n, rfl, _⟩ := h
    rfl
  · obtain ⟨x, n, rfl, hn, k⟩ := h
    refine ⟨_, (pss_cons (ps_if (pt_cmpR op_in_seq (pv 0) (pe_tup (pa_cons pe_str (pa_cons pe_str pa_nil))) (by rfl))
      (pss_one (ps_ret (pe_op op_smul pe_str (pe_callTy call_int1 (by rfl) T.n_int Boot.«int» (pa_cons (pe_cmpR op_eq (pv 1) pe_int (nomark _)) pa_nil)))))
      pss_nil)
    (pss_cons (ps_if (pt_cmpR op_eq (pv 0) pe_str (nomark _))
      (pss_one (ps_ret (pe_dget2 (u1' hr) (pe_disp (pps_cons pe_int pe_str (pps_cons pe_int pe_str pps_nil)) (by rfl) (by rfl) (fun z => by cases z) (by decide)) (pv 1) pe_str ⟨rfl, rfl, rfl, rfl⟩)))
      pss_nil)
    (pss_cons (ps_if (pt_cmpR op_eq (pv 0) pe_str (nomark _))
      (pss_one (ps_ret (pe_dget2 (u1' hr) (pe_disp (pps_cons pe_int pe_str (pps_cons pe_int pe_str (pps_cons pe_int pe_str pps_nil))) (by rfl) (by rfl) (fun z => by cases z) (by decide)) (pv 1) pe_str ⟨rfl, rfl, rfl, rfl⟩)))
      pss_nil)
    (pss_one (ps_ret pe_str))))), ?_⟩
    refine ⟨_, rfl, (by show 2 ≤ sizeLine; decide), ?_⟩
    walk_at "new1"
    refine ⟨p1, _, rfl, .inr (SqT.of h1), rfl, rfl, _, rfl, ite2 (fun c => ?_) (fun c => ?_)⟩
    · have e : x = "IS_OP" ∨ x = "CONTAINS_OP" := by
        have c : (decide (("IS_OP" : Str) = x) || (decide (("CONTAINS_OP" : Str) = x) || false)) = true := c
        rw [Bool.or_false, Bool.or_eq_true] at c
        exact c.imp (fun z => (of_decide_eq_true z).symm) fun z => (of_decide_eq_true z).symm
      have kk : Q (.str (numP x (n : Int))) _ := k _ s1
      unfold numP at kk
      rw [if_pos e] at kk
      refine ⟨_, rfl, rfl, .inr ⟨_, rfl, "not", _, rfl, rfl, ?_⟩⟩
      by_cases c9 : (n : Int) = 1
      · rw [if_pos c9] at kk
        rw [if_pos (decide_eq_true (congrArg V.int c9))]
        exact .inr ⟨rfl, kk⟩
      · rw [if_neg c9] at kk
        rw [if_neg (fun z => c9 (by have := of_decide_eq_true z; injection this))]
        exact .inl ⟨rfl, kk⟩
    · have e : ¬ (x = "IS_OP" ∨ x = "CONTAINS_OP") := fun z => c (by
        show (decide (("IS_OP" : Str) = x) || (decide (("CONTAINS_OP" : Str) = x) || false)) = true
        rw [Bool.or_false, Bool.or_eq_true]
        exact z.imp (fun y => decide_eq_true y.symm) fun y => decide_eq_true y.symm)
      refine ⟨_, rfl, rfl, _, rfl, ite2 (fun c2 => ?_) (fun c2 => ?_)⟩
      · intro pd nd
        have sd : Same H1 (upd H1 pd (.dK [])) := Same.new nd
        have hpd : upd H1 pd (.dK []) pd = some (.dK []) := upd_same
        generalize upd H1 pd (.dK []) = H2 at sd hpd ⊢
        refine ⟨hpd, intK, rfl, by decide, ?_⟩
        have s2 : Same H1 (upd H2 pd (.dK (mergeK [] intK))) := Same.mut sd nd
        have h2 : upd H2 pd (.dK (mergeK [] intK)) pd = some (.dK (mergeK [] intK)) := upd_same
        generalize upd H2 pd (.dK (mergeK [] intK)) = H3 at s2 h2 ⊢
        have kk : Q (.str (numP x (n : Int))) _ := k _ (s1.trans s2)
        unfold numP at kk
        rw [if_neg e, if_pos (by have := of_decide_eq_true c2; injection this)] at kk
        refine ⟨pd, rfl, .inl ⟨_, .inl h2⟩, _, rfl, _, DGet.k (k := Sum.inl (n : Int)) h2, ?_⟩
        rw [intK_kv, txt_str (l := tI) (by decide +kernel) (.inl (n : Int))]
        exact kk
      · refine ⟨_, rfl, rfl, _, rfl, ite2 (fun c3 => ?_) (fun c3 => ?_)⟩
        · intro pd nd
          have sd : Same H1 (upd H1 pd (.dK [])) := Same.new nd
          have hpd : upd H1 pd (.dK []) pd = some (.dK []) := upd_same
          generalize upd H1 pd (.dK []) = H2 at sd hpd ⊢
          refine ⟨hpd, attK, rfl, by decide, ?_⟩
          have s2 : Same H1 (upd H2 pd (.dK (mergeK [] attK))) := Same.mut sd nd
          have h2 : upd H2 pd (.dK (mergeK [] attK)) pd = some (.dK (mergeK [] attK)) := upd_same
          generalize upd H2 pd (.dK (mergeK [] attK)) = H3 at s2 h2 ⊢
          have kk : Q (.str (numP x (n : Int))) _ := k _ (s1.trans s2)
          unfold numP at kk
          rw [if_neg e, if_neg (fun z => c2 (decide_eq_true (congrArg V.str z))), if_pos (by have := of_decide_eq_true c3; injection this)] at kk
          refine ⟨pd, rfl, .inl ⟨_, .inl h2⟩, _, rfl, _, DGet.k (k := Sum.inl (n : Int)) h2, ?_⟩
          rw [attK_kv, txt_str (l := tA) (by decide +kernel) (.inl (n : Int))]
          exact kk
        · have kk : Q (.str (numP x (n : Int))) _ := k _ s1
          unfold numP at kk
          rw [if_neg e, if_neg (fun z => c2 (decide_eq_true (congrArg V.str z))), if_neg (fun z => c3 (decide_eq_true (congrArg V.str z)))] at kk
          exact kk
end
end K57
set_option maxHeartbeats 4000000
set_option pp.maxSteps 600
namespace K57
open PySem PySem.Spec PyProof.Rows L2 Nd
def spGreat : Sp := fun vs H Q _ => ∃ a : Addr, vs = [.ref a] ∧ Src H a ∧ ∀ (n : Nat) H', n < 4294967296 → But a H H' → Src H' a → Q (.int (n : Int)) H'
structure Gg (mg : Str → Option Value) : Prop where
  n_min : mg "min" = none
  n_sorted : mg "sorted" = none
section
variable {P : Program} {w : World} {K : PySem.W.Frag} {mg : Str → Option Value} {base : Heap}
abbrev N_law_great : List Str := ["source", "near", "some"]
theorem sc_law_great : FnScope N_law_great ["source"] (defScope s_law_great) := ⟨rfl, rfl, rfl, by decide +kernel, rfl, by decide +kernel, by decide +kernel⟩
abbrev COne (P : Program) (w : World) (K : PySem.W.Frag) (mg : Str → Option Value) (base : Heap) : Prop := CalX P w K mg base 2 "_law_one" (fun vs H Q E => spOne K vs H Q E ∧ ∀ a b, vs = [.ref a, .ref b] → b ≠ a)
theorem ok_law_great {f : Addr} {fd : FuncData} (T : Gg mg) (c_law_next : CalX P w K mg base 1 "_law_next" spNext) (c_law_one : COne P w K mg base) (F : DefX K mg "_law_great" s_law_great ["source"] f fd) : CalX P w K mg base 3 "_law_great" spGreat := by
  refine calx F sc_law_great (fun vs H Q E h => ?_) (fun cdv A outer s H vs Q E hr h => ?_)
  · obtain ⟨a, rfl, _⟩ := h
    rfl
  · obtain ⟨a, rfl, src, k⟩ := h
    refine ⟨_, (pss_cons (ps_set (i := 1) sc_law_great.nd rfl (.inl rfl) (pe_op op_add (pe_op op_sub (pe_cx c_law_one hr (by decide) rfl (pa_cons (pv 0) (pa_cons (pe_lst (pa_cons pe_int (pa_cons pe_int (pa_cons pe_int (pa_cons pe_int (pa_cons pe_int pa_nil)))))) pa_nil))) pe_int) (pe_cx c_law_next hr (by decide) rfl (pa_cons (pv 0) (pa_cons pe_int pa_nil)))))
    (pss_cons (ps_set (i := 2) sc_law_great.nd rfl (.inl rfl) (pe_lst (pa_cons (pe_cx c_law_next hr (by decide) rfl (pa_cons (pv 0) (pa_cons pe_int pa_nil))) (pa_cons (pe_cx c_law_next hr (by decide) rfl (pa_cons (pv 0) (pa_cons pe_int pa_nil))) (pa_cons (pe_callB (call_min2 rfl) (by rfl) T.n_min Boot.«min» (pa_cons (pv 1) (pa_cons pe_int pa_nil))) (pa_cons (pe_cx c_law_next hr (by decide) rfl (pa_cons (pv 0) (pa_cons (pe_op op_pow pe_int pe_int) pa_nil))) pa_nil))))))
    (pss_one (ps_ret (pe_cx c_law_one hr (by decide) rfl (pa_cons (pv 0) (pa_cons (pv 2) pa_nil))))))), ?_⟩
    refine ⟨_, rfl, (by show 5 ≤ sizeLine; decide), ?_⟩
    walk_at "new1"
    have src1 := src.same s1
    refine ⟨⟨a, p1, _, rfl, src1, h1, by simp, (by show 5 ≤ 1000; decide), fun v J1 hv b1 t1 => ?_⟩, fun b c e => by cases e; exact src.ne0 n1⟩
    obtain ⟨y, rfl, y1, y2⟩ : ∃ y : Int, v = .int y ∧ 256 ≤ y ∧ y ≤ 4294967296 := by
      simp at hv
      rcases hv with rfl | rfl | rfl | rfl <;> exact ⟨_, rfl, by decide, by decide⟩
    refine ⟨_, _, rfl, rfl, _, rfl, a, _, rfl, t1, (by decide), (by decide), fun z J2 z0 z1 b2 t2 => ?_⟩
    refine ⟨_, _, rfl, rfl, ?_⟩
    have B2 : But a H J2 := ((But.of s1).trans b1).trans b2
    refine ⟨_, rfl, a, _, rfl, t2, (by decide), (by decide), fun z1' J3 g0 g1 b3 t3 => ?_⟩
    refine ⟨_, rfl, a, _, rfl, t3, (by decide), (by decide), fun z2' J4 g2 g3 b4 t4 => ?_⟩
    refine ⟨_, rfl, _, _, rfl, ?_⟩
    refine ⟨_, rfl, _, _, rfl, rfl, ⟨by decide, by decide, by decide⟩, a, _, rfl, t4, (by decide), (by decide), fun z3' J5 g4 g5 b5 t5 => ?_⟩
    refine ⟨(by show 4 ≤ sizeLine; decide), ?_⟩
    walk_at "new2"
    have B5 : But a H H2 := (((B2.trans b3).trans b4).trans b5).trans (But.of s2)
    refine ⟨_, rfl, _, rfl, ⟨a, p2, _, rfl, t5.same s2, h2, by simp, (by show 4 ≤ 1000; decide), fun v J6 hv b6 t6 => ?_⟩, fun b c e => by cases e; exact t5.ne0 n2⟩
    obtain ⟨n, rfl, hn⟩ : ∃ n : Nat, v = .int (n : Int) ∧ n < 4294967296 := by
      have nat : ∀ i : Int, 0 ≤ i → i < 4294967296 → ∃ n : Nat, V.int i = .int (n : Int) ∧ n < 4294967296 := fun i a b => ⟨i.toNat, by rw [Int.toNat_of_nonneg a], by omega⟩
      simp only [List.mem_cons, List.mem_nil_iff, or_false] at hv
      rcases hv with rfl | rfl | rfl | rfl
      · exact nat _ g0 (by omega)
      · exact nat _ g2 (by omega)
      · refine nat _ ?_ ?_
        · split <;> omega
        · split <;> omega
      · exact nat _ g4 (by have : z3' < 1000000 := g5; omega)
    exact k n J6 hn (B5.trans b6) t6
def Dok (nc nn ns : Nat) (z : Str) (n : Nat) : Prop := n < 4294967296 ∧ mOk nc nn ns z n ∧ (z = "o" → n < 30) ∧ (z = "x" → n ∈ xs24)
/-- the law's tables: constants, names, slots, as lists -/
structure Tbs (H : Hp) (tb aw an asl : Addr) (ws : List V) (names slots : List Str) : Prop where
  t : H tb = some (.tup [.ref aw, .ref an, .ref asl])
  w : H aw = some (.lst ws)
  n : H an = some (.lst (names.map V.str))
  s : H asl = some (.lst (slots.map V.str))
theorem Tbs.same {H H' : Hp} {tb aw an asl : Addr} {ws : List V} {names slots : List Str} (h : Tbs H tb aw an asl ws names slots) (s : Same H H') : Tbs H' tb aw an asl ws names slots := ⟨s _ _ h.t, s _ _ h.w, s _ _ h.n, s _ _ h.s⟩
theorem Tbs.but {H H' : Hp} {tb aw an asl a : Addr} {ws : List V} {names slots : List Str} (h : Tbs H tb aw an asl ws names slots) (b : But a H H') (h0 : tb ≠ a ∧ aw ≠ a ∧ an ≠ a ∧ asl ≠ a) : Tbs H' tb aw an asl ws names slots := ⟨b _ _ h0.1 h.t, b _ _ h0.2.1 h.w, b _ _ h0.2.2.1 h.n, b _ _ h0.2.2.2 h.s⟩
def spDrawn : Sp := fun vs H Q _ => ∃ (a tb aw an asl : Addr) (z : Str) (ws : List V) (names slots : List Str), vs = [.ref a, .str z, .ref tb] ∧ Src H a ∧ (tb ≠ a ∧ aw ≠ a ∧ an ≠ a ∧ asl ≠ a) ∧ Tbs H tb aw an asl ws names slots ∧ 1 ≤ ws.length ∧ ws.length ≤ 1000 ∧ 1 ≤ names.length ∧ names.length ≤ 1000 ∧ 1 ≤ slots.length ∧ slots.length ≤ 1000 ∧
  z ∈ (["-", "o", "k", "x", "n", "l", "j", "m", "c", "p"] : List Str) ∧ ∀ (n : Nat) H', Dok ws.length names.length slots.length z n → But a H H' → Src H' a → Q (.int (n : Int)) H'
abbrev N_law_drawn : List Str := ["source", "sort", "tables", "wares", "names", "slots"]
theorem sc_law_drawn : FnScope N_law_drawn ["source", "sort", "tables"] (defScope s_law_drawn) := ⟨rfl, rfl, rfl, by decide +kernel, rfl, by decide +kernel, by decide +kernel⟩
theorem ok_law_drawn {f : Addr} {fd : FuncData} (T : Gl0 mg) (TG : Gg mg) (c_law_next : CalX P w K mg base 1 "_law_next" spNext) (c_law_one : COne P w K mg base) (c_law_great : CalX P w K mg base 3 "_law_great" spGreat) (F : DefX K mg "_law_drawn" s_law_drawn ["source", "sort", "tables"] f fd) : CalX P w K mg base 4 "_law_drawn" spDrawn := by
  refine calx F sc_law_drawn (fun vs H Q E h => ?_) (fun cdv A outer s H vs Q E hr h => ?_)
  · obtain ⟨a, tb, aw, an, asl, z, ws, names, slots, rfl, _⟩ := h
    rfl
  · obtain ⟨a, tb, aw, an, asl, z, ws, names, slots, rfl, src, hne, hT, w1, w2, n1', n2', l1, l2, hz, k⟩ := h
    refine ⟨_, (pss_cons (ps_asg (pv 2) (pg_tup (by rfl) (pgs_cons (pg_name (i := 3) sc_law_drawn.nd rfl (.inl rfl)) (pgs_cons (pg_name (i := 4) sc_law_drawn.nd rfl (.inl rfl)) (pgs_cons (pg_name (i := 5) sc_law_drawn.nd rfl (.inl rfl)) pgs_nil)))))
    (pss_cons (ps_if (pt_cmpR op_in_seq (pv 1) (pe_tup (pa_cons pe_str (pa_cons pe_str (pa_cons pe_str pa_nil)))) (by rfl))
      (pss_one (ps_ret (pe_cx c_law_next hr (by decide) rfl (pa_cons (pv 0) (pa_cons (pe_callB call_len_seq (by rfl) T.n_len Boot.«len» (pa_cons (pe_dget (u1' hr) (pe_disp (pps_cons pe_str (pv 3) (pps_cons pe_str (pv 4) (pps_cons pe_str (pv 5) pps_nil))) (by rfl) (by rfl) (fun z => by cases z) (by decide)) (pv 1) NoSl_name) pa_nil)) pa_nil)))))
      pss_nil)
    (pss_cons (ps_if (pt_cmpR op_eq (pv 1) pe_str (nomark _))
      (pss_one (ps_ret (pe_cx c_law_next hr (by decide) rfl (pa_cons (pv 0) (pa_cons (pe_op op_mul pe_int (pe_callB call_len_seq (by rfl) T.n_len Boot.«len» (pa_cons (pv 4) pa_nil))) pa_nil)))))
      pss_nil)
    (pss_cons (ps_if (pt_cmpR op_eq (pv 1) pe_str (nomark _))
      (pss_one (ps_ret (pe_op op_add (pe_op op_mul pe_int (pe_cx c_law_next hr (by decide) rfl (pa_cons (pv 0) (pa_cons (pe_callB (call_min2 rfl) (by rfl) TG.n_min Boot.«min» (pa_cons pe_int (pa_cons (pe_callB call_len_seq (by rfl) T.n_len Boot.«len» (pa_cons (pv 5) pa_nil)) pa_nil))) pa_nil)))) (pe_cx c_law_next hr (by decide) rfl (pa_cons (pv 0) (pa_cons (pe_callB (call_min2 rfl) (by rfl) TG.n_min Boot.«min» (pa_cons pe_int (pa_cons (pe_callB call_len_seq (by rfl) T.n_len Boot.«len» (pa_cons (pv 5) pa_nil)) pa_nil))) pa_nil))))))
      pss_nil)
    (pss_cons (ps_if (pt_cmpR op_eq (pv 1) pe_str (nomark _))
      (pss_one (ps_ret (pe_cx c_law_next hr (by decide) rfl (pa_cons (pv 0) (pa_cons pe_int pa_nil)))))
      pss_nil)
    (pss_cons (ps_if (pt_cmpR op_eq (pv 1) pe_str (nomark _))
      (pss_one (ps_ret (pe_op op_add (pe_cx c_law_one hr (by decide) rfl (pa_cons (pv 0) (pa_cons (pe_lst (pa_cons pe_int (pa_cons pe_int (pa_cons pe_int (pa_cons pe_int (pa_cons pe_int (pa_cons pe_int pa_nil))))))) pa_nil))) (pe_cx c_law_one hr (by decide) rfl (pa_cons (pv 0) (pa_cons (pe_lst (pa_cons pe_int (pa_cons pe_int (pa_cons pe_int (pa_cons pe_int pa_nil))))) pa_nil))))))
      pss_nil)
    (pss_one (ps_ret (pe_ifExp (pt_cmpR op_eq (pv 1) pe_str (nomark _)) pe_int (pe_cx c_law_one hr (by decide) rfl (pa_cons (pv 0) (pa_cons (pe_lst (pa_cons (pe_cx c_law_great hr (by decide) rfl (pa_cons (pv 0) pa_nil)) (pa_cons pe_int (pa_cons pe_int (pa_cons pe_int (pa_cons pe_int (pa_cons pe_int pa_nil))))))) pa_nil)))))))))))), ?_⟩
    refine ⟨_, rfl, tb, _, rfl, SqT.of hT.t, rfl, _, _, rfl, _, _, rfl, _, _, rfl, rfl, ?_⟩
    refine ⟨_, rfl, (by show 3 ≤ sizeLine; decide), ?_⟩
    walk_at "new1"
    have src := src.same s1
    have hT := hT.same s1
    have B1 := But.of (a := a) s1
    refine ⟨p1, _, rfl, .inr (SqT.of h1), rfl, rfl, _, rfl, ?_⟩
    clear h1
    simp only [List.mem_cons, List.mem_nil_iff, or_false] at hz
    rcases hz with rfl | rfl | rfl | rfl | rfl | rfl | rfl | rfl | rfl | rfl
    · refine ite2 (fun c => absurd c (by decide +kernel)) (fun _ => ?_)
      refine ⟨_, rfl, rfl, _, rfl, ite2 (fun c => absurd c (by decide +kernel)) (fun _ => ?_)⟩
      refine ⟨_, rfl, rfl, _, rfl, ite2 (fun c => absurd c (by decide +kernel)) (fun _ => ?_)⟩
      refine ⟨_, rfl, rfl, _, rfl, ite2 (fun c => absurd c (by decide +kernel)) (fun _ => ?_)⟩
      refine ⟨_, rfl, rfl, _, rfl, ite2 (fun c => absurd c (by decide +kernel)) (fun _ => ?_)⟩
      refine ⟨_, rfl, rfl, _, rfl, ite2 (fun _ => ?_) (fun c => absurd (by decide +kernel) c)⟩
      exact k 0 H1 ⟨by omega, mOk_d.mpr trivial, fun e => absurd e (by decide +kernel), fun e => absurd e (by decide +kernel)⟩ B1 src
    · refine ite2 (fun c => absurd c (by decide +kernel)) (fun _ => ?_)
      refine ⟨_, rfl, rfl, _, rfl, ite2 (fun c => absurd c (by decide +kernel)) (fun _ => ?_)⟩
      refine ⟨_, rfl, rfl, _, rfl, ite2 (fun c => absurd c (by decide +kernel)) (fun _ => ?_)⟩
      refine ⟨_, rfl, rfl, _, rfl, ite2 (fun _ => ?_) (fun c => absurd (by decide +kernel) c)⟩
      refine ⟨_, rfl, a, 30, rfl, src, by decide, by decide, fun v J v0 v1 b t => ?_⟩
      obtain ⟨n, rfl⟩ : ∃ n : Nat, v = (n : Int) := ⟨v.toNat, by omega⟩
      exact k n J ⟨by omega, mOk_o.mpr trivial, fun _ => by omega, fun e => absurd e (by decide +kernel)⟩ (B1.trans b) t
    · refine ite2 (fun c => absurd c (by decide +kernel)) (fun _ => ?_)
      refine ⟨_, rfl, rfl, _, rfl, ite2 (fun c => absurd c (by decide +kernel)) (fun _ => ?_)⟩
      refine ⟨_, rfl, rfl, _, rfl, ite2 (fun c => absurd c (by decide +kernel)) (fun _ => ?_)⟩
      refine ⟨_, rfl, rfl, _, rfl, ite2 (fun c => absurd c (by decide +kernel)) (fun _ => ?_)⟩
      refine ⟨_, rfl, rfl, _, rfl, ite2 (fun c => absurd c (by decide +kernel)) (fun _ => ?_)⟩
      refine ⟨_, rfl, rfl, _, rfl, ite2 (fun c => absurd c (by decide +kernel)) (fun _ => ?_)⟩
      refine ⟨_, rfl, _, rfl, a, rfl, src, fun g J1 hg b1 t1 => ?_⟩
      refine ⟨(by show 6 ≤ sizeLine; decide), ?_⟩
      walk_at "new2"
      refine ⟨⟨a, p2, _, rfl, t1.same s2, h2, by simp, (by show 6 ≤ 1000; decide), fun v J hv b t => ?_⟩, fun b c e => by cases e; exact t1.ne0 n2⟩
      obtain ⟨n, rfl, hn⟩ : ∃ n : Nat, v = .int (n : Int) ∧ n < 4294967296 := by
        simp only [List.mem_cons, List.mem_nil_iff, or_false] at hv
        rcases hv with rfl | rfl | rfl | rfl | rfl | rfl
        · exact ⟨g, rfl, hg⟩
        · exact ⟨0, rfl, by omega⟩
        · exact ⟨1, rfl, by omega⟩
        · exact ⟨3, rfl, by omega⟩
        · exact ⟨6, rfl, by omega⟩
        · exact ⟨8, rfl, by omega⟩
      exact k n J ⟨hn, mOk_k.mpr trivial, fun e => absurd e (by decide +kernel), fun e => absurd e (by decide +kernel)⟩ (B1.trans ((b1.trans (But.of s2)).trans b)) t
    · refine ite2 (fun c => absurd c (by decide +kernel)) (fun _ => ?_)
      refine ⟨_, rfl, rfl, _, rfl, ite2 (fun c => absurd c (by decide +kernel)) (fun _ => ?_)⟩
      refine ⟨_, rfl, rfl, _, rfl, ite2 (fun c => absurd c (by decide +kernel)) (fun _ => ?_)⟩
      refine ⟨_, rfl, rfl, _, rfl, ite2 (fun c => absurd c (by decide +kernel)) (fun _ => ?_)⟩
      refine ⟨_, rfl, rfl, _, rfl, ite2 (fun _ => ?_) (fun c => absurd (by decide +kernel) c)⟩
      refine ⟨_, rfl, (by show 6 ≤ sizeLine; decide), ?_⟩
      walk_at "new2"
      refine ⟨⟨a, p2, _, rfl, src.same s2, h2, by simp, (by show 6 ≤ 1000; decide), fun v J2 hv b2 t2 => ?_⟩, fun b c e => by cases e; exact src.ne0 n2⟩
      obtain ⟨x, rfl, hx⟩ : ∃ x : Nat, v = .int (x : Int) ∧ x ∈ [2, 42, 72, 103, 132, 172] := by
        simp only [List.mem_cons, List.mem_nil_iff, or_false] at hv
        rcases hv with rfl | rfl | rfl | rfl | rfl | rfl
        · exact ⟨2, rfl, by decide⟩
        · exact ⟨42, rfl, by decide⟩
        · exact ⟨72, rfl, by decide⟩
        · exact ⟨103, rfl, by decide⟩
        · exact ⟨132, rfl, by decide⟩
        · exact ⟨172, rfl, by decide⟩
      refine ⟨_, rfl, (by show 4 ≤ sizeLine; decide), ?_⟩
      walk_at "new3"
      refine ⟨⟨a, p3, _, rfl, t2.same s3, h3, by simp, (by show 4 ≤ 1000; decide), fun v J hv b t => ?_⟩, fun b c e => by cases e; exact t2.ne0 n3⟩
      obtain ⟨y, rfl, hy⟩ : ∃ y : Nat, v = .int (y : Int) ∧ y ∈ [0, 16, 1, 256] := by
        simp only [List.mem_cons, List.mem_nil_iff, or_false] at hv
        rcases hv with rfl | rfl | rfl | rfl
        · exact ⟨0, rfl, by decide⟩
        · exact ⟨16, rfl, by decide⟩
        · exact ⟨1, rfl, by decide⟩
        · exact ⟨256, rfl, by decide⟩
      have hin : x + y ∈ xs24 := List.mem_flatMap.mpr ⟨x, hx, List.mem_map.mpr ⟨y, hy, rfl⟩⟩
      have hbd : x + y < 4294967296 := by
        have h : ∀ n ∈ xs24, n < 4294967296 := by decide +kernel
        exact h _ hin
      exact ⟨_, _, rfl, rfl, k (x + y) J ⟨hbd, mOk_x.mpr trivial, fun e => absurd e (by decide +kernel), fun _ => hin⟩ (B1.trans (((But.of s2).trans b2).trans ((But.of s3).trans b))) t⟩
    · refine ite2 (fun _ => ?_) (fun c => absurd (by decide +kernel) c)
      refine ⟨_, rfl, ?_⟩
      intro pd nd
      have sd : Same H1 (upd H1 pd (.dK [])) := Same.new nd
      have hpd : upd H1 pd (.dK []) pd = some (.dK []) := upd_same
      generalize upd H1 pd (.dK []) = H2 at sd hpd ⊢
      refine ⟨_, rfl, _, rfl, _, rfl, hpd, ([(.inr "c", .ref aw), (.inr "n", .ref an), (.inr "l", .ref asl)] : List (Key × V)), rfl, (by show 3 ≤ 15; decide), ?_⟩
      have s2 : Same H1 (upd H2 pd (.dK (mergeK [] ([(.inr "c", .ref aw), (.inr "n", .ref an), (.inr "l", .ref asl)] : List (Key × V))))) := Same.mut sd nd
      have h2 : upd H2 pd (.dK (mergeK [] ([(.inr "c", .ref aw), (.inr "n", .ref an), (.inr "l", .ref asl)] : List (Key × V)))) pd = some (.dK (mergeK [] ([(.inr "c", .ref aw), (.inr "n", .ref an), (.inr "l", .ref asl)] : List (Key × V)))) := upd_same
      generalize upd H2 pd (.dK (mergeK [] ([(.inr "c", .ref aw), (.inr "n", .ref an), (.inr "l", .ref asl)] : List (Key × V)))) = H3 at s2 h2 ⊢
      have hT3 := hT.same s2
      refine ⟨_, rfl, pd, _, rfl, (show DGet H3 pd (.str "n") (some (.ref an)) from DGet.k (k := Sum.inr "n") h2), an, _, rfl, .inl (SqL.of hT3.n), a, _, rfl, src.same s2, (by rw [List.length_map]; omega), ?_, fun v J v0 v1 b t => ?_⟩
      · exact Nat.lt_of_le_of_lt (m := 1000) (by rw [List.length_map]; omega) (by decide)
      obtain ⟨n, rfl⟩ : ∃ n : Nat, v = (n : Int) := ⟨v.toNat, by omega⟩
      have hlt : n < names.length := by
        have v1 : (n : Int) < (((names.map V.str).length : Nat) : Int) := v1
        rw [List.length_map] at v1
        omega
      exact k n J ⟨by omega, mOk_n.mpr hlt, fun e => absurd e (by decide +kernel), fun e => absurd e (by decide +kernel)⟩ (B1.trans ((But.of s2).trans b)) t
    · refine ite2 (fun _ => ?_) (fun c => absurd (by decide +kernel) c)
      refine ⟨_, rfl, ?_⟩
      intro pd nd
      have sd : Same H1 (upd H1 pd (.dK [])) := Same.new nd
      have hpd : upd H1 pd (.dK []) pd = some (.dK []) := upd_same
      generalize upd H1 pd (.dK []) = H2 at sd hpd ⊢
      refine ⟨_, rfl, _, rfl, _, rfl, hpd, ([(.inr "c", .ref aw), (.inr "n", .ref an), (.inr "l", .ref asl)] : List (Key × V)), rfl, (by show 3 ≤ 15; decide), ?_⟩
      have s2 : Same H1 (upd H2 pd (.dK (mergeK [] ([(.inr "c", .ref aw), (.inr "n", .ref an), (.inr "l", .ref asl)] : List (Key × V))))) := Same.mut sd nd
      have h2 : upd H2 pd (.dK (mergeK [] ([(.inr "c", .ref aw), (.inr "n", .ref an), (.inr "l", .ref asl)] : List (Key × V)))) pd = some (.dK (mergeK [] ([(.inr "c", .ref aw), (.inr "n", .ref an), (.inr "l", .ref asl)] : List (Key × V)))) := upd_same
      generalize upd H2 pd (.dK (mergeK [] ([(.inr "c", .ref aw), (.inr "n", .ref an), (.inr "l", .ref asl)] : List (Key × V)))) = H3 at s2 h2 ⊢
      have hT3 := hT.same s2
      refine ⟨_, rfl, pd, _, rfl, (show DGet H3 pd (.str "l") (some (.ref asl)) from DGet.k (k := Sum.inr "l") h2), asl, _, rfl, .inl (SqL.of hT3.s), a, _, rfl, src.same s2, (by rw [List.length_map]; omega), ?_, fun v J v0 v1 b t => ?_⟩
      · exact Nat.lt_of_le_of_lt (m := 1000) (by rw [List.length_map]; omega) (by decide)
      obtain ⟨n, rfl⟩ : ∃ n : Nat, v = (n : Int) := ⟨v.toNat, by omega⟩
      have hlt : n < slots.length := by
        have v1 : (n : Int) < (((slots.map V.str).length : Nat) : Int) := v1
        rw [List.length_map] at v1
        omega
      exact k n J ⟨by omega, mOk_l.mpr hlt, fun e => absurd e (by decide +kernel), fun e => absurd e (by decide +kernel)⟩ (B1.trans ((But.of s2).trans b)) t
    · refine ite2 (fun c => absurd c (by decide +kernel)) (fun _ => ?_)
      refine ⟨_, rfl, rfl, _, rfl, ite2 (fun c => absurd c (by decide +kernel)) (fun _ => ?_)⟩
      refine ⟨_, rfl, rfl, _, rfl, ite2 (fun c => absurd c (by decide +kernel)) (fun _ => ?_)⟩
      refine ⟨_, rfl, rfl, _, rfl, ite2 (fun c => absurd c (by decide +kernel)) (fun _ => ?_)⟩
      refine ⟨_, rfl, rfl, _, rfl, ite2 (fun c => absurd c (by decide +kernel)) (fun _ => ?_)⟩
      refine ⟨_, rfl, rfl, _, rfl, ite2 (fun c => absurd c (by decide +kernel)) (fun _ => ?_)⟩
      refine ⟨_, rfl, _, rfl, a, rfl, src, fun g J1 hg b1 t1 => ?_⟩
      refine ⟨(by show 6 ≤ sizeLine; decide), ?_⟩
      walk_at "new2"
      refine ⟨⟨a, p2, _, rfl, t1.same s2, h2, by simp, (by show 6 ≤ 1000; decide), fun v J hv b t => ?_⟩, fun b c e => by cases e; exact t1.ne0 n2⟩
      obtain ⟨n, rfl, hn⟩ : ∃ n : Nat, v = .int (n : Int) ∧ n < 4294967296 := by
        simp only [List.mem_cons, List.mem_nil_iff, or_false] at hv
        rcases hv with rfl | rfl | rfl | rfl | rfl | rfl
        · exact ⟨g, rfl, hg⟩
        · exact ⟨0, rfl, by omega⟩
        · exact ⟨1, rfl, by omega⟩
        · exact ⟨3, rfl, by omega⟩
        · exact ⟨6, rfl, by omega⟩
        · exact ⟨8, rfl, by omega⟩
      exact k n J ⟨hn, mOk_j.mpr trivial, fun e => absurd e (by decide +kernel), fun e => absurd e (by decide +kernel)⟩ (B1.trans ((b1.trans (But.of s2)).trans b)) t
    · refine ite2 (fun c => absurd c (by decide +kernel)) (fun _ => ?_)
      refine ⟨_, rfl, rfl, _, rfl, ite2 (fun _ => ?_) (fun c => absurd (by decide +kernel) c)⟩
      refine ⟨_, rfl, _, rfl, an, _, rfl, .inl (SqL.of hT.n), _, _, rfl, rfl, .inl ⟨by decide, by decide⟩, a, _, rfl, src, ?_, ?_, fun v J v0 v1 b t => ?_⟩
      · rw [List.length_map]
        omega
      · rw [List.length_map]
        exact Nat.lt_of_le_of_lt (m := 2000) (by omega) (by decide)
      rw [List.length_map] at v1
      obtain ⟨n, rfl⟩ : ∃ n : Nat, v = (n : Int) := ⟨v.toNat, by omega⟩
      exact k n J ⟨by omega, mOk_m.mpr (by omega), fun e => absurd e (by decide +kernel), fun e => absurd e (by decide +kernel)⟩ (B1.trans b) t
    · refine ite2 (fun _ => ?_) (fun c => absurd (by decide +kernel) c)
      refine ⟨_, rfl, ?_⟩
      intro pd nd
      have sd : Same H1 (upd H1 pd (.dK [])) := Same.new nd
      have hpd : upd H1 pd (.dK []) pd = some (.dK []) := upd_same
      generalize upd H1 pd (.dK []) = H2 at sd hpd ⊢
      refine ⟨_, rfl, _, rfl, _, rfl, hpd, ([(.inr "c", .ref aw), (.inr "n", .ref an), (.inr "l", .ref asl)] : List (Key × V)), rfl, (by show 3 ≤ 15; decide), ?_⟩
      have s2 : Same H1 (upd H2 pd (.dK (mergeK [] ([(.inr "c", .ref aw), (.inr "n", .ref an), (.inr "l", .ref asl)] : List (Key × V))))) := Same.mut sd nd
      have h2 : upd H2 pd (.dK (mergeK [] ([(.inr "c", .ref aw), (.inr "n", .ref an), (.inr "l", .ref asl)] : List (Key × V)))) pd = some (.dK (mergeK [] ([(.inr "c", .ref aw), (.inr "n", .ref an), (.inr "l", .ref asl)] : List (Key × V)))) := upd_same
      generalize upd H2 pd (.dK (mergeK [] ([(.inr "c", .ref aw), (.inr "n", .ref an), (.inr "l", .ref asl)] : List (Key × V)))) = H3 at s2 h2 ⊢
      have hT3 := hT.same s2
      refine ⟨_, rfl, pd, _, rfl, (show DGet H3 pd (.str "c") (some (.ref aw)) from DGet.k (k := Sum.inr "c") h2), aw, _, rfl, .inl (SqL.of hT3.w), a, _, rfl, src.same s2, (by omega), ?_, fun v J v0 v1 b t => ?_⟩
      · exact Nat.lt_of_le_of_lt (m := 1000) (by omega) (by decide)
      obtain ⟨n, rfl⟩ : ∃ n : Nat, v = (n : Int) := ⟨v.toNat, by omega⟩
      have hlt : n < ws.length := by
        have v1 : (n : Int) < ((ws.length : Nat) : Int) := v1
        skip
        omega
      exact k n J ⟨by omega, mOk_c.mpr hlt, fun e => absurd e (by decide +kernel), fun e => absurd e (by decide +kernel)⟩ (B1.trans ((But.of s2).trans b)) t
    · refine ite2 (fun c => absurd c (by decide +kernel)) (fun _ => ?_)
      refine ⟨_, rfl, rfl, _, rfl, ite2 (fun c => absurd c (by decide +kernel)) (fun _ => ?_)⟩
      refine ⟨_, rfl, rfl, _, rfl, ite2 (fun _ => ?_) (fun c => absurd (by decide +kernel) c)⟩
      refine ⟨_, rfl, _, rfl, asl, _, rfl, .inl (SqL.of hT.s), _, _, rfl, ?_⟩
      refine ⟨a, _, rfl, src, ?_, ?_, fun v J1 v0 v1 b1 t1 => ?_⟩
      · rw [List.length_map]
        split <;> omega
      · rw [List.length_map]
        exact Nat.lt_of_le_of_lt (m := 1000) (by split <;> omega) (by decide)
      have hv : v < 16 ∧ v < (slots.length : Int) := by
        rw [List.length_map] at v1
        split at v1 <;> omega
      have hTJ := hT.but b1 hne
      refine ⟨_, _, rfl, rfl, .inl ⟨by decide, by decide⟩, ?_⟩
      refine ⟨_, rfl, _, rfl, asl, _, rfl, .inl (SqL.of hTJ.s), _, _, rfl, ?_⟩
      refine ⟨a, _, rfl, t1, ?_, ?_, fun u J u0 u1 b t => ?_⟩
      · rw [List.length_map]
        split <;> omega
      · rw [List.length_map]
        exact Nat.lt_of_le_of_lt (m := 1000) (by split <;> omega) (by decide)
      have hu : u < 16 ∧ u < (slots.length : Int) := by
        rw [List.length_map] at u1
        split at u1 <;> omega
      refine ⟨_, _, rfl, rfl, ?_⟩
      obtain ⟨n, en⟩ : ∃ n : Nat, 16 * v + u = (n : Int) := ⟨(16 * v + u).toNat, by omega⟩
      have kk := k n J ⟨by omega, mOk_p.mpr ⟨by omega, by omega⟩, fun e => absurd e (by decide +kernel), fun e => absurd e (by decide +kernel)⟩ (B1.trans (b1.trans b)) t
      rw [← en] at kk
      exact kk
end
end K57
set_option maxHeartbeats 4000000
set_option pp.maxSteps 600
namespace K57
open PySem PySem.Spec PyProof.Rows L2 Nd
/-! ### the law's meaning -/
abbrev s_law_meaning : Stmt := top 64
theorem code_pq : ("<code " : Str) ++ ("p.q" : Str) ++ (">" : Str) = ("<code p.q>" : Str) := by decide +kernel
/-- the same with the law's own code alone -/
inductive CL (K : PySem.W.Frag) (Cc : Addr) (H : Hp) : V → Str → Prop
  | dat {x : V} {d : PyData} (h : Dp K H x d) (o : Odd K H x) (h1 : d.showable = true) (h2 : d.hasDict = false) (h3 : d.depth ≤ 20) (h4 : shB d ≤ 1000) : CL K Cc H x d.shown
  | cod {a dx : Addr} {fs : List (Str × V)} (h : H a = some (.ins Cc dx fs)) (h1 : fs.lookup ("path" : Str) = some (.str "p.q")) : CL K Cc H (.ref a) "<code p.q>"
theorem CL.same {K : PySem.W.Frag} {Cc : Addr} {H H' : Hp} {x : V} {z : Str} (s : Same H H') (h : CL K Cc H x z) : CL K Cc H' x z := by
  cases h with
  | dat h o h1 h2 h3 h4 => exact .dat (Dp.same s h) (o.same s) h1 h2 h3 h4
  | cod h h1 => exact .cod (s _ _ h) h1
theorem CL.ct {K : PySem.W.Frag} {Cc : Addr} {H : Hp} {x : V} {z : Str} (h : CL K Cc H x z) : CT K Cc H x z := by
  cases h with
  | dat h o h1 h2 h3 h4 => exact .dat h o h1 h2 h3 h4
  | cod h h1 =>
    rw [← code_pq]
    exact .cod h h1 (by decide +kernel)
def CLs (K : PySem.W.Frag) (Cc : Addr) (H : Hp) (xs : List V) (ts : List Str) : Prop := xs.length = ts.length ∧ ∀ i x, xs[i]? = some x → CL K Cc H x (ts.getD i "")
theorem CLs.same {K : PySem.W.Frag} {Cc : Addr} {H H' : Hp} {xs : List V} {ts : List Str} (s : Same H H') (h : CLs K Cc H xs ts) : CLs K Cc H' xs ts := ⟨h.1, fun i x e => (h.2 i x e).same s⟩
theorem CLs.ct {K : PySem.W.Frag} {Cc : Addr} {H : Hp} {xs : List V} {ts : List Str} (h : CLs K Cc H xs ts) : CTs K Cc H xs ts := ⟨h.1, fun i x e => (h.2 i x e).ct⟩
theorem m_more : ∀ r ∈ rws, r.2.2.2 = "m" → (r.1 = "LOAD_GLOBAL" → more0 r.1 = " + NULL") ∧ (¬ r.1 = "LOAD_GLOBAL" → more0 r.1 = " + NULL|self") := by
  have h : ∀ r ∈ rws, decide (r.2.2.2 = ("m" : Str)) = true → (decide (r.1 = ("LOAD_GLOBAL" : Str)) = true → more0 r.1 = " + NULL") ∧ (decide (r.1 = ("LOAD_GLOBAL" : Str)) = false → more0 r.1 = " + NULL|self") := by decide +kernel
  intro r hr e
  obtain ⟨h1, h2⟩ := h r hr (decide_eq_true e)
  exact ⟨fun z => h1 (decide_eq_true z), fun z => h2 (decide_eq_false z)⟩
def spLMean (K : PySem.W.Frag) (Cc : Addr) : Sp := fun vs H Q _ => ∃ (tb aw an asl : Addr) (r : Rw) (n : Nat) (e : Int) (ws : List V) (ts names slots : List Str), vs = [.str r.1, .str r.2.2.2, .int (n : Int), .ref tb, .int e] ∧ Tbs H tb aw an asl ws names slots ∧ r ∈ rws ∧ Dok ws.length names.length slots.length r.2.2.2 n ∧ CLs K Cc H ws ts ∧ isStrs names ∧ isStrs slots ∧
  0 ≤ e ∧ e < 2 ^ 40 ∧ ∀ H', Same H H' → Q (.str (meanS r ts names slots n e)) H'
section
variable {P : Program} {w : World} {K : PySem.W.Frag} {mg : Str → Option Value} {base : Heap} {Cc Cn fI : Addr}
abbrev N_law_meaning : List Str := ["word", "sort", "number", "tables", "high", "wares", "names", "slots", "more"]
theorem sc_law_meaning : FnScope N_law_meaning ["word", "sort", "number", "tables", "high"] (defScope s_law_meaning) := ⟨rfl, rfl, rfl, by decide +kernel, rfl, by decide +kernel, by decide +kernel⟩
structure Gm (mg : Str → Option Value) : Prop where
  n_repr : mg "repr" = none
  n_str : mg "str" = none
theorem ok_law_meaning {f : Addr} {fd : FuncData} (T : Gl0 mg) (TM : Gm mg) (G : GlK P K mg Cc Cn fI) (c_op : CalX P w K mg base 1 "_law_told_operator" (spLOper lawOp)) (c_num : CalX P w K mg base 1 "_law_told_number" (spLOper fun x n => numP x (n : Int))) (F : DefX K mg "_law_meaning" s_law_meaning ["word", "sort", "number", "tables", "high"] f fd) : FnG P w K mg base 2 f fd ["word", "sort", "number", "tables", "high"] (spLMean K Cc) := by
  refine FunD.okG F.fn sc_law_meaning (fun vs H Q E h => ?_) (fun cdv A outer s H vs Q E hr hgu h => ?_)
  · obtain ⟨tb, aw, an, asl, r, n, e, ws, ts, names, slots, rfl, _⟩ := h
    rfl
  · obtain ⟨tb, aw, an, asl, r, n, ee, ws, tx, names, slots, rfl, hT, hr1, hD, hct, hnm, hsl, e0, e1, k⟩ := h
    unfold meanS at k
    obtain ⟨hn, hOk, ho, hx⟩ := hD
    refine ⟨_, (pss_cons (ps_asg (pv 3) (pg_tup (by rfl) (pgs_cons (pg_name (i := 5) sc_law_meaning.nd rfl (.inl rfl)) (pgs_cons (pg_name (i := 6) sc_law_meaning.nd rfl (.inl rfl)) (pgs_cons (pg_name (i := 7) sc_law_meaning.nd rfl (.inl rfl)) pgs_nil)))))
    (pss_cons (ps_if (pt_cmpR op_eq (pv 1) pe_str (nomark _))
      (pss_one (ps_ret (pe_ifExp (pt_val (pe_callB call_isi (by rfl) G.n_isinstance Boot.«isinstance» (pa_cons (pe_ix ix_list (pv 5) (pv 2) (fun _ _ => rfl)) (pa_cons (C8.pe_gc rfl G.c_Code) pa_nil)))) pe_str (pe_callB (call_reprA hgu hr.units) (by rfl) TM.n_repr Boot.«repr» (pa_cons (pe_ix ix_list (pv 5) (pv 2) (fun _ _ => rfl)) pa_nil)))))
      pss_nil)
    (pss_cons (ps_if (pt_cmpR op_eq (pv 1) pe_str (nomark _))
      (pss_one (ps_ret (pe_ix ix_list (pv 6) (pv 2) (fun _ _ => rfl))))
      pss_nil)
    (pss_cons (ps_if (pt_cmpR op_eq (pv 1) pe_str (nomark _))
      (pss_cons (ps_set (i := 8) sc_law_meaning.nd rfl (.inl rfl) (pe_ifExp (pt_cmpR op_eq (pv 0) pe_str (nomark _)) pe_str pe_str))
      (pss_one (ps_ret (pe_op op_add_str (pe_ix ix_list (pv 6) (pe_op op_fdiv (pv 2) pe_int) (fun _ _ => rfl)) (pe_op op_smul (pv 8) (pe_op op_mod (pe_callTy call_int1 (by rfl) T.n_int Boot.«int» (pa_cons (pv 2) pa_nil)) pe_int))))))
      pss_nil)
    (pss_cons (ps_if (pt_cmpR op_eq (pv 1) pe_str (nomark _))
      (pss_one (ps_ret (pe_ix ix_list (pv 7) (pv 2) (fun _ _ => rfl))))
      pss_nil)
    (pss_cons (ps_if (pt_cmpR op_eq (pv 1) pe_str (nomark _))
      (pss_one (ps_ret (pe_op op_add_str (pe_op op_add_str (pe_ix ix_list (pv 7) (pe_op op_fdiv (pv 2) pe_int) (fun _ _ => rfl)) pe_str) (pe_ix ix_list (pv 7) (pe_op op_mod (pe_callTy call_int1 (by rfl) T.n_int Boot.«int» (pa_cons (pv 2) pa_nil)) pe_int) (fun _ _ => rfl)))))
      pss_nil)
    (pss_cons (ps_if (pt_cmpR op_eq (pv 1) pe_str (nomark _))
      (pss_one (ps_ret (pe_op op_add_str pe_str (pe_callTy call_str_int (by rfl) TM.n_str Boot.«str» (pa_cons (pe_ifExp (pt_cmpR op_in_str pe_str (pv 0) (by rfl)) (pe_op op_sub (pv 4) (pe_op op_mul pe_int (pv 2))) (pe_op op_add (pv 4) (pe_op op_mul pe_int (pv 2)))) pa_nil)))))
      pss_nil)
    (pss_one (ps_ret (pe_ifExp (pt_cmpR op_in_seq (pv 1) (pe_tup (pa_cons pe_str (pa_cons pe_str pa_nil))) (by rfl)) (pe_cx c_op hr (by decide) rfl (pa_cons (pv 0) (pa_cons (pv 2) pa_nil))) (pe_cx c_num hr (by decide) rfl (pa_cons (pv 0) (pa_cons (pv 2) pa_nil))))))))))))), ?_⟩
    refine ⟨_, rfl, tb, _, rfl, SqT.of hT.t, rfl, _, _, rfl, _, _, rfl, _, _, rfl, rfl, ?_⟩
    have hl := letters r hr1
    simp only [List.mem_cons, List.mem_nil_iff, or_false] at hl
    have getN : ∀ {l : List Str} {i : Nat}, i < l.length → atI (l.map V.str) (i : Int) = some (V.str (l.getD i "")) ∧ l.getD i "" ∈ l := fun {l i} h => by
      have e : l[i]? = some (l.getD i "") := by
        rw [List.getD_eq_getElem?_getD, List.getElem?_eq_getElem h]
        rfl
      exact ⟨atI_nat (by rw [List.getElem?_map, e]; rfl), List.mem_of_getElem? e⟩
    have hint : (n : Int) / 2 = ((n / 2 : Nat) : Int) := by omega
    have hint16 : (n : Int) / 16 = ((n / 16 : Nat) : Int) := by omega
    have hmod2 : (n : Int) % 2 = ((n % 2 : Nat) : Int) := by omega
    have hmod16 : (n : Int) % 16 = ((n % 16 : Nat) : Int) := by omega
    have hB0 : ∀ (Bx : Hp), Bx = H → SqL K Bx an (names.map V.str) ∧ SqL K Bx asl (slots.map V.str) ∧ SqL K Bx aw ws := fun Bx e => by
      subst e
      exact ⟨SqL.of hT.n, SqL.of hT.s, SqL.of hT.w⟩
    obtain ⟨hBn, hBs, hBw⟩ := hB0 H rfl
    rcases hl with e | e | e | e | e | e | e | e | e | e
    · have hm := (show mOk ws.length names.length slots.length r.2.2.2 n ↔ _ from e ▸ mOk_d)
      rw [mean_d e] at k
      refine ⟨_, rfl, rfl, _, rfl, ite2 (fun z => absurd z (by rw [e]; decide +kernel)) (fun _ => ?_)⟩
      refine ⟨_, rfl, rfl, _, rfl, ite2 (fun z => absurd z (by rw [e]; decide +kernel)) (fun _ => ?_)⟩
      refine ⟨_, rfl, rfl, _, rfl, ite2 (fun z => absurd z (by rw [e]; decide +kernel)) (fun _ => ?_)⟩
      refine ⟨_, rfl, rfl, _, rfl, ite2 (fun z => absurd z (by rw [e]; decide +kernel)) (fun _ => ?_)⟩
      refine ⟨_, rfl, rfl, _, rfl, ite2 (fun z => absurd z (by rw [e]; decide +kernel)) (fun _ => ?_)⟩
      refine ⟨_, rfl, rfl, _, rfl, ite2 (fun z => absurd z (by rw [e]; decide +kernel)) (fun _ => ?_)⟩
      refine ⟨_, rfl, (by show 2 ≤ sizeLine; decide), ?_⟩
      walk_at "new1"
      refine ⟨p1, _, rfl, .inr (SqT.of h1), rfl, rfl, _, rfl, ite2 (fun z => absurd z (by rw [e]; decide +kernel)) (fun _ => ?_)⟩
      exact ⟨_, rfl, _, rfl, r.1, n, rfl, hn, fun J sJ => k J (s1.trans sJ)⟩
    · have hm := (show mOk ws.length names.length slots.length r.2.2.2 n ↔ _ from e ▸ mOk_o)
      rw [mean_o e] at k
      refine ⟨_, rfl, rfl, _, rfl, ite2 (fun z => absurd z (by rw [e]; decide +kernel)) (fun _ => ?_)⟩
      refine ⟨_, rfl, rfl, _, rfl, ite2 (fun z => absurd z (by rw [e]; decide +kernel)) (fun _ => ?_)⟩
      refine ⟨_, rfl, rfl, _, rfl, ite2 (fun z => absurd z (by rw [e]; decide +kernel)) (fun _ => ?_)⟩
      refine ⟨_, rfl, rfl, _, rfl, ite2 (fun z => absurd z (by rw [e]; decide +kernel)) (fun _ => ?_)⟩
      refine ⟨_, rfl, rfl, _, rfl, ite2 (fun z => absurd z (by rw [e]; decide +kernel)) (fun _ => ?_)⟩
      refine ⟨_, rfl, rfl, _, rfl, ite2 (fun z => absurd z (by rw [e]; decide +kernel)) (fun _ => ?_)⟩
      refine ⟨_, rfl, (by show 2 ≤ sizeLine; decide), ?_⟩
      walk_at "new1"
      refine ⟨p1, _, rfl, .inr (SqT.of h1), rfl, rfl, _, rfl, ite2 (fun _ => ?_) (fun z => absurd (by rw [e]; decide +kernel) z)⟩
      have eo : lawOp r.1 n = opP r.1 (n : Int) := by
        rw [o_word r hr1 e]
        exact op_bin n (List.mem_range.mpr (ho e))
      refine ⟨_, rfl, _, rfl, r.1, n, rfl, hn, fun J sJ => ?_⟩
      rw [eo]
      exact k J (s1.trans sJ)
    · have hm := (show mOk ws.length names.length slots.length r.2.2.2 n ↔ _ from e ▸ mOk_k)
      rw [mean_k e] at k
      refine ⟨_, rfl, rfl, _, rfl, ite2 (fun z => absurd z (by rw [e]; decide +kernel)) (fun _ => ?_)⟩
      refine ⟨_, rfl, rfl, _, rfl, ite2 (fun z => absurd z (by rw [e]; decide +kernel)) (fun _ => ?_)⟩
      refine ⟨_, rfl, rfl, _, rfl, ite2 (fun z => absurd z (by rw [e]; decide +kernel)) (fun _ => ?_)⟩
      refine ⟨_, rfl, rfl, _, rfl, ite2 (fun z => absurd z (by rw [e]; decide +kernel)) (fun _ => ?_)⟩
      refine ⟨_, rfl, rfl, _, rfl, ite2 (fun z => absurd z (by rw [e]; decide +kernel)) (fun _ => ?_)⟩
      refine ⟨_, rfl, rfl, _, rfl, ite2 (fun z => absurd z (by rw [e]; decide +kernel)) (fun _ => ?_)⟩
      refine ⟨_, rfl, (by show 2 ≤ sizeLine; decide), ?_⟩
      walk_at "new1"
      refine ⟨p1, _, rfl, .inr (SqT.of h1), rfl, rfl, _, rfl, ite2 (fun z => absurd z (by rw [e]; decide +kernel)) (fun _ => ?_)⟩
      exact ⟨_, rfl, _, rfl, r.1, n, rfl, hn, fun J sJ => k J (s1.trans sJ)⟩
    · have hm := (show mOk ws.length names.length slots.length r.2.2.2 n ↔ _ from e ▸ mOk_x)
      rw [mean_x e] at k
      refine ⟨_, rfl, rfl, _, rfl, ite2 (fun z => absurd z (by rw [e]; decide +kernel)) (fun _ => ?_)⟩
      refine ⟨_, rfl, rfl, _, rfl, ite2 (fun z => absurd z (by rw [e]; decide +kernel)) (fun _ => ?_)⟩
      refine ⟨_, rfl, rfl, _, rfl, ite2 (fun z => absurd z (by rw [e]; decide +kernel)) (fun _ => ?_)⟩
      refine ⟨_, rfl, rfl, _, rfl, ite2 (fun z => absurd z (by rw [e]; decide +kernel)) (fun _ => ?_)⟩
      refine ⟨_, rfl, rfl, _, rfl, ite2 (fun z => absurd z (by rw [e]; decide +kernel)) (fun _ => ?_)⟩
      refine ⟨_, rfl, rfl, _, rfl, ite2 (fun z => absurd z (by rw [e]; decide +kernel)) (fun _ => ?_)⟩
      refine ⟨_, rfl, (by show 2 ≤ sizeLine; decide), ?_⟩
      walk_at "new1"
      refine ⟨p1, _, rfl, .inr (SqT.of h1), rfl, rfl, _, rfl, ite2 (fun _ => ?_) (fun z => absurd (by rw [e]; decide +kernel) z)⟩
      have eo : lawOp r.1 n = opP r.1 (n : Int) := by
        rw [x_word r hr1 e]
        exact op_cmp n (hx e)
      refine ⟨_, rfl, _, rfl, r.1, n, rfl, hn, fun J sJ => ?_⟩
      rw [eo]
      exact k J (s1.trans sJ)
    · have hm := (show mOk ws.length names.length slots.length r.2.2.2 n ↔ _ from e ▸ mOk_n)
      rw [mean_n e] at k
      refine ⟨_, rfl, rfl, _, rfl, ite2 (fun z => absurd z (by rw [e]; decide +kernel)) (fun _ => ?_)⟩
      refine ⟨_, rfl, rfl, _, rfl, ite2 (fun _ => ?_) (fun z => absurd (by rw [e]; decide +kernel) z)⟩
      exact ⟨_, rfl, _, rfl, an, _, _, _, rfl, rfl, hBn, (getN (hm.mp hOk)).1, k _ (Same.refl _)⟩
    · have hm := (show mOk ws.length names.length slots.length r.2.2.2 n ↔ _ from e ▸ mOk_l)
      rw [mean_l e] at k
      refine ⟨_, rfl, rfl, _, rfl, ite2 (fun z => absurd z (by rw [e]; decide +kernel)) (fun _ => ?_)⟩
      refine ⟨_, rfl, rfl, _, rfl, ite2 (fun z => absurd z (by rw [e]; decide +kernel)) (fun _ => ?_)⟩
      refine ⟨_, rfl, rfl, _, rfl, ite2 (fun z => absurd z (by rw [e]; decide +kernel)) (fun _ => ?_)⟩
      refine ⟨_, rfl, rfl, _, rfl, ite2 (fun _ => ?_) (fun z => absurd (by rw [e]; decide +kernel) z)⟩
      exact ⟨_, rfl, _, rfl, asl, _, _, _, rfl, rfl, hBs, (getN (hm.mp hOk)).1, k _ (Same.refl _)⟩
    · have hm := (show mOk ws.length names.length slots.length r.2.2.2 n ↔ _ from e ▸ mOk_j)
      rw [mean_j e] at k
      refine ⟨_, rfl, rfl, _, rfl, ite2 (fun z => absurd z (by rw [e]; decide +kernel)) (fun _ => ?_)⟩
      refine ⟨_, rfl, rfl, _, rfl, ite2 (fun z => absurd z (by rw [e]; decide +kernel)) (fun _ => ?_)⟩
      refine ⟨_, rfl, rfl, _, rfl, ite2 (fun z => absurd z (by rw [e]; decide +kernel)) (fun _ => ?_)⟩
      refine ⟨_, rfl, rfl, _, rfl, ite2 (fun z => absurd z (by rw [e]; decide +kernel)) (fun _ => ?_)⟩
      refine ⟨_, rfl, rfl, _, rfl, ite2 (fun z => absurd z (by rw [e]; decide +kernel)) (fun _ => ?_)⟩
      refine ⟨_, rfl, rfl, _, rfl, ite2 (fun _ => ?_) (fun z => absurd (by rw [e]; decide +kernel) z)⟩
      refine ⟨_, rfl, _, _, rfl, rfl, _, rfl, ite2 (fun c9 => ?_) (fun c9 => ?_)⟩
      · rw [if_pos (show backS r.1 = true from c9)] at k
        refine ⟨_, rfl, _, rfl, _, _, rfl, rfl, .inl ⟨by decide, by decide⟩, _, _, rfl, rfl, _, rfl, lg (by omega) (by omega), _, _, rfl, rfl, sl (by omega) (by omega), k _ (Same.refl _)⟩
      · rw [if_neg (show ¬ backS r.1 = true from c9)] at k
        refine ⟨_, rfl, _, rfl, _, _, rfl, rfl, .inl ⟨by decide, by decide⟩, _, _, rfl, rfl, _, rfl, lg (by omega) (by omega), _, _, rfl, rfl, sl (by omega) (by omega), k _ (Same.refl _)⟩
    · have hm := (show mOk ws.length names.length slots.length r.2.2.2 n ↔ _ from e ▸ mOk_m)
      rw [mean_m e] at k
      refine ⟨_, rfl, rfl, _, rfl, ite2 (fun z => absurd z (by rw [e]; decide +kernel)) (fun _ => ?_)⟩
      refine ⟨_, rfl, rfl, _, rfl, ite2 (fun z => absurd z (by rw [e]; decide +kernel)) (fun _ => ?_)⟩
      refine ⟨_, rfl, rfl, _, rfl, ite2 (fun _ => ?_) (fun z => absurd (by rw [e]; decide +kernel) z)⟩
      have hlt := hm.mp hOk
      obtain ⟨g1, g2⟩ := getN hlt
      have xl := (hnm.1 _ g2).1
      obtain ⟨m1, m2⟩ := m_more r hr1 e
      refine ⟨_, rfl, rfl, _, rfl, ite2 (fun c => ?_) (fun c => ?_)⟩
      · have ez : more0 r.1 = " + NULL" := m1 (by have := of_decide_eq_true c; injection this)
        rw [ez] at k
        rw [← hint] at g1
        refine ⟨_, rfl, _, rfl, _, _, rfl, rfl, ⟨by decide, by decide⟩, an, _, _, _, rfl, rfl, hBn, g1, _, rfl, _, rfl, .inl ⟨_, rfl, _, _, rfl, rfl, (by show (0 : Int) < 2; decide), _, _, rfl, rfl, ?_⟩⟩
        rcases Nat.mod_two_eq_zero_or_one n with q | q
        · rw [if_pos q] at k
          exact .inl ⟨by show (n : Int) % 2 = 0; omega, _, _, rfl, rfl, Nat.le_trans (Nat.add_le_add xl (Nat.zero_le 20)) (by decide), k _ (Same.refl _)⟩
        · rw [if_neg (by omega)] at k
          exact .inr ⟨by show (n : Int) % 2 = 1; omega, _, _, rfl, rfl, Nat.le_trans (Nat.add_le_add xl (by decide +kernel : (" + NULL" : Str).length ≤ 20)) (by decide), k _ (Same.refl _)⟩
      · have ez : more0 r.1 = " + NULL|self" := m2 (fun z => c (decide_eq_true (congrArg V.str z)))
        rw [ez] at k
        rw [← hint] at g1
        refine ⟨_, rfl, _, rfl, _, _, rfl, rfl, ⟨by decide, by decide⟩, an, _, _, _, rfl, rfl, hBn, g1, _, rfl, _, rfl, .inl ⟨_, rfl, _, _, rfl, rfl, (by show (0 : Int) < 2; decide), _, _, rfl, rfl, ?_⟩⟩
        rcases Nat.mod_two_eq_zero_or_one n with q | q
        · rw [if_pos q] at k
          exact .inl ⟨by show (n : Int) % 2 = 0; omega, _, _, rfl, rfl, Nat.le_trans (Nat.add_le_add xl (Nat.zero_le 20)) (by decide), k _ (Same.refl _)⟩
        · rw [if_neg (by omega)] at k
          exact .inr ⟨by show (n : Int) % 2 = 1; omega, _, _, rfl, rfl, Nat.le_trans (Nat.add_le_add xl (by decide +kernel : (" + NULL|self" : Str).length ≤ 20)) (by decide), k _ (Same.refl _)⟩
    · have hm := (show mOk ws.length names.length slots.length r.2.2.2 n ↔ _ from e ▸ mOk_c)
      rw [mean_c e] at k
      refine ⟨_, rfl, rfl, _, rfl, ite2 (fun _ => ?_) (fun z => absurd (by rw [e]; decide +kernel) z)⟩
      have hlt := hm.mp hOk
      have hv : ws[n]? = some ws[n] := List.getElem?_eq_getElem hlt
      have hc := hct.2 n _ hv
      have hmem := List.mem_of_getElem? hv
      generalize hw : ws[n] = x at hv hc hmem
      generalize hz : tx.getD n "" = z at hc k
      refine ⟨_, rfl, _, rfl, aw, _, _, _, rfl, rfl, hBw, atI_nat hv, ?_⟩
      cases hc with
      | dat h o h1 h2 h3 h4 =>
        obtain ⟨t, ht, ty⟩ := o
        refine ⟨x, V.ref Cc, .type t, .ref Cc, false, rfl, .own Cc, ty, G.no t ht, _, rfl, iteF ?_⟩
        exact ⟨_, rfl, _, rfl, aw, _, _, _, rfl, rfl, hBw, atI_nat hv, x, _, rfl, h, h1, h2, h3, Nat.le_trans h4 (by decide), k _ (Same.refl _)⟩
      | cod h h1 =>
        rename_i a dx fs
        refine ⟨V.ref a, V.ref Cc, .ref Cc, .ref Cc, true, rfl, .own Cc, .base (.ins h G.ins.cl G.ins.ha G.ins.hn G.ins.htk G.ins.hm), G.ins.me, _, rfl, iteT ?_⟩
        exact k _ (Same.refl _)
    · have hm := (show mOk ws.length names.length slots.length r.2.2.2 n ↔ _ from e ▸ mOk_p)
      rw [mean_p e] at k
      refine ⟨_, rfl, rfl, _, rfl, ite2 (fun z => absurd z (by rw [e]; decide +kernel)) (fun _ => ?_)⟩
      refine ⟨_, rfl, rfl, _, rfl, ite2 (fun z => absurd z (by rw [e]; decide +kernel)) (fun _ => ?_)⟩
      refine ⟨_, rfl, rfl, _, rfl, ite2 (fun z => absurd z (by rw [e]; decide +kernel)) (fun _ => ?_)⟩
      refine ⟨_, rfl, rfl, _, rfl, ite2 (fun z => absurd z (by rw [e]; decide +kernel)) (fun _ => ?_)⟩
      refine ⟨_, rfl, rfl, _, rfl, ite2 (fun _ => ?_) (fun z => absurd (by rw [e]; decide +kernel) z)⟩
      obtain ⟨hl1, hl2⟩ := hm.mp hOk
      obtain ⟨g1, g2⟩ := getN hl1
      obtain ⟨g3, g4⟩ := getN hl2
      have xl : (slots.getD (n / 16) "").cps.size ≤ 1000 := (hsl.1 _ g2).1
      have yl : (slots.getD (n % 16) "").cps.size ≤ 1000 := (hsl.1 _ g4).1
      rw [← hint16] at g1
      rw [← hmod16] at g3
      refine ⟨_, rfl, _, rfl, _, _, rfl, rfl, ⟨by decide, by decide⟩, asl, _, _, _, rfl, rfl, hBs, g1, _, _, rfl, rfl, Nat.le_trans (Nat.add_le_add_right xl _) (by decide), ?_⟩
      refine ⟨_, rfl, _, rfl, .inl ⟨_, rfl, _, _, rfl, rfl, (by show (0 : Int) < 16; decide), asl, _, _, _, rfl, rfl, hBs, g3, _, _, rfl, rfl, ?_, k _ (Same.refl _)⟩⟩
      show ((slots.getD (n / 16) "").cps ++ (", " : Str).cps).size + (slots.getD (n % 16) "").cps.size ≤ sizeLine
      rw [Array.size_append]
      exact Nat.le_trans (Nat.add_le_add (Nat.add_le_add_right xl _) yl) (by decide +kernel)
end
end K57
set_option maxHeartbeats 4000000
set_option pp.maxSteps 600
namespace K57
open PySem PySem.Spec PyProof.Rows L2 Nd
/-! ### what the law tells -/
abbrev s_law_told : Stmt := top 66
def wp (c : Rw × Nat) : List V := [.str c.1.1, .int (c.2 : Int)]
theorem ext_le (n : Nat) (hn : n < 4294967296) : (ext n).length ≤ 6 := by
  rw [← lx_ext hn]
  exact lx_len n plc (Nat.le_refl 3) (Nat.le_refl 3)
theorem pk_short {r : Rw} {n : Nat} (hr : r ∈ rws) (hn : n < 4294967296) : (pk r n).length ≤ 26 := by
  have h1 := ext_le n hn
  have h2 := cac_small r hr
  rw [pk_len]
  omega
theorem chs_len : ∀ {cs : List (Rw × Nat)} {i : Nat}, (∀ c ∈ cs.take i, c.1 ∈ rws ∧ c.2 < 4294967296) → (chs (cs.take i)).length ≤ 26 * i
  | [], i, _ => by simp [chs]
  | c :: t, 0, _ => Nat.le_refl _
  | c :: t, i + 1, h => by
    obtain ⟨h1, h2⟩ := h c (List.mem_cons_self ..)
    have ih := chs_len (cs := t) (i := i) fun x hx => h x (List.mem_cons_of_mem _ hx)
    have := pk_short h1 h2
    show (pk c.1 c.2 ++ chs (t.take i)).length ≤ _
    rw [List.length_append]
    omega
def spLTold (K : PySem.W.Frag) (Cc : Addr) : Sp := fun vs H Q _ => ∃ (t gv tb aw an asl ln : Addr) (xs lx : List V) (cs : List (Rw × Nat)) (rows : List R3) (ws : List V) (ts names slots : List Str), vs = [.ref t, .ref gv, .ref tb, .ref ln] ∧ TabAt H t ∧ H gv = some (.lst xs) ∧ TupsAt wp H xs cs ∧ cs.length ≤ 1000 ∧
  (∀ c ∈ cs, c.1 ∈ rws ∧ Dok ws.length names.length slots.length c.1.2.2.2 c.2) ∧ Tbs H tb aw an asl ws names slots ∧ CLs K Cc H ws ts ∧ isStrs names ∧ isStrs slots ∧ H ln = some (.lst lx) ∧ TupsAt R3.vs H lx rows ∧ rows.length ≤ 10000 ∧
  ∀ q f d fx H', Same H H' → H' q = some (.tup [.ref f, .ref d]) → H' f = some (.lst fx) → TupsAt Ir.vs H' fx (irAll ts names slots rows 0 cs) → H' d = some (.lst ((chs cs).map V.int)) → Q (.ref q) H'
section
variable {P : Program} {w : World} {K : PySem.W.Frag} {mg : Str → Option Value} {base : Heap} {Cc Cn fI : Addr}
abbrev N_law_told : List Str := ["table", "given", "tables", "lines", "found", "data", "word", "number", "low", "packed_one", "many", "at", "sort", "means", "line"]
theorem sc_law_told : FnScope N_law_told ["table", "given", "tables", "lines"] (defScope s_law_told) := ⟨rfl, rfl, rfl, by decide +kernel, rfl, by decide +kernel, by decide +kernel⟩
theorem ok_law_told {f : Addr} {fd : FuncData} (T : Gl0 mg) (c_law_packed : CalX P w K mg base 1 "_law_packed" spLPacked) (c_law_line_at : CalX P w K mg base 1 "_law_line_at" spLineAt) (c_law_meaning : CalG P w K mg base 2 "_law_meaning" (spLMean K Cc)) (F : DefX K mg "_law_told" s_law_told ["table", "given", "tables", "lines"] f fd) : FnG P w K mg base 3 f fd ["table", "given", "tables", "lines"] (spLTold K Cc) := by
  refine FunD.okG F.fn sc_law_told (fun vs H Q E h => ?_) (fun cdv A outer s H vs Q E hr hgu h => ?_)
  · obtain ⟨t, gv, tb, aw, an, asl, ln, xs, lx, cs, rows, ws, ts, names, slots, rfl, _⟩ := h
    rfl
  · obtain ⟨t, gv, tb, aw, an, asl, ln, xs, lx, cs, rows, ws, ts, names, slots, rfl, hTab, hgv, hC, hcl, hok, hT, hct, hnm, hsl, hln, hL, hrl, k⟩ := h
    refine ⟨_, (pss_cons (ps_par (i := 4) (j := 5) (by rfl) sc_law_told.nd rfl rfl (by decide) rfl rfl (pa_cons (pe_lst pa_nil) (pa_cons (pe_lst pa_nil) pa_nil)) (by rfl))
    (pss_cons (ps_for (passes_of rfl) rfl (pi_list (pv 1)) (pg_tup (by rfl) (pgs_cons (pg_name (i := 6) sc_law_told.nd rfl (.inl rfl)) (pgs_cons (pg_name (i := 7) sc_law_told.nd rfl (.inl rfl)) pgs_nil)))
      (pss_cons (ps_par (i := 8) (j := 9) (by rfl) sc_law_told.nd rfl rfl (by decide) rfl rfl (pa_cons (pe_callB call_len_seq (by rfl) T.n_len Boot.«len» (pa_cons (pv 5) pa_nil)) (pa_cons (pe_cx c_law_packed hr (by decide) rfl (pa_cons (pv 0) (pa_cons (pv 6) (pa_cons (pv 7) pa_nil)))) pa_nil)) (by rfl))
    (pss_cons (ps_expr (pe_bm PySem.F.plainAttrs_list PySem.F.slot_list_extend PySem.F.type_list_extend mt_extend (pv 5) (pa_cons (pv 9) pa_nil)))
    (pss_cons (ps_set (i := 10) sc_law_told.nd rfl (.inl rfl) (pe_op op_sub (pe_op op_sub (pe_callB call_len_seq (by rfl) T.n_len Boot.«len» (pa_cons (pv 9) pa_nil)) (pe_op op_mul pe_int (pe_ix ix_tup (pe_dget (u1 hr) (pv 0) (pv 6) NoSl_name) pe_int (fun _ _ => rfl)))) pe_int))
    (pss_cons (ps_for (passes_of rfl) rfl (pi_range3 (by rfl) T.n_range (pa_cons (pv 8) (pa_cons (pe_op op_add (pv 8) (pv 10)) (pa_cons pe_int pa_nil)))) (pg_name (i := 11) sc_law_told.nd rfl (.inl rfl))
      (pss_one (ps_expr (pe_bm PySem.F.plainAttrs_list PySem.F.slot_list_append PySem.F.type_list_append mt_append (pv 4) (pa_cons (pe_tup (pa_cons (pv 11) (pa_cons pe_str (pa_cons (pe_ix ix_list (pv 5) (pe_op op_add (pv 11) pe_int) (fun _ _ => rfl)) (pa_cons pe_str (pa_cons (pe_cx c_law_line_at hr (by decide) rfl (pa_cons (pv 3) (pa_cons (pv 11) pa_nil))) pa_nil)))))) pa_nil)))))
    (pss_cons (ps_set (i := 12) sc_law_told.nd rfl (.inl rfl) (pe_ix ix_tup (pe_dget (u1 hr) (pv 0) (pv 6) NoSl_name) pe_int (fun _ _ => rfl)))
    (pss_cons (ps_set (i := 13) sc_law_told.nd rfl (.inl rfl) (pe_cg (E := E0) c_law_meaning hr (by decide) hgu rfl passL (pa_cons (pv 6) (pa_cons (pv 12) (pa_cons (pv 7) (pa_cons (pv 2) (pa_cons (pe_callB call_len_seq (by rfl) T.n_len Boot.«len» (pa_cons (pv 5) pa_nil)) pa_nil)))))))
    (pss_cons (ps_set (i := 14) sc_law_told.nd rfl (.inl rfl) (pe_cx c_law_line_at hr (by decide) rfl (pa_cons (pv 3) (pa_cons (pe_op op_add (pv 8) (pv 10)) pa_nil))))
    (pss_one (ps_expr (pe_bm PySem.F.plainAttrs_list PySem.F.slot_list_append PySem.F.type_list_append mt_append (pv 4) (pa_cons (pe_tup (pa_cons (pe_op op_add (pv 8) (pv 10)) (pa_cons (pv 6) (pa_cons (pe_ifExp (pt_cmpR op_eq (pv 12) pe_str (nomark _)) pe_non (pv 7)) (pa_cons (pv 13) (pa_cons (pv 14) pa_nil)))))) pa_nil))))))))))))
    (pss_one (ps_ret (pe_tup (pa_cons (pv 4) (pa_cons (pv 5) pa_nil))))))), ?_⟩
    refine ⟨(by show 0 ≤ sizeLine; decide), ?_⟩
    walk_at "new1"
    refine ⟨(by show 0 ≤ sizeLine; decide), ?_⟩
    walk_at "new2"
    have n12 : p2 ≠ p1 := fun z => by rw [z, h1] at n2; cases n2
    have n2H : H p2 = none := s1.free n2
    have S0 := s1.trans s2
    have hxl := hC.len
    have W0 : ∀ i, (irAll ts names slots rows 0 (cs.take i)).length ≤ 4000 := fun i => by
      have := irAll_len ts names slots rows (cs.take i) 0
      rw [List.length_take] at this
      omega
    have D0 : ∀ i, (chs (cs.take i)).length ≤ 26 * i := fun i => chs_len fun c hc => ⟨(hok c (List.mem_of_mem_take hc)).1, (hok c (List.mem_of_mem_take hc)).2.1⟩
    refine ⟨_, _, rfl, ?_⟩
    refine ⟨_, rfl, gv, rfl, ⟨_, SqL.of (S0 _ _ hgv)⟩, for_list (K := K) (a := gv) (xs := xs) (fun i σ H' => (∃ v6 v7 v8 v9 v10 v11 v12 v13 v14 ys, σ = [some (.ref t), some (.ref gv), some (.ref tb), some (.ref ln), some (.ref p1), some (.ref p2), v6, v7, v8, v9, v10, v11, v12, v13, v14] ∧ H' p1 = some (.lst ys) ∧ TupsAt Ir.vs H' ys (irAll ts names slots rows 0 (cs.take i)) ∧ H' p2 = some (.lst ((chs (cs.take i)).map V.int))) ∧ Same H H')
      ⟨⟨_, _, _, _, _, _, _, _, _, [], rfl, s2 _ _ h1, trivial, h2⟩, S0⟩ (fun i σ H' _ p => SqL.of (p.2 _ _ hgv)) ?_ ?_⟩
    · rintro i x σ H0 hi ⟨⟨v6, v7, v8, v9, v10, v11, v12, v13, v14, ys, rfl, hf, hI, hd⟩, S⟩
      obtain ⟨pr, cc, hcc, rfl, hpr⟩ := (hC.same S).get hi
      have hm := List.mem_of_getElem? hcc
      have hil : i < cs.length := (List.getElem?_eq_some_iff.mp hcc).1
      obtain ⟨k1, k2, k3, k4, k5⟩ := hok cc hm
      have snoc := irAll_snoc (ts := ts) (names := names) (slots := slots) (rows := rows) (cs.take i) 0 cc
      rw [Nat.zero_add] at snoc
      have etake : cs.take (i + 1) = cs.take i ++ [cc] := by
        rw [List.take_add_one, hcc]
        rfl
      have ech : chs (cs.take (i + 1)) = chs (cs.take i) ++ pk cc.1 cc.2 := by
        rw [etake, chs_app]
        show _ ++ (pk cc.1 cc.2 ++ []) = _
        rw [List.append_nil]
      rw [← etake] at snoc
      have yl : ys.length ≤ 4000 := by
        rw [hI.len]
        exact W0 i
      have dl := D0 i
      have el := ext_length cc.2
      have epl := pk_len cc.1 cc.2
      have wr := wd_rg cc.2
      have ps26 := pk_short k1 k2
      generalize elow : (chs (cs.take i)).length = low at *
      generalize edat : chs (cs.take i) = dat at *
      generalize epre : irAll ts names slots rows 0 (cs.take i) = pre at *
      refine ⟨pr, _, rfl, SqT.of hpr, rfl, _, _, rfl, _, _, rfl, rfl, ?_⟩
      have TabS : ∀ {J : Hp}, Same H J → ∃ (kvs : List (Key × V)) (q : Addr), DGet J t (.str cc.1.1) (some (.ref q)) ∧ J q = some (.tup (rowT cc.1)) := fun {J} u => by
        obtain ⟨kvs2, hd2, hk2⟩ := hTab.same u
        obtain ⟨q, hv2, hq2⟩ := hk2.get rws_nd k1
        exact ⟨kvs2, q, (show DGet J t (.str cc.1.1) (some (.ref q)) from hv2 ▸ DGet.k (k := Sum.inr cc.1.1) hd2), hq2⟩
      -- low, packed_one
      refine ⟨_, rfl, p2, _, rfl, .inl (SqL.of hd), ?_⟩
      refine ⟨_, rfl, _, rfl, _, rfl, t, cc.1, cc.2, rfl, hTab.same S, k1, k2, fun q1 J1 m1 u1' hq1 => ?_⟩
      have ell : (((dat.map V.int).length : Nat) : Int) = (low : Int) := by rw [List.length_map, elow]
      refine ⟨_, _, rfl, ?_⟩
      rw [ell]
      have nq2 : q1 ≠ p2 := fun z => by rw [z, hd] at m1; cases m1
      have nq1 : q1 ≠ p1 := fun z => by rw [z, hf] at m1; cases m1
      have hf := u1' _ _ hf
      have hd := u1' _ _ hd
      have hI := hI.same u1'
      have S := S.trans u1'
      -- data.extend
      refine ⟨_, rfl, .inl ⟨rfl, _, SqL.of hd⟩, _, rfl, p2, q1, _, _, rfl, rfl, hd, hq1, ?_, ?_⟩
      · rw [List.length_map, List.length_map, elow, sizeLine_eq]
        omega
      have hI := hI.upd (o := .lst (dat.map V.int ++ (pk cc.1 cc.2).map V.int)) hd
      have S := Same.mut (o := .lst (dat.map V.int ++ (pk cc.1 cc.2).map V.int)) S n2H
      have hf2 : upd J1 p2 (.lst (dat.map V.int ++ (pk cc.1 cc.2).map V.int)) p1 = some (.lst ys) := by
        rw [upd_ne n12.symm]
        exact hf
      have hq2 : upd J1 p2 (.lst (dat.map V.int ++ (pk cc.1 cc.2).map V.int)) q1 = some (.lst ((pk cc.1 cc.2).map V.int)) := by
        rw [upd_ne nq2]
        exact hq1
      have hd2 : upd J1 p2 (.lst (dat.map V.int ++ (pk cc.1 cc.2).map V.int)) p2 = some (.lst ((dat ++ pk cc.1 cc.2).map V.int)) := by
        rw [upd_same, List.map_append]
      clear hf hd hq1
      generalize upd J1 p2 (.lst (dat.map V.int ++ (pk cc.1 cc.2).map V.int)) = J2 at hI S hf2 hq2 hd2 ⊢
      have h1H : H p1 = none := n1
      -- many
      obtain ⟨_, q3, hg3, hq3⟩ := TabS S
      refine ⟨_, rfl, q1, _, rfl, .inl (SqL.of hq2), _, rfl, _, rfl, t, _, rfl, hg3, q3, _, _, _, rfl, rfl, SqT.of hq3, rfl, _, _, rfl, rfl, .inl ⟨by decide, by decide⟩, _, _, rfl, rfl, _, _, rfl, rfl, ?_⟩
      have em : ((((pk cc.1 cc.2).map V.int).length : Nat) : Int) - 2 * ((cc.1.2.2.1 : Nat) : Int) - 2 = (((ext cc.2).length : Nat) : Int) := by
        rw [List.length_map]
        omega
      show gName 10 (V.int (((((pk cc.1 cc.2).map V.int).length : Nat) : Int) - 2 * ((cc.1.2.2.1 : Nat) : Int) - 2)) _ _ _
      rw [em]
      have eoff : (low : Int) + (((ext cc.2).length : Nat) : Int) = ((low + (ext cc.2).length : Nat) : Int) := by omega
      refine ⟨_, rfl, _, rfl, _, rfl, _, _, rfl, rfl, _, _, _, wd cc.2 - 1, rfl, rg2 (b := (low : Int)) (a := (low : Int) + (((ext cc.2).length : Nat) : Int)) (by omega) (by omega) (by omega) (by omega), for_rangeC (lo := (low : Int)) (c := 2) (n := wd cc.2 - 1) (fun j σ H'' => (∃ v11 ys', σ = [some (.ref t), some (.ref gv), some (.ref tb), some (.ref ln), some (.ref p1), some (.ref p2), some (.str cc.1.1), some (.int (cc.2 : Int)), some (.int (low : Int)), some (.ref q1), some (.int (((ext cc.2).length : Nat) : Int)), v11, v12, v13, v14] ∧ H'' p1 = some (.lst ys') ∧ TupsAt Ir.vs H'' ys' (pre ++ exRs rows low cc j) ∧ ys'.length ≤ 4000 + j ∧ H'' p2 = some (.lst ((dat ++ pk cc.1 cc.2).map V.int))) ∧ Same H H'')
        ⟨⟨_, ys, rfl, hf2, (by rw [show exRs rows low cc 0 = [] from rfl, List.append_nil]; exact hI), yl, hd2⟩, S⟩ ?_ ?_⟩
      · rintro j σ H'' hj ⟨⟨v11, ys', rfl, hy, hI2, yl2, hdd⟩, S2⟩
        have ea : ((low : Int) + (j : Nat) * 2) = ((low + 2 * j : Nat) : Int) := by omega
        have hjl : 2 * j + 1 < (ext cc.2).length := by omega
        have hg : g (dat ++ pk cc.1 cc.2) (low + 2 * j + 1) = (ext cc.2).getD (2 * j + 1) 0 := by
          rw [Nat.add_assoc, ← elow, g_app]
          unfold g pk
          rw [List.append_assoc, List.getD_eq_getElem?_getD, List.getD_eq_getElem?_getD, List.getElem?_append_left hjl]
        have hix : low + 2 * j + 1 < (dat ++ pk cc.1 cc.2).length := by
          rw [List.length_append]
          omega
        have hat := g_at hix
        rw [hg] at hat
        rw [ea]
        refine ⟨_, rfl, .inl ⟨rfl, _, SqL.of hy⟩, _, rfl, _, rfl, _, rfl, _, _, rfl, rfl, p2, _, _, _, rfl, rfl, SqL.of hdd, (by rw [show (((low + 2 * j : Nat) : Int) + 1) = ((low + 2 * j + 1 : Nat) : Int) from by omega]; exact hat), _, rfl, _, rfl, ln, lx, rows, _, rfl, S2 _ _ hln, hL.same S2, Nat.le_trans hrl (by decide), fun J3 s3 => ?_⟩
        refine ⟨(by show 5 ≤ sizeLine; decide), ?_⟩
        walk_at "new4"
        have hy4 := s4 _ _ (s3 _ _ hy)
        refine ⟨_, _, _, rfl, rfl, hy4, Nat.lt_of_le_of_lt (by omega : ys'.length ≤ 5000) (by decide), ?_⟩
        refine ⟨⟨_, ys' ++ [.ref p4], rfl, upd_same, ?_, ?_, ?_⟩, Same.mut ((S2.trans s3).trans s4) h1H⟩
        · rw [exRs_succ, ← List.append_assoc]
          exact TupsAt.snoc (r := exR rows low cc j) (by rw [upd_ne (fun z => by rw [z, hy4] at h4; cases h4)]; exact h4) (((hI2.same s3).same s4).upd hy4)
        · rw [List.length_append]
          show ys'.length + 1 ≤ 4000 + (j + 1)
          omega
        · rw [upd_ne n12]
          exact s4 _ _ (s3 _ _ hdd)
      · rintro σ H'' ⟨⟨v11, ys', rfl, hy, hI2, yl2, hdd⟩, S2⟩
        obtain ⟨_, q4, hg4, hq4⟩ := TabS S2
        refine ⟨_, rfl, _, rfl, t, _, rfl, hg4, q4, _, _, _, rfl, rfl, SqT.of hq4, rfl, ?_⟩
        have ellen : ((((dat ++ pk cc.1 cc.2).map V.int).length : Nat) : Int) = ((low + (pk cc.1 cc.2).length : Nat) : Int) := by rw [List.length_map, List.length_append, elow]
        refine ⟨_, rfl, _, rfl, _, rfl, _, rfl, _, rfl, p2, _, rfl, .inl (SqL.of hdd), ?_⟩
        refine ⟨tb, aw, an, asl, cc.1, cc.2, ((low + (pk cc.1 cc.2).length : Nat) : Int), ws, ts, names, slots, (by rw [ellen] <;> rfl), hT.same S2, k1, ⟨k2, k3, k4, k5⟩, hct.same S2, hnm, hsl, by omega, by omega, fun J3 s3 => ?_⟩
        have S3 := S2.trans s3
        refine ⟨_, rfl, _, rfl, _, rfl, _, _, rfl, rfl, ln, lx, rows, ((low + (ext cc.2).length : Nat) : Int), rfl, S3 _ _ hln, hL.same S3, Nat.le_trans hrl (by decide), fun J4 s4 => ?_⟩
        have S4 := S3.trans s4
        have hy4 := s4 _ _ (s3 _ _ hy)
        have hd4 := s4 _ _ (s3 _ _ hdd)
        have hI4 := (hI2.same s3).same s4
        have yl3 : ys'.length ≤ 5000 := by omega
        have tail : ∀ {oa : V}, oa = lnV (argOf cc) → ∀ (q : Addr), J4 q = none → ∃ ys'', upd (upd J4 q (.tup [.int ((low + (ext cc.2).length : Nat) : Int), .str cc.1.1, oa, .str (meanS cc.1 ts names slots cc.2 ((low + (pk cc.1 cc.2).length : Nat) : Int)), lnV (lineAt rows ((low + (ext cc.2).length : Nat) : Int))])) p1 (.lst (ys' ++ [.ref q])) p1 = some (.lst ys'') ∧
            TupsAt Ir.vs (upd (upd J4 q (.tup [.int ((low + (ext cc.2).length : Nat) : Int), .str cc.1.1, oa, .str (meanS cc.1 ts names slots cc.2 ((low + (pk cc.1 cc.2).length : Nat) : Int)), lnV (lineAt rows ((low + (ext cc.2).length : Nat) : Int))])) p1 (.lst (ys' ++ [.ref q]))) ys'' (irAll ts names slots rows 0 (cs.take (i + 1))) ∧
            upd (upd J4 q (.tup [.int ((low + (ext cc.2).length : Nat) : Int), .str cc.1.1, oa, .str (meanS cc.1 ts names slots cc.2 ((low + (pk cc.1 cc.2).length : Nat) : Int)), lnV (lineAt rows ((low + (ext cc.2).length : Nat) : Int))])) p1 (.lst (ys' ++ [.ref q])) p2 = some (.lst ((chs (cs.take (i + 1))).map V.int)) ∧
            Same H (upd (upd J4 q (.tup [.int ((low + (ext cc.2).length : Nat) : Int), .str cc.1.1, oa, .str (meanS cc.1 ts names slots cc.2 ((low + (pk cc.1 cc.2).length : Nat) : Int)), lnV (lineAt rows ((low + (ext cc.2).length : Nat) : Int))])) p1 (.lst (ys' ++ [.ref q]))) := by
          intro oa eoa q nq
          subst eoa
          have sq : Same J4 (upd J4 q (.tup (lastR ts names slots rows low cc).vs)) := Same.new nq
          have hq : upd J4 q (.tup (lastR ts names slots rows low cc).vs) q = some (.tup (lastR ts names slots rows low cc).vs) := upd_same
          have hy5 := sq _ _ hy4
          refine ⟨ys' ++ [.ref q], upd_same, ?_, ?_, Same.mut (S4.trans sq) h1H⟩
          · rw [snoc]
            unfold irC
            rw [← List.append_assoc]
            refine TupsAt.snoc (r := lastR ts names slots rows low cc) ?_ ((hI4.same sq).upd hy5)
            rw [upd_ne (fun z => by
              rw [z, hy4] at nq
              cases nq)]
            exact hq
          · rw [upd_ne n12, ech]
            exact sq _ _ hd4
        refine ⟨_, rfl, .inl ⟨rfl, _, SqL.of hy4⟩, _, rfl, _, rfl, _, _, rfl, rfl, _, rfl, _, rfl, rfl, _, rfl, ite2 (fun c9 => ?_) (fun c9 => ?_)⟩
        · have ed : argOf cc = none := by
            have := of_decide_eq_true c9
            unfold argOf
            rw [if_pos (by injection this)]
          refine ⟨_, rfl, _, rfl, (by show 5 ≤ sizeLine; decide), fun q nq => ?_⟩
          obtain ⟨ys'', t1, t2, t3, t4⟩ := tail (oa := .non) (by rw [ed]; rfl) q nq
          refine ⟨_, _, _, rfl, rfl, (Same.new nq) _ _ hy4, Nat.lt_of_le_of_lt yl3 (by decide), ?_⟩
          exact ⟨⟨_, _, _, _, _, _, _, _, _, ys'', rfl, t1, t2, t3⟩, t4⟩
        · have ed : argOf cc = some (cc.2 : Int) := by
            unfold argOf
            rw [if_neg (fun z => c9 (decide_eq_true (congrArg V.str z)))]
          refine ⟨_, rfl, _, rfl, _, rfl, (by show 5 ≤ sizeLine; decide), fun q nq => ?_⟩
          obtain ⟨ys'', t1, t2, t3, t4⟩ := tail (oa := .int (cc.2 : Int)) (by rw [ed]; rfl) q nq
          refine ⟨_, _, _, rfl, rfl, (Same.new nq) _ _ hy4, Nat.lt_of_le_of_lt yl3 (by decide), ?_⟩
          exact ⟨⟨_, _, _, _, _, _, _, _, _, ys'', rfl, t1, t2, t3⟩, t4⟩
    · rintro σ H' ⟨⟨v6, v7, v8, v9, v10, v11, v12, v13, v14, ys, rfl, hf, hI, hd⟩, S⟩
      rw [hxl, List.take_length] at hI hd
      refine ⟨_, rfl, _, rfl, (by show 2 ≤ sizeLine; decide), ?_⟩
      walk_at "new3"
      exact k p3 p1 p2 ys H3 (S.trans s3) h3 (s3 _ _ hf) (hI.same s3) (s3 _ _ hd)
end
end K57
set_option maxHeartbeats 4000000
set_option pp.maxSteps 600
namespace K57
open PySem PySem.Spec PyProof.Rows L2 Nd
/-! ### rows of lines that are drawn -/
abbrev s_law_lines : Stmt := top 67
theorem TabAt.but {H H' : Hp} {a t : Addr} {ys : List V} (b : But a H H') (ha : H a = some (.lst ys)) (h : TabAt H t) : TabAt H' t := by
  obtain ⟨kvs, h1, h2⟩ := h
  refine ⟨kvs, b _ _ (fun z => ?_) h1, h2.mono fun q xs e => b _ _ (fun z => ?_) e⟩
  · rw [z, ha] at h1
    cases h1
  · rw [z, ha] at e
    cases e
theorem but_free {H H' : Hp} {a p : Addr} (b : But a H H') (s : Src H' a) (n : H' p = none) : H p = none := by
  cases e : H p with
  | none => rfl
  | some o =>
    have z := b p o (s.ne0 n) e
    rw [n] at z
    cases z
theorem but_new {H H' H2 : Hp} {a p : Addr} {o : HO} (b : But a H H') (hne : p ≠ a) (n : H p = none) : But a H (upd H' p o) := fun q u hq e => by
  rw [upd_ne (fun z => by rw [z, n] at e; cases e)]
  exact b q u hq e
def spLLines : Sp := fun vs H Q _ => ∃ a : Addr, vs = [.ref a] ∧ Src H a ∧ ∀ q xs es H', H q = none → But a H H' → Src H' a → H' q = some (.lst xs) → TupsAt R3.vs H' xs (rowsOf es 0) → EsOk es → es.length ≤ 9 → Q (.ref q) H'
theorem tot_le : ∀ es : List En, (∀ e ∈ es, e.1 ≤ 40) → tot es ≤ 40 * es.length
  | [], _ => Nat.zero_le _
  | e :: t, h => by
    have h1 := h e (List.mem_cons_self ..)
    have h2 := tot_le t fun x hx => h x (List.mem_cons_of_mem _ hx)
    show e.1 + tot t ≤ _
    rw [List.length_cons]
    omega
section
variable {P : Program} {w : World} {K : PySem.W.Frag} {mg : Str → Option Value} {base : Heap}
abbrev N_law_lines : List Str := ["source", "found", "at", "k", "later"]
theorem sc_law_lines : FnScope N_law_lines ["source"] (defScope s_law_lines) := ⟨rfl, rfl, rfl, by decide +kernel, rfl, by decide +kernel, by decide +kernel⟩
theorem ok_law_lines {f : Addr} {fd : FuncData} (T : Gl0 mg) (c_law_next : CalX P w K mg base 1 "_law_next" spNext) (c_law_one : COne P w K mg base) (F : DefX K mg "_law_lines" s_law_lines ["source"] f fd) : CalX P w K mg base 3 "_law_lines" spLLines := by
  refine calx F sc_law_lines (fun vs H Q E h => ?_) (fun cdv A outer s H vs Q E hr h => ?_)
  · obtain ⟨a, rfl, _⟩ := h
    rfl
  · obtain ⟨a, rfl, src, k⟩ := h
    refine ⟨_, (pss_cons (ps_par (i := 1) (j := 2) (by rfl) sc_law_lines.nd rfl rfl (by decide) rfl rfl (pa_cons (pe_lst pa_nil) (pa_cons pe_int pa_nil)) (by rfl))
    (pss_cons (ps_for PassesOwn.never rfl (pi_range1 (by rfl) T.n_range (pa_cons (pe_cx c_law_next hr (by decide) rfl (pa_cons (pv 0) (pa_cons pe_int pa_nil))) pa_nil)) (pg_name (i := 3) sc_law_lines.nd rfl (.inl rfl))
      (pss_cons (ps_set (i := 4) sc_law_lines.nd rfl (.inl rfl) (pe_op op_add (pe_op op_add (pv 2) pe_int) (pe_op op_mul pe_int (pe_cx c_law_next hr (by decide) rfl (pa_cons (pv 0) (pa_cons pe_int pa_nil))))))
    (pss_cons (ps_expr (pe_bm PySem.F.plainAttrs_list PySem.F.slot_list_append PySem.F.type_list_append mt_append (pv 1) (pa_cons (pe_tup (pa_cons (pv 2) (pa_cons (pv 4) (pa_cons (pe_cx c_law_one hr (by decide) rfl (pa_cons (pv 0) (pa_cons (pe_lst (pa_cons pe_non (pa_cons (pe_op op_add pe_int (pv 3)) (pa_cons (pe_op op_sub pe_int (pv 3)) pa_nil)))) pa_nil))) pa_nil)))) pa_nil)))
    (pss_one (ps_set (i := 2) sc_law_lines.nd rfl (.inl rfl) (pv 4))))))
    (pss_one (ps_ret (pv 1))))), ?_⟩
    refine ⟨(by show 0 ≤ sizeLine; decide), ?_⟩
    walk_at "new1"
    have src1 := src.same s1
    have n1a : p1 ≠ a := src.ne0 n1
    refine ⟨_, _, rfl, ?_⟩
    refine ⟨_, rfl, a, 9, rfl, src1, by decide, by decide, fun m J m0 m1 b1 t1 => ?_⟩
    have hJ := b1 _ _ n1a h1
    have B1 := (But.of (a := a) s1).trans b1
    refine ⟨m, rfl, by omega, Int.lt_trans m1 (by decide), for_range (lo := 0) (n := m.toNat) (fun i σ H' => ∃ v3 v4 xs es, σ = [some (.ref a), some (.ref p1), some (.int (endE es 0)), v3, v4] ∧ H' p1 = some (.lst xs) ∧ TupsAt R3.vs H' xs (rowsOf es 0) ∧ es.length = i ∧ (∀ e ∈ es, (1 ≤ e.1 ∧ e.1 ≤ 40) ∧ Lok e.2) ∧ But a H H' ∧ Src H' a)
      ⟨_, _, [], [], rfl, hJ, trivial, rfl, (fun e he => by cases he), B1, t1⟩ ?_ ?_⟩
    · rintro i σ H' hi ⟨v3, v4, xs, es, rfl, hf, hT, hl, hes, B, t⟩
      have i9 : i < 9 := by omega
      have xl : xs.length ≤ 9 := by
        rw [hT.len, rows_len]
        omega
      refine ⟨_, rfl, _, _, rfl, rfl, _, rfl, a, 40, rfl, t, by decide, by decide, fun v J2 v0 v1 b2 t2 => ?_⟩
      refine ⟨_, _, rfl, rfl, .inl ⟨by decide, by decide⟩, _, _, rfl, rfl, ?_⟩
      obtain ⟨u, rfl⟩ : ∃ u : Nat, v = (u : Int) := ⟨v.toNat, by omega⟩
      have el : endE es 0 + 2 + 2 * (u : Int) = endE es 0 + 2 * ((u + 1 : Nat) : Int) := by omega
      show gName 4 (V.int (endE es 0 + 2 + 2 * (u : Int))) _ _ _
      rw [el]
      have hf2 := b2 _ _ n1a hf
      obtain ⟨_, _, _, ea, _⟩ := id t
      have hT2 := hT.but b2 ea
      refine ⟨_, rfl, .inl ⟨rfl, _, SqL.of hf2⟩, _, rfl, _, rfl, _, rfl, _, rfl, _, _, rfl, rfl, _, rfl, _, _, rfl, rfl, (by show 3 ≤ sizeLine; decide), ?_⟩
      walk_at "new2"
      refine ⟨⟨a, p2, _, rfl, t2.same s2, h2, by simp, (by show 3 ≤ 1000; decide), fun v J3 hv b3 t3 => ?_⟩, fun b c e => by cases e; exact t2.ne0 n2⟩
      obtain ⟨l, rfl, hlo⟩ : ∃ l : Option Int, v = lnV l ∧ Lok l := by
        simp only [List.mem_cons, List.mem_nil_iff, or_false] at hv
        rcases hv with rfl | rfl | rfl
        · exact ⟨none, rfl, fun i e => by cases e⟩
        · exact ⟨some (1 + (0 + (i : Int))), rfl, fun j e => by injection e with e; omega⟩
        · exact ⟨some (90 - (0 + (i : Int))), rfl, fun j e => by injection e with e; omega⟩
      have hf3 := b3 _ _ n1a (s2 _ _ hf2)
      obtain ⟨_, _, _, ea2, _⟩ := id (t2.same s2)
      have hT3 := (hT2.same s2).but b3 ea2
      refine ⟨(by show 3 ≤ sizeLine; decide), ?_⟩
      walk_at "new4"
      have hf4 := s4 _ _ hf3
      refine ⟨_, _, _, rfl, rfl, hf4, Nat.lt_of_le_of_lt xl (by decide), ?_⟩
      have erow : rowsOf (es ++ [(u + 1, l)]) 0 = rowsOf es 0 ++ [⟨endE es 0, endE es 0 + 2 * ((u + 1 : Nat) : Int), l⟩] := rows_more es (u + 1, l) 0
      have eend : endE (es ++ [(u + 1, l)]) 0 = endE es 0 + 2 * ((u + 1 : Nat) : Int) := end_more es (u + 1, l) 0
      have t4 := t3.same s4
      have B4 := ((B.trans b2).trans (But.of s2)).trans (b3.trans (But.of s4))
      refine ⟨_, rfl, ?_⟩
      refine ⟨_, _, xs ++ [.ref p4], es ++ [(u + 1, l)], by rw [eend] <;> rfl, upd_same, ?_, by rw [List.length_append, hl]; rfl, ?_, ?_, ?_⟩
      · rw [erow]
        refine TupsAt.snoc (r := ⟨endE es 0, endE es 0 + 2 * ((u + 1 : Nat) : Int), l⟩) ?_ ((hT3.same s4).upd hf4)
        rw [upd_ne (fun z => by rw [z, hf4] at h4; cases h4)]
        exact h4
      · intro e he
        rcases List.mem_append.mp he with z | z
        · exact hes e z
        · rw [List.mem_singleton.mp z]
          exact ⟨⟨Nat.succ_le_succ (Nat.zero_le _), by show u + 1 ≤ 40; omega⟩, hlo⟩
      · intro q o hq e
        rw [upd_ne (fun z => by rw [z, n1] at e; cases e)]
        exact B4 q o hq e
      · obtain ⟨x, y, z, e, r⟩ := t4
        exact ⟨x, y, z, by rw [upd_ne n1a.symm]; exact e, r⟩
    · rintro σ H' ⟨v3, v4, xs, es, rfl, hf, hT, hl, hes, B, t⟩
      have l9 : es.length ≤ 9 := by omega
      refine ⟨_, rfl, k p1 xs es H' n1 B t hf hT ⟨fun e he => (hes e he).1.1, fun e he => (hes e he).2, ?_⟩ l9⟩
      have := tot_le es fun e he => (hes e he).1.2
      omega
end
end K57
set_option maxHeartbeats 4000000
set_option pp.maxSteps 600
namespace K57
open PySem PySem.Spec PyProof.Rows L2 Nd
/-! ### plain facts: lines of joined rows; how long what is told is -/
def lineE : List En → Int → Int → Option Int
  | [], _, _ => none
  | e :: t, b, o => if b ≤ o ∧ o < b + 2 * (e.1 : Int) then e.2 else lineE t (b + 2 * (e.1 : Int)) o
theorem line_rows : ∀ (es : List En) (b o : Int), lineAt (rowsOf es b) o = lineE es b o
  | [], _, _ => rfl
  | e :: t, b, o => by
    have ih := line_rows t (b + 2 * (e.1 : Int)) o
    have er : rowsOf (e :: t) b = ⟨b, b + 2 * (e.1 : Int), e.2⟩ :: rowsOf t (b + 2 * (e.1 : Int)) := rfl
    unfold lineAt at ih ⊢
    rw [er, List.find?_cons]
    unfold lineE
    by_cases c : b ≤ o ∧ o < b + 2 * (e.1 : Int)
    · have hin : inR o ⟨b, b + 2 * (e.1 : Int), e.2⟩ = true := by
        unfold inR
        rw [decide_eq_true c.1, decide_eq_true c.2]
        rfl
      rw [hin, if_pos c]
    · have hin : inR o ⟨b, b + 2 * (e.1 : Int), e.2⟩ = false := by
        unfold inR
        by_cases c1 : b ≤ o
        · rw [decide_eq_true c1, decide_eq_false (fun z => c ⟨c1, z⟩)]
          rfl
        · rw [decide_eq_false c1]
          rfl
      rw [hin, if_neg c]
      exact ih
theorem lineE_glue {q e : Nat} {l : Option Int} (rest : List En) : ∀ (qs : List En) (b o : Int), lineE (qs ++ (q + e, l) :: rest) b o = lineE (qs ++ (q, l) :: (e, l) :: rest) b o
  | [], b, o => by
    show (if b ≤ o ∧ o < b + 2 * ((q + e : Nat) : Int) then l else lineE rest (b + 2 * ((q + e : Nat) : Int)) o) =
      (if b ≤ o ∧ o < b + 2 * (q : Int) then l else if b + 2 * (q : Int) ≤ o ∧ o < b + 2 * (q : Int) + 2 * (e : Int) then l else lineE rest (b + 2 * (q : Int) + 2 * (e : Int)) o)
    have e1 : b + 2 * ((q + e : Nat) : Int) = b + 2 * (q : Int) + 2 * (e : Int) := by omega
    rw [e1]
    by_cases c : b ≤ o ∧ o < b + 2 * (q : Int) + 2 * (e : Int)
    · rw [if_pos c]
      by_cases c2 : b ≤ o ∧ o < b + 2 * (q : Int)
      · rw [if_pos c2]
      · rw [if_neg c2, if_pos ⟨by omega, c.2⟩]
    · rw [if_neg c, if_neg (fun z => c ⟨z.1, by omega⟩), if_neg (fun z => c ⟨by omega, z.2⟩)]
  | x :: t, b, o => by
    show (if _ then _ else lineE (t ++ (q + e, l) :: rest) _ o) = (if _ then _ else lineE (t ++ (q, l) :: (e, l) :: rest) _ o)
    rw [lineE_glue rest t]
theorem lineE_j (acc : List En) (e : En) (rest : List En) (b o : Int) : lineE (jE acc e ++ rest) b o = lineE (acc ++ e :: rest) b o := by
  rcases List.eq_nil_or_concat acc with h | ⟨qs, q, h⟩
  · subst h
    rfl
  · rw [List.concat_eq_append] at h
    subst h
    by_cases c : q.2 = e.2
    · rw [jE_eq c]
      obtain ⟨q1, ql⟩ := q
      obtain ⟨e1, el⟩ := e
      have c : ql = el := c
      subst c
      rw [List.append_assoc, List.append_assoc]
      exact lineE_glue rest qs b o
    · rw [jE_ne c, List.append_assoc (qs ++ [q])]
      rfl
theorem lineE_fold : ∀ (es acc : List En) (b o : Int), lineE (es.foldl jE acc) b o = lineE (acc ++ es) b o
  | [], acc, b, o => by rw [List.append_nil]; rfl
  | e :: t, acc, b, o => by
    show lineE (t.foldl jE (jE acc e)) b o = _
    rw [lineE_fold t, lineE_j]
theorem line_join (es : List En) (o : Int) : lineAt (rowsOf (joinE es) 0) o = lineAt (rowsOf es 0) o := by
  rw [line_rows, line_rows]
  exact lineE_fold es [] 0 o
theorem irC_congr {ts names slots : List Str} {r1 r2 : List R3} (h : ∀ o, lineAt r1 o = lineAt r2 o) (low : Nat) (c : Rw × Nat) : irC ts names slots r1 low c = irC ts names slots r2 low c := by
  have e1 : exR r1 low c = exR r2 low c := by
    funext j
    unfold exR
    rw [h]
  unfold irC exRs lastR
  rw [e1, h]
theorem irAll_congr {ts names slots : List Str} {r1 r2 : List R3} (h : ∀ o, lineAt r1 o = lineAt r2 o) : ∀ (cs : List (Rw × Nat)) (low : Nat), irAll ts names slots r1 low cs = irAll ts names slots r2 low cs
  | [], _ => rfl
  | c :: t, low => by
    show irC ts names slots r1 low c ++ irAll ts names slots r1 _ t = irC ts names slots r2 low c ++ irAll ts names slots r2 _ t
    rw [irC_congr h, irAll_congr h t]
/-- a text of at most n signs -/
def Tx (n : Nat) (x : Str) : Prop := x.length ≤ n ∧ ∀ c ∈ x.cps.toList, c < 16 ^ 8
theorem Tx.app {m n : Nat} {x y : Str} (h : Tx m x) (g : Tx n y) : Tx (m + n) (x ++ y) := by
  refine ⟨?_, fun c hc => ?_⟩
  · show (x.cps ++ y.cps).size ≤ m + n
    rw [Array.size_append]
    exact Nat.add_le_add h.1 g.1
  · have hc : c ∈ (x.cps ++ y.cps).toList := hc
    rw [Array.toList_append] at hc
    exact (List.mem_append.mp hc).elim (h.2 c) (g.2 c)
theorem Tx.mono {m n : Nat} {x : Str} (h : Tx m x) (l : m ≤ n) : Tx n x := ⟨Nat.le_trans h.1 l, h.2⟩
theorem Tx.of {n : Nat} (s : String) (h : (Str.ofString s).length ≤ n) : Tx n (Str.ofString s) := by
  refine ⟨h, fun c hc => ?_⟩
  rw [Str.ofString_eq_toList] at hc
  obtain ⟨d, _, rfl⟩ := List.mem_map.mp (show c ∈ s.toList.map Char.toNat from hc)
  have h1 : d.toNat < 0x110000 := by
    rcases d.valid with h | ⟨_, h⟩
    · exact Nat.lt_of_lt_of_le h (by decide)
    · exact h
  exact Nat.lt_of_lt_of_le h1 (by decide)
theorem Tx.getD {n : Nat} {l : List Str} (h : ∀ x ∈ l, Tx n x) (i : Nat) : Tx n (l.getD i "") := by
  rw [List.getD_eq_getElem?_getD]
  cases e : l[i]? with
  | none => exact Tx.of "" (Nat.le_trans (by decide : (Str.ofString "").length ≤ 0) (Nat.zero_le n))
  | some x => exact h x (List.mem_of_getElem? e)
theorem Tx.dec {n : Nat} {x : Str} (h : (decide (x.length ≤ n) && x.cps.toList.all fun c => decide (c < 16 ^ 8)) = true) : Tx n x := by
  rw [Bool.and_eq_true] at h
  exact ⟨of_decide_eq_true h.1, fun c hc => of_decide_eq_true (List.all_eq_true.mp h.2 c hc)⟩
theorem word_tx {l : List (Key × Vo)} (h : l.all (fun p => match p.1 with | .inr z => decide (z.length ≤ 20) && z.cps.toList.all (fun c => decide (c < 16 ^ 8)) | _ => true) = true) (n : Int) : Tx 20 (wordOf (kv l) n) := by
  unfold wordOf
  cases e : (kv l).find? (fun p => decide (p.2 = V.int n)) with
  | none => exact Tx.of "" (by decide)
  | some p =>
    obtain ⟨q, hq, rfl⟩ := List.mem_map.mp (List.mem_of_find?_eq_some e)
    have g := List.all_eq_true.mp h q hq
    obtain ⟨k, v⟩ := q
    cases k with
    | inl i => exact Tx.of "" (by decide)
    | inr z => exact Tx.dec g
theorem val_tx {l : List (Key × Vo)} (h : l.all (fun p => match p.2 with | .inr z => decide (z.length ≤ 40) && z.cps.toList.all (fun c => decide (c < 16 ^ 8)) | _ => true) = true) (k : Key) : Tx 40 (strOf (valV (kv l) k)) := by
  cases e : valV (kv l) k with
  | none => exact Tx.of "" (by decide)
  | some v =>
    unfold valV at e
    obtain ⟨p, hp, rfl⟩ := Option.map_eq_some_iff.mp e
    obtain ⟨q, hq, rfl⟩ := List.mem_map.mp (List.mem_of_find?_eq_some hp)
    have g := List.all_eq_true.mp h q hq
    obtain ⟨k', v'⟩ := q
    cases v' with
    | inl i => exact Tx.of "" (by decide)
    | inr z => exact Tx.dec g
theorem op_tx (x : Str) (n : Int) : Tx 40 (opP x n) := by
  have hO := word_tx (l := tO) (by decide +kernel)
  have hP := word_tx (l := tP) (by decide +kernel)
  unfold opP
  split
  · split
    · exact (hO _).mono (by decide)
    · exact ((hO _).app (Tx.of (n := 1) "=" (by decide))).mono (by decide)
  · split
    · exact (((Tx.of (n := 5) "bool(" (by decide)).app (hP _)).app (Tx.of (n := 1) ")" (by decide))).mono (by decide)
    · exact (hP _).mono (by decide)
theorem num_tx (x : Str) (n : Int) : Tx 40 (numP x n) := by
  unfold numP
  split
  · split
    · exact Tx.of "not" (by decide)
    · exact Tx.of "" (by decide)
  · split
    · exact val_tx (by decide +kernel) _
    · split
      · exact val_tx (by decide +kernel) _
      · exact Tx.of "" (by decide)
theorem int_tx {i : Int} (h1 : -(10 ^ 60) < i) (h2 : i < 10 ^ 60) : Tx 62 (toString i : Str) := by
  refine Tx.of _ ?_
  have e := PySem.int_text_length_le10 (a := i) (k := 60) (by decide) (by omega)
  rw [PySem.ofString_length]
  omega
theorem mean_tx {ts names slots : List Str} (ht : ∀ x ∈ ts, Tx 100 x) (hn : ∀ x ∈ names, Tx 20 x) (hs : ∀ x ∈ slots, Tx 20 x) (r : Rw) {n : Nat} (nl : n < 4294967296) {e : Int} (e0 : 0 ≤ e) (e1 : e < 2 ^ 40) : Tx 100 (meanS r ts names slots n e) := by
  unfold meanS meanL
  split
  · exact Tx.getD ht n
  · split
    · exact (Tx.getD hn n).mono (by decide)
    · split
      · refine ((Tx.getD hn (n / 2)).app (n := 40) ?_).mono (by decide)
        split
        · exact Tx.of "" (by decide)
        · exact val_tx (l := tM) (by decide +kernel) _
      · split
        · exact (Tx.getD hs n).mono (by decide)
        · split
          · exact (((Tx.getD hs (n / 16)).app (Tx.of (n := 2) ", " (by decide))).app (Tx.getD hs (n % 16))).mono (by decide)
          · split
            · refine ((Tx.of (n := 3) "to " (by decide)).app (int_tx ?_ ?_)).mono (by decide)
              · split <;> omega
              · split <;> omega
            · split
              · exact (op_tx _ _).mono (by decide)
              · exact (num_tx _ _).mono (by decide)
/-! what is told, as data -/
def Ir.ds (r : Ir) : List PyData := [.int r.at_, .str r.word, lnD r.arg, .str r.means, lnD r.line]
theorem dp_ir {K : PySem.W.Frag} {H : Hp} (r : Ir) : DpAll K H r.vs r.ds := .cons (.int _) (.cons (.str _) (.cons (dp_ln _) (.cons (.str _) (.cons (dp_ln _) .nil))))
def irsD (rs : List Ir) : PyData := .list (rs.map fun r => .tuple r.ds)
structure IrOk (r : Ir) : Prop where
  a : 0 ≤ r.at_ ∧ r.at_ < 10 ^ 50
  w : Tx 40 r.word
  g : ∀ i, r.arg = some i → 0 ≤ i ∧ i < 10 ^ 50
  m : Tx 100 r.means
  l : ∀ i, r.line = some i → 0 ≤ i ∧ i < 10 ^ 50
theorem int_show {i : Int} (h : 0 ≤ i ∧ i < 10 ^ 50) : (PyData.int i).showable = true ∧ shB (.int i) ≤ 62 := by
  obtain ⟨h1, h2⟩ := h
  refine ⟨?_, (int_tx (by omega) (by omega)).1⟩
  show decide (i.natAbs.log2 < 1920) = true
  refine decide_eq_true ?_
  by_cases z : i.natAbs = 0
  · rw [z]
    decide
  · exact Nat.lt_trans ((Nat.log2_lt z).mpr (by omega : i.natAbs < 2 ^ 200)) (by decide)
theorem ln_show {o : Option Int} (h : ∀ i, o = some i → 0 ≤ i ∧ i < 10 ^ 50) : (lnD o).showable = true ∧ (lnD o).hasDict = false ∧ (lnD o).depth = 0 ∧ shB (lnD o) ≤ 62 := by
  cases o with
  | none => exact ⟨rfl, rfl, rfl, by show 4 ≤ 62; decide⟩
  | some i =>
    obtain ⟨a, b⟩ := int_show (h i rfl)
    exact ⟨a, rfl, rfl, b⟩
theorem str_show {n : Nat} {x : Str} (h : Tx n x) : shB (.str x) ≤ 10 * n + 2 := by
  show (reprText x).length ≤ _
  have := StrLaws.reprText_len x h.2
  have := h.1
  omega
theorem ir_show {r : Ir} (h : IrOk r) : (PyData.tuple r.ds).showable = true ∧ (PyData.tuple r.ds).hasDict = false ∧ (PyData.tuple r.ds).depth = 1 ∧ shB (.tuple r.ds) ≤ 1700 := by
  obtain ⟨a1, a2⟩ := int_show h.a
  have b2 := str_show h.w
  have d2 := str_show h.m
  obtain ⟨c1, c2, c3, c4⟩ := ln_show h.g
  obtain ⟨l1, l2, l3, l4⟩ := ln_show h.l
  refine ⟨?_, ?_, ?_, ?_⟩
  · show PyData.showableAll _ = true
    simp only [Ir.ds, PyData.showableAll, a1, c1, l1]
    rfl
  · show PyData.hasDictAll _ = false
    simp only [Ir.ds, PyData.hasDictAll, c2, l2]
    rfl
  · show PyData.depthAll _ + 1 = 1
    simp only [Ir.ds, PyData.depthAll, c3, l3]
    rfl
  · show shBs _ + 3 ≤ 1700
    simp only [Ir.ds, shBs]
    omega
theorem irs_show : ∀ rs : List Ir, (∀ r ∈ rs, IrOk r) → PyData.showableAll (rs.map fun r => .tuple r.ds) = true ∧ PyData.hasDictAll (rs.map fun r => .tuple r.ds) = false ∧ PyData.depthAll (rs.map fun r => .tuple r.ds) ≤ 1 ∧ shBs (rs.map fun r => .tuple r.ds) ≤ 1702 * rs.length
  | [], _ => by simp [PyData.showableAll, PyData.hasDictAll, PyData.depthAll, shBs]
  | r :: t, h => by
    obtain ⟨h1, h2, h3, h4⟩ := irs_show t fun m q => h m (by simp [q])
    obtain ⟨g1, g2, g3, g4⟩ := ir_show (h r (by simp))
    refine ⟨?_, ?_, ?_, ?_⟩
    · simp only [List.map_cons, PyData.showableAll, h1, g1]
      rfl
    · simp only [List.map_cons, PyData.hasDictAll, h2, g2]
      rfl
    · simp only [List.map_cons, PyData.depthAll, g3]
      omega
    · simp only [List.map_cons, shBs, List.length_cons]
      omega
theorem irsD_show {rs : List Ir} (h : ∀ r ∈ rs, IrOk r) (hl : rs.length ≤ 200) : (irsD rs).showable = true ∧ (irsD rs).hasDict = false ∧ (irsD rs).depth ≤ 20 ∧ shB (irsD rs) ≤ 1000000 := by
  obtain ⟨h1, h2, h3, h4⟩ := irs_show rs h
  refine ⟨?_, ?_, ?_, ?_⟩
  · show PyData.showable (.list _) = true
    simp only [PyData.showable, h1]
  · show PyData.hasDict (.list _) = false
    simp only [PyData.hasDict, h2]
  · show PyData.depth (.list _) ≤ 20
    simp only [PyData.depth]
    omega
  · show shBs _ + 2 ≤ 1000000
    omega
theorem word_tx40 : ∀ r ∈ rws, (decide (r.1.length ≤ 40) && r.1.cps.toList.all fun c => decide (c < 16 ^ 8)) = true := by decide +kernel
def LnOk (rows : List R3) : Prop := ∀ r ∈ rows, ∀ i, r.ln = some i → 0 ≤ i ∧ i < 10 ^ 50
theorem lineAt_ok {rows : List R3} (h : LnOk rows) (o : Int) : ∀ i, lineAt rows o = some i → 0 ≤ i ∧ i < 10 ^ 50 := by
  intro i e
  unfold lineAt at e
  cases c : rows.find? (inR o) with
  | none =>
    rw [c] at e
    cases e
  | some r =>
    rw [c] at e
    exact h r (List.mem_of_find?_eq_some c) i e
theorem ext_rg (n : Nat) (j : Nat) : 0 ≤ (ext n).getD j 0 ∧ (ext n).getD j 0 < 256 := by
  have h : ∀ x ∈ ext n, 0 ≤ x ∧ x < 256 := by
    intro x hx
    unfold ext exI at hx
    obtain ⟨m, _, hx⟩ := List.mem_flatMap.mp hx
    simp only [List.mem_cons, List.mem_nil_iff, or_false] at hx
    rcases hx with rfl | rfl
    · exact ⟨by decide, by decide⟩
    · have : n / 256 ^ (wd n - 1 - m) % 256 < 256 := Nat.mod_lt _ (by decide)
      omega
  rw [List.getD_eq_getElem?_getD]
  cases e : (ext n)[j]? with
  | none => exact ⟨by decide, by decide⟩
  | some x => exact h x (List.mem_of_getElem? e)
theorem irAll_ok {ts names slots : List Str} {rows : List R3} (ht : ∀ x ∈ ts, Tx 100 x) (hn : ∀ x ∈ names, Tx 20 x) (hs : ∀ x ∈ slots, Tx 20 x) (hr : LnOk rows) : ∀ (cs : List (Rw × Nat)) (low : Nat), (∀ c ∈ cs, c.1 ∈ rws ∧ c.2 < 4294967296) → low + 26 * cs.length ≤ 1000000 → ∀ r ∈ irAll ts names slots rows low cs, IrOk r
  | [], _, _, _, r, h => by cases h
  | c :: t, low, hc, hl, r, h => by
    obtain ⟨c1, c2⟩ := hc c (List.mem_cons_self ..)
    have ps := pk_short c1 c2
    have el := ext_le c.2 c2
    rw [List.length_cons] at hl
    rcases List.mem_append.mp (show r ∈ irC ts names slots rows low c ++ irAll ts names slots rows _ t from h) with z | z
    · rcases List.mem_append.mp (show r ∈ exRs rows low c (wd c.2 - 1) ++ [lastR ts names slots rows low c] from z) with y | y
      · obtain ⟨j, hj, rfl⟩ := List.mem_map.mp y
        have hj := List.mem_range.mp hj
        have hw := (wd_rg c.2).2
        have eg := ext_rg c.2 (2 * j + 1)
        exact ⟨⟨by show (0 : Int) ≤ ((low + 2 * j : Nat) : Int); omega, by show ((low + 2 * j : Nat) : Int) < _; omega⟩, Tx.of "EXTENDED_ARG" (by decide), fun i e => by injection e with e; omega, Tx.of "" (by decide), lineAt_ok hr _⟩
      · rw [List.mem_singleton.mp y]
        refine ⟨⟨by show (0 : Int) ≤ ((low + (ext c.2).length : Nat) : Int); omega, by show ((low + (ext c.2).length : Nat) : Int) < _; omega⟩, Tx.dec (word_tx40 c.1 c1), fun i e => ?_, mean_tx ht hn hs c.1 c2 (by omega) (by omega), lineAt_ok hr _⟩
        have e : argOf c = some i := e
        unfold argOf at e
        split at e
        · cases e
        · injection e with e
          omega
    · exact irAll_ok ht hn hs hr t _ (fun x hx => hc x (List.mem_cons_of_mem _ hx)) (by omega) r z
end K57
set_option maxHeartbeats 4000000
set_option pp.maxSteps 600
namespace K57
open PySem PySem.Spec PyProof.Rows L2 Nd
/-! ### the law's own things: texts -/
def okC (c : Nat) : Bool := !decide ((⟨#[c]⟩ : Str).cps.toList < (" " : Str).cps.toList) && !decide (("~" : Str).cps.toList < (⟨#[c]⟩ : Str).cps.toList) && decide (((⟨#[c]⟩ : Str).cps.getD 0 0 : Int) ≠ 37)
theorem okS_of {x : Str} (h : x.cps.toList.all okC = true) : OkS x := by
  intro i c hc
  have hm : c ∈ x.cps.toList := by
    rw [← Array.getElem?_toList] at hc
    exact List.mem_of_getElem? hc
  have h2 := List.all_eq_true.mp h c hm
  unfold okC at h2
  rw [Bool.and_eq_true, Bool.and_eq_true, Bool.not_eq_true', Bool.not_eq_true'] at h2
  exact ⟨h2.1.1, h2.1.2, of_decide_eq_true h2.2⟩
def okT (x : Str) : Bool := decide (x.length ≤ 20) && x.cps.toList.all fun c => okC c && decide (c < 16 ^ 8)
theorem okT_of {x : Str} (h : okT x = true) : Tx 20 x ∧ x.cps.size ≤ 1000 ∧ OkS x := by
  unfold okT at h
  rw [Bool.and_eq_true] at h
  have hl := of_decide_eq_true h.1
  have ha := List.all_eq_true.mp h.2
  refine ⟨⟨hl, fun c hc => ?_⟩, Nat.le_trans hl (by decide), okS_of (List.all_eq_true.mpr fun c hc => ?_)⟩
  · have := ha c hc
    rw [Bool.and_eq_true] at this
    exact of_decide_eq_true this.2
  · have := ha c hc
    rw [Bool.and_eq_true] at this
    exact this.1
def nmOf (x : Str) (j : Nat) : Str := x ++ (toString (j : Int) : Str)
theorem nm_ok : ∀ j ∈ List.range 400, (okT (nmOf "n" j) && okT (nmOf "s" j)) = true := by decide +kernel
def nm3 : List Str := ["a", "b c", "__" ++ "x__"]
def sl3 : List Str := [".0", "p", "q"]
def namesOf (m : Nat) : List Str := nm3 ++ (List.range m).map (nmOf "n")
def slotsOf (m : Nat) : List Str := sl3 ++ (List.range m).map (nmOf "s")
theorem names_ok {m : Nat} (h : m ≤ 400) : ∀ x ∈ namesOf m, okT x = true := by
  intro x hx
  rcases List.mem_append.mp hx with z | z
  · exact (by decide +kernel : ∀ x ∈ nm3, okT x = true) x z
  · obtain ⟨j, hj, rfl⟩ := List.mem_map.mp z
    have hj := List.mem_range.mp hj
    have := nm_ok j (List.mem_range.mpr (by omega))
    rw [Bool.and_eq_true] at this
    exact this.1
theorem slots_ok {m : Nat} (h : m ≤ 400) : ∀ x ∈ slotsOf m, okT x = true := by
  intro x hx
  rcases List.mem_append.mp hx with z | z
  · exact (by decide +kernel : ∀ x ∈ sl3, okT x = true) x z
  · obtain ⟨j, hj, rfl⟩ := List.mem_map.mp z
    have hj := List.mem_range.mp hj
    have := nm_ok j (List.mem_range.mpr (by omega))
    rw [Bool.and_eq_true] at this
    exact this.2
theorem names_len (m : Nat) : (namesOf m).length = 3 + m := by
  unfold namesOf
  rw [List.length_append, List.length_map, List.length_range]
  rfl
theorem slots_len (m : Nat) : (slotsOf m).length = 3 + m := by
  unfold slotsOf
  rw [List.length_append, List.length_map, List.length_range]
  rfl
theorem strs_ok {l : List Str} (h : ∀ x ∈ l, okT x = true) (hl : l.length ≤ 1000) : isStrs l := ⟨fun x hx => (okT_of (h x hx)).2, Nat.le_trans hl (by decide)⟩
theorem txs_ok {l : List Str} (h : ∀ x ∈ l, okT x = true) : ∀ x ∈ l, Tx 20 x := fun x hx => (okT_of (h x hx)).1
/-! ### the law's wares -/
structure Wa (Cc : Addr) (H : Hp) (tA tB tE ow : Addr) : Prop where
  A : H tA = some (.tup [.int 1, .ref tB])
  B : H tB = some (.tup [.non, .str "x"])
  E : H tE = some (.tup [])
  O : ∃ dx fs, H ow = some (.ins Cc dx fs) ∧ fs.lookup ("path" : Str) = some (.str "p.q") ∧ fs.lookup ("nested" : Str) = some (.int 1)
section
variable {K : PySem.W.Frag} {Cc tA tB tE ow : Addr} {H H' : Hp}
theorem Wa.same (h : Wa Cc H tA tB tE ow) (s : Same H H') : Wa Cc H' tA tB tE ow := by
  obtain ⟨dx, fs, o1, o2, o3⟩ := h.O
  exact ⟨s _ _ h.A, s _ _ h.B, s _ _ h.E, dx, fs, s _ _ o1, o2, o3⟩
theorem Wa.but {a : Addr} {ys : List V} (h : Wa Cc H tA tB tE ow) (b : But a H H') (ha : H a = some (.lst ys)) : Wa Cc H' tA tB tE ow := by
  obtain ⟨dx, fs, o1, o2, o3⟩ := h.O
  refine ⟨b _ _ (fun z => ?_) h.A, b _ _ (fun z => ?_) h.B, b _ _ (fun z => ?_) h.E, dx, fs, b _ _ (fun z => ?_) o1, o2, o3⟩
  · have e := h.A
    rw [z, ha] at e
    cases e
  · have e := h.B
    rw [z, ha] at e
    cases e
  · have e := h.E
    rw [z, ha] at e
    cases e
  · rw [z, ha] at o1
    cases o1
def ws9 (tA tE ow : Addr) : List V := [.non, .bl true, .int 5, .int (0 - 7), .str "ab", .ref tA, .ref ow, .int (10 ^ Int.toNat 40), .ref tE]
def wsOf (tA tE ow : Addr) (z : Nat) : List V := ws9 tA tE ow ++ List.replicate z (.int 0)
def dA : PyData := .tuple [.int 1, .tuple [.none, .str "x"]]
def ts9 : List Str := [PyData.none.shown, (PyData.bool true).shown, (PyData.int 5).shown, (PyData.int (0 - 7)).shown, (PyData.str "ab").shown, dA.shown, "<code p.q>", (PyData.int (10 ^ Int.toNat 40)).shown, (PyData.tuple []).shown]
def tsOf (z : Nat) : List Str := ts9 ++ List.replicate z (PyData.int 0).shown
theorem ts_tx (z : Nat) : ∀ x ∈ tsOf z, Tx 100 x := by
  intro x hx
  rcases List.mem_append.mp hx with h | h
  · exact Tx.dec ((by decide +kernel : ∀ x ∈ ts9, (decide (x.length ≤ 100) && x.cps.toList.all fun c => decide (c < 16 ^ 8)) = true) x h)
  · rw [List.eq_of_mem_replicate h]
    exact Tx.dec (by decide +kernel)
theorem wsOf_len (tA tE ow : Addr) (z : Nat) : (wsOf tA tE ow z).length = 9 + z := by
  show (ws9 tA tE ow ++ _).length = _
  rw [List.length_append, List.length_replicate]
  rfl
/-- one by one -/
inductive CLa (K : PySem.W.Frag) (Cc : Addr) (H : Hp) : List V → List Str → Prop
  | nil : CLa K Cc H [] []
  | cons {x : V} {z : Str} {xs : List V} {zs : List Str} : CL K Cc H x z → CLa K Cc H xs zs → CLa K Cc H (x :: xs) (z :: zs)
theorem CLa.cls : ∀ {xs : List V} {zs : List Str}, CLa K Cc H xs zs → CLs K Cc H xs zs
  | _, _, .nil => ⟨rfl, fun i x e => by cases e⟩
  | _, _, .cons h t => by
    obtain ⟨h1, h2⟩ := t.cls
    refine ⟨by rw [List.length_cons, List.length_cons, h1], fun i x e => ?_⟩
    cases i with
    | zero =>
      cases e
      exact h
    | succ i => exact h2 i x e
theorem CLa.app {us : List V} {ys : List Str} (g : CLa K Cc H us ys) : ∀ {xs : List V} {zs : List Str}, CLa K Cc H xs zs → CLa K Cc H (xs ++ us) (zs ++ ys)
  | _, _, .nil => g
  | _, _, .cons h t => .cons h (CLa.app g t)
theorem CLa.rep {x : V} {z : Str} (h : CL K Cc H x z) : ∀ n, CLa K Cc H (List.replicate n x) (List.replicate n z)
  | 0 => .nil
  | n + 1 => .cons h (CLa.rep h n)
theorem cl_int {i : Int} (h : (PyData.int i).showable = true) (h4 : shB (.int i) ≤ 1000) : CL K Cc H (.int i) (PyData.int i).shown :=
  .dat (.int i) ⟨"int", by decide, .base (.int i)⟩ h rfl (by show 0 ≤ 20; decide) h4
theorem Wa.dpA (h : Wa Cc H tA tB tE ow) : Dp K H (.ref tA) dA := .tup (SqT.of h.A) (.cons (.int 1) (.cons (.tup (SqT.of h.B) (.cons .non (.cons (.str "x") .nil))) .nil))
theorem Wa.cls (h : Wa Cc H tA tB tE ow) (z : Nat) : CLs K Cc H (wsOf tA tE ow z) (tsOf z) := by
  obtain ⟨dx, fs, o1, o2, o3⟩ := h.O
  refine (CLa.app (CLa.rep (cl_int (by decide +kernel) (by decide +kernel)) z) ?_).cls
  refine .cons (.dat .non ⟨"NoneType", by decide, .base .non⟩ (by decide +kernel) (by decide +kernel) (by decide +kernel) (by decide +kernel)) ?_
  refine .cons (.dat (.bl true) ⟨"bool", by decide, .base (.bl true)⟩ (by decide +kernel) (by decide +kernel) (by decide +kernel) (by decide +kernel)) ?_
  refine .cons (cl_int (by decide +kernel) (by decide +kernel)) ?_
  refine .cons (cl_int (by decide +kernel) (by decide +kernel)) ?_
  refine .cons (.dat (.str "ab") ⟨"str", by decide, .base (.str _)⟩ (by decide +kernel) (by decide +kernel) (by decide +kernel) (by decide +kernel)) ?_
  refine .cons (.dat h.dpA ⟨"tuple", by decide, .base (.tup h.A)⟩ (by decide +kernel) (by decide +kernel) (by decide +kernel) (by decide +kernel)) ?_
  refine .cons (.cod o1 o2) ?_
  refine .cons (cl_int (by decide +kernel) (by decide +kernel)) ?_
  refine .cons (.dat (.tup (SqT.of h.E) .nil) ⟨"tuple", by decide, .base (.tup h.E)⟩ (by decide +kernel) (by decide +kernel) (by decide +kernel) (by decide +kernel)) ?_
  exact .nil
theorem Wa.ktop (h : Wa Cc H tA tB tE ow) (z : Nat) : ∀ x ∈ wsOf tA tE ow z, KTop Cc 2 H x := by
  intro x hx
  rcases List.mem_append.mp hx with q | q
  · obtain ⟨dx, fs, o1, o2, o3⟩ := h.O
    simp only [ws9, List.mem_cons, List.mem_nil_iff, or_false] at q
    rcases q with rfl | rfl | rfl | rfl | rfl | rfl | rfl | rfl | rfl
    · exact .inl .non
    · exact .inl (.bl true)
    · exact .inl (.int _)
    · exact .inl (.int _)
    · exact .inl (.str "ab" (by decide +kernel) (okS_of (by decide +kernel)))
    · refine .inl (.tup h.A (by show 2 ≤ 100000; decide) fun x hx => ?_)
      simp only [List.mem_cons, List.mem_nil_iff, or_false] at hx
      rcases hx with rfl | rfl
      · exact .int 1
      · refine .tup h.B (by show 2 ≤ 100000; decide) fun x hx => ?_
        simp only [List.mem_cons, List.mem_nil_iff, or_false] at hx
        rcases hx with rfl | rfl
        · exact .non
        · exact .str "x" (by decide +kernel) (okS_of (by decide +kernel))
    · exact .inr ⟨1, _, dx, fs, rfl, o1, o3, by decide, by decide⟩
    · exact .inl (.int _)
    · exact .inl (.tup h.E (by show 0 ≤ 100000; decide) fun x hx => by cases hx)
  · rw [List.eq_of_mem_replicate q]
    exact .inl (.int 0)
end
/-! ### codes -/
theorem num_of {i : Int} (h0 : 0 ≤ i) (h1 : i ≤ 2147483647) : isNum (.int i) := ⟨i, rfl, h0, h1⟩
theorem bts_dec {l : List Int} (h : (l.all (fun n => decide (0 ≤ n ∧ n ≤ 255)) && decide (l.length ≤ 100000)) = true) : isBts l := by
  rw [Bool.and_eq_true] at h
  exact ⟨fun n hn => of_decide_eq_true (List.all_eq_true.mp h.1 n hn), of_decide_eq_true h.2⟩
def cdOwn : CD := ⟨0, 0, 1, 0, [30, 0], [], [], [], [], "q", "p.q", 1, [], []⟩
theorem own_ok {Cc : Addr} {H : Hp} : CdOk Cc 2 H cdOwn where
  n1 := num_of (i := 0) (by decide) (by decide)
  n2 := num_of (i := 0) (by decide) (by decide)
  n3 := num_of (i := 1) (by decide) (by decide)
  n4 := num_of (i := 0) (by decide) (by decide)
  code := bts_dec (by decide +kernel)
  consts := fun x hx => by cases hx
  clen := (by decide : 0 ≤ 100000)
  names := ⟨fun x hx => (List.not_mem_nil hx).elim, (by decide : 0 ≤ 100000)⟩
  slots := ⟨fun x hx => (List.not_mem_nil hx).elim, (by decide : 0 ≤ 100000)⟩
  kinds := bts_dec (by decide +kernel)
  klen := rfl
  name := ⟨"q", rfl, by decide +kernel, okS_of (by decide +kernel)⟩
  path := ⟨"p.q", rfl, by decide +kernel, okS_of (by decide +kernel)⟩
  line := num_of (i := 1) (by decide) (by decide)
  lines := bts_dec (by decide +kernel)
  handlers := bts_dec (by decide +kernel)
theorem own_wa {Cc ow : Addr} {H : Hp} {m : Int} (n : m = 1) (h : CodeAt Cc H ow cdOwn m) : ∃ dx fs, H ow = some (.ins Cc dx fs) ∧ fs.lookup ("path" : Str) = some (.str "p.q") ∧ fs.lookup ("nested" : Str) = some (.int 1) := by
  obtain ⟨dx, fs, h0, _, _, _, _, _, _, _, _, _, _, hp, _, _, _, hm⟩ := h
  exact ⟨dx, fs, h0, hp, by rw [hm, n]⟩
def cdOf (d : List Int) (ws : List V) (names slots : List Str) (sp : List Int) : CD := ⟨0, 0, 1, 0, d, ws, names, slots, List.replicate slots.length 32, "f", "f", 3, sp, [1]⟩
theorem made_ok {Cc : Addr} {H : Hp} {d : List Int} {ws : List V} {names slots : List Str} {sp : List Int} (hd : isBts d) (hw : ∀ x ∈ ws, KTop Cc 2 H x) (wl : ws.length ≤ 1000) (hn : isStrs names) (hs : isStrs slots) (hp : isBts sp) : CdOk Cc 2 H (cdOf d ws names slots sp) where
  n1 := num_of (i := 0) (by decide) (by decide)
  n2 := num_of (i := 0) (by decide) (by decide)
  n3 := num_of (i := 1) (by decide) (by decide)
  n4 := num_of (i := 0) (by decide) (by decide)
  code := hd
  consts := hw
  clen := Nat.le_trans wl (by decide)
  names := hn
  slots := hs
  kinds := ⟨fun n hn => by
    rw [List.eq_of_mem_replicate (show n ∈ List.replicate slots.length (32 : Int) from hn)]
    exact ⟨by decide, by decide⟩, by
    show (List.replicate slots.length (32 : Int)).length ≤ 100000
    rw [List.length_replicate]
    exact hs.2⟩
  klen := by
    show (List.replicate slots.length (32 : Int)).length = _
    rw [List.length_replicate]
    rfl
  name := ⟨"f", rfl, by decide +kernel, okS_of (by decide +kernel)⟩
  path := ⟨"f", rfl, by decide +kernel, okS_of (by decide +kernel)⟩
  line := num_of (i := 3) (by decide) (by decide)
  lines := hp
  handlers := bts_dec (l := [1]) (by decide +kernel)
/-! ### bytes -/
theorem mk_byte {l : List Int} (h : ∀ d ∈ l, 0 ≤ d ∧ d < 64) : ∀ x ∈ mk l, 0 ≤ x ∧ x < 128 := by
  intro x hx
  obtain ⟨j, hj⟩ := List.mem_iff_getElem?.mp hx
  have hl : (mk l).length = l.length := mk_len _
  have hj2 : j < l.length := by
    rw [← hl]
    exact (List.getElem?_eq_some_iff.mp hj).1
  have g := mk_get l j _ (List.getElem?_eq_getElem hj2)
  have e' := Option.some.inj (hj.symm.trans g)
  have hm := h (l[j]) (List.getElem_mem hj2)
  split at e' <;> omega
theorem ent_byte {u : Nat} {m : Option Int} (h : 1 ≤ u ∧ u ≤ 8) : ∀ x ∈ ent u m, 0 ≤ x ∧ x ≤ 255 := by
  intro x hx
  cases m with
  | none =>
    have : x = 248 + (u : Int) - 1 := by simpa [ent] using hx
    omega
  | some n =>
    rcases List.mem_cons.mp hx with z | z
    · omega
    · have := mk_byte (dig_dig (sg n)) x z
      omega
theorem tb_byte : ∀ (cs : List En) (last : Int), (∀ e ∈ cs, 1 ≤ e.1 ∧ e.1 ≤ 8) → ∀ x ∈ tb cs last, 0 ≤ x ∧ x ≤ 255
  | [], _, _, x, hx => by simp [tb] at hx
  | e :: r, last, h, x, hx => by
    rcases List.mem_append.mp hx with z | z
    · exact ent_byte (h e (by simp)) x z
    · exact tb_byte r _ (fun y hy => h y (by simp [hy])) x z
theorem tb_bts {es : List En} (h : EsOk es) : isBts (tb (chE (joinE es)) 3) := by
  have ok := ch_ok h.join
  have h1 := tb_len (chE (joinE es)) 3 ok.l ⟨by decide, by decide⟩
  have h2 := ok.n
  exact ⟨tb_byte _ _ ok.u, by omega⟩
theorem num_rg : ∀ r ∈ rws, 0 ≤ r.2.1 ∧ r.2.1 ≤ 255 := by decide +kernel
theorem pk_byte {r : Rw} {n : Nat} (hr : r ∈ rws) : ∀ x ∈ pk r n, 0 ≤ x ∧ x ≤ 255 := by
  intro x hx
  unfold pk at hx
  rcases List.mem_append.mp hx with h | h
  · rcases List.mem_append.mp h with h | h
    · unfold ext exI at h
      obtain ⟨j, _, h⟩ := List.mem_flatMap.mp h
      simp only [List.mem_cons, List.mem_nil_iff, or_false] at h
      rcases h with rfl | rfl
      · exact ⟨by decide, by decide⟩
      · have : n / 256 ^ (wd n - 1 - j) % 256 < 256 := Nat.mod_lt _ (by decide)
        omega
    · simp only [List.mem_cons, List.mem_nil_iff, or_false] at h
      rcases h with rfl | rfl
      · exact num_rg r hr
      · have : n % 256 < 256 := Nat.mod_lt _ (by decide)
        omega
  · rw [List.eq_of_mem_replicate h]
    exact ⟨by decide, by decide⟩
theorem chs_byte : ∀ {cs : List (Rw × Nat)}, (∀ c ∈ cs, c.1 ∈ rws ∧ c.2 < 4294967296) → (∀ x ∈ chs cs, 0 ≤ x ∧ x ≤ 255) ∧ (chs cs).length ≤ 26 * cs.length
  | [], _ => ⟨(fun x hx => by cases hx), Nat.le_refl _⟩
  | c :: t, h => by
    obtain ⟨h1, h2⟩ := chs_byte (cs := t) fun y hy => h y (List.mem_cons_of_mem _ hy)
    obtain ⟨g1, g2⟩ := h c (List.mem_cons_self ..)
    refine ⟨fun x hx => ?_, ?_⟩
    · rcases List.mem_append.mp (show x ∈ pk c.1 c.2 ++ chs t from hx) with q | q
      · exact pk_byte g1 x q
      · exact h1 x q
    · show (pk c.1 c.2 ++ chs t).length ≤ _
      have := pk_short g1 g2
      rw [List.length_append, List.length_cons]
      omega
/-! ### lines -/
theorem rows_ln : ∀ (es : List En) (b : Int), (∀ e ∈ es, Lok e.2) → ∀ r ∈ rowsOf es b, Lok r.ln
  | [], _, _, r, h => by simp [rowsOf] at h
  | e :: t, b, hl, r, h => by
    rcases List.mem_cons.mp h with z | z
    · subst z
      exact hl e (by simp)
    · exact rows_ln t (b + 2 * (e.1 : Int)) (fun x hx => hl x (by simp [hx])) r z
theorem rows_lnok {es : List En} (h : EsOk es) : LnOk (rowsOf es 0) := fun r hr i e => by
  have := rows_ln es 0 h.l r hr i e
  unfold Bas at this
  omega
end K57
set_option maxHeartbeats 4000000
set_option pp.maxSteps 600
namespace K57
open PySem PySem.Spec PyProof.Rows L2 Nd
/-! ### the law: what stands, and what it calls -/
abbrev s_law : Stmt := top 68
def lamQ : Str := (envOfC "law" (defScope s_law) 0 0 .none).qual ++ "<lambda>"
structure Ev (Cc t pl ps tb aw an asl tA tB tE ow : Addr) (cells : List V) (z mn ms : Nat) (H : Hp) : Prop where
  ne : pl ≠ ps ∧ tb ≠ ps ∧ aw ≠ ps ∧ an ≠ ps ∧ asl ≠ ps
  L : H pl = some (.lst cells)
  T : TabAt H t
  S : Src H ps
  W : Wa Cc H tA tB tE ow
  B : Tbs H tb aw an asl (wsOf tA tE ow z) (namesOf mn) (slotsOf ms)
structure Gv (Cc t pl ps tb aw an asl tA tB tE ow : Addr) (cells : List V) (z mn ms : Nat) (gv : Addr) (xs : List V) (cs : List (Rw × Nat)) (H : Hp) : Prop where
  E : Ev Cc t pl ps tb aw an asl tA tB tE ow cells z mn ms H
  ne : pl ≠ gv ∧ ps ≠ gv ∧ tb ≠ gv ∧ aw ≠ gv ∧ an ≠ gv ∧ asl ≠ gv
  G : H gv = some (.lst xs)
  R : TupsAt wp H xs cs
  O : ∀ c ∈ cs, c.1 ∈ rws ∧ Dok (wsOf tA tE ow z).length (namesOf mn).length (slotsOf ms).length c.1.2.2.2 c.2
section
variable {Cc t pl ps tb aw an asl tA tB tE ow gv : Addr} {cells : List V} {z mn ms : Nat} {H H' : Hp} {xs : List V} {cs : List (Rw × Nat)}
theorem Ev.same (h : Ev Cc t pl ps tb aw an asl tA tB tE ow cells z mn ms H) (s : Same H H') : Ev Cc t pl ps tb aw an asl tA tB tE ow cells z mn ms H' :=
  ⟨h.ne, s _ _ h.L, h.T.same s, h.S.same s, h.W.same s, h.B.same s⟩
theorem Ev.but (h : Ev Cc t pl ps tb aw an asl tA tB tE ow cells z mn ms H) (b : But ps H H') (s : Src H' ps) : Ev Cc t pl ps tb aw an asl tA tB tE ow cells z mn ms H' := by
  obtain ⟨x, y, w, e, _⟩ := id h.S
  exact ⟨h.ne, b _ _ h.ne.1 h.L, h.T.but b e, s, h.W.but b e, h.B.but b h.ne.2⟩
theorem Gv.same (h : Gv Cc t pl ps tb aw an asl tA tB tE ow cells z mn ms gv xs cs H) (s : Same H H') : Gv Cc t pl ps tb aw an asl tA tB tE ow cells z mn ms gv xs cs H' :=
  ⟨h.E.same s, h.ne, s _ _ h.G, h.R.same s, h.O⟩
theorem Gv.but (h : Gv Cc t pl ps tb aw an asl tA tB tE ow cells z mn ms gv xs cs H) (b : But ps H H') (s : Src H' ps) : Gv Cc t pl ps tb aw an asl tA tB tE ow cells z mn ms gv xs cs H' := by
  obtain ⟨x, y, w, e, _⟩ := id h.E.S
  exact ⟨h.E.but b s, h.ne, b _ _ (fun z => h.ne.2.1 z.symm) h.G, h.R.but b e, h.O⟩
theorem Gv.snoc {p : Addr} {c : Rw × Nat} (h : Gv Cc t pl ps tb aw an asl tA tB tE ow cells z mn ms gv xs cs H) (hp : H p = some (.tup (wp c))) (hc : c.1 ∈ rws ∧ Dok (wsOf tA tE ow z).length (namesOf mn).length (slotsOf ms).length c.1.2.2.2 c.2) :
    Gv Cc t pl ps tb aw an asl tA tB tE ow cells z mn ms gv (xs ++ [.ref p]) (cs ++ [c]) (upd H gv (.lst (xs ++ [.ref p]))) := by
  have b : But gv H (upd H gv (.lst (xs ++ [.ref p]))) := fun q o n e => by rw [upd_ne n]; exact e
  obtain ⟨n1, n2, n3, n4, n5, n6⟩ := h.ne
  obtain ⟨x, y, w, e, q⟩ := id h.E.S
  refine ⟨⟨h.E.ne, b _ _ n1 h.E.L, h.E.T.but b h.G, ⟨x, y, w, b _ _ n2 e, q⟩, h.E.W.but b h.G, h.E.B.but b ⟨n3, n4, n5, n6⟩⟩, h.ne, upd_same, TupsAt.snoc ?_ (h.R.but b h.G), fun d hd => ?_⟩
  · refine b _ _ (fun z => ?_) hp
    have g := h.G
    rw [← z, hp] at g
    cases g
  · rcases List.mem_append.mp hd with u | u
    · exact h.O d u
    · rw [List.mem_singleton.mp u]
      exact hc
end
/-- all that the law calls -/
structure Cals (P : Program) (w : World) (K : PySem.W.Frag) (mg : Str → Option Value) (base : Heap) (Cc : Addr) : Prop where
  table : CalX P w K mg base 1 "_law_table" spTable
  source_of : CalX P w K mg base 1 "_law_source_of" spSource
  next : CalX P w K mg base 1 "_law_next" spNext
  one : COne P w K mg base
  drawn : CalX P w K mg base 4 "_law_drawn" spDrawn
  lines : CalX P w K mg base 3 "_law_lines" spLLines
  told : CalG P w K mg base 3 "_law_told" (spLTold K Cc)
  lbytes : CalX P w K mg base 3 "_law_line_bytes" spLLineBytes
  instr : CalG P w K mg base 5 "instructions" (spInstr K Cc)
  kinstr : CalGK P w K mg base 5 "instructions" "code" (spInstr K Cc)
def spLaw (K : PySem.W.Frag) (Pt : Addr) : Sp := fun vs H Q _ => ∃ (a : Addr) (ns : List Int), vs = [.ref a] ∧ ScrL K H a (ns.map V.int) ∧ ns.length ≤ 100000 ∧ LamX.Tabs [(Pt, lamQ)] H ∧ ∀ H', Q (.bl true) H'
abbrev N_law : List Str := ["script", "table", "cell", "source", "own", "wares", "names", "slots", "tables", "given", "k", "word", "lines", "is_none", "due", "data", "spans", "made", "found"]
theorem sc_law : FnScope N_law ["script"] (defScope s_law) := ⟨rfl, rfl, rfl, by decide +kernel, rfl, by decide +kernel, by decide +kernel⟩
theorem room10 : Room 10 callerA := ⟨rfl, by decide, by decide⟩
theorem GlK.gC {P : Program} {K : PySem.W.Frag} {mg : Str → Option Value} {Cc Cn fI : Addr} (G : GlK P K mg Cc Cn fI) : mg "Code" = some (.ref Cc) := by
  obtain ⟨u, e, r⟩ := G.c_Code
  rw [e]
  exact congrArg some r
theorem rep_flat {α : Type} (x : α) (z : Nat) : (List.replicate (z : Int).toNat [x]).flatten = List.replicate z x := by
  rw [Int.toNat_natCast]
  induction z with
  | zero => rfl
  | succ n ih => rw [List.replicate_succ, List.flatten_cons, ih]; rfl
theorem lc_log {i : Nat} (h : i < 1000) : ((0 : Int) + (i : Int)).natAbs.log2 < 1920 := by
  by_cases z : ((0 : Int) + (i : Int)).natAbs = 0
  · rw [z]
    decide
  · exact Nat.lt_trans ((Nat.log2_lt z).mpr (by omega : _ < 2 ^ 200)) (by decide)
theorem lc_len {x : Str} {i : Nat} (hx : x.length ≤ 10) (h : i < 1000) : x.length + (Str.ofString (toString ((0 : Int) + (i : Int)))).length ≤ sizeLine := by
  have h1 := (int_tx (i := (0 : Int) + (i : Int)) (by omega) (by omega)).1
  exact Nat.le_trans (Nat.add_le_add hx h1) (by decide)
theorem lc_next (x : Str) (i : Nat) : some (HO.lst (((List.range i).map (nmOf x)).map V.str ++ [V.str (x ++ Str.ofString (toString ((0 : Int) + (i : Int))))])) = some (.lst (((List.range (i + 1)).map (nmOf x)).map V.str)) := by
  rw [List.range_succ, List.map_append, List.map_append, Int.zero_add]
  rfl
end K57
set_option maxHeartbeats 4000000
set_option pp.maxSteps 600
namespace K57
open PySem PySem.Spec PyProof.Rows L2 Nd
/-! ### the law -/
section
variable {P : Program} {w : World} {K : PySem.W.Frag} {mg : Str → Option Value} {base : Heap} {Cc Cn fI fN fa c Pt : Addr} {fdN : FuncData} {ps0 : List Str}
theorem ok_law {dV kV doc pm ct oc : Value} {an od : Option Addr} {osl : Array (Option Value)} (T : Gl0 mg) (TG : Gg mg) (TM : Gm mg) (G : GlK P K mg Cc Cn fI) (M : Mk K Cc fN) (FN : FnOk P w K mg base (L2.CX P w) 7 fN fdN ps0 (spInit Cc 2)) (BN : Binds K fdN ps0 []) (C : Cals P w K mg base Cc)
    (lk : K.lookup fa = some ⟨oc, od, .func (PySem.W.fnOf "law" "law" (defArgs s_law) (defBody s_law) (defScope s_law) dV kV doc pm an (.ref c) ct), osl⟩) (hcd : PySem.W.codeIn K (.ref c) "law" = true)
    (hb : ∀ (s : Shared) (us : List Value), us.length = 1 → BindsTo s (PySem.W.fnOf "law" "law" (defArgs s_law) (defBody s_law) (defScope s_law) dV kV doc pm an (.ref c) ct) ⟨us, []⟩ ((["script"] : List Str).zip us))
    (TB : LamX.TabB base mg c Pt) : RunsAt P w K mg base fa (spLaw K Pt) := by
  intro a s H e0 h
  refine LamX.run_ofS (CX := CX0) (N := N_law) (ps := ["script"]) (us := [.ref a]) (vs := [.ref a]) lk hcd sc_law (A := callerA) (outer := []) room10 e0 (hb s [.ref a] rfl) (.cons rfl .nil) rfl fun hr => ?_
  obtain ⟨a', ns, ea, hs, hlen, hT, k⟩ := h
  cases ea
  have hgu : (callerA.deeper (envOfC "law" (defScope s_law) s.heap.objs.size fa (.ref c))).guards = some [] := rfl
  refine ⟨_, PSs.nox (pss_cons (ps_set (i := 1) sc_law.nd rfl (.inl rfl) (pe_cx0 C.table hr (by decide) rfl))
    (pss_cons (ps_for PassesOwn.never rfl (pi_list (pe_slice sl_list (pe_op op_catS (pv 0) (pe_lst (pa_cons pe_int pa_nil))) po_none (po_some pe_int))) (pg_name (i := 2) sc_law.nd rfl (.inl rfl))
      (pss_cons (ps_set (i := 3) sc_law.nd rfl (.inl rfl) (pe_cx C.source_of hr (by decide) rfl (pa_cons (pv 2) pa_nil)))
      (pss_cons (ps_set (i := 4) sc_law.nd rfl (.inl rfl) (pe_make M FN (hr.mono (by decide)) rfl G.gC BN .nil passL (pa_cons pe_int (pa_cons pe_int (pa_cons pe_int (pa_cons pe_int (pa_cons (pe_lst (pa_cons pe_int (pa_cons pe_int pa_nil))) (pa_cons (pe_lst pa_nil) (pa_cons (pe_lst pa_nil) (pa_cons (pe_lst pa_nil) (pa_cons (pe_lst pa_nil) (pa_cons pe_str (pa_cons pe_str (pa_cons pe_int (pa_cons (pe_lst pa_nil) (pa_cons (pe_lst pa_nil) pa_nil))))))))))))))))
      (pss_cons (ps_set (i := 5) sc_law.nd rfl (.inl rfl) (pe_op op_cat (pe_lst (pa_cons pe_non (pa_cons pe_bl (pa_cons pe_int (pa_cons (pe_op op_sub pe_int pe_int) (pa_cons pe_str (pa_cons (pe_tup (pa_cons pe_int (pa_cons (pe_tup (pa_cons pe_non (pa_cons pe_str pa_nil))) pa_nil))) (pa_cons (pv 4) (pa_cons (pe_op op_pow pe_int pe_int) (pa_cons (pe_tup pa_nil) pa_nil)))))))))) (pe_op op_rep (pe_lst (pa_cons pe_int pa_nil)) (pe_cx C.one hr (by decide) rfl (pa_cons (pv 3) (pa_cons (pe_lst (pa_cons pe_int (pa_cons pe_int pa_nil))) pa_nil))))))
      (pss_cons (ps_set (i := 6) sc_law.nd rfl (.inl rfl) (pe_op op_cat (pe_lst (pa_cons pe_str (pa_cons pe_str (pa_cons (pe_op op_add_str pe_str pe_str) pa_nil)))) (pe_lc (own := [("k", 10)]) (g := gName 10) (tt := tYes) rfl sc_law.nd (pi_range1 (by rfl) T.n_range (pa_cons (pe_cx C.one hr (by decide) rfl (pa_cons (pv 3) (pa_cons (pe_lst (pa_cons pe_int (pa_cons pe_int pa_nil))) pa_nil))) pa_nil)) (blkOk_by (own := [("k", 10)]) (N := N_law) (sc := defScope s_law) (by decide +kernel)) (fun _ _ _ _ _ => (pg_name (i := 10) sc_law.nd rfl (Or.inl rfl))) (fun _ _ _ _ _ => pts_nil) (fun _ _ _ _ _ => (pe_op op_add_str pe_str (pe_callTy call_str_int (by rfl) TM.n_str Boot.«str» (pa_cons (pv 10) pa_nil)))))))
      (pss_cons (ps_set (i := 7) sc_law.nd rfl (.inl rfl) (pe_op op_cat (pe_lst (pa_cons pe_str (pa_cons pe_str (pa_cons pe_str pa_nil)))) (pe_lc (own := [("k", 10)]) (g := gName 10) (tt := tYes) rfl sc_law.nd (pi_range1 (by rfl) T.n_range (pa_cons (pe_cx C.one hr (by decide) rfl (pa_cons (pv 3) (pa_cons (pe_lst (pa_cons pe_int (pa_cons pe_int (pa_cons pe_int pa_nil)))) pa_nil))) pa_nil)) (blkOk_by (own := [("k", 10)]) (N := N_law) (sc := defScope s_law) (by decide +kernel)) (fun _ _ _ _ _ => (pg_name (i := 10) sc_law.nd rfl (Or.inl rfl))) (fun _ _ _ _ _ => pts_nil) (fun _ _ _ _ _ => (pe_op op_add_str pe_str (pe_callTy call_str_int (by rfl) TM.n_str Boot.«str» (pa_cons (pv 10) pa_nil)))))))
      (pss_cons (ps_par (i := 8) (j := 9) (by rfl) sc_law.nd rfl rfl (by decide) rfl rfl (pa_cons (pe_tup (pa_cons (pv 5) (pa_cons (pv 6) (pa_cons (pv 7) pa_nil)))) (pa_cons (pe_lst pa_nil) pa_nil)) (by rfl))
      (pss_cons (ps_for PassesOwn.never rfl (pi_range1 (by rfl) T.n_range (pa_cons (pe_op op_add pe_int (pe_cx C.next hr (by decide) rfl (pa_cons (pv 3) (pa_cons pe_int pa_nil)))) pa_nil)) (pg_name (i := 10) sc_law.nd rfl (.inl rfl))
        (pss_cons (ps_set (i := 11) sc_law.nd rfl (.inl rfl) (pe_cx C.one hr (by decide) rfl (pa_cons (pv 3) (pa_cons (pe_callB (call_sortedDA rfl) (by rfl) TG.n_sorted Boot.«sorted» (pa_cons (pv 1) pa_nil)) pa_nil))))
        (pss_one (ps_expr (pe_bm PySem.F.plainAttrs_list PySem.F.slot_list_append PySem.F.type_list_append mt_append (pv 9) (pa_cons (pe_tup (pa_cons (pv 11) (pa_cons (pe_cx C.drawn hr (by decide) rfl (pa_cons (pv 3) (pa_cons (pe_ix ix_tup (pe_dget (u1 hr) (pv 1) (pv 11) NoSl_name) pe_int (fun _ _ => rfl)) (pa_cons (pv 8) pa_nil)))) pa_nil))) pa_nil))))))
      (pss_cons (ps_set (i := 12) sc_law.nd rfl (.inl rfl) (pe_cx C.lines hr (by decide) rfl (pa_cons (pv 3) pa_nil)))
      (pss_cons (ps_set (i := 13) sc_law.nd rfl (.inl rfl) (pe_cmpR op_eq (pe_cx C.next hr (by decide) rfl (pa_cons (pv 3) (pa_cons pe_int pa_nil))) pe_int (nomark _)))
      (pss_cons (ps_asg (pe_cg C.told hr (by decide) hgu rfl passL (pa_cons (pv 1) (pa_cons (pv 9) (pa_cons (pv 8) (pa_cons (pe_ifExp (pt_val (pv 13)) (pe_lst pa_nil) (pv 12)) pa_nil))))) (pg_tup (by rfl) (pgs_cons (pg_name (i := 14) sc_law.nd rfl (.inl rfl)) (pgs_cons (pg_name (i := 15) sc_law.nd rfl (.inl rfl)) pgs_nil))))
      (pss_cons (ps_set (i := 16) sc_law.nd rfl (.inl rfl) (pe_ifExp (pt_val (pv 13)) (pe_lst (pa_cons pe_int pa_nil)) (pe_cx C.lbytes hr (by decide) rfl (pa_cons (pv 12) (pa_cons pe_int pa_nil)))))
      (pss_cons (ps_set (i := 17) sc_law.nd rfl (.inl rfl) (pe_make M FN (hr.mono (by decide)) rfl G.gC BN .nil passL (pa_cons pe_int (pa_cons pe_int (pa_cons pe_int (pa_cons pe_int (pa_cons (pv 15) (pa_cons (pv 5) (pa_cons (pv 6) (pa_cons (pv 7) (pa_cons (pe_op op_rep (pe_lst (pa_cons pe_int pa_nil)) (pe_callB call_len_seq (by rfl) T.n_len Boot.«len» (pa_cons (pv 7) pa_nil))) (pa_cons pe_str (pa_cons pe_str (pa_cons pe_int (pa_cons (pv 16) (pa_cons (pe_lst (pa_cons pe_int pa_nil)) pa_nil))))))))))))))))
      (pss_cons (ps_set (i := 18) sc_law.nd rfl (.inl rfl) (pe_cg C.instr hr (by decide) hgu rfl passL (pa_cons (pv 17) pa_nil)))
      (pss_cons (ps_if (pt_cmpR op_ne (pe_callB (call_repr hgu hr.units) (by rfl) TM.n_repr Boot.«repr» (pa_cons (pv 18) pa_nil)) (pe_callB (call_repr hgu hr.units) (by rfl) TM.n_repr Boot.«repr» (pa_cons (pv 14) pa_nil)) (nomark _))
        (pss_one (ps_ret pe_bl))
        pss_nil)
      (pss_cons (ps_expr (pe_bm PySem.F.plainAttrs_list PySem.F.slot_list_append PySem.F.type_list_append mt_append (pv 18) (pa_cons pe_non pa_nil)))
      (pss_one (ps_if (pt_cmpR op_ne (pe_callB (call_repr hgu hr.units) (by rfl) TM.n_repr Boot.«repr» (pa_cons (pe_cgk C.kinstr hr (by decide) hgu rfl passL (pk_cons (pv 17) pk_nil)) pa_nil)) (pe_callB (call_repr hgu hr.units) (by rfl) TM.n_repr Boot.«repr» (pa_cons (pv 14) pa_nil)) (nomark _))
        (pss_one (ps_ret pe_bl))
        pss_nil))))))))))))))))))
    (pss_one (ps_ret pe_bl)))), ?_⟩
  refine ⟨rfl, fun t Ht nt st hTab => ?_⟩
  have hs := ScrL.same st hs
  clear st nt hT
  refine ⟨_, rfl, (by show 1 ≤ sizeLine; decide), ?_⟩
  walk_at "new1"
  refine ⟨a, p1, _, _, rfl, rfl, ScrL.same s1 hs, h1, (by rw [List.length_map]; exact Nat.le_trans (Nat.add_le_add_right hlen 1) (by decide)), ?_⟩
  walk_at "new2"
  refine ⟨_, rfl, p2, _, rfl, SqL.of h2, ?_⟩
  intro pl nl
  have s3 : Same H2 (upd H2 pl (.lst (cutV (ns.map V.int ++ [V.int 0]) none (some 5)))) := Same.new nl
  have h3 : upd H2 pl (.lst (cutV (ns.map V.int ++ [V.int 0]) none (some 5))) pl = some (.lst (cutV (ns.map V.int ++ [V.int 0]) none (some 5))) := upd_same
  generalize upd H2 pl (.lst (cutV (ns.map V.int ++ [V.int 0]) none (some 5))) = H3 at s3 h3 ⊢
  have hcell : ∀ x ∈ cutV (ns.map V.int ++ [V.int 0]) none (some 5), ∃ i : Int, x = .int i := by
    intro x hx
    have hx := cutV_mem hx
    rcases List.mem_append.mp hx with z | z
    · obtain ⟨i, _, e⟩ := List.mem_map.mp z
      exact ⟨i, e.symm⟩
    · exact ⟨0, by simpa using z⟩
  have hTab3 : TabAt H3 t := hTab.same ((s1.trans s2).trans s3)
  clear s1 s2 s3 h1 h2 n1 n2 nl hs hTab
  generalize cutV (ns.map V.int ++ [V.int 0]) none (some 5) = cells at h3 hcell ⊢
  refine ⟨pl, rfl, ⟨_, SqL.of h3⟩, for_list (K := K) (a := pl) (xs := cells) (fun i σ H' => (∃ v2 v3 v4 v5 v6 v7 v8 v9 v10 v11 v12 v13 v14 v15 v16 v17 v18, σ = [some (.ref a), some (.ref t), v2, v3, v4, v5, v6, v7, v8, v9, v10, v11, v12, v13, v14, v15, v16, v17, v18]) ∧ H' pl = some (.lst cells) ∧ TabAt H' t)
    ⟨⟨none, none, none, none, none, none, none, none, none, none, none, none, none, none, none, none, none, rfl⟩, h3, hTab3⟩ (fun i σ H' _ p => SqL.of p.2.1) ?_ ?_⟩
  · rintro i x σ H0 hi ⟨⟨v2, v3, v4, v5, v6, v7, v8, v9, v10, v11, v12, v13, v14, v15, v16, v17, v18, rfl⟩, hL, hTab⟩
    clear h3 hTab3
    obtain ⟨cv, rfl⟩ := hcell x (List.mem_of_getElem? hi)
    -- source
    refine ⟨_, rfl, cv, rfl, fun ps H1 n1 s1 src => ?_⟩
    have npl : pl ≠ ps := ne_of_none hL n1
    replace hL := s1 _ _ hL
    replace hTab := hTab.same s1
    clear s1 n1
    -- own
    refine ⟨(by show 2 ≤ sizeLine; decide), ?_⟩
    walk_at "new2"
    refine ⟨(by show 0 ≤ sizeLine; decide), ?_⟩
    walk_at "new3"
    refine ⟨(by show 0 ≤ sizeLine; decide), ?_⟩
    walk_at "new4"
    refine ⟨(by show 0 ≤ sizeLine; decide), ?_⟩
    walk_at "new5"
    refine ⟨(by show 0 ≤ sizeLine; decide), ?_⟩
    walk_at "new6"
    refine ⟨(by show 0 ≤ sizeLine; decide), ?_⟩
    walk_at "new7"
    refine ⟨(by show 0 ≤ sizeLine; decide), ?_⟩
    walk_at "new8"
    have S := (((((s2.trans s3).trans s4).trans s5).trans s6).trans s7).trans s8
    intro ow dx nx nd ne
    have hsx : upd (upd H8 dx (.own ow)) ow (.ins Cc dx []) ow = some (.ins Cc dx []) := upd_same
    have S8 : Same H8 (upd (upd H8 dx (.own ow)) ow (.ins Cc dx [])) := fun b o e => by
      rw [upd_ne (ne_of_none e nx), upd_ne (ne_of_none e nd)]
      exact e
    generalize upd (upd H8 dx (.own ow)) ow (.ins Cc dx []) = H9 at hsx S8
    have S2 := (((((s3.trans s4).trans s5).trans s6).trans s7).trans s8).trans S8
    have S3 := ((((s4.trans s5).trans s6).trans s7).trans s8).trans S8
    have S4 := (((s5.trans s6).trans s7).trans s8).trans S8
    have S5 := ((s6.trans s7).trans s8).trans S8
    have S6 := (s7.trans s8).trans S8
    have S7 := s8.trans S8
    have So : ∀ {H' : Hp}, But ow H9 H' → Same H1 H' := fun {H'} B b o e => B b o (ne_of_none (S _ _ e) nx) ((S.trans S8) _ _ e)
    refine ⟨ow, dx, p2, p3, p4, p5, p6, p7, p8, cdOwn, rfl, hsx, own_ok, .inl (S2 _ _ h2), .inl (S3 _ _ h3), .inl (S4 _ _ h4), .inl (S5 _ _ h5), .inl (S6 _ _ h6), .inl (S7 _ _ h7), .inl (S8 _ _ h8), fun HA m B hN hC => ?_⟩
    have em : m = 1 := hN.2.elim id fun ⟨x, hx, _⟩ => (List.not_mem_nil hx).elim
    have hO := own_wa em hC
    have SA := So B
    replace hL := SA _ _ hL
    replace hTab := hTab.same SA
    replace src := src.same SA
    clear hN hC em So S S2 S3 S4 S5 S6 S7 S8 B SA h2 h3 h4 h5 h6 h7 h8 n2 n3 n4 n5 n6 n7 n8 s2 s3 s4 s5 s6 s7 s8 hsx nx nd ne
    clear p2 p3 p4 p5 p6 p7 p8 H2 H3 H4 H5 H6 H7 H8 H9 dx m
    -- wares
    refine ⟨rfl, _, _, rfl, rfl, (by show 2 ≤ sizeLine; decide), ?_⟩
    intro tB nB
    have sB : Same HA (upd HA tB (.tup [.non, .str "x"])) := Same.new nB
    have hB : upd HA tB (.tup [.non, .str "x"]) tB = some (.tup [.non, .str "x"]) := upd_same
    generalize upd HA tB (.tup [.non, .str "x"]) = HB at sB hB ⊢
    refine ⟨(by show 2 ≤ sizeLine; decide), ?_⟩
    intro tA nA
    have sA : Same HB (upd HB tA (.tup [.int 1, .ref tB])) := Same.new nA
    have hA : upd HB tA (.tup [.int 1, .ref tB]) tA = some (.tup [.int 1, .ref tB]) := upd_same
    generalize upd HB tA (.tup [.int 1, .ref tB]) = HC at sA hA ⊢
    refine ⟨_, rfl, _, _, rfl, rfl, ⟨by decide, by decide, by decide⟩, (by show 0 ≤ sizeLine; decide), ?_⟩
    intro tE nE
    have sE : Same HC (upd HC tE (.tup [])) := Same.new nE
    have hE : upd HC tE (.tup []) tE = some (.tup []) := upd_same
    generalize upd HC tE (.tup []) = HD at sE hE ⊢
    have SD := (sB.trans sA).trans sE
    have hW : Wa Cc HD tA tB tE ow := by
      obtain ⟨dx, fs, o1, o2, o3⟩ := hO
      exact ⟨sE _ _ hA, (sA.trans sE) _ _ hB, hE, dx, fs, SD _ _ o1, o2, o3⟩
    replace hL := SD _ _ hL
    replace hTab := hTab.same SD
    replace src := src.same SD
    clear SD sB sA sE hA hB hE hO nA nB nE
    refine ⟨(by show 9 ≤ sizeLine; decide), ?_⟩
    walk_at "new2"
    refine ⟨(by show 1 ≤ sizeLine; decide), ?_⟩
    walk_at "new3"
    refine ⟨_, rfl, (by show 2 ≤ sizeLine; decide), ?_⟩
    walk_at "new4"
    have S4 := (s2.trans s3).trans s4
    have src4 := src.same S4
    have p2s : p2 ≠ ps := src.ne0 n2
    have p3s : p3 ≠ ps := (src.same s2).ne0 n3
    obtain ⟨y1, y2, y3, hy, _⟩ := id src4
    refine ⟨⟨ps, p4, _, rfl, src4, h4, by simp, (by show 2 ≤ 1000; decide), fun v J1 hv b1 t1 => ?_⟩, fun b c e => by cases e; exact ((src.same s2).same s3).ne0 n4⟩
    obtain ⟨z, rfl, hz⟩ : ∃ z : Nat, v = .int (z : Int) ∧ z ≤ 300 := by
      simp at hv
      rcases hv with rfl | rfl
      · exact ⟨0, rfl, by decide⟩
      · exact ⟨300, rfl, by decide⟩
    replace hW := (hW.same S4).but b1 hy
    replace hL := b1 _ _ npl (S4 _ _ hL)
    replace hTab := (hTab.same S4).but b1 hy
    replace h2 := b1 _ _ p2s ((s3.trans s4) _ _ h2)
    replace h3 := b1 _ _ p3s (s4 _ _ h3)
    clear hv b1 hy src4 src S4 s2 s3 s4 n2 n3 n4 h4 p2s p3s
    refine ⟨p3, _, _, rfl, rfl, h3, by omega, by omega, ?_, ?_⟩
    · show 1 * (z : Int).toNat ≤ sizeLine
      exact Nat.le_trans (by omega : _ ≤ 300) (by decide)
    walk_at "new4"
    refine ⟨p2, p4, _, _, rfl, rfl, s4 _ _ h2, h4, ?_, ?_⟩
    · show 9 + (List.replicate (z : Int).toNat [V.int 0]).flatten.length ≤ sizeLine
      rw [rep_flat, List.length_replicate]
      exact Nat.le_trans (by omega : _ ≤ 400) (by decide)
    intro aw naw
    have saw : Same H4 (upd H4 aw (.lst (wsOf tA tE ow z))) := Same.new naw
    have haw : upd H4 aw (.lst (wsOf tA tE ow z)) aw = some (.lst (wsOf tA tE ow z)) := upd_same
    have ews : ([V.non, .bl true, .int 5, .int (0 - 7), .str "ab", .ref tA, .ref ow, .int (10 ^ Int.toNat 40), .ref tE] ++ (List.replicate (z : Int).toNat [V.int 0]).flatten) = wsOf tA tE ow z := by
      rw [rep_flat]
      rfl
    rw [ews]
    generalize upd H4 aw (.lst (wsOf tA tE ow z)) = H5 at saw haw ⊢
    have S5 := s4.trans saw
    replace hW := hW.same S5
    replace hL := S5 _ _ hL
    replace hTab := hTab.same S5
    have src := t1.same S5
    have naw' : aw ≠ ps := (t1.same s4).ne0 naw
    clear ews saw naw S5 s4 n4 h4 h2 h3 t1
    -- names
    refine ⟨_, _, rfl, rfl, (by decide +kernel), (by show 3 ≤ sizeLine; decide), ?_⟩
    walk_at "new2"
    refine ⟨_, rfl, (by show 2 ≤ sizeLine; decide), ?_⟩
    walk_at "new3"
    have src3 := src.same (s2.trans s3)
    have p2s : p2 ≠ ps := src.ne0 n2
    obtain ⟨y1, y2, y3, hy, _⟩ := id src3
    refine ⟨⟨ps, p3, _, rfl, src3, h3, by simp, (by show 2 ≤ 1000; decide), fun v J1 hv b1 t1 => ?_⟩, fun b c e => by cases e; exact (src.same s2).ne0 n3⟩
    obtain ⟨mn, rfl, hmn⟩ : ∃ m : Nat, v = .int (m : Int) ∧ m ≤ 200 := by
      simp at hv
      rcases hv with rfl | rfl
      · exact ⟨0, rfl, by decide⟩
      · exact ⟨200, rfl, by decide⟩
    have S3 := s2.trans s3
    replace hW := (hW.same S3).but b1 hy
    replace hL := b1 _ _ npl (S3 _ _ hL)
    replace hTab := (hTab.same S3).but b1 hy
    replace h2 := b1 _ _ p2s (s3 _ _ h2)
    replace haw := b1 _ _ naw' (S3 _ _ haw)
    clear hv b1 hy src3 src S3 s2 s3 n2 n3 h3 p2s
    refine ⟨(mn : Int), rfl, by omega, Int.lt_trans (by omega : (mn : Int) < 500) (by decide), fun D nD => ?_⟩
    refine lc_range (lo := 0) (n := (mn : Int).toNat) (fun i H' => Same J1 H' ∧ H' D = some (.lst (((List.range i).map (nmOf "n")).map V.str))) ⟨Same.new nD, upd_same⟩ ?_ ?_
    · rintro i H' hi ⟨s', hD⟩
      refine ⟨rfl, _, rfl, _, rfl, ?_⟩
      have hi' : i < 1000 := by omega
      refine ⟨lc_log hi', _, _, rfl, rfl, lc_len (by decide +kernel) hi', _, hD, ?_, Same.mut s' nD, ?_⟩
      · rw [List.length_map, List.length_map, List.length_range]
        exact Nat.lt_of_lt_of_le hi' (by decide)
      · rw [upd_same]
        exact lc_next _ i
    rintro J2 ⟨s', hD⟩
    have hnl : ((mn : Int).toNat) = mn := Int.toNat_natCast _
    rw [hnl] at hD
    refine ⟨p2, D, nm3.map V.str, _, rfl, rfl, s' _ _ h2, hD, ?_, ?_⟩
    · rw [List.length_map, List.length_map, List.length_map, List.length_range]
      exact Nat.le_trans (by show 3 + mn ≤ 500; omega) (by decide)
    intro an nan
    have san : Same J2 (upd J2 an (.lst ((namesOf mn).map V.str))) := Same.new nan
    have han : upd J2 an (.lst ((namesOf mn).map V.str)) an = some (.lst ((namesOf mn).map V.str)) := upd_same
    rw [← List.map_append]
    change tSeq _ _ _ _ (upd J2 an (.lst ((namesOf mn).map V.str)))
    generalize upd J2 an (.lst ((namesOf mn).map V.str)) = J3 at san han ⊢
    have S3 := s'.trans san
    replace hW := hW.same S3
    replace hL := S3 _ _ hL
    replace hTab := hTab.same S3
    replace haw := S3 _ _ haw
    have src := t1.same S3
    have nan' : an ≠ ps := (t1.same s').ne0 nan
    clear S3 san nan s' t1 hD nD h2 hnl
    -- slots
    refine ⟨(by show 3 ≤ sizeLine; decide), ?_⟩
    walk_at "new2"
    refine ⟨_, rfl, (by show 3 ≤ sizeLine; decide), ?_⟩
    walk_at "new3"
    have src3 := src.same (s2.trans s3)
    have p2s : p2 ≠ ps := src.ne0 n2
    obtain ⟨y1, y2, y3, hy, _⟩ := id src3
    refine ⟨⟨ps, p3, _, rfl, src3, h3, by simp, (by show 3 ≤ 1000; decide), fun v J4 hv b1 t1 => ?_⟩, fun b c e => by cases e; exact (src.same s2).ne0 n3⟩
    obtain ⟨ms, rfl, hms⟩ : ∃ m : Nat, v = .int (m : Int) ∧ m ≤ 400 := by
      simp at hv
      rcases hv with rfl | rfl | rfl
      · exact ⟨0, rfl, by decide⟩
      · exact ⟨5, rfl, by decide⟩
      · exact ⟨400, rfl, by decide⟩
    have S3 := s2.trans s3
    replace hW := (hW.same S3).but b1 hy
    replace hL := b1 _ _ npl (S3 _ _ hL)
    replace hTab := (hTab.same S3).but b1 hy
    replace h2 := b1 _ _ p2s (s3 _ _ h2)
    replace haw := b1 _ _ naw' (S3 _ _ haw)
    replace han := b1 _ _ nan' (S3 _ _ han)
    clear hv b1 hy src3 src S3 s2 s3 n2 n3 h3 p2s
    refine ⟨(ms : Int), rfl, by omega, Int.lt_trans (by omega : (ms : Int) < 500) (by decide), fun D nD => ?_⟩
    refine lc_range (lo := 0) (n := (ms : Int).toNat) (fun i H' => Same J4 H' ∧ H' D = some (.lst (((List.range i).map (nmOf "s")).map V.str))) ⟨Same.new nD, upd_same⟩ ?_ ?_
    · rintro i H' hi ⟨s', hD⟩
      refine ⟨rfl, _, rfl, _, rfl, ?_⟩
      have hi' : i < 1000 := by omega
      refine ⟨lc_log hi', _, _, rfl, rfl, lc_len (by decide +kernel) hi', _, hD, ?_, Same.mut s' nD, ?_⟩
      · rw [List.length_map, List.length_map, List.length_range]
        exact Nat.lt_of_lt_of_le hi' (by decide)
      · rw [upd_same]
        exact lc_next _ i
    rintro J5 ⟨s', hD⟩
    have hnl : ((ms : Int).toNat) = ms := Int.toNat_natCast _
    rw [hnl] at hD
    refine ⟨p2, D, sl3.map V.str, _, rfl, rfl, s' _ _ h2, hD, ?_, ?_⟩
    · rw [List.length_map, List.length_map, List.length_map, List.length_range]
      exact Nat.le_trans (by show 3 + ms ≤ 500; omega) (by decide)
    intro asl nasl
    have sasl : Same J5 (upd J5 asl (.lst ((slotsOf ms).map V.str))) := Same.new nasl
    have hasl : upd J5 asl (.lst ((slotsOf ms).map V.str)) asl = some (.lst ((slotsOf ms).map V.str)) := upd_same
    rw [← List.map_append]
    change tSeq _ _ _ _ (upd J5 asl (.lst ((slotsOf ms).map V.str)))
    generalize upd J5 asl (.lst ((slotsOf ms).map V.str)) = J6 at sasl hasl ⊢
    have S3 := s'.trans sasl
    replace hW := hW.same S3
    replace hL := S3 _ _ hL
    replace hTab := hTab.same S3
    replace haw := S3 _ _ haw
    replace han := S3 _ _ han
    have src := t1.same S3
    have nasl' : asl ≠ ps := (t1.same s').ne0 nasl
    clear S3 sasl nasl s' t1 hD nD h2 hnl
    -- tables
    refine ⟨_, rfl, _, rfl, _, rfl, (by show 3 ≤ sizeLine; decide), ?_⟩
    intro tb ntb
    have stb : Same J6 (upd J6 tb (.tup [.ref aw, .ref an, .ref asl])) := Same.new ntb
    have htb : upd J6 tb (.tup [.ref aw, .ref an, .ref asl]) tb = some (.tup [.ref aw, .ref an, .ref asl]) := upd_same
    generalize upd J6 tb (.tup [.ref aw, .ref an, .ref asl]) = J7 at stb htb ⊢
    refine ⟨(by show 0 ≤ sizeLine; decide), ?_⟩
    intro gv ngv
    have sgv : Same J7 (upd J7 gv (.lst [])) := Same.new ngv
    have hgv : upd J7 gv (.lst []) gv = some (.lst []) := upd_same
    have GV : Gv Cc t pl ps tb aw an asl tA tB tE ow cells z mn ms gv [] [] (upd J7 gv (.lst [])) := by
      have S7 := stb.trans sgv
      refine ⟨⟨⟨npl, src.ne0 ntb, naw', nan', nasl'⟩, S7 _ _ hL, hTab.same S7, src.same S7, hW.same S7, ⟨sgv _ _ htb, S7 _ _ haw, S7 _ _ han, S7 _ _ hasl⟩⟩,
        ⟨ne_of_none (stb _ _ hL) ngv, fun e => (src.same stb).ne0 ngv e.symm, ne_of_none htb ngv, ne_of_none (stb _ _ haw) ngv, ne_of_none (stb _ _ han) ngv, ne_of_none (stb _ _ hasl) ngv⟩, hgv, trivial, fun c hc => (List.not_mem_nil hc).elim⟩
    generalize upd J7 gv (.lst []) = J8 at GV ⊢
    clear hgv sgv ngv htb stb ntb hW hL hTab src haw han hasl npl naw' nan' nasl'
    refine ⟨_, _, rfl, ?_⟩
    -- given
    refine ⟨_, rfl, ps, _, rfl, GV.E.S, (by decide), (by decide), fun m J9 m0 m1 b9 t9 => ?_⟩
    replace GV := GV.but b9 t9
    refine ⟨_, _, rfl, rfl, ?_⟩
    refine ⟨1 + m, rfl, by omega, Int.lt_trans (by omega : 1 + m < 40) (by decide), for_range (lo := 0) (n := (1 + m).toNat) (fun i σ H' => (∃ v10 v11, σ = [some (.ref a), some (.ref t), some (.int cv), some (.ref ps), some (.ref ow), some (.ref aw), some (.ref an), some (.ref asl), some (.ref tb), some (.ref gv), v10, v11, v12, v13, v14, v15, v16, v17, v18]) ∧ ∃ xs cs, Gv Cc t pl ps tb aw an asl tA tB tE ow cells z mn ms gv xs cs H' ∧ cs.length = i)
      ⟨⟨_, _, rfl⟩, [], [], GV, rfl⟩ ?_ ?_⟩
    · rintro i σ H' hi ⟨⟨v10', v11', rfl⟩, xs, cs, GV, hl⟩
      obtain ⟨kvs, hd, hk⟩ := id GV.E.T
      have hl86 : (rws.map (·.1)).length = 86 := by rw [List.length_map, rws_len]
      refine ⟨_, rfl, _, rfl, t, kvs, rws.map (·.1), rfl, .inl hd, hk.keys, by rw [hl86]; decide, fun ys p1 hp n1 => ?_⟩
      have s1 : Same H' (upd H' p1 (.lst (ys.map V.str))) := Same.new n1
      have h1 : upd H' p1 (.lst (ys.map V.str)) p1 = some (.lst (ys.map V.str)) := upd_same
      generalize upd H' p1 (.lst (ys.map V.str)) = H1 at s1 h1 ⊢
      have yl : ys.length = 86 := hp.length_eq.trans hl86
      have np1 : p1 ≠ ps := GV.E.S.ne0 n1
      replace GV := GV.same s1
      refine ⟨⟨ps, p1, _, rfl, GV.E.S, h1, fun z => ?_, by rw [List.length_map, yl]; decide, fun v H2 hv b2 t2 => ?_⟩, fun b c e => by cases e; exact np1⟩
      · have := congrArg List.length z
        rw [List.length_map, yl] at this
        cases this
      obtain ⟨x, hx, rfl⟩ := List.mem_map.mp hv
      obtain ⟨r, hrow, rfl⟩ := List.mem_map.mp (hp.mem_iff.mp hx)
      replace GV := GV.but b2 t2
      clear hd hk kvs hv h1 s1 n1 np1 b2 t2 hp hx yl
      obtain ⟨kvs2, hd2, hk2⟩ := id GV.E.T
      obtain ⟨q, hv2, hq2⟩ := hk2.get rws_nd hrow
      have hg : DGet H2 t (.str r.1) (some (.ref q)) := hv2 ▸ DGet.k (k := Sum.inr r.1) hd2
      have hg3 : DGet H2 t (.str r.1) (some (.ref q)) := hg
      refine ⟨_, rfl, .inl ⟨rfl, _, SqL.of GV.G⟩, _, rfl, _, rfl, _, rfl, _, rfl, t, _, rfl, hg3, q, _, _, _, rfl, rfl, SqT.of hq2, rfl, _, rfl, ?_⟩
      refine ⟨ps, tb, aw, an, asl, r.2.2.2, _, _, _, rfl, GV.E.S, GV.E.ne.2, GV.E.B, ?_, ?_, ?_, ?_, ?_, ?_, letters r hrow, fun n H3 hD b3 t3 => ?_⟩
      · rw [wsOf_len]; omega
      · rw [wsOf_len]; omega
      · rw [names_len]; omega
      · rw [names_len]; omega
      · rw [slots_len]; omega
      · rw [slots_len]; omega
      replace GV := GV.but b3 t3
      clear hg hg3 hq2 hv2 hd2 hk2 b3 t3
      refine ⟨(by show 2 ≤ sizeLine; decide), ?_⟩
      intro p2 n2
      have s2 : Same H3 (upd H3 p2 (.tup (wp (r, n)))) := Same.new n2
      have h2 : upd H3 p2 (.tup (wp (r, n))) p2 = some (.tup (wp (r, n))) := upd_same

      change tNil _ (upd H3 p2 (.tup (wp (r, n)))) _
      generalize upd H3 p2 (.tup (wp (r, n))) = H4 at s2 h2 ⊢
      replace GV := GV.same s2
      have hx : xs.length = cs.length := GV.R.len
      refine ⟨_, _, _, rfl, rfl, GV.G, Nat.lt_of_lt_of_le (by omega : xs.length < 40) (by decide), ?_⟩
      exact ⟨⟨_, _, rfl⟩, _, _, GV.snoc (c := (r, n)) h2 ⟨hrow, hD⟩, by rw [List.length_append, hl]; rfl⟩
    rintro σ J10 ⟨⟨v10', v11', rfl⟩, xs, cs, GV, hl⟩
    -- lines
    have cl1 : 1 ≤ cs.length := by omega
    have cl2 : cs.length ≤ 30 := by omega
    clear m0 m1 b9 t9
    refine ⟨_, rfl, ps, rfl, GV.E.S, fun ln lx es J11 nln bln tln hln hR hes hle => ?_⟩
    have lns : ln ≠ ps := GV.E.S.ne0 nln
    replace GV := GV.but bln tln
    clear nln bln tln
    refine ⟨_, rfl, ps, _, rfl, GV.E.S, (by decide), (by decide), fun u J12 u0 u1 b12 t12 => ?_⟩
    obtain ⟨sx, sy, sz, hps, _⟩ := id GV.E.S
    replace hln := b12 _ _ lns hln
    replace hR := hR.but b12 hps
    replace GV := GV.but b12 t12
    clear hps b12 t12
    have hts := ts_tx z
    have hnm := names_ok (m := mn) (by omega)
    have hsm := slots_ok (m := ms) (by omega)
    have isn := strs_ok hnm (by rw [names_len]; omega)
    have iss := strs_ok hsm (by rw [slots_len]; omega)
    have hO := GV.O
    have hcs : ∀ c ∈ cs, c.1 ∈ rws ∧ c.2 < 4294967296 := fun c hc => ⟨(hO c hc).1, (hO c hc).2.1⟩
    have hby := chs_byte hcs
    have hbts : isBts (chs cs) := ⟨hby.1, by omega⟩
    have csn : cs ≠ [] := fun e => by
      rw [e] at cl1
      cases cl1
    refine ⟨rfl, ?_⟩
    generalize decide (V.int u = V.int 0) = bn
    cases bn with
    | true =>
      have hir : ∀ r ∈ irAll (tsOf z) (namesOf mn) (slotsOf ms) [] 0 cs, IrOk r := irAll_ok hts (txs_ok hnm) (txs_ok hsm) (fun r hr => (List.not_mem_nil hr).elim) cs 0 hcs (by omega)
      obtain ⟨w1, w2, w3, w4⟩ := irsD_show hir (Nat.le_trans (irAll_len _ _ _ _ cs 0) (by omega))
      refine ⟨_, rfl, _, rfl, _, rfl, _, rfl, _, rfl, ?_⟩
      refine iteT ?_
      refine ⟨(by show 0 ≤ sizeLine; decide), ?_⟩
      walk_at "new1"
      replace GV := GV.same s1
      have hln' := h1
      have hR' : TupsAt R3.vs H1 [] ([] : List R3) := trivial
      refine ⟨t, gv, tb, aw, an, asl, _, _, _, cs, [], _, tsOf z, _, _, rfl, GV.E.T, GV.G, GV.R, by omega, hO, GV.E.B, GV.E.W.cls z, isn, iss, hln', hR', (by show 0 ≤ 10000; decide), fun q fo d fx K1 sk hq hfo hF hd => ?_⟩
      replace GV := GV.same sk
      refine ⟨q, _, rfl, SqT.of hq, rfl, _, _, rfl, _, _, rfl, rfl, ?_⟩
      clear hq hln' hR'
      -- spans
      refine ⟨_, rfl, _, rfl, ?_⟩
      refine iteT ?_
      refine ⟨(by show 1 ≤ sizeLine; decide), ?_⟩
      intro sp nsp
      have ssp : Same K1 (upd K1 sp (.lst [.int 7])) := Same.new nsp
      have hsp : upd K1 sp (.lst [.int 7]) sp = some (.lst (([7] : List Int).map V.int)) := upd_same
      generalize upd K1 sp (.lst [.int 7]) = K2 at ssp hsp ⊢
      have hpb : isBts [7] := bts_dec (by decide +kernel)
      replace GV := GV.same ssp
      replace hfo := ssp _ _ hfo
      replace hF := hF.same ssp
      replace hd := ssp _ _ hd
      clear nsp sk ssp
      -- made
      refine ⟨_, rfl, _, rfl, _, rfl, _, rfl, (by show 1 ≤ sizeLine; decide), ?_⟩
      intro p3 n3
      have s3 : Same K2 (upd K2 p3 (.lst [.int 32])) := Same.new n3
      have h3 : upd K2 p3 (.lst [.int 32]) p3 = some (.lst [.int 32]) := upd_same
      generalize upd K2 p3 (.lst [.int 32]) = K3 at s3 h3 ⊢
      refine ⟨_, rfl, asl, _, rfl, .inl (SqL.of (s3 _ _ GV.E.B.s)), ?_⟩
      refine ⟨p3, _, _, rfl, rfl, h3, by omega, ?_, ?_, ?_⟩
      · rw [List.length_map, slots_len]
        omega
      · rw [List.length_map, slots_len]
        exact Nat.le_trans (by show 1 * ((3 + ms : Nat) : Int).toNat ≤ 500; omega) (by decide)
      intro p4 n4
      have s4 : Same K3 (upd K3 p4 (.lst ((List.replicate (slotsOf ms).length (32 : Int)).map V.int))) := Same.new n4
      have h4 : upd K3 p4 (.lst ((List.replicate (slotsOf ms).length (32 : Int)).map V.int)) p4 = some (.lst ((List.replicate (slotsOf ms).length (32 : Int)).map V.int)) := upd_same
      have e4 : (List.replicate ((((slotsOf ms).map V.str).length : Int)).toNat [V.int 32]).flatten = (List.replicate (slotsOf ms).length (32 : Int)).map V.int := by
        rw [rep_flat, List.length_map, List.map_replicate]
      rw [e4]
      generalize upd K3 p4 (.lst ((List.replicate (slotsOf ms).length (32 : Int)).map V.int)) = K4 at s4 h4 ⊢
      refine ⟨_, rfl, (by show 1 ≤ sizeLine; decide), ?_⟩
      intro p5 n5
      have s5 : Same K4 (upd K4 p5 (.lst [.int 1])) := Same.new n5
      have h5 : upd K4 p5 (.lst [.int 1]) p5 = some (.lst [.int 1]) := upd_same
      generalize upd K4 p5 (.lst [.int 1]) = K5 at s5 h5 ⊢
      have S5 := (s3.trans s4).trans s5
      intro x dx nx nd ne
      have hsx : upd (upd K5 dx (.own x)) x (.ins Cc dx []) x = some (.ins Cc dx []) := upd_same
      have S6 : Same K5 (upd (upd K5 dx (.own x)) x (.ins Cc dx [])) := fun b o e => by
        rw [upd_ne (ne_of_none e nx), upd_ne (ne_of_none e nd)]
        exact e
      generalize upd (upd K5 dx (.own x)) x (.ins Cc dx []) = K6 at hsx S6
      have So : ∀ {H' : Hp}, But x K6 H' → Same K2 H' := fun {H'} B b o e => B b o (ne_of_none (S5 _ _ e) nx) ((S5.trans S6) _ _ e)
      have G6 := GV.same (S5.trans S6)
      refine ⟨x, dx, d, aw, an, asl, p4, sp, p5, cdOf (chs cs) (wsOf tA tE ow z) (namesOf mn) (slotsOf ms) [7], rfl, hsx, made_ok hbts (G6.E.W.ktop z) (by rw [wsOf_len]; omega) isn iss hpb, .inl ((S5.trans S6) _ _ hd), .inl G6.E.B.w, .inl G6.E.B.n, .inl G6.E.B.s, .inl ((s5.trans S6) _ _ h4), .inl ((S5.trans S6) _ _ hsp), .inl (S6 _ _ h5), fun K7 m' B hN hC => ?_⟩
      have S7 := So B
      replace GV := GV.same S7
      replace hfo := S7 _ _ hfo
      replace hF := hF.same S7
      clear G6 So S6 S5 hsx h5 s5 n5 h4 s4 n4 h3 s3 n3 hN B S7 nx nd ne hd hsp
      -- found
      have hok : ∀ c ∈ cs, COk c ∧ mOk (wsOf tA tE ow z).length (namesOf mn).length (slotsOf ms).length c.1.2.2.2 c.2 := fun c hc => ⟨hcs c hc, (hO c hc).2.2.1⟩
      refine ⟨rfl, _, rfl, x, cdOf (chs cs) (wsOf tA tE ow z) (namesOf mn) (slotsOf ms) [7], m', cs, tsOf z, [], rfl, hC, rfl, csn, hok, hbts, by omega, (GV.E.W.cls z).ct, isn, iss, .inr ⟨rfl, rfl⟩, fun f2 fx2 K8 nf2 s8 hf2 hfR => ?_⟩
      have hfo8 := s8 _ _ hfo
      have hF8 := hF.same s8
      refine ⟨_, rfl, f2, irsD (irAll (tsOf z) (namesOf mn) (slotsOf ms) [] 0 cs), rfl, Dp.lst (SqL.of hf2) (dp_tups dp_ir hfR), w1, w2, w3, w4, _, rfl, fo, irsD (irAll (tsOf z) (namesOf mn) (slotsOf ms) [] 0 cs), rfl, Dp.lst (SqL.of hfo8) (dp_tups dp_ir hF8), w1, w2, w3, w4, rfl, _, rfl, ?_⟩
      refine ite2 (fun c => absurd c (by simp)) (fun _ => ?_)
      refine ⟨_, rfl, .inl ⟨rfl, _, SqL.of hf2⟩, f2, fx2, _, rfl, rfl, hf2, ?_, ?_⟩
      · rw [hfR.len]
        exact Nat.lt_of_le_of_lt (Nat.le_trans (irAll_len _ _ _ _ cs 0) (by omega : _ ≤ 200)) (by decide)
      have tA9 : Same K7 (upd K8 f2 (.lst (fx2 ++ [V.non]))) := Same.mut s8 nf2
      generalize upd K8 f2 (.lst (fx2 ++ [V.non])) = K9 at tA9 ⊢
      replace GV := GV.same tA9
      have hC9 := hC.same tA9
      have hfo9 := tA9 _ _ hfo
      have hF9 := hF.same tA9
      clear hfR hf2 hfo8 hF8 s8 nf2
      refine ⟨_, rfl, rfl, x, cdOf (chs cs) (wsOf tA tE ow z) (namesOf mn) (slotsOf ms) [7], m', cs, tsOf z, [], rfl, hC9, rfl, csn, hok, hbts, by omega, (GV.E.W.cls z).ct, isn, iss, .inr ⟨rfl, rfl⟩, fun f2 fx2 KA nf2 sA hf2 hfR => ?_⟩
      have hfoA := sA _ _ hfo9
      have hFA := hF9.same sA
      refine ⟨f2, irsD (irAll (tsOf z) (namesOf mn) (slotsOf ms) [] 0 cs), rfl, Dp.lst (SqL.of hf2) (dp_tups dp_ir hfR), w1, w2, w3, w4, _, rfl, fo, irsD (irAll (tsOf z) (namesOf mn) (slotsOf ms) [] 0 cs), rfl, Dp.lst (SqL.of hfoA) (dp_tups dp_ir hFA), w1, w2, w3, w4, rfl, _, rfl, ?_⟩
      refine ite2 (fun c => absurd c (by simp)) (fun _ => ?_)
      replace GV := GV.same sA
      exact ⟨⟨_, _, _, _, _, _, _, _, _, _, _, _, _, _, _, _, _, rfl⟩, GV.E.L, GV.E.T⟩
    | false =>
      have hir : ∀ r ∈ irAll (tsOf z) (namesOf mn) (slotsOf ms) (rowsOf es 0) 0 cs, IrOk r := irAll_ok hts (txs_ok hnm) (txs_ok hsm) (rows_lnok hes) cs 0 hcs (by omega)
      obtain ⟨w1, w2, w3, w4⟩ := irsD_show hir (Nat.le_trans (irAll_len _ _ _ _ cs 0) (by omega))
      refine ⟨_, rfl, _, rfl, _, rfl, _, rfl, _, rfl, ?_⟩
      refine iteF ?_
      refine ⟨_, rfl, ?_⟩
      have hln' := hln
      have hR' := hR
      refine ⟨t, gv, tb, aw, an, asl, _, _, _, cs, (rowsOf es 0), _, tsOf z, _, _, rfl, GV.E.T, GV.G, GV.R, by omega, hO, GV.E.B, GV.E.W.cls z, isn, iss, hln', hR', (by rw [rows_len]; omega), fun q fo d fx K1 sk hq hfo hF hd => ?_⟩
      replace GV := GV.same sk
      refine ⟨q, _, rfl, SqT.of hq, rfl, _, _, rfl, _, _, rfl, rfl, ?_⟩
      clear hq hln' hR'
      -- spans
      refine ⟨_, rfl, _, rfl, ?_⟩
      refine iteF ?_
      refine ⟨_, rfl, ln, lx, es, 3, rfl, sk _ _ hln, hR.same sk, hes, ⟨by decide, by decide⟩, fun sp K2 nsp ssp hsp => ?_⟩
      have hpb := tb_bts hes
      replace GV := GV.same ssp
      replace hfo := ssp _ _ hfo
      replace hF := hF.same ssp
      replace hd := ssp _ _ hd
      clear nsp sk ssp
      -- made
      refine ⟨_, rfl, _, rfl, _, rfl, _, rfl, (by show 1 ≤ sizeLine; decide), ?_⟩
      intro p3 n3
      have s3 : Same K2 (upd K2 p3 (.lst [.int 32])) := Same.new n3
      have h3 : upd K2 p3 (.lst [.int 32]) p3 = some (.lst [.int 32]) := upd_same
      generalize upd K2 p3 (.lst [.int 32]) = K3 at s3 h3 ⊢
      refine ⟨_, rfl, asl, _, rfl, .inl (SqL.of (s3 _ _ GV.E.B.s)), ?_⟩
      refine ⟨p3, _, _, rfl, rfl, h3, by omega, ?_, ?_, ?_⟩
      · rw [List.length_map, slots_len]
        omega
      · rw [List.length_map, slots_len]
        exact Nat.le_trans (by show 1 * ((3 + ms : Nat) : Int).toNat ≤ 500; omega) (by decide)
      intro p4 n4
      have s4 : Same K3 (upd K3 p4 (.lst ((List.replicate (slotsOf ms).length (32 : Int)).map V.int))) := Same.new n4
      have h4 : upd K3 p4 (.lst ((List.replicate (slotsOf ms).length (32 : Int)).map V.int)) p4 = some (.lst ((List.replicate (slotsOf ms).length (32 : Int)).map V.int)) := upd_same
      have e4 : (List.replicate ((((slotsOf ms).map V.str).length : Int)).toNat [V.int 32]).flatten = (List.replicate (slotsOf ms).length (32 : Int)).map V.int := by
        rw [rep_flat, List.length_map, List.map_replicate]
      rw [e4]
      generalize upd K3 p4 (.lst ((List.replicate (slotsOf ms).length (32 : Int)).map V.int)) = K4 at s4 h4 ⊢
      refine ⟨_, rfl, (by show 1 ≤ sizeLine; decide), ?_⟩
      intro p5 n5
      have s5 : Same K4 (upd K4 p5 (.lst [.int 1])) := Same.new n5
      have h5 : upd K4 p5 (.lst [.int 1]) p5 = some (.lst [.int 1]) := upd_same
      generalize upd K4 p5 (.lst [.int 1]) = K5 at s5 h5 ⊢
      have S5 := (s3.trans s4).trans s5
      intro x dx nx nd ne
      have hsx : upd (upd K5 dx (.own x)) x (.ins Cc dx []) x = some (.ins Cc dx []) := upd_same
      have S6 : Same K5 (upd (upd K5 dx (.own x)) x (.ins Cc dx [])) := fun b o e => by
        rw [upd_ne (ne_of_none e nx), upd_ne (ne_of_none e nd)]
        exact e
      generalize upd (upd K5 dx (.own x)) x (.ins Cc dx []) = K6 at hsx S6
      have So : ∀ {H' : Hp}, But x K6 H' → Same K2 H' := fun {H'} B b o e => B b o (ne_of_none (S5 _ _ e) nx) ((S5.trans S6) _ _ e)
      have G6 := GV.same (S5.trans S6)
      refine ⟨x, dx, d, aw, an, asl, p4, sp, p5, cdOf (chs cs) (wsOf tA tE ow z) (namesOf mn) (slotsOf ms) (K57.tb (chE (joinE es)) 3), rfl, hsx, made_ok hbts (G6.E.W.ktop z) (by rw [wsOf_len]; omega) isn iss hpb, .inl ((S5.trans S6) _ _ hd), .inl G6.E.B.w, .inl G6.E.B.n, .inl G6.E.B.s, .inl ((s5.trans S6) _ _ h4), .inl ((S5.trans S6) _ _ hsp), .inl (S6 _ _ h5), fun K7 m' B hN hC => ?_⟩
      have S7 := So B
      replace GV := GV.same S7
      replace hfo := S7 _ _ hfo
      replace hF := hF.same S7
      clear G6 So S6 S5 hsx h5 s5 n5 h4 s4 n4 h3 s3 n3 hN B S7 nx nd ne hd hsp
      -- found
      have hok : ∀ c ∈ cs, COk c ∧ mOk (wsOf tA tE ow z).length (namesOf mn).length (slotsOf ms).length c.1.2.2.2 c.2 := fun c hc => ⟨hcs c hc, (hO c hc).2.2.1⟩
      refine ⟨rfl, _, rfl, x, cdOf (chs cs) (wsOf tA tE ow z) (namesOf mn) (slotsOf ms) (K57.tb (chE (joinE es)) 3), m', cs, tsOf z, (rowsOf (joinE es) 0), rfl, hC, rfl, csn, hok, hbts, by omega, (GV.E.W.cls z).ct, isn, iss, .inl ⟨es, rfl, hes, ⟨by show (0 : Int) ≤ 3; decide, by show (3 : Int) < 2 ^ 27; decide⟩, rfl⟩, fun f2 fx2 K8 nf2 s8 hf2 hfR => ?_⟩
      rw [irAll_congr (line_join es) cs 0] at hfR
      have hfo8 := s8 _ _ hfo
      have hF8 := hF.same s8
      refine ⟨_, rfl, f2, irsD (irAll (tsOf z) (namesOf mn) (slotsOf ms) (rowsOf es 0) 0 cs), rfl, Dp.lst (SqL.of hf2) (dp_tups dp_ir hfR), w1, w2, w3, w4, _, rfl, fo, irsD (irAll (tsOf z) (namesOf mn) (slotsOf ms) (rowsOf es 0) 0 cs), rfl, Dp.lst (SqL.of hfo8) (dp_tups dp_ir hF8), w1, w2, w3, w4, rfl, _, rfl, ?_⟩
      refine ite2 (fun c => absurd c (by simp)) (fun _ => ?_)
      refine ⟨_, rfl, .inl ⟨rfl, _, SqL.of hf2⟩, f2, fx2, _, rfl, rfl, hf2, ?_, ?_⟩
      · rw [hfR.len]
        exact Nat.lt_of_le_of_lt (Nat.le_trans (irAll_len _ _ _ _ cs 0) (by omega : _ ≤ 200)) (by decide)
      have tA9 : Same K7 (upd K8 f2 (.lst (fx2 ++ [V.non]))) := Same.mut s8 nf2
      generalize upd K8 f2 (.lst (fx2 ++ [V.non])) = K9 at tA9 ⊢
      replace GV := GV.same tA9
      have hC9 := hC.same tA9
      have hfo9 := tA9 _ _ hfo
      have hF9 := hF.same tA9
      clear hfR hf2 hfo8 hF8 s8 nf2
      refine ⟨_, rfl, rfl, x, cdOf (chs cs) (wsOf tA tE ow z) (namesOf mn) (slotsOf ms) (K57.tb (chE (joinE es)) 3), m', cs, tsOf z, (rowsOf (joinE es) 0), rfl, hC9, rfl, csn, hok, hbts, by omega, (GV.E.W.cls z).ct, isn, iss, .inl ⟨es, rfl, hes, ⟨by show (0 : Int) ≤ 3; decide, by show (3 : Int) < 2 ^ 27; decide⟩, rfl⟩, fun f2 fx2 KA nf2 sA hf2 hfR => ?_⟩
      rw [irAll_congr (line_join es) cs 0] at hfR
      have hfoA := sA _ _ hfo9
      have hFA := hF9.same sA
      refine ⟨f2, irsD (irAll (tsOf z) (namesOf mn) (slotsOf ms) (rowsOf es 0) 0 cs), rfl, Dp.lst (SqL.of hf2) (dp_tups dp_ir hfR), w1, w2, w3, w4, _, rfl, fo, irsD (irAll (tsOf z) (namesOf mn) (slotsOf ms) (rowsOf es 0) 0 cs), rfl, Dp.lst (SqL.of hfoA) (dp_tups dp_ir hFA), w1, w2, w3, w4, rfl, _, rfl, ?_⟩
      refine ite2 (fun c => absurd c (by simp)) (fun _ => ?_)
      replace GV := GV.same sA
      exact ⟨⟨_, _, _, _, _, _, _, _, _, _, _, _, _, _, _, _, _, rfl⟩, GV.E.L, GV.E.T⟩
  · rintro σ H' ⟨⟨v2, v3, v4, v5, v6, v7, v8, v9, v10, v11, v12, v13, v14, v15, v16, v17, v18, rfl⟩, _, _⟩
    exact k H'
end
end K57
set_option maxHeartbeats 4000000
namespace K57
open PySem PySem.Spec PyProof.Rows L2 Nd
abbrev l : PySem.W.OpenLaw := PySem.Challenge.rw_codewalk_k57_instructions_told_as_dis_te
theorem hev0 (env : Env) : ∃ pl : Sem Bool, eval (.Call (.Attribute (.Call (.Name "super" ⟨7, 8, 7, 13⟩) [] [] ⟨7, 8, 7, 15⟩) "__init__" ⟨7, 8, 7, 24⟩) [.Name "field" ⟨7, 25, 7, 30⟩] [] ⟨7, 8, 7, 31⟩) env = (do
      let ov ← attributeBase (.Call (.Name "super" ⟨7, 8, 7, 13⟩) [] [] ⟨7, 8, 7, 15⟩) "__init__" env (eval (.Call (.Name "super" ⟨7, 8, 7, 13⟩) [] [] ⟨7, 8, 7, 15⟩) env)
      standAt (⟨7, 8, 7, 24⟩ : Pos).atName
      let (f, first) ← holding [ov] (getMethod ov "__init__" pl)
      callWith ⟨7, 8, 7, 31⟩ f first (backTo ⟨7, 8, 7, 31⟩ (starEach [.Name "field" ⟨7, 25, 7, 30⟩] env)) []) := ⟨_, rfl⟩
theorem hev1 (env : Env) : ∃ pl : Sem Bool, eval (.Call (.Attribute (.Call (.Name "super" ⟨12, 8, 12, 13⟩) [] [] ⟨12, 8, 12, 15⟩) "__init__" ⟨12, 8, 12, 24⟩) [.Name "at" ⟨12, 25, 12, 27⟩] [] ⟨12, 8, 12, 28⟩) env = (do
      let ov ← attributeBase (.Call (.Name "super" ⟨12, 8, 12, 13⟩) [] [] ⟨12, 8, 12, 15⟩) "__init__" env (eval (.Call (.Name "super" ⟨12, 8, 12, 13⟩) [] [] ⟨12, 8, 12, 15⟩) env)
      standAt (⟨12, 8, 12, 24⟩ : Pos).atName
      let (f, first) ← holding [ov] (getMethod ov "__init__" pl)
      callWith ⟨12, 8, 12, 28⟩ f first (backTo ⟨12, 8, 12, 28⟩ (starEach [.Name "at" ⟨12, 25, 12, 27⟩] env)) []) := ⟨_, rfl⟩
theorem facts {w : World} {K : PySem.W.Frag} {h : Heap} {mg : Str → Option Value} {f : Addr} (X : K.In h) (G : h.Ns mainGlobals mg) (hfa : mg ("law" : Str) = some (.ref f)) (c : SaysN fa fn tf ex nxo (nv w) h K) : LawHas l w K 63 mg f h := by
  have e := hfa.symm.trans (He.glo_ok X G (c.t.fact 40 (f := .glo "law") rfl))
  cases e
  obtain ⟨fd0, F0⟩ := c.t.def_ 0 (d := dD "cut_one" s_cut_one) rfl
  have D0 : DefX K mg "cut_one" s_cut_one ["data", "begin"] (He.ga K "cut_one") fd0 := dfx X G F0 (c.t.fact 0 (f := .glo "cut_one") rfl) (fun _ _ _ _ _ _ us hl => match us, hl with | [_, _], _ => rfl)
  obtain ⟨fd1, F1⟩ := c.t.def_ 1 (d := dD "cut" s_cut) rfl
  have D1 : DefX K mg "cut" s_cut ["data"] (He.ga K "cut") fd1 := dfx X G F1 (c.t.fact 1 (f := .glo "cut") rfl) (fun _ _ _ _ _ _ us hl => match us, hl with | [_], _ => rfl)
  obtain ⟨fd2, F2⟩ := c.t.def_ 2 (d := dD "joined" s_joined) rfl
  have D2 : DefX K mg "joined" s_joined ["rows"] (He.ga K "joined") fd2 := dfx X G F2 (c.t.fact 2 (f := .glo "joined") rfl) (fun _ _ _ _ _ _ us hl => match us, hl with | [_], _ => rfl)
  obtain ⟨fd3, F3⟩ := c.t.def_ 3 (d := dD "signed_at" s_signed_at) rfl
  have D3 : DefX K mg "signed_at" s_signed_at ["data", "at"] (He.ga K "signed_at") fd3 := dfx X G F3 (c.t.fact 3 (f := .glo "signed_at") rfl) (fun _ _ _ _ _ _ us hl => match us, hl with | [_, _], _ => rfl)
  obtain ⟨fd4, F4⟩ := c.t.def_ 4 (d := dD "line_rows" s_line_rows) rfl
  have D4 : DefX K mg "line_rows" s_line_rows ["code"] (He.ga K "line_rows") fd4 := dfx X G F4 (c.t.fact 4 (f := .glo "line_rows") rfl) (fun _ _ _ _ _ _ us hl => match us, hl with | [_], _ => rfl)
  obtain ⟨fd5, F5⟩ := c.t.def_ 5 (d := dD "want_code" s_want_code) rfl
  have D5 : DefX K mg "want_code" s_want_code ["value"] (He.ga K "want_code") fd5 := dfx X G F5 (c.t.fact 5 (f := .glo "want_code") rfl) (fun _ _ _ _ _ _ us hl => match us, hl with | [_], _ => rfl)
  obtain ⟨fd6, F6⟩ := c.t.def_ 6 (d := dD "is_number" s_is_number) rfl
  have D6 : DefX K mg "is_number" s_is_number ["value"] (He.ga K "is_number") fd6 := dfx X G F6 (c.t.fact 6 (f := .glo "is_number") rfl) (fun _ _ _ _ _ _ us hl => match us, hl with | [_], _ => rfl)
  obtain ⟨fd7, F7⟩ := c.t.def_ 7 (d := dD "is_string" s_is_string) rfl
  have D7 : DefX K mg "is_string" s_is_string ["value"] (He.ga K "is_string") fd7 := dfx X G F7 (c.t.fact 7 (f := .glo "is_string") rfl) (fun _ _ _ _ _ _ us hl => match us, hl with | [_], _ => rfl)
  obtain ⟨fd8, F8⟩ := c.t.def_ 8 (d := dD "is_byte" s_is_byte) rfl
  have D8 : DefX K mg "is_byte" s_is_byte ["value"] (He.ga K "is_byte") fd8 := dfx X G F8 (c.t.fact 8 (f := .glo "is_byte") rfl) (fun _ _ _ _ _ _ us hl => match us, hl with | [_], _ => rfl)
  obtain ⟨fd9, F9⟩ := c.t.def_ 9 (d := dD "are_bytes" s_are_bytes) rfl
  have D9 : DefX K mg "are_bytes" s_are_bytes ["value"] (He.ga K "are_bytes") fd9 := dfx X G F9 (c.t.fact 9 (f := .glo "are_bytes") rfl) (fun _ _ _ _ _ _ us hl => match us, hl with | [_], _ => rfl)
  obtain ⟨fd10, F10⟩ := c.t.def_ 10 (d := dD "are_strings" s_are_strings) rfl
  have D10 : DefX K mg "are_strings" s_are_strings ["value"] (He.ga K "are_strings") fd10 := dfx X G F10 (c.t.fact 10 (f := .glo "are_strings") rfl) (fun _ _ _ _ _ _ us hl => match us, hl with | [_], _ => rfl)
  obtain ⟨fd11, F11⟩ := c.t.def_ 11 (d := dD "is_constant" s_is_constant) rfl
  have D11 : DefX K mg "is_constant" s_is_constant ["value", "nested"] (He.ga K "is_constant") fd11 := dfx X G F11 (c.t.fact 11 (f := .glo "is_constant") rfl) (fun _ _ _ _ _ _ us hl => match us, hl with | [_, _], _ => rfl)
  obtain ⟨fd12, F12⟩ := c.t.def_ 12 (d := dD "are_constants" s_are_constants) rfl
  have D12 : DefX K mg "are_constants" s_are_constants ["value"] (He.ga K "are_constants") fd12 := dfx X G F12 (c.t.fact 12 (f := .glo "are_constants") rfl) (fun _ _ _ _ _ _ us hl => match us, hl with | [_], _ => rfl)
  obtain ⟨fd13, F13⟩ := c.t.def_ 13 (d := dD "at_index" s_at_index) rfl
  have D13 : DefX K mg "at_index" s_at_index ["row", "number"] (He.ga K "at_index") fd13 := dfx X G F13 (c.t.fact 13 (f := .glo "at_index") rfl) (fun _ _ _ _ _ _ us hl => match us, hl with | [_, _], _ => rfl)
  obtain ⟨fd14, F14⟩ := c.t.def_ 14 (d := dD "word_of" s_word_of) rfl
  have D14 : DefX K mg "word_of" s_word_of ["known", "number"] (He.ga K "word_of") fd14 := dfx X G F14 (c.t.fact 14 (f := .glo "word_of") rfl) (fun _ _ _ _ _ _ us hl => match us, hl with | [_, _], _ => rfl)
  obtain ⟨fd15, F15⟩ := c.t.def_ 15 (d := dD "operator_of" s_operator_of) rfl
  have D15 : DefX K mg "operator_of" s_operator_of ["word", "number"] (He.ga K "operator_of") fd15 := dfx X G F15 (c.t.fact 15 (f := .glo "operator_of") rfl) (fun _ _ _ _ _ _ us hl => match us, hl with | [_, _], _ => rfl)
  obtain ⟨fd16, F16⟩ := c.t.def_ 16 (d := dD "constant_told" s_constant_told) rfl
  have D16 : DefX K mg "constant_told" s_constant_told ["value"] (He.ga K "constant_told") fd16 := dfx X G F16 (c.t.fact 16 (f := .glo "constant_told") rfl) (fun _ _ _ _ _ _ us hl => match us, hl with | [_], _ => rfl)
  obtain ⟨fd17, F17⟩ := c.t.def_ 17 (d := dD "number_told" s_number_told) rfl
  have D17 : DefX K mg "number_told" s_number_told ["word", "number"] (He.ga K "number_told") fd17 := dfx X G F17 (c.t.fact 17 (f := .glo "number_told") rfl) (fun _ _ _ _ _ _ us hl => match us, hl with | [_, _], _ => rfl)
  obtain ⟨fd18, F18⟩ := c.t.def_ 18 (d := dD "meaning" s_meaning) rfl
  have D18 : DefX K mg "meaning" s_meaning ["code", "word", "number", "end"] (He.ga K "meaning") fd18 := dfx X G F18 (c.t.fact 18 (f := .glo "meaning") rfl) (fun _ _ _ _ _ _ us hl => match us, hl with | [_, _, _, _], _ => rfl)
  obtain ⟨fd19, F19⟩ := c.t.def_ 19 (d := dD "lines_of" s_lines_of) rfl
  have D19 : DefX K mg "lines_of" s_lines_of ["code"] (He.ga K "lines_of") fd19 := dfx X G F19 (c.t.fact 19 (f := .glo "lines_of") rfl) (fun _ _ _ _ _ _ us hl => match us, hl with | [_], _ => rfl)
  obtain ⟨fd20, F20⟩ := c.t.def_ 20 (d := dD "line_at" s_line_at) rfl
  have D20 : DefX K mg "line_at" s_line_at ["rows", "offset"] (He.ga K "line_at") fd20 := dfx X G F20 (c.t.fact 20 (f := .glo "line_at") rfl) (fun _ _ _ _ _ _ us hl => match us, hl with | [_, _], _ => rfl)
  obtain ⟨fd21, F21⟩ := c.t.def_ 21 (d := dD "instructions" s_instructions) rfl
  have D21 : DefX K mg "instructions" s_instructions ["code"] (He.ga K "instructions") fd21 := dfx X G F21 (c.t.fact 21 (f := .glo "instructions") rfl) (fun _ _ _ _ _ _ us hl => match us, hl with | [_], _ => rfl)
  obtain ⟨fd22, F22⟩ := c.t.def_ 22 (d := dD "_law_source_of" s_law_source_of) rfl
  have D22 : DefX K mg "_law_source_of" s_law_source_of ["cell"] (He.ga K "_law_source_of") fd22 := dfx X G F22 (c.t.fact 22 (f := .glo "_law_source_of") rfl) (fun _ _ _ _ _ _ us hl => match us, hl with | [_], _ => rfl)
  obtain ⟨fd23, F23⟩ := c.t.def_ 23 (d := dD "_law_next" s_law_next) rfl
  have D23 : DefX K mg "_law_next" s_law_next ["source", "many"] (He.ga K "_law_next") fd23 := dfx X G F23 (c.t.fact 23 (f := .glo "_law_next") rfl) (fun _ _ _ _ _ _ us hl => match us, hl with | [_, _], _ => rfl)
  obtain ⟨fd24, F24⟩ := c.t.def_ 24 (d := dD "_law_one" s_law_one) rfl
  have D24 : DefX K mg "_law_one" s_law_one ["source", "some"] (He.ga K "_law_one") fd24 := dfx X G F24 (c.t.fact 24 (f := .glo "_law_one") rfl) (fun _ _ _ _ _ _ us hl => match us, hl with | [_, _], _ => rfl)
  obtain ⟨fd25, F25⟩ := c.t.def_ 25 (d := dD "_law_table" s_law_table) rfl
  have D25 : DefX K mg "_law_table" s_law_table [] (He.ga K "_law_table") fd25 := dfx X G F25 (c.t.fact 25 (f := .glo "_law_table") rfl) (fun _ _ _ _ _ _ us hl => match us, hl with | [], _ => rfl)
  obtain ⟨fd26, F26⟩ := c.t.def_ 26 (d := dD "_law_packed" s_law_packed) rfl
  have D26 : DefX K mg "_law_packed" s_law_packed ["table", "word", "number"] (He.ga K "_law_packed") fd26 := dfx X G F26 (c.t.fact 26 (f := .glo "_law_packed") rfl) (fun _ _ _ _ _ _ us hl => match us, hl with | [_, _, _], _ => rfl)
  obtain ⟨fd27, F27⟩ := c.t.def_ 27 (d := dD "_law_great" s_law_great) rfl
  have D27 : DefX K mg "_law_great" s_law_great ["source"] (He.ga K "_law_great") fd27 := dfx X G F27 (c.t.fact 27 (f := .glo "_law_great") rfl) (fun _ _ _ _ _ _ us hl => match us, hl with | [_], _ => rfl)
  obtain ⟨fd28, F28⟩ := c.t.def_ 28 (d := dD "_law_pieces" s_law_pieces) rfl
  have D28 : DefX K mg "_law_pieces" s_law_pieces ["number"] (He.ga K "_law_pieces") fd28 := dfx X G F28 (c.t.fact 28 (f := .glo "_law_pieces") rfl) (fun _ _ _ _ _ _ us hl => match us, hl with | [_], _ => rfl)
  obtain ⟨fd29, F29⟩ := c.t.def_ 29 (d := dD "_law_marked" s_law_marked) rfl
  have D29 : DefX K mg "_law_marked" s_law_marked ["some"] (He.ga K "_law_marked") fd29 := dfx X G F29 (c.t.fact 29 (f := .glo "_law_marked") rfl) (fun _ _ _ _ _ _ us hl => match us, hl with | [_], _ => rfl)
  obtain ⟨fd30, F30⟩ := c.t.def_ 30 (d := dD "_law_joined" s_law_joined) rfl
  have D30 : DefX K mg "_law_joined" s_law_joined ["some"] (He.ga K "_law_joined") fd30 := dfx X G F30 (c.t.fact 30 (f := .glo "_law_joined") rfl) (fun _ _ _ _ _ _ us hl => match us, hl with | [_], _ => rfl)
  obtain ⟨fd31, F31⟩ := c.t.def_ 31 (d := dD "_law_entry" s_law_entry) rfl
  have D31 : DefX K mg "_law_entry" s_law_entry ["units", "more"] (He.ga K "_law_entry") fd31 := dfx X G F31 (c.t.fact 31 (f := .glo "_law_entry") rfl) (fun _ _ _ _ _ _ us hl => match us, hl with | [_, _], _ => rfl)
  obtain ⟨fd32, F32⟩ := c.t.def_ 32 (d := dD "_law_line_bytes" s_law_line_bytes) rfl
  have D32 : DefX K mg "_law_line_bytes" s_law_line_bytes ["some", "line"] (He.ga K "_law_line_bytes") fd32 := dfx X G F32 (c.t.fact 32 (f := .glo "_law_line_bytes") rfl) (fun _ _ _ _ _ _ us hl => match us, hl with | [_, _], _ => rfl)
  obtain ⟨fd33, F33⟩ := c.t.def_ 33 (d := dD "_law_told_operator" s_law_told_operator) rfl
  have D33 : DefX K mg "_law_told_operator" s_law_told_operator ["word", "number"] (He.ga K "_law_told_operator") fd33 := dfx X G F33 (c.t.fact 33 (f := .glo "_law_told_operator") rfl) (fun _ _ _ _ _ _ us hl => match us, hl with | [_, _], _ => rfl)
  obtain ⟨fd34, F34⟩ := c.t.def_ 34 (d := dD "_law_told_number" s_law_told_number) rfl
  have D34 : DefX K mg "_law_told_number" s_law_told_number ["word", "number"] (He.ga K "_law_told_number") fd34 := dfx X G F34 (c.t.fact 34 (f := .glo "_law_told_number") rfl) (fun _ _ _ _ _ _ us hl => match us, hl with | [_, _], _ => rfl)
  obtain ⟨fd35, F35⟩ := c.t.def_ 35 (d := dD "_law_drawn" s_law_drawn) rfl
  have D35 : DefX K mg "_law_drawn" s_law_drawn ["source", "sort", "tables"] (He.ga K "_law_drawn") fd35 := dfx X G F35 (c.t.fact 35 (f := .glo "_law_drawn") rfl) (fun _ _ _ _ _ _ us hl => match us, hl with | [_, _, _], _ => rfl)
  obtain ⟨fd36, F36⟩ := c.t.def_ 36 (d := dD "_law_meaning" s_law_meaning) rfl
  have D36 : DefX K mg "_law_meaning" s_law_meaning ["word", "sort", "number", "tables", "high"] (He.ga K "_law_meaning") fd36 := dfx X G F36 (c.t.fact 36 (f := .glo "_law_meaning") rfl) (fun _ _ _ _ _ _ us hl => match us, hl with | [_, _, _, _, _], _ => rfl)
  obtain ⟨fd37, F37⟩ := c.t.def_ 37 (d := dD "_law_line_at" s_law_line_at) rfl
  have D37 : DefX K mg "_law_line_at" s_law_line_at ["lines", "at"] (He.ga K "_law_line_at") fd37 := dfx X G F37 (c.t.fact 37 (f := .glo "_law_line_at") rfl) (fun _ _ _ _ _ _ us hl => match us, hl with | [_, _], _ => rfl)
  obtain ⟨fd38, F38⟩ := c.t.def_ 38 (d := dD "_law_told" s_law_told) rfl
  have D38 : DefX K mg "_law_told" s_law_told ["table", "given", "tables", "lines"] (He.ga K "_law_told") fd38 := dfx X G F38 (c.t.fact 38 (f := .glo "_law_told") rfl) (fun _ _ _ _ _ _ us hl => match us, hl with | [_, _, _, _], _ => rfl)
  obtain ⟨fd39, F39⟩ := c.t.def_ 39 (d := dD "_law_lines" s_law_lines) rfl
  have D39 : DefX K mg "_law_lines" s_law_lines ["source"] (He.ga K "_law_lines") fd39 := dfx X G F39 (c.t.fact 39 (f := .glo "_law_lines") rfl) (fun _ _ _ _ _ _ us hl => match us, hl with | [_], _ => rfl)
  obtain ⟨fd40, F40⟩ := c.t.def_ 40 (d := dD "law" s_law) rfl
  have D40 : DefX K mg "law" s_law ["script"] (He.ga K "law") fd40 := dfx X G F40 (c.t.fact 40 (f := .glo "law") rfl) (fun _ _ _ _ _ _ us hl => match us, hl with | [_], _ => rfl)
  obtain ⟨fdI, FI⟩ := c.t.def_ 41 (d := dM "Code" "__init__" "Code.__init__" s_Code_init) rfl
  have DI : MetX K "__init__" "Code.__init__" s_Code_init ["self", "argcount", "onlycount", "stacksize", "flags", "code", "constants", "names", "slots", "kinds", "name", "path", "line", "lines", "handlers"] (He.ma K (He.ga K "Code") "__init__") fdI := metx FI (fun _ _ _ _ _ _ us hl => match us, hl with | [_, _, _, _, _, _, _, _, _, _, _, _, _, _, _], _ => rfl)
  obtain ⟨fdL, FL⟩ := c.t.def_ 42 (d := dM "Code" "look" "Code.look" s_Code_look) rfl
  have DL : MetX K "look" "Code.look" s_Code_look ["self"] (He.ma K (He.ga K "Code") "look") fdL := metx FL (fun _ _ _ _ _ _ us hl => match us, hl with | [_], _ => rfl)
  have cl : Cls K (He.ga K "Code") := He.cls_ok (c.t.fact 79 (f := .cls "Code") rfl)
  obtain ⟨x1, xr⟩ := He.ba c.more
  obtain ⟨x2, xr⟩ := He.ba xr
  obtain ⟨x3, xr⟩ := He.ba xr
  obtain ⟨x4, xr⟩ := He.ba xr
  obtain ⟨x5, x6⟩ := He.ba xr
  have cx0 : nxObs "NoCode" K = (nv w).1.getD 0 none := congrArg (fun z : Bt => z.1.getD 0 none) c.nx
  have cx1 : nxObs "NoTable" K = (nv w).1.getD 1 none := congrArg (fun z : Bt => z.1.getD 1 none) c.nx
  have nx0 : PySem.Nx.Txt l.prog K mg (He.ga K "NoCode") (He.ma K (He.ga K "NoCode") "__init__") := nx_txt x1 cx0 (by rfl) (He.free_ok X G (c.t.fact 70 (f := .free "super") rfl)) (by rfl) hev0
  have nx1 : PySem.NxA.Txt l.prog K mg (He.ga K "NoTable") (He.ma K (He.ga K "NoTable") "__init__") := nx_txtA x2 cx1 (by rfl) (He.free_ok X G (c.t.fact 70 (f := .free "super") rfl)) (by rfl) hev1
  have gC : mg "Code" = some (.ref (He.ga K "Code")) := (He.glo_ok X G (c.t.fact 41 (f := .glo "Code") rfl))
  have na : ∀ f ∈ flds, NoAttr K (He.ga K "Code") f := by
    intro f hf
    simp only [flds, List.mem_cons, List.mem_nil_iff, or_false] at hf
    rcases hf with rfl | rfl | rfl | rfl | rfl | rfl | rfl | rfl | rfl | rfl | rfl | rfl | rfl | rfl | rfl
    · exact He.noat_ok (c.t.fact 82 (f := .noat "Code" "argcount") rfl)
    · exact He.noat_ok (c.t.fact 83 (f := .noat "Code" "onlycount") rfl)
    · exact He.noat_ok (c.t.fact 84 (f := .noat "Code" "stacksize") rfl)
    · exact He.noat_ok (c.t.fact 85 (f := .noat "Code" "flags") rfl)
    · exact He.noat_ok (c.t.fact 86 (f := .noat "Code" "code") rfl)
    · exact He.noat_ok (c.t.fact 87 (f := .noat "Code" "constants") rfl)
    · exact He.noat_ok (c.t.fact 88 (f := .noat "Code" "names") rfl)
    · exact He.noat_ok (c.t.fact 89 (f := .noat "Code" "slots") rfl)
    · exact He.noat_ok (c.t.fact 90 (f := .noat "Code" "kinds") rfl)
    · exact He.noat_ok (c.t.fact 91 (f := .noat "Code" "name") rfl)
    · exact He.noat_ok (c.t.fact 92 (f := .noat "Code" "path") rfl)
    · exact He.noat_ok (c.t.fact 93 (f := .noat "Code" "line") rfl)
    · exact He.noat_ok (c.t.fact 94 (f := .noat "Code" "lines") rfl)
    · exact He.noat_ok (c.t.fact 95 (f := .noat "Code" "handlers") rfl)
    · exact He.noat_ok (c.t.fact 96 (f := .noat "Code" "nested") rfl)
  have GK : GlK l.prog K mg (He.ga K "Code") (He.ga K "NoCode") (He.ma K (He.ga K "NoCode") "__init__") := ⟨⟨_, gC, rfl⟩, insB_ok cl x3, na, fun t ht => of_decide_eq_true (List.all_eq_true.mp x4 t ht), nx0, (He.glo_ok X G (c.t.fact 42 (f := .glo "NoCode") rfl)), (He.free_ok X G (c.t.fact 58 (f := .free "isinstance") rfl))⟩
  have MK : Mk K (He.ga K "Code") (He.ma K (He.ga K "Code") "__init__") := He.mkr_ok (c.t.fact 80 (f := .mkr "Code") rfl)
  have ML : Meth K (He.ga K "Code") "look" (He.ma K (He.ga K "Code") "look") := He.meth_ok (c.t.fact 81 (f := .meth "Code" "look") rfl)
  have T0 : Gl0 mg := ⟨(He.free_ok X G (c.t.fact 54 (f := .free "int") rfl)), (He.free_ok X G (c.t.fact 55 (f := .free "len") rfl)), (He.free_ok X G (c.t.fact 56 (f := .free "range") rfl))⟩
  have T1 : Gl1 mg := ⟨(int_rel X G (c.t.fact 76 (f := .int "FURTHER" 64) rfl)), (int_rel X G (c.t.fact 75 (f := .int "MARK" 128) rfl)), (He.free_ok X G (c.t.fact 57 (f := .free "tuple") rfl))⟩
  have T2 : Gl2 mg := ⟨(He.free_ok X G (c.t.fact 58 (f := .free "isinstance") rfl)), (He.free_ok X G (c.t.fact 54 (f := .free "int") rfl)), (He.free_ok X G (c.t.fact 59 (f := .free "bool") rfl)), (He.free_ok X G (c.t.fact 60 (f := .free "str") rfl)), (He.free_ok X G (c.t.fact 61 (f := .free "all") rfl)), (He.free_ok X G (c.t.fact 63 (f := .free "ord") rfl)), (He.free_ok X G (c.t.fact 64 (f := .free "list") rfl)), (He.free_ok X G (c.t.fact 57 (f := .free "tuple") rfl)), (int_rel X G (c.t.fact 71 (f := .int "MOST_NUMBER" 2147483647) rfl)), (int_rel X G (c.t.fact 72 (f := .int "MOST_NESTED" 100) rfl))⟩
  have T3 : Gl3 mg := ⟨(He.free_ok X G (c.t.fact 66 (f := .free "max") rfl))⟩
  have T4 : Gl4 mg := ⟨(int_rel X G (c.t.fact 77 (f := .int "NO_LINE" 15) rfl)), (int_rel X G (c.t.fact 78 (f := .int "ONE_LINE" 13) rfl)), (He.free_ok X G (c.t.fact 67 (f := .free "min") rfl))⟩
  have TU : GlU mg := ⟨(He.free_ok X G (c.t.fact 55 (f := .free "len") rfl)), (He.free_ok X G (c.t.fact 62 (f := .free "any") rfl))⟩
  have TT : GTb l.prog K mg (He.ga K "NoTable") (He.ma K (He.ga K "NoTable") "__init__") := ⟨nx1, (He.glo_ok X G (c.t.fact 44 (f := .glo "NoTable") rfl))⟩
  have GT : GlT K w mg (He.ga K "NUMBERS") (He.ga K "WORDS") (He.ga K "CACHES") (He.ga K "SORTS") := ⟨⟨_, (He.glo_ok X G (c.t.fact 45 (f := .glo "NUMBERS") rfl)), rfl⟩, ⟨_, (He.glo_ok X G (c.t.fact 46 (f := .glo "WORDS") rfl)), rfl⟩, ⟨_, (He.glo_ok X G (c.t.fact 47 (f := .glo "CACHES") rfl)), rfl⟩, ⟨_, (He.glo_ok X G (c.t.fact 48 (f := .glo "SORTS") rfl)), rfl⟩, (dicM_ok (congrArg (fun z : Bt => z.2.2.getD 0 none) c.nx) (by decide +kernel) (by decide +kernel)), (dicM_ok (congrArg (fun z : Bt => z.2.2.getD 1 none) c.nx) (by decide +kernel) (by decide +kernel)), (dicM_ok (congrArg (fun z : Bt => z.2.2.getD 2 none) c.nx) (by decide +kernel) (by decide +kernel)), (dicM_ok (congrArg (fun z : Bt => z.2.2.getD 3 none) c.nx) (by decide +kernel) (by decide +kernel))⟩
  have GO : GlO K w mg (He.ga K "OPERATORS") (He.ga K "COMPARES") (He.ga K "INTRINSICS") (He.ga K "ATTRIBUTES") := ⟨⟨_, (He.glo_ok X G (c.t.fact 49 (f := .glo "OPERATORS") rfl)), rfl⟩, ⟨_, (He.glo_ok X G (c.t.fact 50 (f := .glo "COMPARES") rfl)), rfl⟩, ⟨_, (He.glo_ok X G (c.t.fact 51 (f := .glo "INTRINSICS") rfl)), rfl⟩, ⟨_, (He.glo_ok X G (c.t.fact 52 (f := .glo "ATTRIBUTES") rfl)), rfl⟩, (dicM_ok (congrArg (fun z : Bt => z.2.2.getD 4 none) c.nx) (by decide +kernel) (by decide +kernel)), (dicM_ok (congrArg (fun z : Bt => z.2.2.getD 5 none) c.nx) (by decide +kernel) (by decide +kernel)), (dicM_ok (congrArg (fun z : Bt => z.2.2.getD 6 none) c.nx) (by decide +kernel) (by decide +kernel)), (dicM_ok (congrArg (fun z : Bt => z.2.2.getD 7 none) c.nx) (by decide +kernel) (by decide +kernel)), (int_rel X G (c.t.fact 73 (f := .int "IN_PLACE" 13) rfl)), (int_rel X G (c.t.fact 74 (f := .int "TRUTH" 16) rfl)), (He.free_ok X G (c.t.fact 65 (f := .free "dict") rfl)), (He.free_ok X G (c.t.fact 68 (f := .free "repr") rfl))⟩
  have GM : GlM K w mg (He.ga K "MORE") := ⟨⟨_, (He.glo_ok X G (c.t.fact 53 (f := .glo "MORE") rfl)), rfl⟩, (dicM_ok (congrArg (fun z : Bt => z.2.2.getD 8 none) c.nx) (by decide +kernel) (by decide +kernel)), (He.free_ok X G (c.t.fact 60 (f := .free "str") rfl))⟩
  have TG : Gg mg := ⟨(He.free_ok X G (c.t.fact 67 (f := .free "min") rfl)), (He.free_ok X G (c.t.fact 69 (f := .free "sorted") rfl))⟩
  have TM : Gm mg := ⟨(He.free_ok X G (c.t.fact 68 (f := .free "repr") rfl)), (He.free_ok X G (c.t.fact 60 (f := .free "str") rfl))⟩
  have tm : PySem.W.exmOne K (.ref (He.ga K "NoTable")) (.ref (He.ga K "NoTable")) = some true := of_decide_eq_true x5
  have GC : GlC K (He.ga K "Code") := ⟨of_decide_eq_true x6⟩
  obtain ⟨oc, od, dV, kV, doc, pm, an, cdv, ct, osl, efd, lk, hcd, _, _⟩ := F40.ex
  have hb := FunD.bindsA (ps := ["script"]) F40 (fun _ _ _ _ _ _ us hl => match us, hl with | [_], _ => rfl)
  obtain ⟨c', rfl⟩ := He.codeIn_ref hcd
  have ec : He.codeOf K ("law", none) = c' := He.codeOf_eq (p := ("law", none)) (efd ▸ lk) rfl
  subst efd
  have eT : (He.cT K ("law", none)).1 = c' := ec
  refine ⟨[He.cT K ("law", none)], spLaw K (He.cT K ("law", none)).2, fun p hp => ?_, fun p hp => ?_, fun p hp => ?_, fun H a ns hl _ hH hS => ?_, fun base KB GB hTB => ?_⟩
  · rw [List.mem_singleton.mp hp]
    exact c.empty _ (List.mem_singleton.mpr rfl)
  · rw [List.mem_singleton.mp hp]
    exact c.out _ (List.mem_singleton.mpr rfl)
  · rw [List.mem_singleton.mp hp]
    exact PySem.W.codeHd_of_K X (c.hd _ (List.mem_singleton.mpr rfl))
  · refine ⟨a, ns, rfl, hS, Nat.le_trans hl (by decide), fun p hp => ?_, fun _ => rfl⟩
    rw [List.mem_singleton.mp hp]
    exact LamX.TabS.nil (hH _ (List.mem_singleton.mpr rfl))
  · have TB := hTB _ (List.mem_singleton.mpr rfl)
    rw [eT] at TB
    have c_wc := ok_want_code (P := l.prog) (w := w) (base := base) GK D5
    have c_co := ok_cut_one (P := l.prog) (w := w) (base := base) TU GT D0
    have c_cut := ok_cut TU c_co D1
    have c_jo := ok_joined (P := l.prog) (w := w) (base := base) D2
    have c_sa := ok_signed_at (P := l.prog) (w := w) (base := base) T0 T1 D3
    have f_lr := ok_line_rows T0 T1 T4 TT GK c_wc c_jo c_sa D4
    have c_lo := ok_lines_of TT tm D4 f_lr D19
    have c_la := ok_line_at (P := l.prog) (w := w) (base := base) D20
    have c_at := ok_at_index (P := l.prog) (w := w) (base := base) TU GK D13
    have c_wo := ok_word_of (P := l.prog) (w := w) (base := base) D14
    have c_op := ok_operator_of GO c_wo D15
    have c_nt := ok_number_told (P := l.prog) (w := w) (base := base) GO D17
    have f_ct := ok_constant_told (P := l.prog) (w := w) (base := base) GO GK D16
    have f_me := ok_meaning GK GT GM c_at (D16.calg f_ct) c_op c_nt D18
    have f_in := ok_instructions (He.free_ok X G (c.t.fact 56 (f := .free "range") rfl)) GK GT c_wc c_cut c_lo c_la (D18.calg f_me) D21
    have c_isn := ok_is_number (P := l.prog) (w := w) (base := base) T2 D6
    have c_iss := ok_is_string (P := l.prog) (w := w) (base := base) T2 D7
    have c_isb := ok_is_byte (P := l.prog) (w := w) (base := base) T2 D8
    have c_arb := ok_are_bytes T2 c_isb D9
    have c_ars := ok_are_strings T2 c_iss D10
    have c_isc := ok_is_constant T2 GK GC c_iss D11 2
    have c_arc := ok_are_constants T2 (by decide) c_isc D12
    have c_look := ok_Code_look T0 GK c_isn c_iss c_arb c_ars c_arc DL
    have c_init := ok_Code_init T0 T2 T3 GK ML c_look DL.bi DI
    have c_so := ok_law_source_of (P := l.prog) (w := w) (base := base) T0 D22
    have c_next := ok_law_next (P := l.prog) (w := w) (base := base) T0 D23
    have c_one := ok_law_one T0 c_next D24
    have c_tb := ok_law_table (P := l.prog) (w := w) (base := base) T0 D25
    have c_lp := ok_law_packed (P := l.prog) (w := w) (base := base) T0 D26
    have c_gr := ok_law_great TG c_next c_one D27
    have c_pi := ok_law_pieces (P := l.prog) (w := w) (base := base) T0 D28
    have c_mk := ok_law_marked (P := l.prog) (w := w) (base := base) D29
    have c_lj := ok_law_joined (P := l.prog) (w := w) (base := base) D30
    have c_en := ok_law_entry c_pi c_mk D31
    have c_lb := ok_law_line_bytes T0 T4 c_lj c_en D32
    have c_to := ok_law_told_operator (P := l.prog) (w := w) (base := base) T0 D33
    have c_tn := ok_law_told_number (P := l.prog) (w := w) (base := base) T0 D34
    have c_dr := ok_law_drawn T0 TG c_next c_one c_gr D35
    have f_lm := ok_law_meaning T0 TM GK c_to c_tn D36
    have c_lla := ok_law_line_at (P := l.prog) (w := w) (base := base) D37
    have f_lt := ok_law_told T0 c_lp c_lla (D36.calg f_lm) D38
    have c_ll := ok_law_lines T0 c_next c_one D39
    have C := (⟨c_tb, c_so, c_next, c_one, c_dr, c_ll, D38.calg f_lt, c_lb, D21.calg f_in, D21.calgk f_in (fun _ _ _ _ _ _ _ => rfl)⟩ : Cals l.prog w K mg base (He.ga K "Code"))
    exact ok_law T0 TG TM GK MK c_init DI.bi C lk hcd hb TB
end K57
open PySem PySem.W PySem.Calls PyProof.Rows
theorem PySem.Challenge.cw_codewalk_k57_instructions_told_as_dis_te_holds : PySem.Challenge.rw_codewalk_k57_instructions_told_as_dis_te.Holds := by
  w_on; o_law
  refine HandSHeadRun.head_any (r := OpenLaw.row PySem.Challenge.rw_codewalk_k57_instructions_told_as_dis_te) (q := view (OpenLaw.row PySem.Challenge.rw_codewalk_k57_instructions_told_as_dis_te).prog [68]) (H := K57.hk) (ob := K57.ob) (M := 10000) (loose := K57.loose) (d := HandSHeadRun.topDef (OpenLaw.row PySem.Challenge.rw_codewalk_k57_instructions_told_as_dis_te).prog 68) (kwd := []) K57.ob_eq
    (by kernel_rfl) (fun s => by kernel_rfl) K57.run (by kernel_rfl) (by kernel_rfl) (by kernel_rfl) (by rfl) (by first | assumption | decide +kernel) (by decide +kernel) ⟨rfl, rfl, rfl, rfl, rfl, by decide +kernel⟩ ?hw ?hc
  case hw => w_witness2
  case hc =>
    refine Nd.walk_at (l := PySem.Challenge.rw_codewalk_k57_instructions_told_as_dis_te) (n := 63) rfl (by decide) (by kernel_rfl) ?F
    intro w mg fa h Y G hmg0
    obtain ⟨K, KX, c⟩ := Y
    have hmg : mg ("law" : PySem.Str) = some (.ref fa) := by
      have e : (HandSHeadRun.topDef (OpenLaw.row PySem.Challenge.rw_codewalk_k57_instructions_told_as_dis_te).prog 68).name = ("law" : PySem.Str) := by kernel_rfl
      rw [← e]
      exact hmg0
    exact ⟨K, KX, K57.facts KX G hmg c⟩
