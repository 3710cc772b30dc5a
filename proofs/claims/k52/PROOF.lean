import PyProof.Rows.All
import Wide.All
import OpenK.AllK
import Wide.FinOn
import KE.KExcSuper
import HandS.ForMost
import HandS.Exc
import HandS.ExcInit
import HandS.TryMany
import HandS.ExcIs
import HandS.IsInst
import HandS.Lambda
import HandS.Style
import HandS.Wide
import HandS.Defaults
import PyProof.ReprRoads
import KE.KExcIs
import HandS.EndTab
import HandS.EndOwn
import HandS.HeadWalk
import PyProof.ReprText
import KE.BitLaws
import HandS.WordsExc
import HandS.Head0
import HandS.Head1
import HandS.Head2
import HandS.HeadEnd
import HandS.HeadHook4
import HandS.ExcField
import HandS.MakeKwOnly
import HandS.Codes
import HandS.Walk
import HandS.LawCells
import PyProof.FitsInt
import PyProof.P3Eq
import HandS.Comp
import HandS.List
import HandS.WideBits
import HandS.OwnEq
import PyProof.InstEq
import PyProof.InstNe
import HandS.Zip
import HandS.More
import HandS.Dict
import KE.KDictOf
import PyProof.WalksMore
import HandS.Star
import KE.GoesEnum
import HandS.TupAny
import HandS.Text
import PyProof.Rows.StrOr
import PyProof.CallFns
import OpenK.KOwn
import HandS.Call
import PyProof.StrLawsRepr
import PyProof.EvalArms
import Wide.Once
import PySem.Challenge.RW_codewalk_k52_codes_written_and_read
set_option Elab.async false
set_option linter.all false
set_option maxRecDepth 100000
set_option maxHeartbeats 4000000
/-! ### own exceptions whose __init__ is: super().__init__(field); self.field = field -/
namespace PySem
namespace Nx
open PySem.W PySem.Calls PyProof.Rows PySem.HandSPX
def iA (p1 p2 : Pos) : Arguments := { posonlyargs := [], args := [{ arg := "self", annotation := none, pos := p1 }, { arg := "field", annotation := none, pos := p2 }], vararg := none, kwonlyargs := [], kw_defaults := [], kwarg := none, defaults := [] }
def iB (q1 q2 q3 q4 q5 q6 q7 q8 q9 q10 : Pos) : List Stmt :=
  [.Expr (.Call (.Attribute (.Call (.Name "super" q1) [] [] q2) "__init__" q3) [.Name "field" q4] [] q5) q6, .Assign [.Attribute (.Name "self" q7) "field" q8] (.Name "field" q9) q10]
def iS : Scope := { kind := .function, names := [(PySem.Str.ofString "self", .local), (PySem.Str.ofString "field", .local), (PySem.Str.ofString "__class__", .free), (PySem.Str.ofString "super", .globalImplicit)], isGenerator := false, isCoroutine := false, more := [] }
/-- what the written part says of the class at C and of its __init__ at fI -/
structure Txt (P : Program) (K : Frag) (mg : Str → Option Value) (C fI : Addr) : Prop where
  ox : L2.OexC K C
  noN : findIn K (.ref C) "field" = some none
  iC : findIn K (.ref C) "__init__" = some (some (.ref fI))
  tI : typeIn K (.ref fI) = some (.type "function")
  sup : ks_superIn K C C "__init__" = some (some (.builtin "ValueError.__init__"))
  sub : mroIn K C (.ref C) = some true
  isB : subIn K (.ref C) (.type "ValueError") = some true
  tp : nsIn K cStatics "thirdparty.any" = some none
  noS : mg "super" = none
  top : (P.main.scope.names.lookup ("super" : Str)).isSome = false
  fn : ∃ (qn : Str) (oc ccl cl ct doc pm : Value) (od cdd cld an : Option Addr) (osl ccs csl : Array (Option Value)) (cda cc : Addr) (vs : Array Value) (file : Str) (tf : Tok) (p1 p2 q1 q2 q3 q4 q5 q6 q7 q8 q9 q10 : Pos),
    K.lookup fI = some ⟨oc, od, .func (ksFn "__init__" qn (iA p1 p2) (iB q1 q2 q3 q4 q5 q6 q7 q8 q9 q10) iS .none .none doc pm an (.ref cda) ct cc), osl⟩ ∧ codeIn K (.ref cda) qn = true ∧
    K.lookup cda = some ⟨ccl, cdd, .fields vs, ccs⟩ ∧ vs[2]? = some (.str file tf) ∧ ((P.main.file : Str) == file) = true ∧
    K.lookup cc = some ⟨cl, cld, .cell (some (.ref C)), csl⟩ ∧
    (∀ env : Env, ∃ pl : Sem Bool, eval (.Call (.Attribute (.Call (.Name "super" q1) [] [] q2) "__init__" q3) [.Name "field" q4] [] q5) env = (do
      let ov ← attributeBase (.Call (.Name "super" q1) [] [] q2) "__init__" env (eval (.Call (.Name "super" q1) [] [] q2) env)
      standAt q3.atName
      let (f, first) ← holding [ov] (getMethod ov "__init__" pl)
      callWith q5 f first (backTo q5 (starEach [.Name "field" q4] env)) []))
section
variable {prog : Program} {w : World} {A : Around} {R : Result → Shared → Prop} {s : Shared} {K : Frag} {mg mb : Str → Option Value} {C fI : Addr}
/-- what __init__ leaves of a fresh exception at x -/
structure InitEnd (h h' : Heap) (x C dx t1 : Addr) (v : Value) : Prop where
  keep : ∀ b o, b ≠ x → h.get? b = some o → h'.get? b = some o
  obj : h'.get? x = some { cls := .ref C, dict := some dx, data := .fields #[.ref t1, .none, .none, .none, .bool false, .none] }
  dbig : h.objs.size ≤ dx
  dne : dx ≠ x
  ns : h'.Ns1 dx (fun y => if y = "field" then some v else none)
theorem init_ok (T : Txt prog K mg C fI) {x t0 : Addr} {v : Value} (X : K.In s.heap) (hns : s.heap.Ns mainGlobals mg) (hbl : s.heap.Ns builtinsNs mb) (hbb : ∀ x : Str, x ≠ "__name__" → mb x = bootBuiltins x) (hlim : s.heap.NoLimit)
    (hx : s.heap.get? x = some (excO C t0)) (hnx : K.lookup x = none) (hroom : A.depth < recursionLimit)
    (hq : ∀ h' tk dx t1, InitEnd s.heap h' x C dx t1 v → R (.ok (.ret .none)) { s with heap := h', toks := tk }) :
    codeAny (model prog w) A (.call (.ref fI) ⟨[.ref x, v], []⟩) R s := by
  obtain ⟨qn, oc, ccl, cl, ct, doc, pm, od, cdd, cld, an, osl, ccs, csl, cda, cc, vs, file, tf, p1, p2, q1, q2, q3, q4, q5, q6, q7, q8, q9, q10, ho, hcd, hcode, hvs, hfile, hcell, hev⟩ := T.fn
  obtain ⟨nm, q, N, bs, bm, sn, sub, ab, col, dd, k0, k1, k2, k3, k5, hC, hbm⟩ := T.ox.cls
  have hcl : clsIn K C = some { name := nm, bases := bs, mro := .ref C :: bm, ns := N, qualname := q, hasDict := true, slotNames := sn, subclasses := sub, abstract := ab, collection := col, hasDel := false } := by unfold clsIn; rw [hC] <;> rfl
  refine ks_codeAny_call_defAt (fd := ksFn "__init__" qn (iA p1 p2) (iB q1 q2 q3 q4 q5 q6 q7 q8 q9 q10) iS .none .none doc pm an (.ref cda) ct cc) (body := iB q1 q2 q3 q4 q5 q6 q7 q8 q9 q10) (binds := [("self", .ref x), ("field", v)])
    hroom (X _ _ ho) rfl hlim (codeRec_of X hcd) rfl (BindsTo.of_eq (by first | rfl | with_unfolding_all rfl)) (show ∀ x ∈ iS.names, x.2 ≠ NameKind.cell from by decide +kernel) (by
      intro y hy
      rcases List.mem_cons.mp hy with rfl | hy
      · exact (show iS.names.lookup ("self" : Str) = some .local from by decide +kernel)
      · rcases List.mem_cons.mp hy with rfl | hy
        · exact (show iS.names.lookup ("field" : Str) = some .local from by decide +kernel)
        · cases hy) (fun h₁ hn₁ k₁ => ?_)
  have X₁ : K.In h₁ := X.keeps k₁
  have hx₁ := k₁ _ _ hx
  obtain ⟨hp, g, dr, tk, os⟩ := s
  -- super().__init__(field)
  obtain ⟨pl, he⟩ := hev (ksEnv qn iS hp.objs.size fI (.ref cda) cc)
  refine ks_wpAt_execs_cons (ks_wpAt_Expr_any (ks_wpAt_MethodCall (pl := pl) ?_ he))
  refine ks_wpAt_super_base (env := ksEnv qn iS hp.objs.size fI (.ref cda) cc) rfl rfl (by decide +kernel) rfl (X₁ _ _ ho) rfl rfl rfl (X₁ _ _ hcode) rfl hvs hfile T.top ?_
  refine ks_loadName_global rfl rfl (loadGlobal_builtin (env := ksEnv qn iS hp.objs.size fI (.ref cda) cc) (hns.keeps k₁) T.noS (hbl.keeps k₁) ((hbb _ (by decide +kernel)).trans Boot.«super») ⟨rfl, ?_⟩)
  refine wpAny_loadName_free rfl rfl rfl ⟨_, X₁ _ _ hcell, rfl⟩ ?_
  refine wpAny_loadName_local rfl rfl hn₁ rfl ?_
  refine ks_wpAny_isType_cls (X₁ _ _ hC) rfl ⟨rfl, ?_⟩
  refine ks_wpAny_call_super (X₁ _ _ hC) rfl hx₁ rfl (fun c e => by cases e) (looks_mroIn X₁ T.sub) (fun h₂ e₂ k₂ => ?_)
  have X₂ : K.In h₂ := X₁.keeps k₂
  have hx₂ := k₂ _ _ hx₁
  have hm : alongIn K "__init__" (((Value.ref C :: bm).dropWhile (· != .ref C)).drop 1) = some (some (.builtin "ValueError.__init__")) := by
    have z := T.sup
    unfold ks_superIn at z
    rw [hcl] at z
    exact z
  have hI : Looks (model prog w) h₂ (isInstance (.ref x) (.type "ValueError")) true := (show InstAt h₂ x (excO C t0) C none from ⟨hx₂, rfl, rfl, trivial⟩).type.andThen (looks_subIn X₂ T.isB)
  have nxC : x ≠ C := by
    rintro rfl
    have z := X₂ _ _ hC
    rw [hx₂] at z
    cases z
  refine kxs_getMethod kxs_ValueError e₂ (looks_opaque X₂ T.tp) (l₀ := .ref C :: bm) (fun A Q E s k q => wpAny_bind ((looks_clsIn X₂ hcl) A _ E s k (wpAny_pure q))) rfl X₂ hm hI nxC (by decide +kernel) ?_
  have k₃ : ∀ b o, h₂.get? b = some o → (h₂.push (kxs_mw "ValueError.__init__" x)).get? b = some o := fun b o e => Heap.get?_push_of_some _ e
  have e₃ : (h₂.push (kxs_mw "ValueError.__init__" x)).get? h₂.objs.size = some (kxs_mw "ValueError.__init__" x) := Heap.get?_push_at rfl rfl
  have n₃ := (hn₁.keeps k₂).keeps k₃
  have X₃ := X₂.keeps k₃
  have hx₃ := k₃ _ _ hx₂
  refine kxs_callWith (i := "ValueError.__init__") (x := x) (by rfl) (evalArgs_plain ?_)
  show wpAny _ _ (spliced ((false, eval (.Name "field" q4) (ksEnv qn iS hp.objs.size fI (.ref cda) cc)) :: backTo q5 (starEach [] (ksEnv qn iS hp.objs.size fI (.ref cda) cc)))) _ _ _
  refine Calls.spliced_cons (wpAny_Name (wpAny_loadName_local rfl rfl n₃ rfl ?_) (by decide +kernel))
  refine Calls.spliced_nil ⟨e₃, ?_⟩
  show wpAny _ _ (call (.ref h₂.objs.size) [v]) _ _ _
  refine wpAny_call (codeAny_of_tree ?_)
  show wpAny _ _ (callAny (.ref h₂.objs.size) ⟨[v], []⟩) _ _ _
  simp only [callAny]
  refine wpAny_bind (wpAny_load e₃ ?_)
  simp only [kxs_mw, show (Value.type "method-wrapper" == Value.type "method" || Value.type "method-wrapper" == Value.type "builtin_function_or_method" || Value.type "method-wrapper" == Value.type "method-wrapper") = true by decide, if_true]
  refine KFB.if_so (by decide) ?_
  refine wpAny_bind (check_bound_init PySem.F.excBase_ValueError.toExcCallFacts (X₃ _ _ hC) hx₃ rfl ?_)
  refine wpAny_bind (wpAny_pure (wpAny_pure ?_))
  refine ⟨plainId_quiet PySem.F.excBase_ValueError.init.plain _, codeAny_builtin PySem.F.excBase_ValueError.initEntry ?_⟩
  refine exc_init_tree (e := x) (cls := .ref C) (dv := none) (c2 := .none) (c3 := .none) (b4 := .bool false) hx₃ (by show 1 ≤ sizeLine; rw [sizeLine_eq]; decide) (fun h₄ k₄ hx₄ _ => ?_)
  have X₄ : K.In h₄ := fun b o e => k₄ b o (fun z => by rw [z, hnx] at e; cases e) (X₃ b o e)
  have xL : hp.objs.size ≠ x := Nat.ne_of_gt (Heap.lt_size hx)
  have n₄ : h₄.Ns hp.objs.size (fun y => List.lookup y [(("self" : Str), Value.ref x), (("field" : Str), v)].reverse) := by
    obtain ⟨o, es, ep, e, r⟩ := n₃
    exact ⟨o, es, ep, k₄ _ _ xL e, r⟩
  -- self.field = field
  refine wpAt_of_wpAny (wpAny_execs_cons (plainObj_wpAny_Assign_Attribute ?_))
  refine wpAny_Name (wpAny_loadName_local rfl rfl n₄ rfl (wpAny_Name (wpAny_loadName_local rfl rfl n₄ rfl ?_) (by decide +kernel))) (by decide +kernel)
  refine set_plain X₄ (ox := excO C (h₂.push (kxs_mw "ValueError.__init__" x)).objs.size) (od := none) ⟨hx₄, rfl, rfl, trivial⟩ T.ox.sa ?_
  refine exc_osa X₄ hx₄ hcl (show refsVE (.ref C :: bm) = true from hbm) rfl T.noN (fun h₅ tk₅ dx k₅ dn dne hx₅ hn₅ => ?_)
  have old : ∀ b o, b ≠ x → hp.get? b = some o → h₅.get? b = some o := fun b o hb e => k₅ b o hb (k₄ b o hb (k₃ b o (k₂ b o (k₁ b o e))))
  have big : hp.objs.size ≤ dx := by
    obtain ⟨o, es, ep, e, r⟩ := n₄
    exact Nat.le_of_lt (Nat.lt_of_lt_of_le (Heap.lt_size e) dn)
  exact wpAny_execs_nil (hq h₅ tk₅ dx _ ⟨old, hx₅, big, dne, hn₅⟩)
end
end Nx
end PySem
set_option maxHeartbeats 4000000
namespace PySem
namespace Nx
open PySem.W PySem.Calls PyProof.Rows PySem.HandSPX
section
variable {prog : Program} {w : World} {A : Around} {R : Result → Shared → Prop} {s : Shared} {K : Frag} {mg mb : Str → Option Value} {C fI : Addr}
/-- a made exception -/
structure Made (h h' : Heap) (e C d : Addr) (v : Value) : Prop where
  keep : ∀ b o, h.get? b = some o → h'.get? b = some o
  new : h.objs.size ≤ e
  obj : ∃ oe vs, h'.get? e = some oe ∧ oe.cls = .ref C ∧ oe.dict = some d ∧ oe.data = .fields vs ∧ vs[1]? = some .none
  dbig : h.objs.size ≤ d
  dne : d ≠ e
  ns : h'.Ns1 d (fun y => if y = "field" then some v else none)
theorem made_ok (T : Txt prog K mg C fI) {v : Value} (X : K.In s.heap) (hns : s.heap.Ns mainGlobals mg) (hbl : s.heap.Ns builtinsNs mb) (hbb : ∀ x : Str, x ≠ "__name__" → mb x = bootBuiltins x) (hlim : s.heap.NoLimit) (hroom : A.depth + 1 < recursionLimit)
    (hq : ∀ h' tk e d, Made s.heap h' e C d v → R (.ok (.ret (.ref e))) { s with heap := h', toks := tk }) :
    codeAny (model prog w) A (.call (.ref C) ⟨[v], []⟩) R s := by
  obtain ⟨nm, q, N, bs, bm, sn, sub, ab, col, dd, k0, k1, k2, k3, k5, hC, hbm⟩ := T.ox.cls
  obtain ⟨hp, g, dr, tk, os⟩ := s
  have k : ∀ b o, hp.get? b = some o → ((hp.push (kdv_tup [v])).push (excO C hp.objs.size)).get? b = some o := fun b o e => Heap.get?_push_of_some _ (Heap.get?_push_of_some _ e)
  have hget : ((hp.push (kdv_tup [v])).push (excO C hp.objs.size)).get? (hp.objs.size + 1) = some (excO C hp.objs.size) := by heap_get
  have hnx : K.lookup (hp.objs.size + 1) = none := by
    cases e : K.lookup (hp.objs.size + 1) with
    | none => rfl
    | some o =>
      have z : hp.get? (hp.objs.size + 1) = some o := X _ _ e
      exact absurd (Nat.lt_of_succ_lt (Heap.lt_size z)) (Nat.lt_irrefl _)
  have one : [v].length ≤ sizeLine := by
    show 1 ≤ sizeLine
    rw [sizeLine_eq]
    decide
  refine call_own PySem.F.excBase_ValueError (fun X => refsVE_contains X bm hbm) (X _ _ hC) (looks_findIn X T.iC) (fun self => bind_fn X self T.tI) one ?_
  refine init_ok (s := ⟨(hp.push (kdv_tup [v])).push (excO C hp.objs.size), g, dr, tk, os⟩) T (X.keeps k) (hns.keeps k) (hbl.keeps k) hbb (hlim.keeps k) hget hnx ?_ fun h' tk' dx t1 ⟨k', hx, dn, dne, hns'⟩ => ?_
  · show A.depth + 1 < recursionLimit
    exact hroom
  · have old : ∀ b o, hp.get? b = some o → h'.get? b = some o := fun b o e => k' b o (Nat.ne_of_lt (Nat.lt_succ_of_lt (Heap.lt_size e))) (k b o e)
    have z : hp.objs.size + 1 + 1 ≤ dx := by
      first
        | (simpa only [Heap.size_push] using dn)
        | exact dn
        | (have q := dn; rw [Heap.size_push, Heap.size_push] at q; exact q)
    exact ⟨rfl, hq h' tk' (hp.objs.size + 1) dx ⟨old, Nat.le_succ _, ⟨_, _, hx, rfl, rfl, rfl, rfl⟩, Nat.le_trans (Nat.le_trans (Nat.le_succ _) (Nat.le_succ _)) z, dne, hns'⟩⟩
end
end Nx
end PySem
namespace L2
open PySem PySem.Spec PyProof.Rows
theorem relO_one {f : Str} {v : V} {v' : Value} (r : RelV v v') (g : Str) : RelO (List.lookup g [(f, v)]) (if g = f then some v' else none) := by
  rw [lookup_put]
  by_cases h : g = f
  · rw [if_pos h, if_pos h]
    exact r
  · rw [if_neg h, if_neg h]
    trivial
section
variable {X : Cx} {C fI : Addr}
/-- NoX(e), the class at C -/
def tMkNx (f : Str) (C : Addr) (ta : TA) : St → Hp → XK → Prop := fun σ H Q => ta σ H fun vs H1 => ∃ v, vs = [v] ∧ ∀ d, H1 d = none → Q (.ref C) (some d) (upd H1 d (.xd [(f, v)]))
theorem pmk_nx {a : Expr} {ta : TA} {x : Str} {p pos : Pos} {k : Nat} (T : PySem.Nx.Txt X.prog X.K X.mg C fI) (hr : Room k X.A) (ha : PA X [a] ta) (hg : Gl X x) (hm : X.mg x = some (.ref C)) (hdb : (x == ("__debug__" : Str)) = false := by decide)
    (he : starEach (a :: []) X.env = (false, eval a X.env) :: starEach [] X.env := by rfl) (hpl : (backTo pos (starEach [] X.env)).any (·.1) = false := by rfl) :
    PMk X (.Call (.Name x p) [a] [] pos) (tMkNx "field" C ta) := by
  intro pins s σ H Q I h
  refine wpAny_Call_Name_kw (ld_glob I hg hm ?_ hdb)
  refine PySem.W.callWith_K (h₀ := X.base) I.ok.mod.kin T.ox.kC (thn (ha.run pos pins s σ H _ I h) fun us s1 hh => ?_) he hpl
  obtain ⟨vs, H1, I1, r1, v, ev, q1⟩ := hh
  subst ev
  refine ⟨I1.kIn, ?_⟩
  cases r1 with
  | cons rv rn =>
    rename_i v' us'
    cases rn
    show wpAny _ _ (call (.ref C) [v']) _ _ _
    have hlim := I1.nolimit
    obtain ⟨mb, hb1, hb2⟩ := I1.ok.mod.blt
    have hns := I1.ok.mod.glob.keeps I1.bk
    have hbl := hb1.keeps I1.bk
    obtain ⟨hp, g, dr, tk, os⟩ := s1
    refine wpAny_call (PySem.Nx.made_ok T I1.kIn hns hbl hb2 hlim (by have := hr.dp; omega) fun h' tk' e d M => ?_)
    show MkP X pins σ Q (.ref e) ⟨h', g, dr, tk', os⟩
    obtain ⟨oe, fv, hoe, hc, hd, hdat, h1⟩ := M.obj
    have hns := M.ns
    obtain ⟨G', g1, g2⟩ := restrict h' fun b => decide (b ≠ e)
    have gk : ∀ b, b ≠ e → G'.get? b = h'.get? b := fun b hb => g1 b (decide_eq_true hb)
    have ge : G'.get? e = none := g2 e (by simp)
    have old : ∀ b o, hp.get? b = some o → G'.get? b = some o := fun b o q => (gk b (Nat.ne_of_lt (Nat.lt_of_lt_of_le (Heap.lt_size q) M.new))).trans (M.keep b o q)
    have ob : ObjOk X.prog X.w (upd H1 d (.xd [(("field" : Str), v)])) G' d (.xd [(("field" : Str), v)]) :=
      ⟨_, hns.at (fun o q => (gk d M.dne).trans q), fun f => relO_one rv f⟩
    have J : Inv X pins σ (upd H1 d (.xd [(("field" : Str), v)])) ⟨G', g, dr, tk', os⟩ := I1.laid (t' := tk') old M.dbig ob
    refine ⟨e, oe, fv, ⟨G', g, dr, tk', os⟩, _, .ref C, some d, rfl, J, fun b o q => ?_, ge, hoe, ⟨hc, hd⟩, hdat, h1, ?_, rfl, I1.bare, raises_own T.ox.exC T.ox.tyC, q1 d (I1.hok.fresh M.dbig)⟩
    · by_cases hb : b = e
      · have q' : G'.get? b = some o := q
        rw [hb, ge] at q'; cases q'
      · exact (gk b hb).symm.trans q
    · rw [upd_ne (Ne.symm M.dne)]
      exact I1.hok.fresh M.new
/-- isinstance(e, c), e the exception that the suite holds (at a; its class cls, its dict d) -/
def rIsX (K : PySem.W.Frag) (a : Addr) (cls : Value) (d : Option Addr) : List V → Hp → VK → Prop := fun xs H Q =>
  ∃ (D dd : Addr) (fs : List (Str × V)) (c : V) (cv : Value) (b : Bool), cls = .ref D ∧ ExcC K D ∧ d = some dd ∧ H dd = some (.xd fs) ∧ xs = [.ref a, c] ∧ (∀ u, RelV c u → u = cv) ∧ PySem.W.kitOne K (.ref D) cv = some b ∧ Q (.bl b) H
theorem call_isX {a : Addr} {oe : Obj} {cls : Value} {d : Option Addr} {pn : List (Addr × Obj)} (hz : Zc cls d oe) (hf : ∃ vs, oe.data = .fields vs) : CallR (X.suite a ((a, oe) :: pn)) (.builtin "isinstance") (rIsX X.K a cls d) := by
  intro pins s σ H xs us Q I r h
  obtain ⟨D, dd, fs, c, cv, b, rfl, T, rfl, hdd, rfl, hcv, e, q⟩ := h
  cases r with
  | cons rx rr =>
    cases rr with
    | cons rt rr =>
      cases rr
      cases rx
      have ec := hcv _ rt
      subst ec
      obtain ⟨hget, _⟩ := I.pin (a, oe) (List.mem_append.mpr (.inl List.mem_cons_self))
      obtain ⟨vs, hv⟩ := hf
      have hx : ObjOk X.prog X.w H s.heap dd (.xd fs) := I.hok dd _ hdd
      obtain ⟨mA, hns, hr⟩ := hx
      obtain ⟨od, ho, hl⟩ := lookIn_ns hns
      have J : PySem.W.InstAt s.heap a oe D (some od) := ⟨hget, hz.1, by unfold PySem.W.notCls; rw [hv] <;> rfl, by rw [hz.2]; exact ho⟩
      have hcl : (PySem.W.clsIn X.K D).isSome = true := by
        obtain ⟨cd, hc, _⟩ := PySem.W.any_some T.hd
        rw [hc] <;> rfl
      exact PySem.W.kia_one (PySem.W.kitx_exc hcl T.hg T.hk T.hs T.ha T.hn T.ht T.hm) I.kIn J e (fun z => nomatch z) fun tk => ⟨.bl b, H, I.kept (t' := tk) fun _ _ z => z, rfl, q⟩
end
end L2
set_option maxHeartbeats 4000000
namespace L2
open PySem PySem.Spec PyProof.Rows
/-- behind a suite with a name: slot i is gone -/
def goneE (D : Ends) (i : Nat) : Ends := { nx := fun σ H => D.nx (σ.set i none) H, rt := D.rt, bk := fun σ H => D.bk (σ.set i none) H, ct := fun σ H => D.ct (σ.set i none) H }
/-- the clauses «except c as n: ..» one after the other, each n at slot i -/
def wAll (K : PySem.W.Frag) (m i : Nat) (Wout : WX) (D : Ends) : List (Value × (Addr → Value → Option Addr → TS)) → WX
  | [] => Wout
  | (c, ts) :: r => fun cls d σ H => ∃ b, PySem.W.exmOne K cls c = some b ∧ (b = true → ∀ a, H a = none → σ.length = m → ts a cls d (goneE D i) (σ.set i (some (.ref a))) H) ∧ (b = false → wAll K m i Wout D r cls d σ H)
inductive HdAs (X : Cx) (n : Str) : List ExceptHandler → List (Value × (Addr → Value → Option Addr → TS)) → Prop
  | nil : HdAs X n [] []
  | cons {x : Str} {c : Value} {ts : Addr → Value → Option Addr → TS} {st : Stmt} {sts : List Stmt} {np p : Pos} {hds : List ExceptHandler} {l : List (Value × (Addr → Value → Option Addr → TS))} (hc : Names X x c)
      (hsu : ∀ (a : Addr) (oe : Obj) (cls : Value) (d : Option Addr) (pn : List (Addr × Obj)), Zc cls d oe → (∃ vs, oe.data = .fields vs) → PSs (X.suite a ((a, oe) :: pn)) (st :: sts) (ts a cls d)) (r : HdAs X n hds l) :
      HdAs X n (.ExceptHandler (some (.Name x np)) (some n) (st :: sts) p :: hds) ((c, ts) :: l)
section
variable {X : Cx} {n : Str} {i : Nat} {body : List Stmt} {h₀ : ExceptHandler} {hds : List ExceptHandler} {l : List (Value × (Addr → Value → Option Addr → TS))} {pos : Pos} {tb : WX → TS} {Wout : WX}
/-- one after the other, the exception being on the ground -/
theorem all_handled {pins : List (Addr × Obj)} {sI s' : Shared} {B : Heap} {σ' : St} {H' : Hp} {a : Addr} {cls : Value} {d : Option Addr} {D : Ends} {h3 : Heap} (hs : X.stack = X.env :: X.outer) (hf : X.env.frame = some X.env.locals) (hN : X.N.Nodup) (hi : X.N[i]? = some n)
    (hln : X.env.kindOf n = some .local) (tk : Takes X Wout) (ok : X.Ok) (J : Inv X pins σ' H' sI) (nb : ∀ b o, sI.heap.get? b = some o → b ∉ frs X.stack → B.get? b = some o) (up : sI.heap.UpToSlots h3) (na : H' a = none) (os : s'.os = sI.os) (ag : AllBare s'.gens)
    (fl3 : HandSPX.FlyingZ B (X.env :: X.outer) a (Zc cls d) h3) : ∀ {hds' : List ExceptHandler} {l' : List (Value × (Addr → Value → Option Addr → TS))}, HdAs X n hds' l' → wAll X.K X.N.length i Wout D l' cls d σ' H' →
      wpAny (model X.prog X.w) X.A (handleBy (.ref a) X.env hds') (SP X pins D) X.xe { s' with heap := h3 } := by
  have J3 : Inv X pins σ' H' { s' with heap := h3 } := J.landed nb fl3.1 up os ag
  obtain ⟨oe3, vs3, he3, hz3, hd3⟩ := fl3.there
  have nfr : a ∉ frs (X.env :: X.outer) := fun hm => by
    obtain ⟨_, o', e', hnf⟩ := fl3.2.2.1.mem hm
    rw [he3] at e'
    cases e'
    exact hnf _ hd3
  have nL : a ≠ X.env.locals := fun z => nfr (List.mem_filterMap.mpr ⟨X.env, List.mem_cons_self, by rw [hf, z]⟩)
  have nF : a ∉ X.fs := fun hm => by
    obtain ⟨e, he, q⟩ := List.mem_filterMap.mp hm
    exact nfr (List.mem_filterMap.mpr ⟨e, List.mem_cons_of_mem _ he, q⟩)
  have S3 := J3.suite he3 hd3 na nL nF
  intro hds' l' hk
  induction hk with
  | nil =>
    intro w
    obtain ⟨k1, k2, k3, oe, vs, T, oT, ts', he, hz, hd, h1, hr⟩ := id fl3
    refine wpAny_handleBy_nil ?_
    unfold PySem.passOn
    refine wpAny_bind (wpAny_field he hd h1 ?_)
    rw [if_neg (show ¬ ((Value.ref T == Value.none) = true) from by simp)]
    have fin : wpAny (model X.prog X.w) X.A (setFlight (.ref a) X.env.frame) (fun _ s4 => wpAny (model X.prog X.w) X.A (throw (.ref a) : Sem Flow) (SP X pins D) X.xe s4) X.xe { s' with heap := h3 } := by
      rw [hf]
      exact HandSPX.setFlight_upZ fl3 fun h4 hh4 up4 => wpAny_throw (tk _ _ ⟨a, B, sI, pins, σ', H', cls, d, rfl, J, nb, up.trans up4, .inr (.inr (by rw [hs]; exact hh4)), na, os, ag, w⟩)
    first
      | exact wpAny_bind (wpAny_pure (wpAny_bind fin))
      | exact wpAny_bind fin
  | @cons x c ts st sts np p hds2 l2 hc hsu r ih =>
    intro w
    obtain ⟨b, hb1, hyes, hno⟩ := w
    refine wpAny_handleBy_cons (codeAny_handlers_test ?_) (by intro q; cases q)
    have LT : PySem.W.Looks (model X.prog X.w) h3 (typeOf (.ref a)) cls := fun A Q E s k q => wpAny_typeOf_ref (k _ _ he3) (by rw [hz3.1]; exact q)
    have LM := PySem.W.exm_one (M := model X.prog X.w) (J3.kIn) LT hb1
    have test : ∀ {Q : Value → Shared → Prop} {E : Value → Shared → Prop}, Q c { s' with heap := h3 } → wpAny (model X.prog X.w) (X.A.mark (some (.ref a))) (eval (.Name x np) X.env) Q E { s' with heap := h3 } := fun {Q E} q => by
      obtain ⟨hg, hdbg, hm | ⟨hm, hv, hnn⟩⟩ := hc
      · exact ld_glob (X := X.suite a ((a, oe3) :: (X.pn ++ pins))) S3 hg hm q hdbg
      · exact ld_blt (X := X.suite a ((a, oe3) :: (X.pn ++ pins))) S3 hg hm hv q hnn hdbg
    refine test (LM.here ?_)
    cases b with
    | false =>
      show wpAny _ X.A (handleBy (.ref a) X.env hds2) _ _ _
      exact ih (hno rfl)
    | true =>
      refine codeAny_handlers_suite_as ?_
      refine HandSPX.lands_againZ fl3 fun h4 fl4 up4 => ?_
      have J4 : Inv X pins σ' H' { s' with heap := h4 } := J.landed nb fl4.1 (up.trans up4) os ag
      obtain ⟨oe4, vs4, he4, hz4, hd4⟩ := fl4.there
      have S4 := J4.suite he4 hd4 na nL nF
      refine store_ok (X := X.suite a ((a, oe4) :: (X.pn ++ pins))) (v := .ref a) S4 hN hi (.inl hln) rfl (fun s5 S5 => ?_) (.inr hln)
      refine wpAny_mono ((hsu a oe4 cls d (X.pn ++ pins) hz4 ⟨_, hd4⟩).run [] s5 _ H' _ S5 (hyes rfl a na J.len)) (fun f s6 hsp => ?_) (fun _ _ z => False.elim z)
      have end_ : ∀ {σ6 : St} {H6 : Hp} {Q : Shared → Prop}, Inv (X.suite a ((a, oe4) :: (X.pn ++ pins))) [] σ6 H6 s6 → (∀ s7, Inv X pins (σ6.set i none) H6 s7 → Q s7) →
          wpAny (model X.prog X.w) X.A (do bindName X.env n .none; unbindBehindTheSuite X.env n p) (fun _ s7 => Q s7) X.xe s6 := fun {σ6 H6 Q} S6 hq => gone_ok (S6.unsuite ok) hN hi hln hq
      cases f with
      | next =>
        obtain ⟨σ6, H6, S6, q6⟩ := hsp
        exact end_ S6 fun s7 J7 => ⟨_, _, J7, q6⟩
      | brk =>
        obtain ⟨σ6, H6, S6, q6⟩ := hsp
        exact end_ S6 fun s7 J7 => ⟨_, _, J7, q6⟩
      | cont =>
        obtain ⟨σ6, H6, S6, q6⟩ := hsp
        exact end_ S6 fun s7 J7 => ⟨_, _, J7, q6⟩
      | ret u =>
        obtain ⟨v6, σ6, H6, S6, r6, q6⟩ := hsp
        exact end_ S6 fun s7 J7 => ⟨_, _, _, J7, r6, q6⟩
theorem ps_try_all (hs : X.stack = X.env :: X.outer) (hf : X.env.frame = some X.env.locals) (hN : X.N.Nodup) (hi : X.N[i]? = some n) (hln : X.env.kindOf n = some .local) (tk : Takes X Wout)
    (hb : ∀ (W : WX) (pn : List (Addr × Obj)) (xe : Value → Shared → Prop), Takes (X.tr pn xe) W → PassesOwn (model X.prog X.w) X.A X.env xe → PSs (X.tr pn xe) body (tb W))
    (hh : HdAs X n (h₀ :: hds) l) : PS X (.Try body (h₀ :: hds) [] [] pos) (fun D σ H => tb (wAll X.K X.N.length i Wout D l) D σ H) := by
  refine ⟨fun pins s σ H D I h => ?_⟩
  have ok := I.ok
  have hfr : X.A.frames = some (X.env :: X.outer) := by rw [ok.frames, hs]
  refine wpAny_Try_except ?_
  refine wpAny_mono ((hb (wAll X.K X.N.length i Wout D l) (X.pn ++ pins) (fun e s₁ => wpAny (model X.prog X.w) X.A (noteFrame e X.env) (fun _ s₂ => wpAny (model X.prog X.w) X.A (setFlight e none) (fun _ s₃ =>
    wpAny (model X.prog X.w) X.A (handleBy e X.env (h₀ :: hds)) (SP X pins D) X.xe s₃) X.xe s₂) X.xe s₁) (fun u s' xx => ?_) PassesOwn.looking).run [] s σ H D (I.toTry _) h) (fun f s1 hsp => ?_) (fun e s1 he => he)
  · obtain ⟨a, B, sI, pins', σ', H', cls, d, rfl, J', nb, up, sky, na, os, ag, w⟩ := xx
    have J : Inv X pins σ' H' sI := J'.ofTry ok
    have sky' : Sky B (X.env :: X.outer) a (Zc cls d) X.env.locals s'.heap := by rw [← hs]; exact sky
    show wpAny (model X.prog X.w) X.A (noteFrame (.ref a) X.env) _ _ _
    exact Sky.land Zc.steady hfr hf sky' fun h3 fl3 up3 => all_handled hs hf hN hi hln tk ok J nb (up.trans up3) na os ag fl3 hh w
  · cases f with
    | next =>
      obtain ⟨σ', H', J', q⟩ := hsp
      exact wpAny_execs_nil ⟨σ', H', J'.ofTry ok, q⟩
    | brk =>
      obtain ⟨σ', H', J', q⟩ := hsp
      exact ⟨σ', H', J'.ofTry ok, q⟩
    | cont =>
      obtain ⟨σ', H', J', q⟩ := hsp
      exact ⟨σ', H', J'.ofTry ok, q⟩
    | ret u =>
      obtain ⟨v, σ', H', J', r, q⟩ := hsp
      exact ⟨v, σ', H', J'.ofTry ok, r, q⟩
end
end L2
set_option maxHeartbeats 4000000
/-! ### the end of a law, its def run at the caller's place alone (there no object is being shown: repr) -/
namespace Nd
open PySem PySem.Spec PyProof.Rows L2 LamX
/-- the script as it stands: frozen, or of the written part; a list that bears nothing else -/
def ScrL (K : PySem.W.Frag) (H : Hp) (a : Addr) (xs : List V) : Prop := (∃ vs : List Value, H a = some (.frz { cls := .type "list", data := .seq vs.toArray } (.lst xs))) ∨
  ∃ vs : List Value, K.lookup a = some { cls := .type "list", data := .seq vs.toArray } ∧ vs.length ≤ sizeLine ∧ Vals xs vs
theorem ScrL.seq {K : PySem.W.Frag} {H : Hp} {a : Addr} {xs : List V} (h : ScrL K H a xs) : SqL K H a xs := by
  rcases h with ⟨vs, h⟩ | ⟨vs, h, l, r⟩
  · exact .inl (.inr ⟨_, h⟩)
  · exact .inr ⟨_, vs.toArray, _, h, rfl, rfl, rfl, by rw [List.size_toArray]; exact l, by simpa using r⟩
/-- the law's def, called from the outside with the script at a -/
def RunsAt (P : Program) (w : World) (K : PySem.W.Frag) (mg : Str → Option Value) (base : Heap) (fa : Addr) (sp : Sp) : Prop :=
  ∀ (a : Addr) (s : Shared) (H : Hp), Env0 P w K mg base callerA [] s H → sp [.ref a] H (fun v _ => v = .bl true) E0 →
    codeAny (model P w) callerA (.call (.ref fa) ⟨[.ref a], []⟩) (CR CX0 [] P w H s (fun v _ => v = .bl true) E0) s
section
variable {P : Program} {w : World} {K : PySem.W.Frag} {mg mb : Str → Option Value} {fa a : Addr} {cs : List (Addr × Addr)} {sp : Sp} {s₁ : Shared} {vs : List Value} {ns : List Int}
/-- from one abstract heap that tells of the tables and the script alone -/
theorem run_core (KX : K.In s₁.heap) (hns : s₁.heap.Ns mainGlobals mg) (hb : s₁.heap.Ns builtinsNs mb) (hbb : ∀ x : Str, x ≠ "__name__" → mb x = bootBuiltins x) (hlim : s₁.heap.NoLimit) (hg : s₁.gens = #[])
    (hT : ∀ p ∈ cs, s₁.heap.get? p.2 = some { cls := .none, data := .fields #[] }) (nT : ∀ p ∈ cs, K.lookup p.2 = none) (C : ∀ p ∈ cs, PySem.W.CodeHd s₁.heap p.1 p.2)
    (hbm : ∃ (bm : Addr) (ob : Obj), mg "__builtins__" = some (.ref bm) ∧ bm ≠ builtinsNs ∧ s₁.heap.get? bm = some ob ∧ ob.cls = .type "module" ∧ ob.dict = some builtinsNs ∧ ob.data = .plain)
    (ha : s₁.heap.get? a = some { cls := .type "list", data := .seq vs.toArray })
    (F : ∀ base : Heap, K.In base → base.Ns mainGlobals mg → (∀ p ∈ cs, TabB base mg p.1 p.2) → RunsAt P w K mg base fa sp)
    {H : Hp} (hH : ∀ p ∈ cs, H p.2 = some (.tbl #[])) (hO : ∀ b, H b = none ∨ b ∈ cs.map (·.2) ∨ ∃ o xs, H b = some (.frz o (.lst xs))) (hok : HOk P w H s₁.heap) (hA : ∀ b, H b ≠ none → b = a ∨ b ∈ cs.map (·.2)) (hK : H a ≠ none → K.lookup a = none)
    (hq : sp [.ref a] H (fun v _ => v = .bl true) E0) :
    codeAny (model P w) callerA (.call (.ref fa) ⟨[.ref a], []⟩) (fun r s' => r = .ok (.ret (.bool true)) ∧ OldK s₁.heap s'.heap ∧ s'.os = s₁.os ∧ AllBare s'.gens) s₁ := by
  have isT : ∀ b : Addr, b ∈ cs.map (·.2) → s₁.heap.get? b = some { cls := .none, data := .fields #[] } := fun b hb => by
    obtain ⟨p, hp, e⟩ := List.mem_map.mp hb
    rw [← e]
    exact hT p hp
  -- an object of another kind is not tracked
  have noD : ∀ {b : Addr} {o : Obj}, s₁.heap.get? b = some o → (∀ vs n, o.data ≠ .seq vs n) → o.data ≠ .fields #[] → H b = none := fun {b o} e h1 h2 => by
    cases q : H b with
    | none => rfl
    | some u =>
      rcases hA b (by rw [q]; simp) with e' | e'
      · rw [e', ha] at e
        cases e
        exact (h1 _ _ rfl).elim
      · rw [isT b e'] at e
        cases e
        exact (h2 rfl).elim
  have dictK : ∀ {b : Addr} {m : Str → Option Value}, s₁.heap.Ns b m → (hidT s₁.heap H).Ns b m := fun {b m} ⟨o, es, ep, e, d, r⟩ =>
    ⟨o, es, ep, hidT_get e (noD e (fun vs n z => by rw [d] at z; cases z) fun z => by rw [d] at z; cases z), d, r⟩
  have hKb : K.In (hidT s₁.heap H) := fun b o e => hidT_get (KX b o e) (by
    cases q : H b with
    | none => rfl
    | some u =>
      rcases hA b (by rw [q]; simp) with e' | e'
      · rw [e'] at e q
        rw [hK (by rw [q]; simp)] at e
        cases e
      · obtain ⟨p, hp, ep⟩ := List.mem_map.mp e'
        rw [← ep, nT p hp] at e
        cases e)
  have hM : L2.Mod K mg (hidT s₁.heap H) := ⟨hKb, dictK hns, ⟨mb, dictK hb, hbb⟩, let ⟨mc, h1, h2⟩ := hlim; ⟨mc, dictK h1, h2⟩⟩
  have TB : ∀ p ∈ cs, TabB (hidT s₁.heap H) mg p.1 p.2 := fun p hp => by
    have hTp := hT p hp
    refine ⟨?_, ?_, fun z => ?_⟩
    · obtain ⟨o, us, file, tf, flags, tg, inF, text, tt, e1, r1, r2, r3, r4, r5, r6, r7, r8, hne⟩ := C p hp
      refine ⟨o, us, file, tf, flags, tg, inF, text, tt, hidT_get e1 (noD e1 (fun vs n z => by rw [r2] at z; cases z) fun z => ?_), r1, r2, r3, r4, r5, r6, r7, r8, hne⟩
      rw [r2] at z
      cases z
      simp at r3
    · obtain ⟨bm, ob, b1, b2, b3, b4, b5, b6⟩ := hbm
      have nG : bm ≠ mainGlobals := fun q => by
        obtain ⟨o, es, ep, e, hd, _⟩ := hns
        rw [q, e] at b3
        cases b3
        rw [hd] at b6
        cases b6
      have nP : bm ≠ p.2 := fun q => by
        rw [q, hTp] at b3
        cases b3
        cases b6
      exact ⟨bm, ob, b1, b2, nG, nP, hidT_get b3 (noD b3 (fun vs n z => by rw [b6] at z; cases z) fun z => by rw [b6] at z; cases z), b4, b5, b6⟩
    · obtain ⟨o, es, ep, e, hd, _⟩ := hns
      rw [z, hTp] at e
      cases e
      cases hd
  have e0 : Env0 P w K mg (hidT s₁.heap H) callerA [] s₁ H := ⟨rfl, hM, fun b o e => of_hidT e, Nat.le_of_eq (hidT_size _ _), trivial, fun b hb => absurd (show b ∈ ([] : List Addr) from hb) (by simp), hok, .of_eq hg⟩
  refine codeAny_mono (F _ hKb (dictK hns) TB a s₁ H e0 hq) fun r s' h => ?_
  cases r with
  | error e => exact False.elim h
  | ok fl =>
    cases fl with
    | next => exact False.elim h
    | brk => exact False.elim h
    | cont => exact False.elim h
    | ret u =>
      obtain ⟨v, H', os, bare, un, hok', r', q⟩ := h
      have q' : v = .bl true := q
      subst q'
      obtain rfl : u = Value.bool true := r'
      have key : ∀ b o, b ∉ cs.map (·.2) → s₁.heap.get? b = some o → s'.heap.get? b = some o := fun b o nb e => by
        rcases hO b with z | z | ⟨ob, xs, z⟩
        · exact un.keep b o e z (fun z => absurd (show b ∈ ([] : List Addr) from z) (by simp)) (by simp)
        · exact absurd z nb
        · obtain ⟨e1, _⟩ := hok b _ z
          obtain ⟨e2, _⟩ := hok' b _ (un.frzs b ob _ z)
          rw [e] at e1
          cases e1
          exact e2
      have grown : ∀ b, b ∈ cs.map (·.2) → ∃ more : Array Value, s'.heap.get? b = some { cls := .none, data := .fields more } := fun b hb => by
        obtain ⟨p, hp, ep⟩ := List.mem_map.mp hb
        obtain ⟨more, z⟩ := un.tbls p.2 #[] (hH p hp)
        rw [← ep]
        exact ⟨_, hok' p.2 _ z⟩
      refine ⟨rfl, ⟨fun b o e => ?_, fun b o e => ?_⟩, os, bare⟩
      · by_cases hb : b ∈ cs.map (·.2)
        · obtain ⟨more, hm⟩ := grown b hb
          obtain ⟨p, hp, ep⟩ := List.mem_map.mp hb
          rw [← ep] at e hm ⊢
          rw [hT p hp] at e
          cases e
          exact .inr (.inl ⟨((C p hp).tab (hT p hp)).isCodeTable, rfl, #[], more, rfl, by rw [Array.empty_append]; exact hm⟩)
        · exact .inl (key b o hb e)
      · by_cases hb : b ∈ cs.map (·.2)
        · obtain ⟨more, hm⟩ := grown b hb
          exact ⟨_, hm⟩
        · exact ⟨o, key b o hb e⟩
theorem run_law (KX : K.In s₁.heap) (hns : s₁.heap.Ns mainGlobals mg) (hb : s₁.heap.Ns builtinsNs mb) (hbb : ∀ x : Str, x ≠ "__name__" → mb x = bootBuiltins x) (hlim : s₁.heap.NoLimit) (hg : s₁.gens = #[])
    (hT : ∀ p ∈ cs, s₁.heap.get? p.2 = some { cls := .none, data := .fields #[] }) (nT : ∀ p ∈ cs, K.lookup p.2 = none) (C : ∀ p ∈ cs, PySem.W.CodeHd s₁.heap p.1 p.2)
    (hbm : ∃ (bm : Addr) (ob : Obj), mg "__builtins__" = some (.ref bm) ∧ bm ≠ builtinsNs ∧ s₁.heap.get? bm = some ob ∧ ob.cls = .type "module" ∧ ob.dict = some builtinsNs ∧ ob.data = .plain)
    (ha : s₁.heap.get? a = some { cls := .type "list", data := .seq vs.toArray }) (hi : IntsAre vs ns) (hl : ns.length ≤ sizeLine)
    (F : ∀ base : Heap, K.In base → base.Ns mainGlobals mg → (∀ p ∈ cs, TabB base mg p.1 p.2) → RunsAt P w K mg base fa sp)
    (hsp : ∀ H : Hp, (∀ p ∈ cs, H p.2 = some (.tbl #[])) → ScrL K H a (ns.map V.int) → sp [.ref a] H (fun v _ => v = .bl true) E0) :
    codeAny (model P w) callerA (.call (.ref fa) ⟨[.ref a], []⟩) (fun r s' => r = .ok (.ret (.bool true)) ∧ OldK s₁.heap s'.heap ∧ s'.os = s₁.os ∧ AllBare s'.gens) s₁ := by
  have rv := vals_ints hi
  have lenV := hi.length
  have isT : ∀ b : Addr, b ∈ cs.map (·.2) → s₁.heap.get? b = some { cls := .none, data := .fields #[] } := fun b hb => by
    obtain ⟨p, hp, e⟩ := List.mem_map.mp hb
    rw [← e]
    exact hT p hp
  have aT : a ∉ cs.map (·.2) := fun z => by
    have q := isT a z
    rw [ha] at q
    cases congrArg Obj.data (Option.some.inj q)
  have memT : ∀ p ∈ cs, p.2 ∈ cs.map (·.2) := fun p hp => List.mem_map.mpr ⟨p, hp, rfl⟩
  -- the script is of the written part, or it is tracked as it stands
  obtain ⟨scr, hscr⟩ : ∃ scr : Option HO, scr = (match K.lookup a with | some _ => none | none => some (.frz { cls := .type "list", data := .seq vs.toArray } (.lst (ns.map V.int)))) := ⟨_, rfl⟩
  obtain ⟨H, hHd⟩ : ∃ H : Hp, H = fun b => if b = a then scr else if b ∈ cs.map (·.2) then some (.tbl #[]) else none := ⟨_, rfl⟩
  have atA : H a = scr := by rw [hHd]; exact if_pos rfl
  have atT : ∀ b, b ≠ a → H b = if b ∈ cs.map (·.2) then some (.tbl #[]) else none := fun b hb => by rw [hHd]; exact if_neg hb
  have hH : ∀ p ∈ cs, H p.2 = some (.tbl #[]) := fun p hp => (atT _ fun z => aT (by rw [← z]; exact memT p hp)).trans (if_pos (memT p hp))
  have cases4 : scr = none ∨ scr = some (.frz { cls := .type "list", data := .seq vs.toArray } (.lst (ns.map V.int))) := by
    rw [hscr]
    cases K.lookup a with
    | some o => exact .inl rfl
    | none => exact .inr rfl
  refine run_core (H := H) KX hns hb hbb hlim hg hT nT C hbm ha F hH (fun b => ?_) (fun b u z => ?_) (fun b z => ?_) (fun z => ?_) (hsp H hH ?_)
  · by_cases hba : b = a
    · rw [hba, atA]
      rcases cases4 with q | q
      · exact .inl q
      · exact .inr (.inr ⟨_, _, q⟩)
    · by_cases hb : b ∈ cs.map (·.2)
      · exact .inr (.inl hb)
      · exact .inl ((atT b hba).trans (if_neg hb))
  · by_cases hba : b = a
    · rw [hba, atA] at z
      rcases cases4 with q | q
      · rw [q] at z
        cases z
      · rw [q] at z
        cases z
        rw [hba]
        exact ⟨ha, by rw [List.length_map]; exact hl, vs, _, rv, ha⟩
    · rw [atT b hba] at z
      by_cases hb : b ∈ cs.map (·.2)
      · rw [if_pos hb] at z
        cases z
        exact isT b hb
      · rw [if_neg hb] at z
        cases z
  · by_cases hba : b = a
    · exact .inl hba
    · by_cases hb : b ∈ cs.map (·.2)
      · exact .inr hb
      · exact absurd ((atT b hba).trans (if_neg hb)) z
  · cases hk : K.lookup a with
    | none => rfl
    | some o =>
      rw [atA, hscr, hk] at z
      exact absurd rfl z
  · cases hk : K.lookup a with
    | some o =>
      have e := KX a o hk
      rw [ha] at e
      cases e
      exact .inr ⟨vs, hk, by rw [lenV]; exact hl, rv⟩
    | none =>
      refine .inl ⟨vs, ?_⟩
      rw [atA, hscr, hk]
end
/-- what is known of the law's def at the head's heap h -/
def LawHas (l : PySem.W.OpenLaw) (w : World) (K : PySem.W.Frag) (n : Nat) (mg : Str → Option Value) (fa : Addr) (h : Heap) : Prop :=
  ∃ (cs : List (Addr × Addr)) (sp : Sp), (∀ p ∈ cs, h.get? p.2 = some { cls := .none, data := .fields #[] }) ∧ (∀ p ∈ cs, K.lookup p.2 = none) ∧ (∀ p ∈ cs, PySem.W.CodeHd h p.1 p.2) ∧
    (∀ (H : Hp) (a : Addr) (ns : List Int), ns.length ≤ n → (∀ z ∈ ns, Builtin.Int.intBits z ≤ 1048576) → (∀ p ∈ cs, H p.2 = some (.tbl #[])) → ScrL K H a (ns.map V.int) → sp [.ref a] H (fun v _ => v = .bl true) E0) ∧
    ∀ base : Heap, K.In base → base.Ns mainGlobals mg → (∀ p ∈ cs, TabB base mg p.1 p.2) → RunsAt l.prog w K mg base fa sp
theorem walk_at {l : PySem.W.OpenLaw} {n : Nat} {q : Program} {loose : List Str} {XP : (Str → Option Value) → Heap → Prop} {YP : World → Heap → Prop} {d : DefRec}
    (hn : l.most = some n) (hn2 : n ≤ sizeLine) (hdf : d.params.defaults = [])
    (F : ∀ (w : World) (mg : Str → Option Value) (fa : Addr) (h : Heap), YP w h → h.Ns mainGlobals mg → mg d.name = some (.ref fa) → ∃ K : PySem.W.Frag, K.In h ∧ LawHas l w K n mg fa h) :
    PySem.W.WalkO q loose XP YP l.row.toRowW d [] (fun f vs => PySem.call f vs) := by
  refine Att.attach_callB hn hdf fun w s₀ s₁ mg mb fa o pm cd doc a vs ns G Y ho hd hcd hmg hobj hints hlen hbits hg => ?_
  obtain ⟨K, KX, cs, sp, hT, nT, C, hsp, hF⟩ := F w mg fa _ Y G.T.g hmg
  exact run_law KX G.T.g G.T.b G.T.builtins G.T.nolimit hg hT nT C G.T.bmain hobj hints (Nat.le_trans hlen hn2) hF (fun H hH hS => hsp H a ns hlen hbits hH hS)
end Nd
set_option maxHeartbeats 4000000
/-! ### repr of data: lists, tuples, ints, bools, texts, None -/
namespace Nd
open PySem PySem.Spec PyProof.Rows L2
mutual
def shB : PyData → Nat
  | .none => 4
  | .bool _ => 5
  | .int i => (Str.ofString (toString i)).length
  | .str x => (reprText x).length
  | .list xs => shBs xs + 2
  | .tuple xs => shBs xs + 3
  | .dict _ => 0
def shBs : List PyData → Nat
  | [] => 0
  | x :: xs => shB x + 2 + shBs xs
end
theorem join_le (ts : List Str) : (Str.join ", " ts).length ≤ piled ts := by
  cases ts with
  | nil => decide
  | cons t r =>
    have h := join_length_add (t :: r) (by simp)
    omega
mutual
theorem shown_le : ∀ d : PyData, d.hasDict = false → d.shown.length ≤ shB d
  | .none, _ => by
    show (Str.ofString "None").length ≤ 4
    decide
  | .bool b, _ => by
    cases b <;> (show (Str.ofString _).length ≤ 5; decide)
  | .int i, _ => Nat.le_refl _
  | .str x, _ => Nat.le_refl _
  | .list xs, h => by
    have h1 := shown_all_le xs (by simpa [PyData.hasDict] using h)
    have h2 := join_le (PyData.shownAll xs)
    show (listText (PyData.shownAll xs)).length ≤ shBs xs + 2
    rw [listText_eq_join, strLen_append, strLen_append]
    have e1 : (Str.ofString "[").length = 1 := by decide
    have e2 : (Str.ofString "]").length = 1 := by decide
    omega
  | .tuple xs, h => by
    have h1 := shown_all_le xs (by simpa [PyData.hasDict] using h)
    have h2 := join_le (PyData.shownAll xs)
    show (tupleText (PyData.shownAll xs)).length ≤ shBs xs + 3
    unfold tupleText
    rw [strLen_append, strLen_append]
    have e1 : (Str.ofString "(").length = 1 := by decide
    have e2 : (Str.ofString (if ((PyData.shownAll xs).length == 1) = true then ",)" else ")")).length ≤ 2 := by
      split <;> decide
    omega
  | .dict _, h => by simp [PyData.hasDict] at h
theorem shown_all_le : ∀ xs : List PyData, PyData.hasDictAll xs = false → piled (PyData.shownAll xs) ≤ shBs xs
  | [], _ => by decide
  | x :: xs, h => by
    have hh : (x.hasDict || PyData.hasDictAll xs) = false := by simpa [PyData.hasDictAll] using h
    have h1 := shown_le x (by revert hh; cases x.hasDict <;> simp)
    have h2 := shown_all_le xs (by revert hh; cases x.hasDict <;> simp)
    show piled (x.shown :: PyData.shownAll xs) ≤ shB x + 2 + shBs xs
    have e : piled (x.shown :: PyData.shownAll xs) = x.shown.length + 2 + piled (PyData.shownAll xs) := by
      simp [piled]
    omega
end
def rRepr (K : PySem.W.Frag) : List V → Hp → VK → Prop := fun xs H Q => ∃ (a : Addr) (d : PyData), xs = [.ref a] ∧ Dp K H (.ref a) d ∧ d.showable = true ∧ d.hasDict = false ∧ d.depth ≤ 20 ∧ shB d ≤ 1000000 ∧ Q (.str d.shown) H
theorem call_repr {X : Cx} (hg : X.A.guards = some []) (hu : X.A.units + 64 < cLine) : CallR X (.builtin "repr") (rRepr X.K) := by
  intro pins s σ H xs us Q I r h
  obtain ⟨a, d, rfl, hd, hs, hn, hp, hl, q⟩ := h
  cases r with
  | cons ra rr =>
    cases rr
    obtain ⟨as, hr⟩ := Dp.reads I d _ _ hd ra
    cases ra
    refine repr_of_reads' hr hs (PyData.noDict_hsm hn) hg (by omega) (fun _ _ e => e) (fun h' u tk k => ⟨.str d.shown, H, I.kept (t' := tk) k, ⟨u, rfl⟩, q⟩) ?_
    exact Nat.le_trans (shown_le d hn) (Nat.le_trans hl (by rw [sizeLine_eq]; decide))
end Nd
set_option maxHeartbeats 4000000
/-! ### the calls of defs as constants; what changes in the heap -/
namespace Nd
open PySem PySem.Spec PyProof.Rows L2
section
variable (P : Program) (w : World) (K : PySem.W.Frag) (mg : Str → Option Value) (base : Heap)
/-- the module's name x is a def that keeps sp, at the level k -/
structure CalX (k : Nat) (x : Str) (sp : Sp) : Prop where
  ex : ∃ (f : Addr) (fd : FuncData) (ps : List Str), FnOk P w K mg base (L2.CX P w) k f fd ps sp ∧ mg x = some (.ref f) ∧ PySem.W.keepIn K (.ref f) = true ∧ Binds K fd ps []
/-- what is asked of a def as it stands behind the top -/
structure DefX (x : Str) (st : Stmt) (ps : List Str) (f : Addr) (fd : FuncData) : Prop where
  fn : FunD K x x (defArgs st) (defBody st) (defScope st) [] [] f fd
  mgf : mg x = some (.ref f)
  bi : Binds K fd ps []
end
section
variable {P : Program} {w : World} {K : PySem.W.Frag} {mg : Str → Option Value} {base : Heap}
theorem calx {x : Str} {st : Stmt} {f : Addr} {fd : FuncData} {N ps : List Str} {k : Nat} {sp : Sp} (F : DefX K mg x st ps f fd) (S : FnScope N ps (defScope st)) (len : ∀ vs H Q E, sp vs H Q E → vs.length = ps.length)
    (hbody : ∀ (cdv : Value) (A : Around) (outer : List Env) (s : Shared) (H : Hp) (vs : List V) (Q : VK) (E : XK), Room k (A.deeper (envOfC x (defScope st) s.heap.objs.size f cdv)) → sp vs H Q E →
      ∃ t, PSs (cxOf (L2.CX P w) P w K mg base N x (defScope st) f cdv A outer s H E).nox (defBody st) t ∧ t { nx := fun _ H' => Q .non H', rt := Q } (start N vs) H) : CalX P w K mg base (k + 1) x sp :=
  ⟨f, fd, ps, F.fn.ok S len fun cdv A outer s H vs Q E hr h => let ⟨t, a, b⟩ := hbody cdv A outer s H vs Q E hr h; ⟨t, a.nox, b⟩, F.mgf, F.fn.kp, F.bi⟩
/-- the same for a def that may raise -/
theorem calr {x : Str} {st : Stmt} {f : Addr} {fd : FuncData} {N ps : List Str} {k : Nat} {sp : Sp} (F : DefX K mg x st ps f fd) (S : FnScope N ps (defScope st)) (len : ∀ vs H Q E, sp vs H Q E → vs.length = ps.length)
    (hbody : ∀ (cdv : Value) (A : Around) (outer : List Env) (s : Shared) (H : Hp) (vs : List V) (Q : VK) (E : XK), Room k (A.deeper (envOfC x (defScope st) s.heap.objs.size f cdv)) → sp vs H Q E →
      ∃ t, PSs (cxOf (L2.CX P w) P w K mg base N x (defScope st) f cdv A outer s H E) (defBody st) t ∧ t { nx := fun _ H' => Q .non H', rt := Q } (start N vs) H) : CalX P w K mg base (k + 1) x sp :=
  ⟨f, fd, ps, F.fn.ok S len hbody, F.mgf, F.fn.kp, F.bi⟩
theorem CalX.imp {k : Nat} {x : Str} {sp sp' : Sp} (c : CalX P w K mg base k x sp) (h : ∀ vs H Q E, sp' vs H Q E → sp vs H Q E) : CalX P w K mg base k x sp' := by
  obtain ⟨f, fd, ps, F, a, b, d⟩ := c.ex
  exact ⟨f, fd, ps, F.imp h, a, b, d⟩
end
section
variable {X : Cx} {k j : Nat} {x : Str} {sp : Sp} {p pos : Pos} {e : Expr} {es : List Expr} {t : TA}
theorem pe_cx (c : CalX X.prog X.w X.K X.mg X.base k x sp) (hr : Room j X.A) (hk : k ≤ j) (hg : Gl X x) (ha : PA X (e :: es) t)
    (hdb : (x == ("__debug__" : Str)) = false := by decide) (he : starEach (e :: es) X.env = (false, eval e X.env) :: starEach es X.env := by rfl) (hpl : (backTo pos (starEach es X.env)).any (·.1) = false := by rfl) :
    PE X (.Call (.Name x p) (e :: es) [] pos) (tCall sp [] E0 t) := by
  obtain ⟨f, fd, ps, F, hm, kp, b⟩ := c.ex
  exact pe_call F (hr.mono hk) hg hm kp b .nil passL ha hdb he hpl
/-- a call that may raise: E, what is wished then -/
theorem pe_cr {E : XK} (c : CalX X.prog X.w X.K X.mg X.base k x sp) (hr : Room j X.A) (hk : k ≤ j) (hg : Gl X x) (hx : Passes (L2.CX X.prog X.w) X E) (ha : PA X (e :: es) t)
    (hdb : (x == ("__debug__" : Str)) = false := by decide) (he : starEach (e :: es) X.env = (false, eval e X.env) :: starEach es X.env := by rfl) (hpl : (backTo pos (starEach es X.env)).any (·.1) = false := by rfl) :
    PE X (.Call (.Name x p) (e :: es) [] pos) (tCall sp [] E t) := by
  obtain ⟨f, fd, ps, F, hm, kp, b⟩ := c.ex
  exact pe_call F (hr.mono hk) hg hm kp b .nil hx ha hdb he hpl
end
/-! ### the heap -/
/-- all that was tracked stays, but what lies at a -/
def But (a : Addr) (H H' : Hp) : Prop := ∀ b o, b ≠ a → H b = some o → H' b = some o
theorem But.of {a : Addr} {H H' : Hp} (s : Same H H') : But a H H' := fun b o _ e => s b o e
theorem But.refl {a : Addr} {H : Hp} : But a H H := fun _ _ _ e => e
theorem But.trans {a : Addr} {H H1 H2 : Hp} (x : But a H H1) (y : But a H1 H2) : But a H H2 := fun b o n e => y b o n (x b o n e)
theorem But.same {a : Addr} {H H' : Hp} (x : But a H H') (n : H a = none) : Same H H' := fun b o e => x b o (ne_of_none e n) e
theorem But.upd {a : Addr} {H H' : Hp} {o : HO} (x : But a H H') : But a H (upd H' a o) := fun b u n e => by rw [upd_ne n]; exact x b u n e
theorem Same.new {H : Hp} {p : Addr} {o : HO} (n : H p = none) : Same H (upd H p o) := fun b u e => by rw [upd_ne (ne_of_none e n)]; exact e
theorem Same.mut {H H' : Hp} {p : Addr} {o : HO} (s : Same H H') (n : H p = none) : Same H (upd H' p o) := fun b u e => by rw [upd_ne (ne_of_none e n)]; exact s b u e
end Nd
set_option maxHeartbeats 4000000
/-! ### a head's Hook that sees the statics too, tells one more value, and facts of own errors by Bools -/
namespace Nd
open PySem PySem.Spec PyProof.Rows L2 He
def asN (g : Addr → Option Obj) : Nat → List Addr
  | 0 => [mainGlobals, cStatics]
  | n + 1 => growD g (asN g n)
structure SaysN {β : Type} (fa : List Fa) (fn : List DefD) (tf : List Defn) (ex : PySem.W.Frag → Bool) (nx : PySem.W.Frag → β) (nv : β) (h : Heap) (K : PySem.W.Frag) : Prop where
  t : SaysD fa fn K
  more : ex K = true
  hd : ∀ p ∈ tf, PySem.W.codeHdIn K (cT K p).1 (cT K p).2 = true
  out : ∀ p ∈ tf, K.lookup (cT K p).2 = none
  empty : ∀ p ∈ tf, h.get? (cT K p).2 = some { cls := .none, data := .fields #[] }
  nx : nx K = nv
def obsN {β : Type} (n : Nat) (fa : List Fa) (fn : List DefD) (tf : List Defn) (ex : PySem.W.Frag → Bool) (nx : PySem.W.Frag → β) (g : Addr → Option Obj) : (AlD × Bool) × β :=
  ((obsD fa fn (frT g (asN g n)), ex (frT g (asN g n)) && tabsB g tf (frT g (asN g n))), nx (frT g (asN g n)))
def valN {β : Type} (fn : List DefD) (nv : β) : (AlD × Bool) × β := ((valD fn, true), nv)
theorem saysN_of {β : Type} {n : Nat} {fa : List Fa} {fn : List DefD} {tf : List Defn} {ex : PySem.W.Frag → Bool} {nx : PySem.W.Frag → β} {nv : β} {h : Heap} (e : obsN n fa fn tf ex nx h.get? = valN fn nv) : SaysN fa fn tf ex nx nv h (frT h.get? (asN h.get? n)) := by
  have e1 : obsD fa fn (frT h.get? (asN h.get? n)) = valD fn := congrArg (fun z : (AlD × Bool) × β => z.1.1) e
  have e2 : (ex (frT h.get? (asN h.get? n)) && tabsB h.get? tf (frT h.get? (asN h.get? n))) = true := congrArg (fun z : (AlD × Bool) × β => z.1.2) e
  have e3 : nx (frT h.get? (asN h.get? n)) = nv := congrArg (fun z : (AlD × Bool) × β => z.2) e
  obtain ⟨h1, h2⟩ := ba e2
  have key : ∀ p ∈ tf, PySem.W.codeHdIn (frT h.get? (asN h.get? n)) (cT (frT h.get? (asN h.get? n)) p).1 (cT (frT h.get? (asN h.get? n)) p).2 = true ∧ ∃ o, h.get? (cT (frT h.get? (asN h.get? n)) p).2 = some o ∧ emptyTab o = true := fun p hp => by
    obtain ⟨h3, h4⟩ := ba (List.all_eq_true.mp h2 p hp)
    refine ⟨h3, ?_⟩
    cases q : h.get? (cT (frT h.get? (asN h.get? n)) p).2 with
    | none =>
      rw [q] at h4
      cases h4
    | some o =>
      rw [q] at h4
      exact ⟨o, rfl, h4⟩
  refine ⟨e1, h1, fun p hp => (key p hp).1, fun p hp => ?_, fun p hp => ?_, e3⟩
  · obtain ⟨_, o, q, z⟩ := key p hp
    exact frT_none q z
  · obtain ⟨_, o, q, z⟩ := key p hp
    rw [q, emptyTab_eq z]
def hookN {β : Type} (n : Nat) (fa : List Fa) (fn : List DefD) (tf : List Defn) (ex : PySem.W.Frag → Bool) (nx : PySem.W.Frag → β) (nv : World → β) : PySem.W.Hook where
  α := (AlD × Bool) × β
  obs := fun s => obsN n fa fn tf ex nx s.heap.get?
  val := fun w => valN fn (nv w)
  says := fun w h => ∃ K : PySem.W.Frag, K.In h ∧ SaysN fa fn tf ex nx (nv w) h K
  of := fun _ _ e => ⟨_, frT_in, saysN_of e⟩
  keeps := fun _ _ _ ⟨K, hK, c⟩ k => ⟨K, PySem.W.Frag.In.keeps hK k, ⟨c.t, c.more, c.hd, c.out, fun p hp => k _ _ (c.empty p hp), c.nx⟩⟩
theorem obsN_eq {β : Type} {n : Nat} {fa : List Fa} {fn : List DefD} {tf : List Defn} {ex : PySem.W.Frag → Bool} {nx : PySem.W.Frag → β} {nv : World → β} {g : Addr → Option Obj} {s : Shared} (h : ∀ a, g a = s.heap.get? a) : obsN n fa fn tf ex nx g = (hookN n fa fn tf ex nx nv).obs s := by
  have e : g = s.heap.get? := funext h
  rw [e] <;> rfl
/-! ### Bools -/
def insB (K : PySem.W.Frag) (C : Addr) : Bool := eqO (PySem.W.findIn K (.ref C) "__class__") (some (some (.builtin "object.__class__"))) && (decide (PySem.W.specialIn K (.builtin "object.__class__") "__get__" = some (some (.builtin "getset_descriptor.__get__"))) &&
  (decide (PySem.W.takesIn K (.builtin "object.__class__") = some true) && (decide (PySem.W.mroIn K C (.type "object") = some true) && decide (PySem.W.kitOne K (.ref C) (.ref C) = some true))))
theorem insB_ok {K : PySem.W.Frag} {C : Addr} (cl : Cls K C) (h : insB K C = true) : C8.InsC K C := by
  obtain ⟨h1, h⟩ := ba h
  obtain ⟨h2, h⟩ := ba h
  obtain ⟨h3, h⟩ := ba h
  obtain ⟨h4, h5⟩ := ba h
  exact ⟨cl, eqO_ok h1, of_decide_eq_true h2, of_decide_eq_true h3, of_decide_eq_true h4, of_decide_eq_true h5⟩
def excCB (K : PySem.W.Frag) (D : Addr) : Bool := eqO (PySem.W.findIn K (.ref D) "__getattribute__") (some (some (.builtin "BaseException.__getattribute__"))) && (eqO (PySem.W.findIn K (.ref D) "__getattr__") (some none) && (decide (PySem.W.subIn K (.ref D) (.type "BaseException") = some true) &&
  (PySem.W.hasDictIn K D && (eqO (PySem.W.findIn K (.ref D) "__class__") (some (some (.builtin "object.__class__"))) && (decide (PySem.W.specialIn K (.builtin "object.__class__") "__get__" = some (some (.builtin "getset_descriptor.__get__"))) &&
  (decide (PySem.W.takesIn K (.builtin "object.__class__") = some true) && decide (PySem.W.mroIn K D (.type "object") = some true)))))))
theorem excCB_ok {K : PySem.W.Frag} {D : Addr} (h : excCB K D = true) : ExcC K D := by
  obtain ⟨h1, h⟩ := ba h
  obtain ⟨h2, h⟩ := ba h
  obtain ⟨h3, h⟩ := ba h
  obtain ⟨h4, h⟩ := ba h
  obtain ⟨h5, h⟩ := ba h
  obtain ⟨h6, h⟩ := ba h
  obtain ⟨h7, h8⟩ := ba h
  exact ⟨eqO_ok h1, eqO_ok h2, of_decide_eq_true h3, h4, eqO_ok h5, of_decide_eq_true h6, of_decide_eq_true h7, of_decide_eq_true h8⟩
/-- the class object of an own error over ValueError -/
def oexB (K : PySem.W.Frag) (C : Addr) : Bool := (match K.lookup C with
  | some ⟨.type "type", _, .cls cd, sl⟩ => (match cd.mro, sl.toList with
    | .ref C' :: bm, [_, _, _, _, some (.builtin n), _] => C' == C && (n == "ValueError.__new__" && (!cd.hasDel && (cd.hasDict && PySem.HandSPX.refsVE bm)))
    | _, _ => false)
  | _ => false) && (eqO (PySem.W.findIn K (.ref C) "__setattr__") (some (some (.builtin "object.__setattr__"))) && (decide (PySem.W.subIn K (.ref C) (.type "BaseException") = some true) && (decide (PySem.W.typeIn K (.ref C) = some (.type "type")) && PySem.W.keepIn K (.ref C))))
theorem oexB_ok {K : PySem.W.Frag} {C : Addr} (h : oexB K C = true) : OexC K C := by
  obtain ⟨q, h⟩ := ba h
  obtain ⟨h1, h⟩ := ba h
  obtain ⟨h2, h⟩ := ba h
  obtain ⟨h3, h4⟩ := ba h
  refine ⟨?_, eqO_ok h1, of_decide_eq_true h2, of_decide_eq_true h3, h4⟩
  split at q
  · rename_i dd cd sl ho
    split at q
    · rename_i C' bm k0 k1 k2 k3 n k5 hm hs
      simp only [Bool.and_eq_true, beq_iff_eq, Bool.not_eq_true'] at q
      obtain ⟨rfl, rfl, hdel, hdc, ht⟩ := q
      obtain ⟨nm, bs, mro, ns, qn, hd, sn, sub, ab, col, del⟩ := cd
      dsimp only at hm hdel hdc
      subst hm hdel hdc
      have hsl : sl = #[k0, k1, k2, k3, some (.builtin "ValueError.__new__"), k5] := by
        obtain ⟨l⟩ := sl
        simp only at hs
        rw [hs]
      subst hsl
      exact ⟨nm, qn, ns, bs, bm, sn, sub, ab, col, dd, k0, k1, k2, k3, k5, ho, ht⟩
    · cases q
  · cases q
/-- its __init__ that calls super's: what of it is compared -/
abbrev NxV : Type := Option (Str × Arguments × FuncBody × Scope × Addr × List Str × Value × Value × Addr)
def nxObs (x : Str) (K : PySem.W.Frag) : NxV := match K.lookup (ma K (ga K x) "__init__") with
  | some ⟨_, _, .func fd, _⟩ => some (fd.name, fd.params, fd.body, fd.scope, fd.globals, fd.closure.map (·.1), fd.defaults, fd.kwdefaults, fd.builtins)
  | _ => none
/-- the rest of it -/
def nxB (file : Str) (K : PySem.W.Frag) (C fI : Addr) : Bool := oexB K C && (eqO (PySem.W.findIn K (.ref C) "field") (some none) && (eqO (PySem.W.findIn K (.ref C) "__init__") (some (some (.ref fI))) && (decide (PySem.W.typeIn K (.ref fI) = some (.type "function")) &&
  (eqO (PySem.W.ks_superIn K C C "__init__") (some (some (.builtin "ValueError.__init__"))) && (decide (PySem.W.mroIn K C (.ref C) = some true) && (decide (PySem.W.subIn K (.ref C) (.type "ValueError") = some true) && (eqO (PySem.W.nsIn K cStatics "thirdparty.any") (some none) &&
  (match K.lookup fI with
    | some ⟨_, _, .func fd, _⟩ => (match fd.code, fd.closure with
      | .ref cda, [(_, cc)] => PySem.W.codeIn K (.ref cda) fd.qualname && ((match K.lookup cda with
          | some ⟨_, _, .fields vs, _⟩ => (match (vs[2]? : Option Value) with
            | some (.str f _) => file == f
            | _ => false)
          | _ => false) && (match K.lookup cc with
          | some ⟨_, _, .cell (some (.ref c)), _⟩ => decide (c = C)
          | _ => false))
      | _, _ => false)
    | _ => false))))))))
def nxVal (p1 p2 : Pos) (b : List Stmt) : NxV := some (("__init__" : Str), PySem.Nx.iA p1 p2, FuncBody.stmts b, PySem.Nx.iS, mainGlobals, [("__class__" : Str)], Value.none, Value.none, builtinsNs)
theorem nx_txt {P : Program} {K : PySem.W.Frag} {mg : Str → Option Value} {x file : Str} {p1 p2 q1 q2 q3 q4 q5 q6 q7 q8 q9 q10 : Pos} (hb : nxB file K (ga K x) (ma K (ga K x) "__init__") = true)
    (hv : nxObs x K = nxVal p1 p2 (PySem.Nx.iB q1 q2 q3 q4 q5 q6 q7 q8 q9 q10))
    (hfile : ((P.main.file : Str) == file) = true) (noS : mg "super" = none) (top : (P.main.scope.names.lookup ("super" : Str)).isSome = false)
    (hev : ∀ env : Env, ∃ pl : Sem Bool, eval (.Call (.Attribute (.Call (.Name "super" q1) [] [] q2) "__init__" q3) [.Name "field" q4] [] q5) env = (do
      let ov ← attributeBase (.Call (.Name "super" q1) [] [] q2) "__init__" env (eval (.Call (.Name "super" q1) [] [] q2) env)
      standAt q3.atName
      let (f, first) ← holding [ov] (getMethod ov "__init__" pl)
      callWith q5 f first (backTo q5 (starEach [.Name "field" q4] env)) [])) : PySem.Nx.Txt P K mg (ga K x) (ma K (ga K x) "__init__") := by
  obtain ⟨h1, h⟩ := ba hb
  obtain ⟨h2, h⟩ := ba h
  obtain ⟨h3, h⟩ := ba h
  obtain ⟨h4, h⟩ := ba h
  obtain ⟨h5, h⟩ := ba h
  obtain ⟨h6, h⟩ := ba h
  obtain ⟨h7, h⟩ := ba h
  obtain ⟨h8, h⟩ := ba h
  refine ⟨oexB_ok h1, eqO_ok h2, eqO_ok h3, of_decide_eq_true h4, eqO_ok h5, of_decide_eq_true h6, of_decide_eq_true h7, eqO_ok h8, noS, top, ?_⟩
  unfold nxObs nxVal at hv
  split at hv
  · rename_i oc od fd osl hk
    rw [hk] at h
    obtain ⟨n1, n2, n3, n4, n5, n6, n7, n8, n9, n10, n11, n12, n13, n14, n15⟩ := fd
    simp only [Option.some.injEq, Prod.mk.injEq] at hv
    obtain ⟨e1, e2, e3, e4, e5, e6, e7, e8, e9⟩ := hv
    subst e1 e2 e3 e4 e5 e7 e8 e9
    dsimp only at h
    cases n13 with
    | ref cda =>
      rcases n7 with _ | ⟨⟨y, cc⟩, _ | ⟨z, t⟩⟩
      · cases h
      · have ey : y = "__class__" := by
          have z : [y] = ([("__class__" : Str)] : List Str) := e6
          injection z
        subst ey
        obtain ⟨g1, h⟩ := ba h
        obtain ⟨g2, g3⟩ := ba h
        split at g2
        · rename_i c1 c2 vs c4 hk2
          split at g2
          · rename_i f tf hvs
            split at g3
            · rename_i d1 d2 c d4 hk3
              have ec := of_decide_eq_true g3
              rw [ec] at hk3
              have ef : file = f := eq_of_beq g2
              exact ⟨_, _, _, _, _, _, _, _, _, _, _, _, _, _, cda, cc, vs, f, tf, _, _, _, _, _, _, _, _, _, _, _, _, hk, g1, hk2, hvs, by rw [← ef]; exact hfile, hk3, hev⟩
            · cases g3
          · cases g2
        · cases g2
      · cases h
    | _ => cases h
  · cases hv
end Nd
set_option maxHeartbeats 4000000
/-! ### what no program is needed for -/
namespace Nd
open PySem PySem.Spec PyProof.Rows L2
def SqB (K : PySem.W.Frag) (H : Hp) (a : Addr) (xs : List V) : Prop := SqL K H a xs ∨ SqT K H a xs
theorem seqT {K : PySem.W.Frag} {H H' : Hp} {a : Addr} {xs : List V} (e : Same H H') (h : SqT K H a xs) : SqT K H' a xs := by
  rcases h with (h | ⟨o, h⟩) | h
  · exact .inl (.inl (e _ _ h))
  · exact .inl (.inr ⟨o, e _ _ h⟩)
  · exact .inr h
theorem SqB.same {K : PySem.W.Frag} {H H' : Hp} {a : Addr} {xs : List V} (h : SqB K H a xs) (e : Same H H') : SqB K H' a xs := h.imp (e.seq ·) (seqT e ·)
def iSeq (K : PySem.W.Frag) (tl : TE) : TI := fun σ H R => tl σ H fun x H1 => ∃ a, x = .ref a ∧ ((∃ xs, SqL K H1 a xs) ∧ R (Itl K a) H1 ∨ (∃ xs, SqT K H1 a xs) ∧ R (Itt K a) H1)
theorem pi_seq {X : Cx} {tg : Expr} {l : Expr} {tl : TE} (hl : PE X l tl) : PI X tg l (iSeq X.K tl) := by
  refine ⟨fun pins s σ H R I h => ?_⟩
  refine thn (hl.run pins s σ H _ I h) fun v s1 ⟨x, H1, I1, r1, q1⟩ => ?_
  obtain ⟨a, e, q⟩ := q1
  subst e
  cases r1
  rcases q with ⟨⟨xs, hq⟩, q⟩ | ⟨⟨xs, hq⟩, q⟩
  · obtain ⟨its, rv, p, hz⟩ := I1.list hq
    refine wpAny_pyIter_list p.isList ?_
    refine ⟨s1.heap.objs.size, [s1.heap.objs.size], _, _, H1, rfl, I1.kept (t' := s1.toks) fun b o e => Heap.get?_push_of_some _ e, turn_list a _, ⟨_, Heap.get?_push_size _ rfl, rfl, rfl⟩, fun b hb => ?_, q⟩
    have e : b = s1.heap.objs.size := by simpa using hb
    subst e
    exact I1.fpOk (Nat.le_refl _) (I1.hok.fresh (Nat.le_refl _))
  · obtain ⟨its, rv, p, hz⟩ := I1.tuple hq
    refine wpAny_pyIter_tuple (show s1.heap.IsTuple a its.toArray from p) ?_
    refine ⟨s1.heap.objs.size, [s1.heap.objs.size], _, _, H1, rfl, I1.kept (t' := s1.toks) fun b o e => Heap.get?_push_of_some _ e, turn_tuple a _, ⟨_, Heap.get?_push_size _ rfl, rfl, rfl⟩, fun b hb => ?_, q⟩
    have e : b = s1.heap.objs.size := by simpa using hb
    subst e
    exact I1.fpOk (Nat.le_refl _) (I1.hok.fresh (Nat.le_refl _))
theorem for_both {K : PySem.W.Frag} {a : Addr} {xs : List V} {g : TG} {tb : TS} {D : Ends} {σ : L2.St} {H0 H : Hp} (hq : SqB K H0 a xs) (Pv : Nat → L2.St → Hp → Prop) (h0 : Pv 0 σ H) (hl : ∀ i σ H', i ≤ xs.length → Pv i σ H' → Same H0 H')
    (hs : ∀ i x σ H, xs[i]? = some x → Pv i σ H → g x σ H fun σ2 H2 => tb { D with nx := Pv (i + 1), ct := Pv (i + 1), bk := D.nx } σ2 H2) (hd : ∀ σ H, Pv xs.length σ H → D.nx σ H) :
    (∃ xs, SqL K H a xs) ∧ (∃ W : Nat → Nat → L2.St → Hp → Prop, (∃ m, W 0 m σ H) ∧ ∀ i m σ H, W i m σ H →
      ((Itl K a).stop i H ∧ D.nx σ H) ∨ ((Itl K a).go i H ∧ ∃ N : L2.St → Hp → Prop, (∀ σ' H', N σ' H' → ∃ m', m' < m ∧ W (i + 1) m' σ' H') ∧ ∀ x H', (Itl K a).yld i H x H' → g x σ H' fun σ2 H2 => tb { D with nx := N, ct := N, bk := D.nx } σ2 H2)) ∨
    (∃ xs, SqT K H a xs) ∧ (∃ W : Nat → Nat → L2.St → Hp → Prop, (∃ m, W 0 m σ H) ∧ ∀ i m σ H, W i m σ H →
      ((Itt K a).stop i H ∧ D.nx σ H) ∨ ((Itt K a).go i H ∧ ∃ N : L2.St → Hp → Prop, (∀ σ' H', N σ' H' → ∃ m', m' < m ∧ W (i + 1) m' σ' H') ∧ ∀ x H', (Itt K a).yld i H x H' → g x σ H' fun σ2 H2 => tb { D with nx := N, ct := N, bk := D.nx } σ2 H2)) := by
  rcases hq with h | h
  · exact .inl ⟨⟨_, (hl 0 σ H (Nat.zero_le _) h0).seq h⟩, for_list Pv h0 (fun i σ H' l p => (hl i σ H' l p).seq h) hs hd⟩
  · exact .inr ⟨⟨_, seqT (hl 0 σ H (Nat.zero_le _) h0) h⟩, for_tup Pv h0 (fun i σ H' l p => seqT (hl i σ H' l p) h) hs hd⟩
section
variable (P : Program) (w : World) (K : PySem.W.Frag) (mg : Str → Option Value) (base : Heap)
/-- the module's name x is a def of one parameter p that keeps sp, at the level k -/
structure CalK (k : Nat) (x p : Str) (sp : Sp) : Prop where
  ex : ∃ (f : Addr) (fd : FuncData), FnOk P w K mg base (L2.CX P w) k f fd [p] sp ∧ mg x = some (.ref f) ∧ PySem.W.keepIn K (.ref f) = true ∧ KBn K fd [p] 0 [p] (fun _ ws => ws) (fun _ zs => zs)
end
section
variable {P : Program} {w : World} {K : PySem.W.Frag} {mg : Str → Option Value} {base : Heap}
theorem fnx {x : Str} {st : Stmt} {f : Addr} {fd : FuncData} {N ps : List Str} {k : Nat} {sp : Sp} (F : DefX K mg x st ps f fd) (S : FnScope N ps (defScope st)) (len : ∀ vs H Q E, sp vs H Q E → vs.length = ps.length)
    (hbody : ∀ (cdv : Value) (A : Around) (outer : List Env) (s : Shared) (H : Hp) (vs : List V) (Q : VK) (E : XK), Room k (A.deeper (envOfC x (defScope st) s.heap.objs.size f cdv)) → sp vs H Q E →
      ∃ t, PSs (cxOf (L2.CX P w) P w K mg base N x (defScope st) f cdv A outer s H E).nox (defBody st) t ∧ t { nx := fun _ H' => Q .non H', rt := Q } (start N vs) H) : FnOk P w K mg base (L2.CX P w) (k + 1) f fd ps sp :=
  F.fn.ok S len fun cdv A outer s H vs Q E hr h => let ⟨t, a, b⟩ := hbody cdv A outer s H vs Q E hr h; ⟨t, a.nox, b⟩
theorem DefX.cal {x : Str} {st : Stmt} {f : Addr} {fd : FuncData} {ps : List Str} {k : Nat} {sp : Sp} (F : DefX K mg x st ps f fd) (h : FnOk P w K mg base (L2.CX P w) k f fd ps sp) : CalX P w K mg base k x sp := ⟨f, fd, ps, h, F.mgf, F.fn.kp, F.bi⟩
theorem kb1 {x qual : Str} {params : Arguments} {body : List Stmt} {scope : Scope} {f : Addr} {fd : FuncData} {p : Str} (F : FunD K x qual params body scope [] [] f fd)
    (h : ∀ (kV doc pm : Value) (an : Option Addr) (cdv ct : Value) (u : Value), bindArgs (PySem.W.fnOf x qual params body scope .none kV doc pm an cdv ct) ⟨[], [(p, u)]⟩ = pure [(p, u)]) : KBn K fd [p] 0 [p] (fun _ ws => ws) (fun _ zs => zs) := by
  obtain ⟨oc, od, dV, kV, doc, pm, an, cdv, ct, osl, rfl, lk, hcd, hD, hK⟩ := F.ex
  rcases hD with ⟨_, rfl⟩ | ⟨e, _⟩
  · refine ⟨fun s us ws X l1 l2 => ?_, fun r1 r2 => r2⟩
    match us, ws, l1, l2 with
    | [], [u], _, _ =>
      refine BindsTo.of_looks fun M => ?_
      exact .of_pure (h kV doc pm an cdv ct u)
  · exact absurd rfl e
theorem DefX.calk {x : Str} {st : Stmt} {f : Addr} {fd : FuncData} {p : Str} {k : Nat} {sp : Sp} (F : DefX K mg x st [p] f fd) (h : FnOk P w K mg base (L2.CX P w) k f fd [p] sp)
    (hb : ∀ (kV doc pm : Value) (an : Option Addr) (cdv ct : Value) (u : Value), bindArgs (PySem.W.fnOf x x (defArgs st) (defBody st) (defScope st) .none kV doc pm an cdv ct) ⟨[], [(p, u)]⟩ = pure [(p, u)]) : CalK P w K mg base k x p sp :=
  ⟨f, fd, h, F.mgf, F.fn.kp, kb1 F.fn hb⟩
end
section
variable {X : Cx} {k j : Nat} {x q : Str} {sp : Sp} {p pos : Pos} {kws : List Keyword} {tk : TA}
def tCallK1 (sp : Sp) (E : XK) (tk : TA) : TE := fun σ H Q => tk σ H fun zs H2 => zs.length = 1 ∧ sp zs H2 Q E
/-- x(q = e) -/
theorem pe_ck {E : XK} (c : CalK X.prog X.w X.K X.mg X.base k x q sp) (hr : Room j X.A) (hk : k ≤ j) (hg : Gl X x) (hx : Passes (L2.CX X.prog X.w) X E) (hkw : PK X kws tk)
    (hall : (backToKw pos (keywordEach kws X.env)).all (·.1.isSome) = true := by rfl) (hks : (backToKw pos (keywordEach kws X.env)).filterMap (·.1) = [q] := by rfl) (hdb : (x == ("__debug__" : Str)) = false := by decide)
    (hpl : ((backTo pos (starEach [] X.env)).any (·.1) || (backToKw pos (keywordEach kws X.env)).any (·.1.isNone)) = false := by rfl) :
    PE X (.Call (.Name x p) [] kws pos) (tCallK1 sp E tk) := by
  obtain ⟨f, fd, F, hm, kp, b⟩ := c.ex
  refine ⟨fun pins s σ H Q I h => ?_⟩
  refine wpAny_Call_Name_kw (ld_glob I hg hm ?_ hdb)
  refine PySem.W.callWith_KW0 (h₀ := X.base) I.ok.mod.kin kp hall ?_ hpl
  refine thn (hkw.run pos pins s σ H _ I h) fun ws s2 ⟨zs, H2, I2, rz, l1, q2⟩ => ⟨I2.kIn, ?_⟩
  rw [hks]
  exact run_fnN (us := []) (vs := []) F (hr.mono hk) b hx I2 .nil rz rfl l1 q2
end
end Nd
namespace Nd
open PySem PySem.Spec PyProof.Rows L2
/-- what is asked of a method as it stands behind the top -/
structure MetX (K : PySem.W.Frag) (nm qn : Str) (st : Stmt) (ps : List Str) (f : Addr) (fd : FuncData) : Prop where
  fn : FunD K nm qn (defArgs st) (defBody st) (defScope st) [] [] f fd
  bi : Binds K fd ps []
def metOf (st : Stmt) (i : Nat) : Stmt := match st with
  | .ClassDef _ _ _ body _ _ _ _ _ _ _ => body.getD i (.Pass ⟨0, 0, 0, 0⟩)
  | _ => .Pass ⟨0, 0, 0, 0⟩
end Nd
namespace Nd
open PySem PySem.Spec PyProof.Rows L2
def gFld (K : PySem.W.Frag) (ta : TE) (f : Str) : TG := fun y σ H Q => ta σ H fun x H2 => ∃ a C dx fs, x = .ref a ∧ H2 a = some (.ins C dx fs) ∧ Cls K C ∧ NoAttr K C f ∧ fs.length < 1000 ∧ Q σ (upd H2 a (.ins C dx (putF f y fs)))
theorem pg_fld {X : Cx} {o : Expr} {f : Str} {pos : Pos} {ta : TE} (ha : PE X o ta) : PG X (.Attribute o f pos) (gFld X.K ta f) := by
  refine ⟨fun pins s σ H y u Q I ry h => ?_⟩
  have e : assign (.Attribute o f pos) X.env u = (do
      let ov ← holding [u] (eval o X.env)
      standAt pos.atName
      holding [u, ov] (setAttr ov f u)
      release [u, ov] []) := rfl
  rw [e]
  refine wpAny_bind (wpAny_holding (thn (ha.run pins s σ H _ I h) fun ov s2 ⟨x, H2, I2, rx, a, C, dx, fs, ex, ea, c, n, l, q2⟩ => ?_))
  subst ex
  obtain rfl : ov = Value.ref a := rx
  refine wpAny_bind (wpAny_standAt (wpAny_bind (wpAny_holding (setattr_ok I2 ea c n l ry fun s3 I3 => ?_))))
  exact wpAny_release ⟨σ, _, I3, q2⟩
theorem putF_len (f : Str) (v : V) : ∀ fs : List (Str × V), (putF f v fs).length ≤ fs.length + 1
  | [] => by simp [putF]
  | (g, x) :: r => by
    unfold putF
    split
    · simp
    · have := putF_len f v r
      simp only [List.length_cons]
      omega
/-- at most n fields -/
def Sm (n : Nat) (fs : List (Str × V)) : Prop := fs.length ≤ n
theorem Sm.put {n : Nat} {fs : List (Str × V)} {f : Str} {v : V} (h : Sm n fs) : Sm (n + 1) (putF f v fs) := Nat.le_trans (putF_len f v fs) (Nat.add_le_add_right h 1)
theorem fldlen {H : Hp} {self C dx : Addr} {f : Str} {v : V} {fs : List (Str × V)} {n : Nat} (_ : H self = some (.ins C dx (putF f v fs))) (h : Sm n fs) : Sm (n + 1) (putF f v fs) := h.put
theorem look_hit {f : Str} {v : V} {fs : List (Str × V)} : (putF f v fs).lookup f = some v := by rw [lookup_putF, if_pos rfl]
theorem look_miss {f g : Str} {v : V} {fs : List (Str × V)} {o : Option V} (h : g ≠ f) (k : fs.lookup g = o) : (putF f v fs).lookup g = o := by rw [lookup_putF, if_neg h]; exact k
end Nd
namespace Nd
open PySem PySem.Spec PyProof.Rows L2
def rCatS (K : PySem.W.Frag) : R2 := fun x y H Q => ∃ l b xs zs, x = .ref l ∧ y = .ref b ∧ ScrL K H l xs ∧ H b = some (.lst zs) ∧ xs.length + zs.length ≤ sizeLine ∧ ∀ p, H p = none → Q (.ref p) (upd H p (.lst (xs ++ zs)))
theorem op_catS {X : Cx} : OpR X (binaryOp .Add) (rCatS X.K) := by
  intro pins s σ H x y v u Q I rx ry h
  obtain ⟨l, b, xs, zs, rfl, rfl, hH, hB, hz, q⟩ := h
  cases rx
  cases ry
  obtain ⟨its, n, r, e⟩ : ∃ (its : List Value) (n : Nat), Vals xs its ∧ s.heap.get? l = some { cls := .type "list", data := .seq its.toArray n } := by
    rcases hH with ⟨vs, h⟩ | ⟨vs, h, _, r⟩
    · obtain ⟨_, _, its, n, r, e⟩ := I.hok l _ h
      exact ⟨its, n, r, e⟩
    · exact ⟨vs, _, r, I.kIn _ _ h⟩
  obtain ⟨z2, its2, n2, r2, hl2, e2⟩ := I.lstM hB
  refine PySem.P.add_list e e2 ?_ (by rw [List.size_toArray, List.size_toArray, ← r.length, ← r2.length]; exact hz)
  have ea : its.toArray ++ its2.toArray = (its ++ its2).toArray := by simp
  rw [ea]
  exact ⟨.ref _, _, I.lnew (t' := s.toks) (r.append r2) (by rw [List.length_append]; omega), rfl, q _ I.fresh⟩
theorem dp_ints {K : PySem.W.Frag} {H : Hp} : ∀ ns : List Int, DpAll K H (ns.map V.int) (ns.map PyData.int)
  | [] => .nil
  | n :: r => .cons (.int n) (dp_ints r)
theorem lay_ints : ∀ ns : List Int, PyData.canLayAll0 (ns.map PyData.int) = true
  | [] => by simp [PyData.canLayAll0]
  | n :: r => by
    simp only [List.map_cons, PyData.canLayAll0, PyData.canLay0, lay_ints r]
    rfl
theorem dep_ints : ∀ ns : List Int, PyData.depthAll (ns.map PyData.int) = 0
  | [] => by simp [PyData.depthAll]
  | n :: r => by simp [List.map_cons, PyData.depthAll, PyData.depth, dep_ints r]
theorem shaped_ints (ns : List Int) : SeqAt.shaped (.tuple (ns.map PyData.int)) = true := by
  show (PyData.canLay0 (.tuple (ns.map PyData.int)) && decide (PyData.depth (.tuple (ns.map PyData.int)) ≤ 64)) = true
  simp only [PyData.canLay0, PyData.depth, lay_ints, dep_ints]
  rfl
theorem eqv_ints (ns : List Int) : PyData.eqv (.tuple (ns.map PyData.int)) (.tuple (ns.map PyData.int)) = true := PySem.SeqAt.eqv_refl _ (by simp only [PyData.canLay0]; exact lay_ints ns)
end Nd
namespace Nd
open PySem PySem.Spec PyProof.Rows L2
theorem dfx {K : PySem.W.Frag} {mg : Str → Option Value} {h : Heap} {x : Str} {st : Stmt} {ps : List Str} {fd : FuncData} (X : K.In h) (G : h.Ns mainGlobals mg) (F : FunD K x x (defArgs st) (defBody st) (defScope st) [] [] (He.ga K x) fd) (g : (He.Fa.glo x).ok K = true)
    (b : ∀ (kV doc pm : Value) (an : Option Addr) (cdv ct : Value) (us : List Value), us.length = ps.length → bindArgs (PySem.W.fnOf x x (defArgs st) (defBody st) (defScope st) .none kV doc pm an cdv ct) ⟨us, []⟩ = pure (ps.zip us)) : DefX K mg x st ps (He.ga K x) fd := ⟨F, He.glo_ok X G g, F.bindsN b⟩
theorem metx {K : PySem.W.Frag} {nm qn : Str} {st : Stmt} {ps : List Str} {f : Addr} {fd : FuncData} (F : FunD K nm qn (defArgs st) (defBody st) (defScope st) [] [] f fd)
    (b : ∀ (kV doc pm : Value) (an : Option Addr) (cdv ct : Value) (us : List Value), us.length = ps.length → bindArgs (PySem.W.fnOf nm qn (defArgs st) (defBody st) (defScope st) .none kV doc pm an cdv ct) ⟨us, []⟩ = pure (ps.zip us)) : MetX K nm qn st ps f fd := ⟨F, F.bindsN b⟩
theorem int_rel {K : PySem.W.Frag} {mg : Str → Option Value} {h : Heap} {x : Str} {i : Int} (X : K.In h) (G : h.Ns mainGlobals mg) (c : (He.Fa.int x i).ok K = true) : ∃ u, mg x = some u ∧ RelV (.int i) u := by
  obtain ⟨t, e⟩ := He.int_ok X G c
  exact ⟨_, e, t, rfl⟩
end Nd
set_option maxHeartbeats 4000000
/-! ### a list of tuples in the heap -/
namespace Nd
open PySem PySem.Spec PyProof.Rows L2
def TupsAt {α : Type} (f : α → List V) (H : Hp) : List V → List α → Prop
  | [], [] => True
  | x :: xs, r :: rs => (∃ p, x = .ref p ∧ H p = some (.tup (f r))) ∧ TupsAt f H xs rs
  | _, _ => False
section
variable {α : Type} {f : α → List V} {H H' : Hp}
theorem TupsAt.len : ∀ {xs : List V} {rs : List α}, TupsAt f H xs rs → xs.length = rs.length
  | [], [], _ => rfl
  | _ :: _, _ :: _, h => congrArg (· + 1) (TupsAt.len h.2)
  | [], _ :: _, h => h.elim
  | _ :: _, [], h => h.elim
theorem TupsAt.mono (k : ∀ p (xs : List V), H p = some (.tup xs) → H' p = some (.tup xs)) : ∀ {xs : List V} {rs : List α}, TupsAt f H xs rs → TupsAt f H' xs rs
  | [], [], _ => trivial
  | _ :: _, _ :: _, ⟨⟨p, e, h⟩, t⟩ => ⟨⟨p, e, k p _ h⟩, TupsAt.mono k t⟩
  | [], _ :: _, h => h.elim
  | _ :: _, [], h => h.elim
theorem TupsAt.same {xs : List V} {rs : List α} (h : TupsAt f H xs rs) (s : Same H H') : TupsAt f H' xs rs := h.mono fun p r e => s _ _ e
/-- what lies at a is no tuple -/
theorem TupsAt.but {xs : List V} {rs : List α} {a : Addr} {ys : List V} (h : TupsAt f H xs rs) (b : But a H H') (ha : H a = some (.lst ys)) : TupsAt f H' xs rs := h.mono fun p r e => b p _ (by
  rintro rfl
  rw [ha] at e
  cases e) e
theorem TupsAt.upd {xs : List V} {rs : List α} {a : Addr} {o : HO} {ys : List V} (h : TupsAt f H xs rs) (ha : H a = some (.lst ys)) : TupsAt f (upd H a o) xs rs := h.but (But.upd But.refl) ha
theorem TupsAt.snoc {p : Addr} {r : α} (hp : H p = some (.tup (f r))) : ∀ {xs : List V} {rs : List α}, TupsAt f H xs rs → TupsAt f H (xs ++ [.ref p]) (rs ++ [r])
  | [], [], _ => ⟨⟨p, rfl, hp⟩, trivial⟩
  | _ :: _, _ :: _, ⟨h, t⟩ => ⟨h, TupsAt.snoc hp t⟩
  | [], _ :: _, h => h.elim
  | _ :: _, [], h => h.elim
theorem TupsAt.get : ∀ {xs : List V} {rs : List α} {i : Nat} {x : V}, TupsAt f H xs rs → xs[i]? = some x → ∃ p r, rs[i]? = some r ∧ x = .ref p ∧ H p = some (.tup (f r))
  | [], _, _, _, _, e => by simp at e
  | _ :: _, [], _, _, h, _ => h.elim
  | x :: xs, r :: rs, 0, y, ⟨⟨p, e1, h⟩, _⟩, e => by
    have e' : x = y := Option.some.inj e
    exact ⟨p, r, rfl, e' ▸ e1, h⟩
  | x :: xs, r :: rs, i + 1, y, ⟨_, t⟩, e => by
    obtain ⟨p, r', h1, h2, h3⟩ := t.get (i := i) (x := y) e
    exact ⟨p, r', h1, h2, h3⟩
theorem TupsAt.unsnoc : ∀ {rs : List α} {xs : List V} {r : α}, TupsAt f H xs (rs ++ [r]) → ∃ ys p, xs = ys ++ [.ref p] ∧ H p = some (.tup (f r)) ∧ TupsAt f H ys rs
  | [], [], _, h => h.elim
  | [], [x], r, ⟨⟨p, e, h⟩, _⟩ => ⟨[], p, by rw [e]; rfl, h, trivial⟩
  | [], x :: y :: t, r, ⟨_, h⟩ => h.elim
  | q :: rs, [], _, h => h.elim
  | q :: rs, x :: xs, r, ⟨h, t⟩ => by
    obtain ⟨ys, p, e, hp, ht⟩ := TupsAt.unsnoc (rs := rs) t
    exact ⟨x :: ys, p, by rw [e]; rfl, hp, h, ht⟩
theorem dp_tups {K : PySem.W.Frag} {g : α → List PyData} (hg : ∀ r, DpAll K H (f r) (g r)) : ∀ {xs : List V} {rs : List α}, TupsAt f H xs rs → DpAll K H xs (rs.map fun r => .tuple (g r))
  | [], [], _ => .nil
  | _ :: _, r :: _, ⟨⟨p, e, h⟩, t⟩ => by
    subst e
    exact .cons (.tup (SqT.of h) (hg r)) (dp_tups hg t)
  | [], _ :: _, h => h.elim
  | _ :: _, [], h => h.elim
end
theorem set_last {ys : List V} {x y : V} : (ys ++ [x]).set ys.length y = ys ++ [y] := by simp
theorem ix_last {ys : List V} {x : V} : ixN (ys ++ [x]).length (-1) = some ys.length := by
  unfold ixN
  rw [if_neg (by decide), if_pos (by rw [List.length_append, List.length_singleton]; omega), List.length_append, List.length_singleton]
  congr 1
  omega
end Nd
set_option maxHeartbeats 4000000
set_option hygiene false in
local macro_rules | `(tactic| walk_at "new1") => `(tactic| (intro p1 n1; generalize e1 : upd _ p1 _ = H1; (have s1 := (congrArg (Same _) e1).mp (Same.new n1)); (have h1 := (congrArg (fun z : Hp => z p1 = some _) e1).mp upd_same); clear e1))
set_option hygiene false in
local macro_rules | `(tactic| walk_at "new2") => `(tactic| (intro p2 n2; generalize e2 : upd _ p2 _ = H2; (have s2 := (congrArg (Same _) e2).mp (Same.new n2)); (have h2 := (congrArg (fun z : Hp => z p2 = some _) e2).mp upd_same); clear e2))
set_option hygiene false in
local macro_rules | `(tactic| walk_at "new3") => `(tactic| (intro p3 n3; generalize e3 : upd _ p3 _ = H3; (have s3 := (congrArg (Same _) e3).mp (Same.new n3)); (have h3 := (congrArg (fun z : Hp => z p3 = some _) e3).mp upd_same); clear e3))
set_option hygiene false in
local macro_rules | `(tactic| walk_at "new4") => `(tactic| (intro p4 n4; generalize e4 : upd _ p4 _ = H4; (have s4 := (congrArg (Same _) e4).mp (Same.new n4)); (have h4 := (congrArg (fun z : Hp => z p4 = some _) e4).mp upd_same); clear e4))
set_option hygiene false in
local macro_rules | `(tactic| walk_at "new5") => `(tactic| (intro p5 n5; generalize e5 : upd _ p5 _ = H5; (have s5 := (congrArg (Same _) e5).mp (Same.new n5)); (have h5 := (congrArg (fun z : Hp => z p5 = some _) e5).mp upd_same); clear e5))
set_option hygiene false in
local macro_rules | `(tactic| walk_at "new6") => `(tactic| (intro p6 n6; generalize e6 : upd _ p6 _ = H6; (have s6 := (congrArg (Same _) e6).mp (Same.new n6)); (have h6 := (congrArg (fun z : Hp => z p6 = some _) e6).mp upd_same); clear e6))
set_option hygiene false in
local macro_rules | `(tactic| walk_at "new7") => `(tactic| (intro p7 n7; generalize e7 : upd _ p7 _ = H7; (have s7 := (congrArg (Same _) e7).mp (Same.new n7)); (have h7 := (congrArg (fun z : Hp => z p7 = some _) e7).mp upd_same); clear e7))
set_option hygiene false in
local macro_rules | `(tactic| walk_at "new8") => `(tactic| (intro p8 n8; generalize e8 : upd _ p8 _ = H8; (have s8 := (congrArg (Same _) e8).mp (Same.new n8)); (have h8 := (congrArg (fun z : Hp => z p8 = some _) e8).mp upd_same); clear e8))
set_option hygiene false in
local macro_rules | `(tactic| walk_at "new9") => `(tactic| (intro p9 n9; generalize e9 : upd _ p9 _ = H9; (have s9 := (congrArg (Same _) e9).mp (Same.new n9)); (have h9 := (congrArg (fun z : Hp => z p9 = some _) e9).mp upd_same); clear e9))
namespace K52
open PySem PySem.Spec PyProof.Rows L2 Nd
def top (i : Nat) : Stmt := PySem.Challenge.pw_codewalk_k52_codes_written_and_read.main.body.getD i (.Pass ⟨0, 0, 0, 0⟩)
abbrev s_law_source_of : Stmt := top 42
abbrev s_law_next : Stmt := top 43
abbrev s_law_one : Stmt := top 44
/-- what the globals are -/
structure Gl0 (mg : Str → Option Value) : Prop where
  n_int : mg "int" = none
  n_len : mg "len" = none
  n_range : mg "range" = none
section
variable {P : Program} {w : World} {K : PySem.W.Frag} {mg : Str → Option Value} {base : Heap}
def Src (H : Hp) (a : Addr) : Prop := ∃ x y z : Int, H a = some (.lst [.int x, .int y, .int z]) ∧ 0 ≤ x ∧ 0 ≤ y ∧ 0 ≤ z
def spSource : Sp := fun vs H Q _ => ∃ c : Int, vs = [.int c] ∧ ∀ p H', H p = none → Same H H' → Src H' p → Q (.ref p) H'
abbrev N_law_source_of : List Str := ["cell"]
theorem sc_law_source_of : FnScope N_law_source_of ["cell"] (defScope s_law_source_of) := ⟨rfl, rfl, rfl, by decide +kernel, rfl, by decide +kernel, by decide +kernel⟩
theorem ok_law_source_of {f : Addr} {fd : FuncData} (T : Gl0 mg) (F : DefX K mg "_law_source_of" s_law_source_of ["cell"] f fd) : CalX P w K mg base 1 "_law_source_of" spSource := by
  refine calx F sc_law_source_of (fun vs H Q E h => ?_) (fun cdv A outer s H vs Q E hr h => ?_)
  · obtain ⟨n, rfl, _⟩ := h
    rfl
  · obtain ⟨n, rfl, k⟩ := h
    refine ⟨_, (pss_cons (ps_set (i := 0) sc_law_source_of.nd rfl (.inl rfl) (pe_ifExp (pt_cmpR op_ge (pv 0) pe_int (nomark _)) (pv 0) (pe_op op_sub (pe_op op_sub pe_int (pe_op op_mul pe_int (pv 0))) pe_int)))
      (pss_one (ps_ret (pe_lst (pa_cons (pe_op op_mul (pv 0) (pe_callTy call_int1 (by rfl) T.n_int Boot.«int» (pa_cons (pe_cmpR op_ge (pv 0) (pe_op op_pow pe_int pe_int) (nomark _)) pa_nil))) (pa_cons (pe_op op_mod (pe_callTy call_int1 (by rfl) T.n_int Boot.«int» (pa_cons (pv 0) pa_nil)) pe_int) (pa_cons pe_int pa_nil))))))), ?_⟩
    refine ⟨_, rfl, _, _, rfl, rfl, _, rfl, ?_⟩
    refine ite2 (fun c => ?_) (fun c => ?_)
    · have hm : (0 : Int) ≤ n := of_decide_eq_true c
      refine ⟨_, rfl, ?_⟩
      refine ⟨_, rfl, _, rfl, _, _, rfl, rfl, ⟨by decide, by decide, by decide⟩, _, _, rfl, rfl, .inr ⟨_, rfl, _, _, rfl, rfl, .inr ?_, _, rfl, .inl ⟨_, rfl, _, _, rfl, rfl, (by show (0 : Int) < 2147483647; decide), (by show 3 ≤ sizeLine; decide), ?_⟩⟩⟩
      · split <;> decide
      · walk_at "new1"
        exact k p1 H1 n1 s1 ⟨_, _, _, h1, Int.mul_nonneg hm (by split <;> decide), Int.emod_nonneg _ (by decide), by decide⟩
    · have hm : (0 : Int) ≤ 0 - 3 * n - 1 := by
        have c' : ¬ ((0 : Int) ≤ n) := fun z => c (decide_eq_true z)
        omega
      refine ⟨_, rfl, _, _, rfl, rfl, .inl ⟨by decide, by decide⟩, _, _, rfl, rfl, _, _, rfl, rfl, ?_⟩
      refine ⟨_, rfl, _, rfl, _, _, rfl, rfl, ⟨by decide, by decide, by decide⟩, _, _, rfl, rfl, .inr ⟨_, rfl, _, _, rfl, rfl, .inr ?_, _, rfl, .inl ⟨_, rfl, _, _, rfl, rfl, (by show (0 : Int) < 2147483647; decide), (by show 3 ≤ sizeLine; decide), ?_⟩⟩⟩
      · split <;> decide
      · walk_at "new1"
        exact k p1 H1 n1 s1 ⟨_, _, _, h1, Int.mul_nonneg hm (by split <;> decide), Int.emod_nonneg _ (by decide), by decide⟩
end
section
variable {P : Program} {w : World} {K : PySem.W.Frag} {mg : Str → Option Value} {base : Heap}
/-! ### _law_next: some number below many -/
def spNext : Sp := fun vs H Q _ => ∃ (a : Addr) (m : Int), vs = [.ref a, .int m] ∧ Src H a ∧ 0 < m ∧ m.natAbs < 2 ^ 200 ∧ ∀ v H', 0 ≤ v → v < m → But a H H' → Src H' a → Q (.int v) H'
abbrev N_law_next : List Str := ["source", "many", "found", "prime", "number"]
theorem sc_law_next : FnScope N_law_next ["source", "many"] (defScope s_law_next) := ⟨rfl, rfl, rfl, by decide +kernel, rfl, by decide +kernel, by decide +kernel⟩
theorem md (a : Int) : -(2 ^ 64) < a % 2147483647 ∧ a % 2147483647 < 2 ^ 64 := by
  have h1 := Int.emod_nonneg a (by decide : (2147483647 : Int) ≠ 0)
  have h2 := Int.emod_lt_of_pos a (by decide : (0 : Int) < 2147483647)
  omega
theorem at0 (x y z : V) : atI [x, y, z] 0 = some x := rfl
theorem at1 (x y z : V) : atI [x, y, z] 1 = some y := rfl
theorem at2 (x y z : V) : atI [x, y, z] 2 = some z := rfl
theorem ok_law_next {f : Addr} {fd : FuncData} (T : Gl0 mg) (F : DefX K mg "_law_next" s_law_next ["source", "many"] f fd) : CalX P w K mg base 1 "_law_next" spNext := by
  refine calx F sc_law_next (fun vs H Q E h => ?_) (fun cdv A outer s H vs Q E hr h => ?_)
  · obtain ⟨a, m, rfl, _⟩ := h
    rfl
  · obtain ⟨a, m, rfl, ⟨x, y, z, ha, hx, hy, hz⟩, hm, hm2, k⟩ := h
    refine ⟨_, (pss_cons (ps_if (pt_cmpR op_gt (pe_ix ix_list (pv 0) pe_int (fun _ _ => rfl)) pe_int (nomark _))
        (pss_cons (ps_set (i := 2) sc_law_next.nd rfl (.inl rfl) (pe_op op_mod (pe_callTy call_int1 (by rfl) T.n_int Boot.«int» (pa_cons (pe_ix ix_list (pv 0) pe_int (fun _ _ => rfl)) pa_nil)) (pv 1)))
      (pss_cons (ps_asg (pe_op op_fdivW (pe_ix ix_list (pv 0) pe_int (fun _ _ => rfl)) (pv 1)) (pg_sub (pv 0) pe_int set_list))
      (pss_one (ps_ret (pv 2)))))
        pss_nil)
      (pss_cons (ps_asg (pe_op op_add (pe_ix ix_list (pv 0) pe_int (fun _ _ => rfl)) pe_int) (pg_sub (pv 0) pe_int set_list))
      (pss_cons (ps_set (i := 3) sc_law_next.nd rfl (.inl rfl) pe_int)
      (pss_cons (ps_set (i := 4) sc_law_next.nd rfl (.inl rfl) (pe_op op_mod (pe_callTy call_int1 (by rfl) T.n_int Boot.«int» (pa_cons (pe_op op_add (pe_op op_add (pe_ix ix_list (pv 0) pe_int (fun _ _ => rfl)) (pe_op op_mul pe_int (pe_ix ix_list (pv 0) pe_int (fun _ _ => rfl)))) pe_int) pa_nil)) (pv 3)))
      (pss_cons (ps_set (i := 4) sc_law_next.nd rfl (.inl rfl) (pe_op op_mod (pe_callTy call_int1 (by rfl) T.n_int Boot.«int» (pa_cons (pe_op op_mul (pv 4) pe_int) pa_nil)) (pv 3)))
      (pss_cons (ps_set (i := 4) sc_law_next.nd rfl (.inl rfl) (pe_op op_mod (pe_callTy call_int1 (by rfl) T.n_int Boot.«int» (pa_cons (pe_op op_mul (pv 4) (pe_op op_add (pe_op op_fdiv (pv 4) pe_int) pe_int)) pa_nil)) (pv 3)))
      (pss_cons (ps_set (i := 4) sc_law_next.nd rfl (.inl rfl) (pe_op op_mod (pe_callTy call_int1 (by rfl) T.n_int Boot.«int» (pa_cons (pe_op op_mul (pv 4) (pe_op op_add (pe_op op_fdiv (pv 4) pe_int) pe_int)) pa_nil)) pe_int))
      (pss_one (ps_ret (pe_op op_mod (pe_callTy call_int1 (by rfl) T.n_int Boot.«int» (pa_cons (pe_op op_fdiv (pv 4) pe_int) pa_nil)) (pv 1))))))))))), ?_⟩
    refine ⟨_, rfl, a, _, _, _, rfl, rfl, SqL.of ha, at0 _ _ _, _, _, rfl, rfl, _, rfl, ?_⟩
    refine ite2 (fun c => ?_) (fun c => ?_)
    · refine ⟨_, rfl, a, _, _, _, rfl, rfl, SqL.of ha, at0 _ _ _, .inl ⟨_, rfl, _, rfl, _, _, rfl, rfl, hm, ?_⟩⟩
      refine ⟨_, rfl, a, _, _, _, rfl, rfl, SqL.of ha, at0 _ _ _, _, rfl, _, _, rfl, rfl, wide_div hm hm2 (by decide) (by decide), ?_⟩
      refine ⟨_, rfl, a, _, _, 0, rfl, rfl, ha, rfl, ?_⟩
      exact ⟨_, rfl, k _ _ (Int.emod_nonneg _ (by omega)) (Int.emod_lt_of_pos _ hm) (But.upd But.refl) ⟨_, _, _, upd_same, Int.ediv_nonneg hx (by omega), hy, hz⟩⟩
    · refine ⟨_, rfl, a, _, _, _, rfl, rfl, SqL.of ha, at2 _ _ _, _, _, rfl, rfl, ?_⟩
      refine ⟨_, rfl, a, _, _, 2, rfl, rfl, ha, rfl, ?_⟩
      have hb : upd H a (.lst [.int x, .int y, .int (z + 1)]) a = some (.lst [.int x, .int y, .int (z + 1)]) := upd_same
      refine ⟨_, rfl, a, _, _, _, rfl, rfl, SqL.of hb, at1 _ _ _, _, rfl, a, _, _, _, rfl, rfl, SqL.of hb, at2 _ _ _, _, _, rfl, rfl, .inl ⟨by decide, by decide⟩, _, _, rfl, rfl, _, _, rfl, rfl, .inl ⟨_, rfl, _, rfl, _, _, rfl, rfl, (by show (0 : Int) < 2147483647; decide), ?_⟩⟩
      refine ⟨_, rfl, _, _, rfl, rfl, .inr ⟨by decide, by decide⟩, .inl ⟨_, rfl, _, rfl, _, _, rfl, rfl, (by show (0 : Int) < 2147483647; decide), ?_⟩⟩
      refine ⟨_, rfl, _, rfl, _, _, rfl, rfl, ⟨by decide, by decide⟩, _, _, rfl, rfl, _, _, rfl, rfl, .inl (md _), .inl ⟨_, rfl, _, rfl, _, _, rfl, rfl, (by show (0 : Int) < 2147483647; decide), ?_⟩⟩
      refine ⟨_, rfl, _, rfl, _, _, rfl, rfl, ⟨by decide, by decide⟩, _, _, rfl, rfl, _, _, rfl, rfl, .inl (md _), .inl ⟨_, rfl, _, _, rfl, rfl, (by show (0 : Int) < 2147483399; decide), ?_⟩⟩
      refine ⟨_, rfl, _, _, rfl, rfl, ⟨by decide, by decide⟩, .inl ⟨_, rfl, _, rfl, _, _, rfl, rfl, hm, ?_⟩⟩
      exact k _ _ (Int.emod_nonneg _ (by omega)) (Int.emod_lt_of_pos _ hm) (But.upd But.refl) ⟨_, _, _, hb, hx, hy, by omega⟩
/-! ### _law_one: one of some -/
def spOne (K : PySem.W.Frag) : Sp := fun vs H Q _ => ∃ (a b : Addr) (xs : List V), vs = [.ref a, .ref b] ∧ Src H a ∧ H b = some (.lst xs) ∧ xs ≠ [] ∧ xs.length ≤ 1000 ∧ ∀ v H', v ∈ xs → But a H H' → Src H' a → Q v H'
abbrev N_law_one : List Str := ["source", "some"]
theorem sc_law_one : FnScope N_law_one ["source", "some"] (defScope s_law_one) := ⟨rfl, rfl, rfl, by decide +kernel, rfl, by decide +kernel, by decide +kernel⟩
theorem Src.ne {H : Hp} {a b : Addr} {xs : List V} (s : Src H a) (h : H b = some (.lst xs)) (hx : xs.length ≠ 3 ∨ ∃ x ∈ xs, ∀ i, x ≠ V.int i) : b ≠ a := by
  rintro rfl
  obtain ⟨x, y, z, e, _⟩ := s
  rw [h] at e
  cases e
  rcases hx with q | ⟨x, hx, n⟩
  · exact q rfl
  · simp at hx
    rcases hx with rfl | rfl | rfl <;> exact n _ rfl
theorem ok_law_one {f : Addr} {fd : FuncData} (T : Gl0 mg) (c_law_next : CalX P w K mg base 1 "_law_next" spNext) (F : DefX K mg "_law_one" s_law_one ["source", "some"] f fd) :
    CalX P w K mg base 2 "_law_one" (fun vs H Q E => spOne K vs H Q E ∧ ∀ a b, vs = [.ref a, .ref b] → b ≠ a) := by
  refine calx F sc_law_one (fun vs H Q E h => ?_) (fun cdv A outer s H vs Q E hr h => ?_)
  · obtain ⟨⟨a, m, xs, rfl, _⟩, _⟩ := h
    rfl
  · obtain ⟨⟨a, b, xs, rfl, hs, hb, hne, hl, k⟩, nba⟩ := h
    have nba := nba a b rfl
    have hpos : 0 < xs.length := List.length_pos_iff.mpr hne
    refine ⟨_, (pss_one (ps_ret (pe_ix ix_list (pv 1) (pe_cx c_law_next hr (by decide) rfl (pa_cons (pv 0) (pa_cons (pe_callB call_len_seq (by rfl) T.n_len Boot.«len» (pa_cons (pv 1) pa_nil)) pa_nil))) (fun _ _ => rfl)))), ?_⟩
    refine ⟨_, rfl, _, rfl, _, rfl, b, xs, rfl, .inl (SqL.of hb), a, _, rfl, hs, ?_, ?_, fun v H' v0 v1 bu s1 => ?_⟩
    · show (0 : Int) < (xs.length : Int)
      omega
    · show ((xs.length : Int)).natAbs < 2 ^ 200
      rw [Int.natAbs_natCast]
      exact Nat.lt_of_le_of_lt hl (by decide)
    · have e : v = (v.toNat : Int) := by omega
      have hv : v.toNat < xs.length := by omega
      have g : atI xs v = some (xs[v.toNat]) := by
        have q := atI_nat (List.getElem?_eq_getElem hv)
        rw [← e] at q
        exact q
      exact ⟨b, xs, v, _, rfl, rfl, SqL.of (bu _ _ nba hb), g, k _ _ (List.getElem_mem hv) bu s1⟩
end
theorem Src.ne0 {H : Hp} {a p : Addr} (s : Src H a) (n : H p = none) : p ≠ a := by
  rintro rfl
  obtain ⟨x, y, z, e, _⟩ := s
  rw [n] at e
  cases e
theorem Src.same {H H' : Hp} {a : Addr} (s : Src H a) (q : Same H H') : Src H' a := by
  obtain ⟨x, y, z, e, h⟩ := s
  exact ⟨x, y, z, q _ _ e, h⟩
end K52
set_option maxHeartbeats 4000000
/-! ### lists or tuples: comprehensions over them, tuples of them, their types -/
namespace Nd
open PySem PySem.Spec PyProof.Rows L2
abbrev LcR (g : TG) (tt : TT) (te : TE) (vs : List Nat) (σ : L2.St) (H1 : Hp) (Qd : Addr → Hp → Prop) (J : It) : Prop := ∀ D, H1 D = none → ∃ W : Nat → Nat → Hp → Prop, (∃ m, W 0 m (upd H1 D (.lst []))) ∧ ∀ i m H, W i m H →
  (J.stop i H ∧ Qd D H) ∨ (J.go i H ∧ ∃ Nx : Hp → Prop, (∀ H', Nx H' → ∃ m', m' < m ∧ W (i + 1) m' H') ∧ ∀ x H', J.yld i H x H' → g x (wipe σ vs) H' fun σ2 H2 => wipe σ2 vs = wipe σ vs ∧ tt σ2 H2 fun b H3 =>
    if b = true then te σ2 H3 fun y H4 => ∃ acc, H4 D = some (.lst acc) ∧ acc.length < sizeLine ∧ Nx (upd H4 D (.lst (acc ++ [y]))) else Nx H3)
theorem lc_both {K : PySem.W.Frag} {a : Addr} {xs : List V} {g : TG} {tt : TT} {te : TE} {vs : List Nat} {σ : L2.St} {H1 : Hp} {Qd : Addr → Hp → Prop} (hq : SqB K H1 a xs) (Pv : Addr → Nat → Hp → Prop) (h0 : ∀ D, H1 D = none → Pv D 0 (upd H1 D (.lst [])))
    (hl : ∀ D i H, H1 D = none → i ≤ xs.length → Pv D i H → Same H1 H)
    (hs : ∀ D i x H, H1 D = none → xs[i]? = some x → Pv D i H → g x (wipe σ vs) H fun σ2 H2 => wipe σ2 vs = wipe σ vs ∧ tt σ2 H2 fun b H3 =>
      if b = true then te σ2 H3 fun y H4 => ∃ acc, H4 D = some (.lst acc) ∧ acc.length < sizeLine ∧ Pv D (i + 1) (upd H4 D (.lst (acc ++ [y]))) else Pv D (i + 1) H3) (hd : ∀ D H, H1 D = none → Pv D xs.length H → Qd D H) :
    (∃ xs, SqL K H1 a xs) ∧ LcR g tt te vs σ H1 Qd (Itl K a) ∨ (∃ xs, SqT K H1 a xs) ∧ LcR g tt te vs σ H1 Qd (Itt K a) := by
  rcases hq with h | h
  · exact .inl ⟨⟨_, h⟩, fun D nD => lc_list (K := K) (a := a) (xs := xs) (Pv D) (h0 D nD) (fun i H l p => (hl D i H nD l p).seq h) (fun i x H e p => hs D i x H nD e p) (fun H p => hd D H nD p)⟩
  · exact .inr ⟨⟨_, h⟩, fun D nD => lc_tup (K := K) (a := a) (xs := xs) (Pv D) (h0 D nD) (fun i H l p => seqT (hl D i H nD l p) h) (fun i x H e p => hs D i x H nD e p) (fun H p => hd D H nD p)⟩
/-- a tracked list or tuple -/
def LorT (H : Hp) (a : Addr) (xs : List V) : Prop := H a = some (.lst xs) ∨ H a = some (.tup xs)
theorem LorT.sq {K : PySem.W.Frag} {H : Hp} {a : Addr} {xs : List V} (h : LorT H a xs) : SqB K H a xs := h.imp SqL.of SqT.of
theorem LorT.same {H H' : Hp} {a : Addr} {xs : List V} (h : LorT H a xs) (s : Same H H') : LorT H' a xs := h.imp (s _ _) (s _ _)
theorem LorT.ne {H : Hp} {a b : Addr} {xs : List V} (h : LorT H a xs) (hb : H b = none) : a ≠ b := fun z => by
  subst z
  rcases h with h | h <;> (rw [hb] at h; cases h)
theorem LorT.ty {K : PySem.W.Frag} {H : Hp} {a : Addr} {xs : List V} (h : LorT H a xs) : ∃ t, TyX K H (.ref a) (.type t) ∧ PySem.W.kitAny K (.type t) [.type "list", .type "tuple"] = some true := by
  rcases h with h | h
  · exact ⟨"list", .base (.lst h), kitAny_cons (b := true) (kit_ty (by decide +kernel)) (fun z => by cases z) (fun _ => rfl)⟩
  · exact ⟨"tuple", .base (.tup h), kitAny_cons (b := false) (kit_ty (by decide +kernel)) (fun _ => kitAny_cons (b := true) (kit_ty (by decide +kernel)) (fun z => by cases z) (fun _ => rfl)) (fun z => by cases z)⟩
/-- tuple(a), a list or a tuple -/
theorem call_tupleB {X : Cx} : CallR X (.type "tuple") (fun xs H Q => ∃ (p : Addr) (ys : List V), xs = [.ref p] ∧ LorT H p ys ∧ ∀ t H', Same H H' → H' t = some (.tup ys) → (t = p ∨ H t = none) → Q (.ref t) H') := by
  intro pins s σ H xs us Q I r h
  obtain ⟨p, ys, e, hp, k⟩ := h
  refine call_tuple_of pins s σ H xs us Q I r ⟨p, ys, e, ?_⟩
  rcases hp with hp | hp
  · exact .inl ⟨SqL.of hp, fun l hl => k l _ (Same.new hl) upd_same (.inr hl)⟩
  · exact .inr ⟨SqT.of hp, k p H (Same.refl H) hp (.inl rfl)⟩
end Nd
set_option maxHeartbeats 4000000
set_option hygiene false in
local macro_rules | `(tactic| walk_at "fld") => `(tactic| (generalize eu : upd _ self (HO.ins _ _ _) = Hn; (have hs := (congrArg (fun z : Hp => z self = some _) eu).mp upd_same); (have B := (congrArg (But self H) eu).mp (But.upd B)); (have ln := fldlen hs ln); clear eu))
set_option hygiene false in
local macro_rules | `(tactic| walk_at "fld3") => `(tactic| (generalize eu : upd _ self (HO.ins _ _ _) = Hn; (have hs := (congrArg (fun z : Hp => z self = some _) eu).mp upd_same); (have B := (congrArg (But self H) eu).mp (But.upd B)); (have B3 := (congrArg (But self H3) eu).mp (But.upd B3)); (have ln := fldlen hs ln); clear eu))
set_option hygiene false in
local macro_rules | `(tactic| walk_at "new1") => `(tactic| (intro p1 n1; generalize e1 : upd _ p1 _ = H1; (have s1 := (congrArg (Same _) e1).mp (Same.new n1)); (have h1 := (congrArg (fun z : Hp => z p1 = some _) e1).mp upd_same); clear e1))
set_option hygiene false in
local macro_rules | `(tactic| walk_at "new2") => `(tactic| (intro p2 n2; generalize e2 : upd _ p2 _ = H2; (have s2 := (congrArg (Same _) e2).mp (Same.new n2)); (have h2 := (congrArg (fun z : Hp => z p2 = some _) e2).mp upd_same); clear e2))
set_option hygiene false in
local macro_rules | `(tactic| walk_at "new3") => `(tactic| (intro p3 n3; generalize e3 : upd _ p3 _ = H3; (have s3 := (congrArg (Same _) e3).mp (Same.new n3)); (have h3 := (congrArg (fun z : Hp => z p3 = some _) e3).mp upd_same); clear e3))
set_option hygiene false in
local macro_rules | `(tactic| walk_at "new4") => `(tactic| (intro p4 n4; generalize e4 : upd _ p4 _ = H4; (have s4 := (congrArg (Same _) e4).mp (Same.new n4)); (have h4 := (congrArg (fun z : Hp => z p4 = some _) e4).mp upd_same); clear e4))
set_option hygiene false in
local macro_rules | `(tactic| walk_at "new5") => `(tactic| (intro p5 n5; generalize e5 : upd _ p5 _ = H5; (have s5 := (congrArg (Same _) e5).mp (Same.new n5)); (have h5 := (congrArg (fun z : Hp => z p5 = some _) e5).mp upd_same); clear e5))
set_option hygiene false in
local macro_rules | `(tactic| walk_at "new6") => `(tactic| (intro p6 n6; generalize e6 : upd _ p6 _ = H6; (have s6 := (congrArg (Same _) e6).mp (Same.new n6)); (have h6 := (congrArg (fun z : Hp => z p6 = some _) e6).mp upd_same); clear e6))
set_option hygiene false in
local macro_rules | `(tactic| walk_at "new7") => `(tactic| (intro p7 n7; generalize e7 : upd _ p7 _ = H7; (have s7 := (congrArg (Same _) e7).mp (Same.new n7)); (have h7 := (congrArg (fun z : Hp => z p7 = some _) e7).mp upd_same); clear e7))
set_option hygiene false in
local macro_rules | `(tactic| walk_at "new8") => `(tactic| (intro p8 n8; generalize e8 : upd _ p8 _ = H8; (have s8 := (congrArg (Same _) e8).mp (Same.new n8)); (have h8 := (congrArg (fun z : Hp => z p8 = some _) e8).mp upd_same); clear e8))
set_option hygiene false in
local macro_rules | `(tactic| walk_at "new9") => `(tactic| (intro p9 n9; generalize e9 : upd _ p9 _ = H9; (have s9 := (congrArg (Same _) e9).mp (Same.new n9)); (have h9 := (congrArg (fun z : Hp => z p9 = some _) e9).mp upd_same); clear e9))
namespace K52
open PySem PySem.Spec PyProof.Rows L2 Nd
abbrev s_want_code : Stmt := top 18
def flds : List Str := ["argcount", "onlycount", "stacksize", "flags", "code", "constants", "names", "slots", "kinds", "name", "path", "line", "lines", "handlers", "nested"]
def oddT : List String := ["NoneType", "int", "str", "list", "tuple", "bool", "dict"]
/-- what the class Code and the class NoCode are -/
structure GlK (P : Program) (K : PySem.W.Frag) (mg : Str → Option Value) (Cc Cn fI : Addr) : Prop where
  c_Code : ∃ u, mg "Code" = some u ∧ RelV (.ref Cc) u
  ins : C8.InsC K Cc
  na : ∀ f ∈ flds, NoAttr K Cc f
  no : ∀ t ∈ oddT, PySem.W.kitOne K (.type t) (.ref Cc) = some false
  nx : PySem.Nx.Txt P K mg Cn fI
  gN : mg "NoCode" = some (.ref Cn)
  n_isinstance : mg "isinstance" = none
/-- an odd thing: of a type that is no Code -/
def Odd (K : PySem.W.Frag) (H : Hp) (x : V) : Prop := ∃ t ∈ oddT, TyX K H x (.type t)
def errCode (Cn : Addr) (H : Hp) (E : XK) : Prop := ∀ d, H d = none → E (.ref Cn) (some d) (upd H d (.xd [("field", .str "code")]))
def spWant (K : PySem.W.Frag) (Cc Cn : Addr) : Sp := fun vs H Q E => ∃ x, vs = [x] ∧ ((∃ a dx fs, x = .ref a ∧ H a = some (.ins Cc dx fs) ∧ Q .non H) ∨ (Odd K H x ∧ errCode Cn H E))
theorem passE {X : Cx} {E : XK} (tk : Takes X (fun cls d _ H => E cls d H)) : Passes (L2.CX X.prog X.w) X E := fun pins σ H s e s' I c => passAt tk σ pins H s e s' I c
theorem TyX.same {K : PySem.W.Frag} {H H' : Hp} {x : V} {t : Value} (s : Same H H') (h : TyX K H x t) : TyX K H' x t := by
  cases h with
  | base b =>
    refine .base ?_
    cases b with
    | non => exact .non
    | bl y => exact .bl y
    | int i => exact .int i
    | str y => exact .str y
    | flt y => exact .flt y
    | lst e => exact .lst (s _ _ e)
    | frz e => exact .frz (s _ _ e)
    | tup e => exact .tup (s _ _ e)
    | dK e => exact .dK (s _ _ e)
    | dT e => exact .dT (s _ _ e)
    | ins e c1 c2 c3 c4 c5 => exact .ins (s _ _ e) c1 c2 c3 c4 c5
  | byt b => exact .byt b
  | set e => exact .set (s _ _ e)
  | kList e c => exact .kList e c
  | kTuple e c => exact .kTuple e c
  | kDict e c => exact .kDict e c
  | fTuple e => exact .fTuple (s _ _ e)
  | fDict e => exact .fDict (s _ _ e)
theorem Odd.same {K : PySem.W.Frag} {H H' : Hp} {x : V} (s : Same H H') (h : Odd K H x) : Odd K H' x := by
  obtain ⟨t, m, h⟩ := h
  exact ⟨t, m, TyX.same s h⟩
section
variable {P : Program} {w : World} {K : PySem.W.Frag} {mg : Str → Option Value} {base : Heap} {Cc Cn fI : Addr}
abbrev N_want_code : List Str := ["value"]
theorem sc_want_code : FnScope N_want_code ["value"] (defScope s_want_code) := ⟨rfl, rfl, rfl, by decide +kernel, rfl, by decide +kernel, by decide +kernel⟩
theorem ok_want_code {f : Addr} {fd : FuncData} (G : GlK P K mg Cc Cn fI) (F : DefX K mg "want_code" s_want_code ["value"] f fd) : CalX P w K mg base 2 "want_code" (spWant K Cc Cn) := by
  refine calr F sc_want_code (fun vs H Q E h => ?_) (fun cdv A outer s H vs Q E hr h => ?_)
  · obtain ⟨x, rfl, _⟩ := h
    rfl
  · obtain ⟨x, rfl, h⟩ := h
    refine ⟨_, (pss_one (ps_if (pt_not (pt_val (pe_callB call_isi (by rfl) G.n_isinstance Boot.«isinstance» (pa_cons (pv 0) (pa_cons (C8.pe_gc rfl G.c_Code) pa_nil)))))
      (pss_one (ps_raise rfl (takes_of rfl rfl rfl rfl) (pmk_nx G.nx hr (pa_cons pe_str pa_nil) rfl G.gN)))
      pss_nil)), ?_⟩
    rcases h with ⟨a, dx, fs, rfl, ha, q⟩ | ⟨⟨t, ht, ty⟩, e⟩
    · refine ⟨_, rfl, V.ref a, V.ref Cc, .ref Cc, .ref Cc, true, rfl, .own Cc, .base (.ins ha G.ins.cl G.ins.ha G.ins.hn G.ins.htk G.ins.hm), G.ins.me, _, rfl, ?_⟩
      exact iteF q
    · refine ⟨_, rfl, x, V.ref Cc, .type t, .ref Cc, false, rfl, .own Cc, ty, G.no t ht, _, rfl, ?_⟩
      exact iteT ⟨_, rfl, fun d hd => e d hd⟩
end
abbrev s_is_number : Stmt := top 9
abbrev s_is_string : Stmt := top 10
abbrev s_is_byte : Stmt := top 11
abbrev s_are_bytes : Stmt := top 12
abbrev s_are_strings : Stmt := top 13
abbrev s_are_constants : Stmt := top 15
abbrev s_is_constant : Stmt := top 14
structure Gl2 (mg : Str → Option Value) : Prop where
  n_isinstance : mg "isinstance" = none
  n_int : mg "int" = none
  n_bool : mg "bool" = none
  n_str : mg "str" = none
  n_all : mg "all" = none
  n_ord : mg "ord" = none
  n_list : mg "list" = none
  n_tuple : mg "tuple" = none
  c_MOST : ∃ u, mg "MOST_NUMBER" = some u ∧ RelV (.int 2147483647) u
  c_MOST_NESTED : ∃ u, mg "MOST_NESTED" = some u ∧ RelV (.int 100) u
def tNev : TE := fun _ _ _ => False
theorem pe_nev {X : Cx} {e : Expr} : PE X e tNev := ⟨fun _ _ _ _ _ _ h => h.elim⟩
theorem ii {K : PySem.W.Frag} : PySem.W.kitOne K (.type "int") (.type "int") = some true := kit_ty (by decide +kernel)
theorem ib {K : PySem.W.Frag} : PySem.W.kitOne K (.type "int") (.type "bool") = some false := kit_ty (by decide +kernel)
theorem ss {K : PySem.W.Frag} : PySem.W.kitOne K (.type "str") (.type "str") = some true := kit_ty (by decide +kernel)
section
variable {P : Program} {w : World} {K : PySem.W.Frag} {mg : Str → Option Value} {base : Heap}
def spNum : Sp := fun vs H Q _ => ∃ i : Int, vs = [.int i] ∧ 0 ≤ i ∧ i ≤ 2147483647 ∧ Q (.bl true) H
abbrev N_is_number : List Str := ["value"]
theorem sc_is_number : FnScope N_is_number ["value"] (defScope s_is_number) := ⟨rfl, rfl, rfl, by decide +kernel, rfl, by decide +kernel, by decide +kernel⟩
theorem ok_is_number {f : Addr} {fd : FuncData} (T : Gl2 mg) (F : DefX K mg "is_number" s_is_number ["value"] f fd) : CalX P w K mg base 1 "is_number" spNum := by
  refine calx F sc_is_number (fun vs H Q E h => ?_) (fun cdv A outer s H vs Q E hr h => ?_)
  · obtain ⟨i, rfl, _⟩ := h
    rfl
  · obtain ⟨i, rfl, i0, i1, k⟩ := h
    refine ⟨_, (pss_one (ps_ret (pe_and (pe_callB call_isi (by rfl) T.n_isinstance Boot.«isinstance» (pa_cons (pv 0) (pa_cons (pe_bltn (v := .ty "int") (by rfl) T.n_int Boot.«int» rfl) pa_nil))) (pe_and (pe_not (pe_callB call_isi (by rfl) T.n_isinstance Boot.«isinstance» (pa_cons (pv 0) (pa_cons (pe_bltn (v := .ty "bool") (by rfl) T.n_bool Boot.«bool» rfl) pa_nil)))) (pe_one (pe_chain op_le op_le pe_int (pv 0) (C8.pe_gc rfl T.c_MOST))))))), ?_⟩
    refine ⟨_, rfl, V.int i, V.ty "int", .type "int", .type "int", true, rfl, .ty "int", .base (.int i), ii, _, rfl, iteT ?_⟩
    refine ⟨_, rfl, V.int i, V.ty "bool", .type "int", .type "bool", false, rfl, .ty "bool", .base (.int i), ib, _, rfl, _, rfl, iteT ?_⟩
    refine ⟨_, rfl, _, _, rfl, rfl, _, rfl, ?_⟩
    refine ite2 (fun _ => ?_) (fun c => absurd (decide_eq_true i0) c)
    refine ⟨_, _, rfl, rfl, ?_⟩
    have e : decide (i ≤ (2147483647 : Int)) = true := decide_eq_true i1
    show Q (V.bl (decide (i ≤ 2147483647))) H
    rw [e]
    exact k
def spByte : Sp := fun vs H Q _ => ∃ i : Int, vs = [.int i] ∧ 0 ≤ i ∧ i ≤ 255 ∧ Q (.bl true) H
abbrev N_is_byte : List Str := ["value"]
theorem sc_is_byte : FnScope N_is_byte ["value"] (defScope s_is_byte) := ⟨rfl, rfl, rfl, by decide +kernel, rfl, by decide +kernel, by decide +kernel⟩
theorem ok_is_byte {f : Addr} {fd : FuncData} (T : Gl2 mg) (F : DefX K mg "is_byte" s_is_byte ["value"] f fd) : CalX P w K mg base 1 "is_byte" spByte := by
  refine calx F sc_is_byte (fun vs H Q E h => ?_) (fun cdv A outer s H vs Q E hr h => ?_)
  · obtain ⟨i, rfl, _⟩ := h
    rfl
  · obtain ⟨i, rfl, i0, i1, k⟩ := h
    refine ⟨_, (pss_one (ps_ret (pe_and (pe_callB call_isi (by rfl) T.n_isinstance Boot.«isinstance» (pa_cons (pv 0) (pa_cons (pe_bltn (v := .ty "int") (by rfl) T.n_int Boot.«int» rfl) pa_nil))) (pe_and (pe_not (pe_callB call_isi (by rfl) T.n_isinstance Boot.«isinstance» (pa_cons (pv 0) (pa_cons (pe_bltn (v := .ty "bool") (by rfl) T.n_bool Boot.«bool» rfl) pa_nil)))) (pe_one (pe_chain op_le op_le pe_int (pv 0) pe_int)))))), ?_⟩
    refine ⟨_, rfl, V.int i, V.ty "int", .type "int", .type "int", true, rfl, .ty "int", .base (.int i), ii, _, rfl, iteT ?_⟩
    refine ⟨_, rfl, V.int i, V.ty "bool", .type "int", .type "bool", false, rfl, .ty "bool", .base (.int i), ib, _, rfl, _, rfl, iteT ?_⟩
    refine ⟨_, rfl, _, _, rfl, rfl, _, rfl, ?_⟩
    refine ite2 (fun _ => ?_) (fun c => absurd (decide_eq_true i0) c)
    refine ⟨_, _, rfl, rfl, ?_⟩
    have e : decide (i ≤ (255 : Int)) = true := decide_eq_true i1
    show Q (V.bl (decide (i ≤ 255))) H
    rw [e]
    exact k
/-! ### is_string -/
def OkS (x : Str) : Prop := ∀ (i : Nat) c, x.cps[i]? = some c → decide ((⟨#[c]⟩ : Str).cps.toList < (" " : Str).cps.toList) = false ∧ decide (("~" : Str).cps.toList < (⟨#[c]⟩ : Str).cps.toList) = false ∧ (((⟨#[c]⟩ : Str).cps.getD 0 0 : Nat) : Int) ≠ 37
def spStr : Sp := fun vs H Q _ => ∃ x : Str, vs = [.str x] ∧ x.cps.size ≤ 1000 ∧ OkS x ∧ ∀ H', Same H H' → Q (.bl true) H'
abbrev N_is_string : List Str := ["value", "sign"]
theorem sc_is_string : FnScope N_is_string ["value"] (defScope s_is_string) := ⟨rfl, rfl, rfl, by decide +kernel, rfl, by decide +kernel, by decide +kernel⟩
theorem all_trues (n : Nat) : (List.replicate n true).all id = true := by
  induction n with
  | zero => rfl
  | succ n ih =>
    rw [List.replicate_succ, List.all_cons, ih]
    rfl
theorem ok_is_string {f : Addr} {fd : FuncData} (T : Gl2 mg) (F : DefX K mg "is_string" s_is_string ["value"] f fd) : CalX P w K mg base 1 "is_string" spStr := by
  refine calx F sc_is_string (fun vs H Q E h => ?_) (fun cdv A outer s H vs Q E hr h => ?_)
  · obtain ⟨i, rfl, _⟩ := h
    rfl
  · obtain ⟨x, rfl, hz, ok, k⟩ := h
    refine ⟨_, (pss_one (ps_ret (pe_and (pe_callB call_isi (by rfl) T.n_isinstance Boot.«isinstance» (pa_cons (pv 0) (pa_cons (pe_bltn (v := .ty "str") (by rfl) T.n_str Boot.«str» rfl) pa_nil))) (pe_one (pe_callB (cr_all rfl) (by rfl) T.n_all Boot.«all» (pa_cons (pe_lc (own := [("sign", 1)]) (g := gName 1) (tt := tYes) rfl sc_is_string.nd (pi_str (pv 0)) (blkOk_by (own := [("sign", 1)]) (N := N_is_string) (sc := defScope s_is_string) (by decide +kernel)) (fun _ _ _ _ _ => (pg_name (i := 1) sc_is_string.nd rfl (Or.inl rfl))) (fun _ _ _ _ _ => pts_nil) (fun _ _ _ _ _ => (pe_and (pe_chain op_le_str op_le_str pe_str (pv 1) pe_str) (pe_one (pe_cmpR op_ne (pe_callB call_ord (by rfl) T.n_ord Boot.«ord» (pa_cons (pv 1) pa_nil)) pe_int (nomark _)))))) pa_nil)))))), ?_⟩
    refine ⟨_, rfl, V.str x, V.ty "str", .type "str", .type "str", true, rfl, .ty "str", .base (.str x), ss, _, rfl, iteT ?_⟩
    refine ⟨_, rfl, x, rfl, fun D nD => lc_it walk_str (fun i H' => Same H H' ∧ H' D = some (.lst ((List.replicate i true).map V.bl))) ⟨Same.new nD, by rw [upd_same]; rfl⟩ (fun _ _ _ _ => trivial) ?_ ?_⟩
    · rintro i v H' H'' hi ⟨s2, hD⟩ ⟨rfl, c, hc, rfl⟩
      obtain ⟨o1, o2, o3⟩ := ok i c hc
      refine ⟨rfl, ?_⟩
      refine ⟨_, rfl, _, _, rfl, rfl, _, rfl, ?_⟩
      rw [o1]
      refine iteT ⟨_, _, rfl, rfl, ?_⟩
      rw [o2]
      refine ⟨_, rfl, iteT ?_⟩
      refine ⟨_, rfl, _, rfl, rfl, rfl, ?_⟩
      refine ⟨_, hD, ?_, ?_, ?_⟩
      · rw [List.length_map, List.length_replicate]
        exact Nat.lt_of_lt_of_le hi (Nat.le_trans hz (by decide))
      · exact Same.mut s2 nD
      · rw [upd_same, List.replicate_succ', List.map_append]
        have e : (!decide (V.int (((⟨#[c]⟩ : Str).cps.getD 0 0 : Nat) : Int) = V.int 37)) = true := by
          rw [decide_eq_false (fun z => o3 (by injection z))]
          rfl
        rw [e]
        rfl
    · rintro H' ⟨s2, hD⟩
      refine ⟨D, _, rfl, SqL.of hD, ?_⟩
      rw [all_trues]
      exact k H' s2
/-! ### are_bytes, are_strings, is_constant, are_constants -/
theorem two_cls : Paired ClsV [V.ty "list", V.ty "tuple"] [.type "list", .type "tuple"] := .cons (.ty "list") (.cons (.ty "tuple") .nil)
def spBytesOf : Sp := fun vs H Q _ => ∃ (a : Addr) (xs : List Int), vs = [.ref a] ∧ LorT H a (xs.map V.int) ∧ (∀ n ∈ xs, 0 ≤ n ∧ n ≤ 255) ∧ xs.length ≤ 100000 ∧ ∀ H', Same H H' → Q (.bl true) H'
abbrev N_are_bytes : List Str := ["value", "one"]
theorem sc_are_bytes : FnScope N_are_bytes ["value"] (defScope s_are_bytes) := ⟨rfl, rfl, rfl, by decide +kernel, rfl, by decide +kernel, by decide +kernel⟩
theorem ok_are_bytes {f : Addr} {fd : FuncData} (T : Gl2 mg) (c_is_byte : CalX P w K mg base 1 "is_byte" spByte) (F : DefX K mg "are_bytes" s_are_bytes ["value"] f fd) : CalX P w K mg base 2 "are_bytes" spBytesOf := by
  refine calx F sc_are_bytes (fun vs H Q E h => ?_) (fun cdv A outer s H vs Q E hr h => ?_)
  · obtain ⟨a, xs, rfl, _⟩ := h
    rfl
  · obtain ⟨a, xs, rfl, ha, hb, hz, k⟩ := h
    refine ⟨_, (pss_one (ps_ret (pe_and (pe_callB call_isiT (by rfl) T.n_isinstance Boot.«isinstance» (pa_cons (pv 0) (pa_cons (pe_tup (pa_cons (pe_bltn (v := .ty "list") (by rfl) T.n_list Boot.«list» rfl) (pa_cons (pe_bltn (v := .ty "tuple") (by rfl) T.n_tuple Boot.«tuple» rfl) pa_nil))) pa_nil))) (pe_one (pe_callB (cr_all rfl) (by rfl) T.n_all Boot.«all» (pa_cons (pe_lc (own := [("one", 1)]) (g := gName 1) (tt := tYes) rfl sc_are_bytes.nd (pi_seq (pv 0)) (blkOk_by (own := [("one", 1)]) (N := N_are_bytes) (sc := defScope s_are_bytes) (by decide +kernel)) (fun _ _ _ _ _ => (pg_name (i := 1) sc_are_bytes.nd rfl (Or.inl rfl))) (fun _ _ _ _ _ => pts_nil) (fun _ _ _ _ _ => (pe_cx c_is_byte hr (by decide) rfl (pa_cons (pv 1) pa_nil)))) pa_nil)))))), ?_⟩
    refine ⟨_, rfl, (by show 2 ≤ sizeLine; decide), ?_⟩
    walk_at "new1"
    have ha1 := ha.same s1
    obtain ⟨t, ty, kt⟩ := ha1.ty (K := K)
    refine ⟨V.ref a, p1, _, .type t, _, true, rfl, h1, two_cls, ty, kt, _, rfl, iteT ?_⟩
    refine ⟨_, rfl, a, rfl, lc_both (K := K) ha1.sq (fun D i H' => Same H1 H' ∧ H' D = some (.lst ((List.replicate i true).map V.bl))) (fun D nD => ⟨Same.new nD, by rw [upd_same]; rfl⟩) (fun D i H' _ _ p => p.1) ?_ ?_⟩
    · rintro D i x H' nD hi ⟨s2, hD⟩
      have hil : i < xs.length := by
        have := (List.getElem?_eq_some_iff.mp hi).1
        simpa using this
      have hacc : ((List.replicate i true).map V.bl).length < sizeLine := by
        rw [List.length_map, List.length_replicate]
        exact Nat.lt_of_lt_of_le hil (Nat.le_trans hz (by decide))
      have hup : upd H' D (.lst ((List.replicate i true).map V.bl ++ [.bl true])) D = some (.lst ((List.replicate (i + 1) true).map V.bl)) := by
        rw [upd_same, List.replicate_succ', List.map_append]
        rfl
      obtain ⟨z, hz', rfl⟩ : ∃ z, xs[i]? = some z ∧ x = V.int z := by
        rw [List.getElem?_map] at hi
        obtain ⟨z, e, q⟩ := Option.map_eq_some_iff.mp hi
        exact ⟨z, e, q.symm⟩
      obtain ⟨b0, b1⟩ := hb z (List.mem_of_getElem? hz')
      refine ⟨rfl, ?_⟩
      exact ⟨_, rfl, z, rfl, b0, b1, _, hD, hacc, Same.mut s2 nD, hup⟩
    · rintro D H' nD ⟨s2, hD⟩
      refine ⟨D, _, rfl, SqL.of hD, ?_⟩
      rw [all_trues]
      exact k H' (s1.trans s2)
def spStrs : Sp := fun vs H Q _ => ∃ (a : Addr) (xs : List Str), vs = [.ref a] ∧ LorT H a (xs.map V.str) ∧ (∀ x ∈ xs, x.cps.size ≤ 1000 ∧ OkS x) ∧ xs.length ≤ 100000 ∧ ∀ H', Same H H' → Q (.bl true) H'
abbrev N_are_strings : List Str := ["value", "one"]
theorem sc_are_strings : FnScope N_are_strings ["value"] (defScope s_are_strings) := ⟨rfl, rfl, rfl, by decide +kernel, rfl, by decide +kernel, by decide +kernel⟩
theorem ok_are_strings {f : Addr} {fd : FuncData} (T : Gl2 mg) (c_is_string : CalX P w K mg base 1 "is_string" spStr) (F : DefX K mg "are_strings" s_are_strings ["value"] f fd) : CalX P w K mg base 2 "are_strings" spStrs := by
  refine calx F sc_are_strings (fun vs H Q E h => ?_) (fun cdv A outer s H vs Q E hr h => ?_)
  · obtain ⟨a, xs, rfl, _⟩ := h
    rfl
  · obtain ⟨a, xs, rfl, ha, hb, hz, k⟩ := h
    refine ⟨_, (pss_one (ps_ret (pe_and (pe_callB call_isiT (by rfl) T.n_isinstance Boot.«isinstance» (pa_cons (pv 0) (pa_cons (pe_tup (pa_cons (pe_bltn (v := .ty "list") (by rfl) T.n_list Boot.«list» rfl) (pa_cons (pe_bltn (v := .ty "tuple") (by rfl) T.n_tuple Boot.«tuple» rfl) pa_nil))) pa_nil))) (pe_one (pe_callB (cr_all rfl) (by rfl) T.n_all Boot.«all» (pa_cons (pe_lc (own := [("one", 1)]) (g := gName 1) (tt := tYes) rfl sc_are_strings.nd (pi_seq (pv 0)) (blkOk_by (own := [("one", 1)]) (N := N_are_strings) (sc := defScope s_are_strings) (by decide +kernel)) (fun _ _ _ _ _ => (pg_name (i := 1) sc_are_strings.nd rfl (Or.inl rfl))) (fun _ _ _ _ _ => pts_nil) (fun _ _ _ _ _ => (pe_cx c_is_string hr (by decide) rfl (pa_cons (pv 1) pa_nil)))) pa_nil)))))), ?_⟩
    refine ⟨_, rfl, (by show 2 ≤ sizeLine; decide), ?_⟩
    walk_at "new1"
    have ha1 := ha.same s1
    obtain ⟨t, ty, kt⟩ := ha1.ty (K := K)
    refine ⟨V.ref a, p1, _, .type t, _, true, rfl, h1, two_cls, ty, kt, _, rfl, iteT ?_⟩
    refine ⟨_, rfl, a, rfl, lc_both (K := K) ha1.sq (fun D i H' => Same H1 H' ∧ H' D = some (.lst ((List.replicate i true).map V.bl))) (fun D nD => ⟨Same.new nD, by rw [upd_same]; rfl⟩) (fun D i H' _ _ p => p.1) ?_ ?_⟩
    · rintro D i x H' nD hi ⟨s2, hD⟩
      have hil : i < xs.length := by
        have := (List.getElem?_eq_some_iff.mp hi).1
        simpa using this
      have hacc : ((List.replicate i true).map V.bl).length < sizeLine := by
        rw [List.length_map, List.length_replicate]
        exact Nat.lt_of_lt_of_le hil (Nat.le_trans hz (by decide))
      have hup : upd H' D (.lst ((List.replicate i true).map V.bl ++ [.bl true])) D = some (.lst ((List.replicate (i + 1) true).map V.bl)) := by
        rw [upd_same, List.replicate_succ', List.map_append]
        rfl
      obtain ⟨z, hz', rfl⟩ : ∃ z, xs[i]? = some z ∧ x = V.str z := by
        rw [List.getElem?_map] at hi
        obtain ⟨z, e, q⟩ := Option.map_eq_some_iff.mp hi
        exact ⟨z, e, q.symm⟩
      obtain ⟨b0, b1⟩ := hb z (List.mem_of_getElem? hz')
      refine ⟨rfl, ?_⟩
      refine ⟨_, rfl, z, rfl, b0, b1, fun J sJ => ?_⟩
      refine ⟨_, sJ _ _ hD, hacc, Same.mut (s2.trans sJ) nD, ?_⟩
      rw [upd_same, List.replicate_succ', List.map_append]
      rfl
    · rintro D H' nD ⟨s2, hD⟩
      refine ⟨D, _, rfl, SqL.of hD, ?_⟩
      rw [all_trues]
      exact k H' (s1.trans s2)
/-- what may stand in a tuple of constants, d deep -/
inductive KIn (H : Hp) : Nat → V → Prop
  | non {d : Nat} : KIn H d .non
  | bl {d : Nat} (b : Bool) : KIn H d (.bl b)
  | int {d : Nat} (i : Int) : KIn H d (.int i)
  | str {d : Nat} (x : Str) (h1 : x.cps.size ≤ 1000) (h2 : OkS x) : KIn H d (.str x)
  | tup {d : Nat} {a : Addr} {xs : List V} (h : H a = some (.tup xs)) (hl : xs.length ≤ 100000) (hx : ∀ x ∈ xs, KIn H d x) : KIn H (d + 1) (.ref a)
theorem KIn.same {H H' : Hp} (s : Same H H') : ∀ {d : Nat} {x : V}, KIn H d x → KIn H' d x
  | _, _, .non => .non
  | _, _, .bl b => .bl b
  | _, _, .int i => .int i
  | _, _, .str x h1 h2 => .str x h1 h2
  | _, _, .tup h hl hx => .tup (s _ _ h) hl fun x m => KIn.same s (hx x m)
theorem KIn.up {H : Hp} : ∀ {d : Nat} {x : V}, KIn H d x → KIn H (d + 1) x
  | _, _, .non => .non
  | _, _, .bl b => .bl b
  | _, _, .int i => .int i
  | _, _, .str x h1 h2 => .str x h1 h2
  | _, _, .tup h hl hx => .tup h hl fun x m => KIn.up (hx x m)
/-- a Code among the constants, nested j -/
def KCode (Cc : Addr) (H : Hp) (x : V) (j : Int) : Prop := ∃ (a dx : Addr) (fs : List (Str × V)), x = .ref a ∧ H a = some (.ins Cc dx fs) ∧ fs.lookup ("nested" : Str) = some (.int j) ∧ 1 ≤ j ∧ j < 100
theorem KCode.same {Cc : Addr} {H H' : Hp} {x : V} {j : Int} (s : Same H H') (h : KCode Cc H x j) : KCode Cc H' x j := by
  obtain ⟨a, dx, fs, e, h, k⟩ := h
  exact ⟨a, dx, fs, e, s _ _ h, k⟩
def spConst (Cc : Addr) (d : Nat) : Sp := fun vs H Q _ => ∃ (x : V) (n : Int), vs = [x, .int n] ∧ 0 ≤ n ∧ n + d ≤ 100 ∧ (KIn H d x ∨ n = 0 ∧ ∃ j, KCode Cc H x j) ∧ ∀ H', Same H H' → Q (.bl true) H'
theorem ktt {K : PySem.W.Frag} : PySem.W.kitOne K (.type "tuple") (.type "tuple") = some true := kit_ty (by decide +kernel)
theorem knt {K : PySem.W.Frag} {t : String} (h : t ∈ ["NoneType", "bool", "int", "str"]) : PySem.W.kitOne K (.type t) (.type "tuple") = some false := by
  simp only [List.mem_cons, List.mem_nil_iff, or_false] at h
  rcases h with rfl | rfl | rfl | rfl <;> exact kit_ty (by decide +kernel)
theorem kbi {K : PySem.W.Frag} : PySem.W.kitOne K (.type "bool") (.type "int") = some true := kit_ty (by decide +kernel)
theorem ksi {K : PySem.W.Frag} : PySem.W.kitOne K (.type "str") (.type "int") = some false := kit_ty (by decide +kernel)
abbrev N_is_constant : List Str := ["value", "nested", "one"]
theorem sc_is_constant : FnScope N_is_constant ["value", "nested"] (defScope s_is_constant) := ⟨rfl, rfl, rfl, by decide +kernel, rfl, by decide +kernel, by decide +kernel⟩
section
variable {Cc Cn fI : Addr}
/-- what is asked of Code's own type besides -/
structure GlC (K : PySem.W.Frag) (Cc : Addr) : Prop where
  nt : PySem.W.kitOne K (.ref Cc) (.type "tuple") = some false
theorem const_zero {f : Addr} {fd : FuncData} (T : Gl2 mg) (G : GlK P K mg Cc Cn fI) (GC : GlC K Cc) (c_is_string : CalX P w K mg base 1 "is_string" spStr) (F : DefX K mg "is_constant" s_is_constant ["value", "nested"] f fd) : CalX P w K mg base 2 "is_constant" (spConst Cc 0) := by
  refine calx F sc_is_constant (fun vs H Q E h => ?_) (fun cdv A outer s H vs Q E hr h => ?_)
  · obtain ⟨x, n, rfl, _⟩ := h
    rfl
  · obtain ⟨x, n, rfl, n0, n1, hx, k⟩ := h
    refine ⟨_, (pss_cons (ps_if (pt_val (pe_callB call_isi (by rfl) T.n_isinstance Boot.«isinstance» (pa_cons (pv 0) (pa_cons (pe_bltn (v := .ty "tuple") (by rfl) T.n_tuple Boot.«tuple» rfl) pa_nil))))
      (pss_one ps_never)
      pss_nil)
    (pss_cons (ps_if (pt_val (pe_callB call_isi (by rfl) T.n_isinstance Boot.«isinstance» (pa_cons (pv 0) (pa_cons (C8.pe_gc rfl G.c_Code) pa_nil))))
      (pss_one (ps_ret (pe_and (pe_cmpR op_eq (pv 1) pe_int (nomark _)) (pe_one (pe_cmpR op_lt (pe_fld (pv 0) rfl) (C8.pe_gc rfl T.c_MOST_NESTED) (nomark _))))))
      pss_nil)
    (pss_one (ps_ret (pe_or (pe_cmpR op_isN (pv 0) pe_non (nomark _)) (pe_or (pe_callB call_isi (by rfl) T.n_isinstance Boot.«isinstance» (pa_cons (pv 0) (pa_cons (pe_bltn (v := .ty "int") (by rfl) T.n_int Boot.«int» rfl) pa_nil))) (pe_one (pe_cx c_is_string (hr.mono (Nat.succ_le_succ (Nat.zero_le _))) (Nat.le_refl _) rfl (pa_cons (pv 0) pa_nil))))))))), ?_⟩
    rcases hx with hx | ⟨rfl, j, a, dx, fs, rfl, ha, hl, j0, j1⟩
    rotate_left
    · have ty : TyX K H (.ref a) (.ref Cc) := .base (.ins ha G.ins.cl G.ins.ha G.ins.hn G.ins.htk G.ins.hm)
      refine ⟨_, rfl, V.ref a, V.ty "tuple", .ref Cc, .type "tuple", false, rfl, .ty "tuple", ty, GC.nt, _, rfl, iteF ?_⟩
      refine ⟨_, rfl, V.ref a, V.ref Cc, .ref Cc, .ref Cc, true, rfl, .own Cc, ty, G.ins.me, _, rfl, iteT ?_⟩
      refine ⟨_, rfl, rfl, _, rfl, iteT ?_⟩
      refine ⟨_, rfl, a, Cc, dx, fs, _, rfl, ha, G.ins.cl, G.na _ (by decide), hl, _, _, rfl, rfl, ?_⟩
      have e : decide (j < (100 : Int)) = true := decide_eq_true j1
      show Q (V.bl (decide (j < 100))) H
      rw [e]
      exact k _ (Same.refl _)
    cases hx with
    | non =>
      refine ⟨_, rfl, V.non, V.ty "tuple", .type "NoneType", .type "tuple", false, rfl, .ty "tuple", .base .non, knt (by simp), _, rfl, iteF ?_⟩
      refine ⟨_, rfl, V.non, V.ref Cc, .type "NoneType", .ref Cc, false, rfl, .own Cc, .base .non, G.no "NoneType" (by decide), _, rfl, iteF ?_⟩
      refine ⟨_, rfl, rfl, _, rfl, iteT ?_⟩
      exact k _ (Same.refl _)
    | bl b =>
      refine ⟨_, rfl, V.bl b, V.ty "tuple", .type "bool", .type "tuple", false, rfl, .ty "tuple", .base (.bl b), knt (by simp), _, rfl, iteF ?_⟩
      refine ⟨_, rfl, V.bl b, V.ref Cc, .type "bool", .ref Cc, false, rfl, .own Cc, .base (.bl b), G.no "bool" (by decide), _, rfl, iteF ?_⟩
      refine ⟨_, rfl, rfl, _, rfl, iteF ?_⟩
      refine ⟨_, rfl, V.bl b, V.ty "int", .type "bool", .type "int", true, rfl, .ty "int", .base (.bl b), kbi, _, rfl, iteT ?_⟩
      exact k _ (Same.refl _)
    | int i =>
      refine ⟨_, rfl, V.int i, V.ty "tuple", .type "int", .type "tuple", false, rfl, .ty "tuple", .base (.int i), knt (by simp), _, rfl, iteF ?_⟩
      refine ⟨_, rfl, V.int i, V.ref Cc, .type "int", .ref Cc, false, rfl, .own Cc, .base (.int i), G.no "int" (by decide), _, rfl, iteF ?_⟩
      refine ⟨_, rfl, rfl, _, rfl, iteF ?_⟩
      refine ⟨_, rfl, V.int i, V.ty "int", .type "int", .type "int", true, rfl, .ty "int", .base (.int i), ii, _, rfl, iteT ?_⟩
      exact k _ (Same.refl _)
    | str z h1 h2 =>
      refine ⟨_, rfl, V.str z, V.ty "tuple", .type "str", .type "tuple", false, rfl, .ty "tuple", .base (.str z), knt (by simp), _, rfl, iteF ?_⟩
      refine ⟨_, rfl, V.str z, V.ref Cc, .type "str", .ref Cc, false, rfl, .own Cc, .base (.str z), G.no "str" (by decide), _, rfl, iteF ?_⟩
      refine ⟨_, rfl, rfl, _, rfl, iteF ?_⟩
      refine ⟨_, rfl, V.str z, V.ty "int", .type "str", .type "int", false, rfl, .ty "int", .base (.str z), ksi, _, rfl, iteF ?_⟩
      exact ⟨_, rfl, z, rfl, h1, h2, fun J sJ => k J sJ⟩
theorem const_succ {f : Addr} {fd : FuncData} (d : Nat) (T : Gl2 mg) (G : GlK P K mg Cc Cn fI) (GC : GlC K Cc) (c_is_string : CalX P w K mg base 1 "is_string" spStr) (ih : CalX P w K mg base (d + 2) "is_constant" (spConst Cc d)) (F : DefX K mg "is_constant" s_is_constant ["value", "nested"] f fd) : CalX P w K mg base (d + 3) "is_constant" (spConst Cc (d + 1)) := by
  refine calx F sc_is_constant (fun vs H Q E h => ?_) (fun cdv A outer s H vs Q E hr h => ?_)
  · obtain ⟨x, n, rfl, _⟩ := h
    rfl
  · obtain ⟨x, n, rfl, n0, n1, hx, k⟩ := h
    refine ⟨_, (pss_cons (ps_if (pt_val (pe_callB call_isi (by rfl) T.n_isinstance Boot.«isinstance» (pa_cons (pv 0) (pa_cons (pe_bltn (v := .ty "tuple") (by rfl) T.n_tuple Boot.«tuple» rfl) pa_nil))))
      (pss_one (ps_ret (pe_and (pe_cmpR op_lt (pv 1) (C8.pe_gc rfl T.c_MOST_NESTED) (nomark _)) (pe_one (pe_callB (cr_all rfl) (by rfl) T.n_all Boot.«all» (pa_cons (pe_lc (own := [("one", 2)]) (g := gName 2) (tt := tYes) rfl sc_is_constant.nd (pi_tup (pv 0)) (blkOk_by (own := [("one", 2)]) (N := N_is_constant) (sc := defScope s_is_constant) (by decide +kernel)) (fun _ _ _ _ _ => (pg_name (i := 2) sc_is_constant.nd rfl (Or.inl rfl))) (fun _ _ _ _ _ => pts_nil) (fun _ _ _ _ _ => (pe_cx ih hr (Nat.le_refl _) rfl (pa_cons (pv 2) (pa_cons (pe_op op_add (pv 1) pe_int) pa_nil))))) pa_nil))))))
      pss_nil)
    (pss_cons (ps_if (pt_val (pe_callB call_isi (by rfl) T.n_isinstance Boot.«isinstance» (pa_cons (pv 0) (pa_cons (C8.pe_gc rfl G.c_Code) pa_nil))))
      (pss_one (ps_ret (pe_and (pe_cmpR op_eq (pv 1) pe_int (nomark _)) (pe_one (pe_cmpR op_lt (pe_fld (pv 0) rfl) (C8.pe_gc rfl T.c_MOST_NESTED) (nomark _))))))
      pss_nil)
    (pss_one (ps_ret (pe_or (pe_cmpR op_isN (pv 0) pe_non (nomark _)) (pe_or (pe_callB call_isi (by rfl) T.n_isinstance Boot.«isinstance» (pa_cons (pv 0) (pa_cons (pe_bltn (v := .ty "int") (by rfl) T.n_int Boot.«int» rfl) pa_nil))) (pe_one (pe_cx c_is_string (hr.mono (Nat.succ_le_succ (Nat.zero_le _))) (Nat.le_refl _) rfl (pa_cons (pv 0) pa_nil))))))))), ?_⟩
    rcases hx with hx | ⟨rfl, j, a, dx, fs, rfl, ha, hl, j0, j1⟩
    rotate_left
    · have ty : TyX K H (.ref a) (.ref Cc) := .base (.ins ha G.ins.cl G.ins.ha G.ins.hn G.ins.htk G.ins.hm)
      refine ⟨_, rfl, V.ref a, V.ty "tuple", .ref Cc, .type "tuple", false, rfl, .ty "tuple", ty, GC.nt, _, rfl, iteF ?_⟩
      refine ⟨_, rfl, V.ref a, V.ref Cc, .ref Cc, .ref Cc, true, rfl, .own Cc, ty, G.ins.me, _, rfl, iteT ?_⟩
      refine ⟨_, rfl, rfl, _, rfl, iteT ?_⟩
      refine ⟨_, rfl, a, Cc, dx, fs, _, rfl, ha, G.ins.cl, G.na _ (by decide), hl, _, _, rfl, rfl, ?_⟩
      have e : decide (j < (100 : Int)) = true := decide_eq_true j1
      show Q (V.bl (decide (j < 100))) H
      rw [e]
      exact k _ (Same.refl _)
    cases hx with
    | non =>
      refine ⟨_, rfl, V.non, V.ty "tuple", .type "NoneType", .type "tuple", false, rfl, .ty "tuple", .base .non, knt (by simp), _, rfl, iteF ?_⟩
      refine ⟨_, rfl, V.non, V.ref Cc, .type "NoneType", .ref Cc, false, rfl, .own Cc, .base .non, G.no "NoneType" (by decide), _, rfl, iteF ?_⟩
      refine ⟨_, rfl, rfl, _, rfl, iteT ?_⟩
      exact k _ (Same.refl _)
    | bl b =>
      refine ⟨_, rfl, V.bl b, V.ty "tuple", .type "bool", .type "tuple", false, rfl, .ty "tuple", .base (.bl b), knt (by simp), _, rfl, iteF ?_⟩
      refine ⟨_, rfl, V.bl b, V.ref Cc, .type "bool", .ref Cc, false, rfl, .own Cc, .base (.bl b), G.no "bool" (by decide), _, rfl, iteF ?_⟩
      refine ⟨_, rfl, rfl, _, rfl, iteF ?_⟩
      refine ⟨_, rfl, V.bl b, V.ty "int", .type "bool", .type "int", true, rfl, .ty "int", .base (.bl b), kbi, _, rfl, iteT ?_⟩
      exact k _ (Same.refl _)
    | int i =>
      refine ⟨_, rfl, V.int i, V.ty "tuple", .type "int", .type "tuple", false, rfl, .ty "tuple", .base (.int i), knt (by simp), _, rfl, iteF ?_⟩
      refine ⟨_, rfl, V.int i, V.ref Cc, .type "int", .ref Cc, false, rfl, .own Cc, .base (.int i), G.no "int" (by decide), _, rfl, iteF ?_⟩
      refine ⟨_, rfl, rfl, _, rfl, iteF ?_⟩
      refine ⟨_, rfl, V.int i, V.ty "int", .type "int", .type "int", true, rfl, .ty "int", .base (.int i), ii, _, rfl, iteT ?_⟩
      exact k _ (Same.refl _)
    | str z h1 h2 =>
      refine ⟨_, rfl, V.str z, V.ty "tuple", .type "str", .type "tuple", false, rfl, .ty "tuple", .base (.str z), knt (by simp), _, rfl, iteF ?_⟩
      refine ⟨_, rfl, V.str z, V.ref Cc, .type "str", .ref Cc, false, rfl, .own Cc, .base (.str z), G.no "str" (by decide), _, rfl, iteF ?_⟩
      refine ⟨_, rfl, rfl, _, rfl, iteF ?_⟩
      refine ⟨_, rfl, V.str z, V.ty "int", .type "str", .type "int", false, rfl, .ty "int", .base (.str z), ksi, _, rfl, iteF ?_⟩
      exact ⟨_, rfl, z, rfl, h1, h2, fun J sJ => k J sJ⟩
    | @tup _ a xs h hl hx =>
      refine ⟨_, rfl, V.ref a, V.ty "tuple", .type "tuple", .type "tuple", true, rfl, .ty "tuple", .base (.tup h), ktt, _, rfl, iteT ?_⟩
      refine ⟨_, rfl, _, _, rfl, rfl, _, rfl, ite2 (fun _ => ?_) (fun c => absurd (decide_eq_true (by omega)) c)⟩
      refine ⟨_, rfl, a, rfl, ⟨_, SqT.of h⟩, fun D nD => lc_tup (K := K) (a := a) (xs := xs) (fun i H' => Same H H' ∧ H' D = some (.lst ((List.replicate i true).map V.bl))) ⟨Same.new nD, by rw [upd_same]; rfl⟩ (fun i H' _ p => SqT.of (p.1 _ _ h)) ?_ ?_⟩
      · rintro i x H' hi ⟨s2, hD⟩
        have hil : i < xs.length := (List.getElem?_eq_some_iff.mp hi).1
        refine ⟨rfl, ?_⟩
        refine ⟨_, rfl, _, rfl, _, _, rfl, rfl, x, n + 1, rfl, by omega, by omega, .inl ((hx x (List.mem_of_getElem? hi)).same s2), fun J sJ => ?_⟩
        refine ⟨_, sJ _ _ hD, ?_, Same.mut (s2.trans sJ) nD, ?_⟩
        · rw [List.length_map, List.length_replicate]
          exact Nat.lt_of_lt_of_le hil (Nat.le_trans hl (by decide))
        · rw [upd_same, List.replicate_succ', List.map_append]
          rfl
      · rintro H' ⟨s2, hD⟩
        refine ⟨D, _, rfl, SqL.of hD, ?_⟩
        rw [all_trues]
        exact k H' s2
theorem ok_is_constant {f : Addr} {fd : FuncData} (T : Gl2 mg) (G : GlK P K mg Cc Cn fI) (GC : GlC K Cc) (c_is_string : CalX P w K mg base 1 "is_string" spStr) (F : DefX K mg "is_constant" s_is_constant ["value", "nested"] f fd) : ∀ d, CalX P w K mg base (d + 2) "is_constant" (spConst Cc d)
  | 0 => const_zero T G GC c_is_string F
  | d + 1 => const_succ d T G GC c_is_string (ok_is_constant T G GC c_is_string F d) F
def spConsts (Cc : Addr) (d : Nat) : Sp := fun vs H Q _ => ∃ (a : Addr) (xs : List V), vs = [.ref a] ∧ LorT H a xs ∧ (∀ x ∈ xs, KIn H d x ∨ ∃ j, KCode Cc H x j) ∧ xs.length ≤ 100000 ∧ ∀ H', Same H H' → Q (.bl true) H'
abbrev N_are_constants : List Str := ["value", "one"]
theorem sc_are_constants : FnScope N_are_constants ["value"] (defScope s_are_constants) := ⟨rfl, rfl, rfl, by decide +kernel, rfl, by decide +kernel, by decide +kernel⟩
theorem ok_are_constants {f : Addr} {fd : FuncData} (T : Gl2 mg) {d : Nat} (hd : d ≤ 100) (c_is_constant : CalX P w K mg base (d + 2) "is_constant" (spConst Cc d)) (F : DefX K mg "are_constants" s_are_constants ["value"] f fd) : CalX P w K mg base (d + 3) "are_constants" (spConsts Cc d) := by
  refine calx F sc_are_constants (fun vs H Q E h => ?_) (fun cdv A outer s H vs Q E hr h => ?_)
  · obtain ⟨a, xs, rfl, _⟩ := h
    rfl
  · obtain ⟨a, xs, rfl, ha, hb, hz, k⟩ := h
    refine ⟨_, (pss_one (ps_ret (pe_and (pe_callB call_isiT (by rfl) T.n_isinstance Boot.«isinstance» (pa_cons (pv 0) (pa_cons (pe_tup (pa_cons (pe_bltn (v := .ty "list") (by rfl) T.n_list Boot.«list» rfl) (pa_cons (pe_bltn (v := .ty "tuple") (by rfl) T.n_tuple Boot.«tuple» rfl) pa_nil))) pa_nil))) (pe_one (pe_callB (cr_all rfl) (by rfl) T.n_all Boot.«all» (pa_cons (pe_lc (own := [("one", 1)]) (g := gName 1) (tt := tYes) rfl sc_are_constants.nd (pi_seq (pv 0)) (blkOk_by (own := [("one", 1)]) (N := N_are_constants) (sc := defScope s_are_constants) (by decide +kernel)) (fun _ _ _ _ _ => (pg_name (i := 1) sc_are_constants.nd rfl (Or.inl rfl))) (fun _ _ _ _ _ => pts_nil) (fun _ _ _ _ _ => (pe_cx c_is_constant hr (Nat.le_refl _) rfl (pa_cons (pv 1) (pa_cons pe_int pa_nil))))) pa_nil)))))), ?_⟩
    refine ⟨_, rfl, (by show 2 ≤ sizeLine; decide), ?_⟩
    walk_at "new1"
    have ha1 := ha.same s1
    obtain ⟨t, ty, kt⟩ := ha1.ty (K := K)
    refine ⟨V.ref a, p1, _, .type t, _, true, rfl, h1, two_cls, ty, kt, _, rfl, iteT ?_⟩
    refine ⟨_, rfl, a, rfl, lc_both (K := K) ha1.sq (fun D i H' => Same H1 H' ∧ H' D = some (.lst ((List.replicate i true).map V.bl))) (fun D nD => ⟨Same.new nD, by rw [upd_same]; rfl⟩) (fun D i H' _ _ p => p.1) ?_ ?_⟩
    · rintro D i x H' nD hi ⟨s2, hD⟩
      have hil : i < xs.length := by
        have := (List.getElem?_eq_some_iff.mp hi).1
        simpa using this
      have hacc : ((List.replicate i true).map V.bl).length < sizeLine := by
        rw [List.length_map, List.length_replicate]
        exact Nat.lt_of_lt_of_le hil (Nat.le_trans hz (by decide))
      have hup : upd H' D (.lst ((List.replicate i true).map V.bl ++ [.bl true])) D = some (.lst ((List.replicate (i + 1) true).map V.bl)) := by
        rw [upd_same, List.replicate_succ', List.map_append]
        rfl
      refine ⟨rfl, ?_⟩
      refine ⟨_, rfl, x, 0, rfl, by decide, by omega, ?_, fun J sJ => ?_⟩
      · rcases hb x (List.mem_of_getElem? hi) with z | ⟨j, z⟩
        · exact .inl ((z.same s1).same s2)
        · exact .inr ⟨rfl, j, (z.same s1).same s2⟩
      refine ⟨_, sJ _ _ hD, hacc, Same.mut (s2.trans sJ) nD, ?_⟩
      rw [upd_same, List.replicate_succ', List.map_append]
      rfl
    · rintro D H' nD ⟨s2, hD⟩
      refine ⟨D, _, rfl, SqL.of hD, ?_⟩
      rw [all_trues]
      exact k H' (s1.trans s2)
end
end
end K52
set_option maxHeartbeats 4000000
set_option hygiene false in
local macro_rules | `(tactic| walk_at "fld") => `(tactic| (generalize eu : upd _ self (HO.ins _ _ _) = Hn; (have hs := (congrArg (fun z : Hp => z self = some _) eu).mp upd_same); (have B := (congrArg (But self H) eu).mp (But.upd B)); (have ln := fldlen hs ln); clear eu))
set_option hygiene false in
local macro_rules | `(tactic| walk_at "fld3") => `(tactic| (generalize eu : upd _ self (HO.ins _ _ _) = Hn; (have hs := (congrArg (fun z : Hp => z self = some _) eu).mp upd_same); (have B := (congrArg (But self H) eu).mp (But.upd B)); (have B3 := (congrArg (But self H3) eu).mp (But.upd B3)); (have ln := fldlen hs ln); clear eu))
set_option hygiene false in
local macro_rules | `(tactic| walk_at "new1") => `(tactic| (intro p1 n1; generalize e1 : upd _ p1 _ = H1; (have s1 := (congrArg (Same _) e1).mp (Same.new n1)); (have h1 := (congrArg (fun z : Hp => z p1 = some _) e1).mp upd_same); clear e1))
set_option hygiene false in
local macro_rules | `(tactic| walk_at "new2") => `(tactic| (intro p2 n2; generalize e2 : upd _ p2 _ = H2; (have s2 := (congrArg (Same _) e2).mp (Same.new n2)); (have h2 := (congrArg (fun z : Hp => z p2 = some _) e2).mp upd_same); clear e2))
set_option hygiene false in
local macro_rules | `(tactic| walk_at "new3") => `(tactic| (intro p3 n3; generalize e3 : upd _ p3 _ = H3; (have s3 := (congrArg (Same _) e3).mp (Same.new n3)); (have h3 := (congrArg (fun z : Hp => z p3 = some _) e3).mp upd_same); clear e3))
set_option hygiene false in
local macro_rules | `(tactic| walk_at "new4") => `(tactic| (intro p4 n4; generalize e4 : upd _ p4 _ = H4; (have s4 := (congrArg (Same _) e4).mp (Same.new n4)); (have h4 := (congrArg (fun z : Hp => z p4 = some _) e4).mp upd_same); clear e4))
set_option hygiene false in
local macro_rules | `(tactic| walk_at "new5") => `(tactic| (intro p5 n5; generalize e5 : upd _ p5 _ = H5; (have s5 := (congrArg (Same _) e5).mp (Same.new n5)); (have h5 := (congrArg (fun z : Hp => z p5 = some _) e5).mp upd_same); clear e5))
set_option hygiene false in
local macro_rules | `(tactic| walk_at "new6") => `(tactic| (intro p6 n6; generalize e6 : upd _ p6 _ = H6; (have s6 := (congrArg (Same _) e6).mp (Same.new n6)); (have h6 := (congrArg (fun z : Hp => z p6 = some _) e6).mp upd_same); clear e6))
set_option hygiene false in
local macro_rules | `(tactic| walk_at "new7") => `(tactic| (intro p7 n7; generalize e7 : upd _ p7 _ = H7; (have s7 := (congrArg (Same _) e7).mp (Same.new n7)); (have h7 := (congrArg (fun z : Hp => z p7 = some _) e7).mp upd_same); clear e7))
set_option hygiene false in
local macro_rules | `(tactic| walk_at "new8") => `(tactic| (intro p8 n8; generalize e8 : upd _ p8 _ = H8; (have s8 := (congrArg (Same _) e8).mp (Same.new n8)); (have h8 := (congrArg (fun z : Hp => z p8 = some _) e8).mp upd_same); clear e8))
set_option hygiene false in
local macro_rules | `(tactic| walk_at "new9") => `(tactic| (intro p9 n9; generalize e9 : upd _ p9 _ = H9; (have s9 := (congrArg (Same _) e9).mp (Same.new n9)); (have h9 := (congrArg (fun z : Hp => z p9 = some _) e9).mp upd_same); clear e9))
namespace K52
open PySem PySem.Spec PyProof.Rows L2 Nd
abbrev s_Code_init : Stmt := metOf (top 17) 0
abbrev s_Code_look : Stmt := metOf (top 17) 1
def isNum (v : V) : Prop := ∃ i : Int, v = .int i ∧ 0 ≤ i ∧ i ≤ 2147483647
def isTxt (v : V) : Prop := ∃ x : Str, v = .str x ∧ x.cps.size ≤ 1000 ∧ OkS x
def isByt (H : Hp) (v : V) : Prop := ∃ (a : Addr) (ns : List Int), v = .ref a ∧ LorT H a (ns.map V.int) ∧ (∀ n ∈ ns, 0 ≤ n ∧ n ≤ 255) ∧ ns.length ≤ 100000
theorem isByt.same {H H' : Hp} {v : V} (s : Same H H') (h : isByt H v) : isByt H' v := by
  obtain ⟨a, ns, e, h, k⟩ := h
  exact ⟨a, ns, e, h.same s, k⟩
/-- a constant of a Code -/
def KTop (Cc : Addr) (d : Nat) (H : Hp) (x : V) : Prop := KIn H d x ∨ ∃ j, KCode Cc H x j
theorem KTop.same {Cc : Addr} {d : Nat} {H H' : Hp} {x : V} (s : Same H H') (h : KTop Cc d H x) : KTop Cc d H' x := h.imp (KIn.same s) fun ⟨j, z⟩ => ⟨j, z.same s⟩
structure FsOk (Cc : Addr) (d : Nat) (H : Hp) (fs : List (Str × V)) : Prop where
  argcount : ∃ v, fs.lookup ("argcount" : Str) = some v ∧ isNum v
  onlycount : ∃ v, fs.lookup ("onlycount" : Str) = some v ∧ isNum v
  stacksize : ∃ v, fs.lookup ("stacksize" : Str) = some v ∧ isNum v
  flags : ∃ v, fs.lookup ("flags" : Str) = some v ∧ isNum v
  code : ∃ v, fs.lookup ("code" : Str) = some v ∧ isByt H v
  constants : ∃ v, fs.lookup ("constants" : Str) = some v ∧ ∃ (a : Addr) (xs : List V), v = .ref a ∧ LorT H a xs ∧ (∀ x ∈ xs, KTop Cc d H x) ∧ xs.length ≤ 100000
  names : ∃ v, fs.lookup ("names" : Str) = some v ∧ ∃ (a : Addr) (xs : List Str), v = .ref a ∧ LorT H a (xs.map V.str) ∧ (∀ x ∈ xs, x.cps.size ≤ 1000 ∧ OkS x) ∧ xs.length ≤ 100000
  slots : ∃ v u, fs.lookup ("slots" : Str) = some v ∧ fs.lookup ("kinds" : Str) = some u ∧ ∃ (a : Addr) (xs : List Str) (b : Addr) (ns : List Int), v = .ref a ∧ LorT H a (xs.map V.str) ∧ (∀ x ∈ xs, x.cps.size ≤ 1000 ∧ OkS x) ∧ xs.length ≤ 100000 ∧
    u = .ref b ∧ LorT H b (ns.map V.int) ∧ (∀ n ∈ ns, 0 ≤ n ∧ n ≤ 255) ∧ ns.length = xs.length
  name : ∃ v, fs.lookup ("name" : Str) = some v ∧ isTxt v
  path : ∃ v, fs.lookup ("path" : Str) = some v ∧ isTxt v
  line : ∃ v, fs.lookup ("line" : Str) = some v ∧ isNum v
  lines : ∃ v, fs.lookup ("lines" : Str) = some v ∧ isByt H v
  handlers : ∃ v, fs.lookup ("handlers" : Str) = some v ∧ isByt H v
def spLook (Cc : Addr) (d : Nat) : Sp := fun vs H Q _ => ∃ (self dx : Addr) (fs : List (Str × V)), vs = [.ref self] ∧ H self = some (.ins Cc dx fs) ∧ FsOk Cc d H fs ∧ ∀ H', Same H H' → Q .non H'
section
variable {P : Program} {w : World} {K : PySem.W.Frag} {mg : Str → Option Value} {base : Heap} {Cc Cn fI : Addr}
abbrev N_Code_look : List Str := ["self", "numbers", "found", "lasts", "field", "one"]
theorem sc_Code_look : FnScope N_Code_look ["self"] (defScope s_Code_look) := ⟨rfl, rfl, rfl, by decide +kernel, rfl, by decide +kernel, by decide +kernel⟩
theorem ok_Code_look {f : Addr} {fd : FuncData} (T : Gl0 mg) (G : GlK P K mg Cc Cn fI) (c_is_number : CalX P w K mg base 1 "is_number" spNum) (c_is_string : CalX P w K mg base 1 "is_string" spStr) (c_are_bytes : CalX P w K mg base 2 "are_bytes" spBytesOf)
    (c_are_strings : CalX P w K mg base 2 "are_strings" spStrs) {d : Nat} (c_are_constants : CalX P w K mg base (d + 3) "are_constants" (spConsts Cc d)) (F : MetX K "look" "Code.look" s_Code_look ["self"] f fd) : FnOk P w K mg base (L2.CX P w) (d + 4) f fd ["self"] (spLook Cc d) := by
  refine F.fn.ok sc_Code_look (fun vs H Q E h => ?_) (fun cdv A outer s H vs Q E hr h => ?_)
  · obtain ⟨x, dx, fs, rfl, _⟩ := h
    rfl
  · obtain ⟨self, dx, fs, rfl, hs, ok, k⟩ := h
    refine ⟨_, PSs.nox (pss_cons (ps_set (i := 1) sc_Code_look.nd rfl (.inl rfl) (pe_lst (pa_cons (pe_tup (pa_cons pe_str (pa_cons (pe_fld (pv 0) rfl) pa_nil))) (pa_cons (pe_tup (pa_cons pe_str (pa_cons (pe_fld (pv 0) rfl) pa_nil))) (pa_cons (pe_tup (pa_cons pe_str (pa_cons (pe_fld (pv 0) rfl) pa_nil))) pa_nil)))))
    (pss_cons (ps_setLc (i := 2) (y := "found") (own := [("field", 4), ("one", 5)]) (g := gTup K 2 (gCons (gName 4) (gCons (gName 5) gNil))) rfl sc_Code_look.nd rfl rfl (sw_true rfl rfl rfl (by decide +kernel)) (pi_list (pe_op op_cat (pv 1) (pe_lst (pa_cons (pe_tup (pa_cons pe_str (pa_cons (pe_fld (pv 0) rfl) pa_nil))) pa_nil)))) (blkOk_by (own := [("field", 4), ("one", 5)]) (N := N_Code_look) (sc := defScope s_Code_look) (by decide +kernel)) (fun _ _ _ _ _ => (pg_tup rfl (pgs_cons (pg_name (i := 4) sc_Code_look.nd rfl (Or.inl rfl)) (pgs_cons (pg_name (i := 5) sc_Code_look.nd rfl (Or.inl rfl)) pgs_nil)))) (fun _ _ _ _ _ => (pts_one (pt_not (pt_val (pe_cx c_is_number hr (by omega) rfl (pa_cons (pv 5) pa_nil)))))) (fun _ _ _ _ _ => (pv 4)))
    (pss_cons (ps_set (i := 2) sc_Code_look.nd rfl (.inl rfl) (pe_op op_cat (pv 2) (pe_op op_rep (pe_lst (pa_cons pe_str pa_nil)) (pe_callTy call_int1 (by rfl) T.n_int Boot.«int» (pa_cons (pe_not (pe_cx c_are_bytes hr (by omega) rfl (pa_cons (pe_fld (pv 0) rfl) pa_nil))) pa_nil)))))
    (pss_cons (ps_set (i := 2) sc_Code_look.nd rfl (.inl rfl) (pe_op op_cat (pv 2) (pe_op op_rep (pe_lst (pa_cons pe_str pa_nil)) (pe_callTy call_int1 (by rfl) T.n_int Boot.«int» (pa_cons (pe_not (pe_cx c_are_constants hr (by omega) rfl (pa_cons (pe_fld (pv 0) rfl) pa_nil))) pa_nil)))))
    (pss_cons (ps_set (i := 2) sc_Code_look.nd rfl (.inl rfl) (pe_op op_cat (pe_op op_cat (pv 2) (pe_op op_rep (pe_lst (pa_cons pe_str pa_nil)) (pe_callTy call_int1 (by rfl) T.n_int Boot.«int» (pa_cons (pe_not (pe_cx c_are_strings hr (by omega) rfl (pa_cons (pe_fld (pv 0) rfl) pa_nil))) pa_nil)))) (pe_op op_rep (pe_lst (pa_cons pe_str pa_nil)) (pe_callTy call_int1 (by rfl) T.n_int Boot.«int» (pa_cons (pe_not (pe_cx c_are_strings hr (by omega) rfl (pa_cons (pe_fld (pv 0) rfl) pa_nil))) pa_nil)))))
    (pss_cons (ps_if (PW.pt (pw_and (pt_cmpR (op_eqD hr.units) (pv 2) (pe_lst pa_nil) (nomark _)) (pw_and1 (PW.pt (pw_or (pt_not (pt_val (pe_cx c_are_bytes hr (by omega) rfl (pa_cons (pe_fld (pv 0) rfl) pa_nil)))) (pw_or1 (pt_cmpR op_ne (pe_callB call_len_seq (by rfl) T.n_len Boot.«len» (pa_cons (pe_fld (pv 0) rfl) pa_nil)) (pe_callB call_len_seq (by rfl) T.n_len Boot.«len» (pa_cons (pe_fld (pv 0) rfl) pa_nil)) (nomark _))))))))
      (pss_one (ps_set (i := 2) sc_Code_look.nd rfl (.inl rfl) (pe_lst (pa_cons pe_str pa_nil))))
      pss_nil)
    (pss_cons (ps_set (i := 2) sc_Code_look.nd rfl (.inl rfl) (pe_op op_cat (pv 2) (pe_lc (own := [("field", 4), ("one", 5)]) (g := gTup K 2 (gCons (gName 4) (gCons (gName 5) gNil))) rfl sc_Code_look.nd (pi_list (pe_lst (pa_cons (pe_tup (pa_cons pe_str (pa_cons (pe_fld (pv 0) rfl) pa_nil))) (pa_cons (pe_tup (pa_cons pe_str (pa_cons (pe_fld (pv 0) rfl) pa_nil))) pa_nil)))) (blkOk_by (own := [("field", 4), ("one", 5)]) (N := N_Code_look) (sc := defScope s_Code_look) (by decide +kernel)) (fun _ _ _ _ _ => (pg_tup rfl (pgs_cons (pg_name (i := 4) sc_Code_look.nd rfl (Or.inl rfl)) (pgs_cons (pg_name (i := 5) sc_Code_look.nd rfl (Or.inl rfl)) pgs_nil)))) (fun _ _ _ _ _ => (pts_one (pt_not (pt_val (pe_cx c_is_string hr (by omega) rfl (pa_cons (pv 5) pa_nil)))))) (fun _ _ _ _ _ => (pv 4)))))
    (pss_cons (ps_set (i := 2) sc_Code_look.nd rfl (.inl rfl) (pe_op op_cat (pv 2) (pe_op op_rep (pe_lst (pa_cons pe_str pa_nil)) (pe_callTy call_int1 (by rfl) T.n_int Boot.«int» (pa_cons (pe_not (pe_cx c_is_number hr (by omega) rfl (pa_cons (pe_fld (pv 0) rfl) pa_nil))) pa_nil)))))
    (pss_cons (ps_set (i := 3) sc_Code_look.nd rfl (.inl rfl) (pe_lst (pa_cons (pe_tup (pa_cons pe_str (pa_cons (pe_fld (pv 0) rfl) pa_nil))) (pa_cons (pe_tup (pa_cons pe_str (pa_cons (pe_fld (pv 0) rfl) pa_nil))) pa_nil))))
    (pss_cons (ps_set (i := 2) sc_Code_look.nd rfl (.inl rfl) (pe_op op_cat (pv 2) (pe_lc (own := [("field", 4), ("one", 5)]) (g := gTup K 2 (gCons (gName 4) (gCons (gName 5) gNil))) rfl sc_Code_look.nd (pi_list (pv 3)) (blkOk_by (own := [("field", 4), ("one", 5)]) (N := N_Code_look) (sc := defScope s_Code_look) (by decide +kernel)) (fun _ _ _ _ _ => (pg_tup rfl (pgs_cons (pg_name (i := 4) sc_Code_look.nd rfl (Or.inl rfl)) (pgs_cons (pg_name (i := 5) sc_Code_look.nd rfl (Or.inl rfl)) pgs_nil)))) (fun _ _ _ _ _ => (pts_one (pt_not (pt_val (pe_cx c_are_bytes hr (by omega) rfl (pa_cons (pv 5) pa_nil)))))) (fun _ _ _ _ _ => (pv 4)))))
    (pss_one (ps_if (pt_cmpR (op_neD hr.units) (pv 2) (pe_lst pa_nil) (nomark _))
      (pss_one ps_never)
      pss_nil)))))))))))), ?_⟩
    have cl := G.ins.cl
    have na : ∀ f ∈ flds, NoAttr K Cc f := G.na
    have S : Same H H := Same.refl H
    obtain ⟨v1, l1, w1⟩ := ok.argcount
    obtain ⟨v2, l2, w2⟩ := ok.onlycount
    obtain ⟨v3, l3, w3⟩ := ok.stacksize
    obtain ⟨v4, l4, w4⟩ := ok.flags
    obtain ⟨v5, l5, a5, b5, rfl, w5⟩ := ok.code
    obtain ⟨v6, l6, a6, b6, rfl, w6⟩ := ok.constants
    obtain ⟨v7, l7, a7, b7, rfl, w7⟩ := ok.names
    obtain ⟨v8, v9, l8, l9, a8, b8, a9, b9, rfl, w8, w8b, w8c, rfl, w9, w9b, w89⟩ := ok.slots
    obtain ⟨v10, l10, w10⟩ := ok.name
    obtain ⟨v11, l11, w11⟩ := ok.path
    obtain ⟨v12, l12, x12, rfl, w12⟩ := ok.line
    obtain ⟨v13, l13, w13⟩ := ok.lines
    obtain ⟨v14, l14, w14⟩ := ok.handlers
    -- numbers
    refine ⟨_, rfl, self, Cc, dx, fs, v1, rfl, S _ _ hs, cl, na _ (by decide), l1, (by show 2 ≤ sizeLine; decide), ?_⟩
    walk_at "new1"
    have S := S.trans s1
    refine ⟨_, rfl, self, Cc, dx, fs, v2, rfl, S _ _ hs, cl, na _ (by decide), l2, (by show 2 ≤ sizeLine; decide), ?_⟩
    walk_at "new2"
    have S := S.trans s2
    refine ⟨_, rfl, self, Cc, dx, fs, v3, rfl, S _ _ hs, cl, na _ (by decide), l3, (by show 2 ≤ sizeLine; decide), ?_⟩
    walk_at "new3"
    have S := S.trans s3
    refine ⟨(by show 3 ≤ sizeLine; decide), ?_⟩
    walk_at "new4"
    have S := S.trans s4
    -- found
    refine ⟨_, rfl, _, rfl, self, Cc, dx, fs, v4, rfl, S _ _ hs, cl, na _ (by decide), l4, (by show 2 ≤ sizeLine; decide), ?_⟩
    walk_at "new5"
    have S := S.trans s5
    refine ⟨(by show 1 ≤ sizeLine; decide), ?_⟩
    walk_at "new6"
    have S := S.trans s6
    refine ⟨p4, p6, _, _, rfl, rfl, (s5.trans s6) _ _ h4, h6, (by show 4 ≤ sizeLine; decide), ?_⟩
    walk_at "new7"
    have S := S.trans s7
    have hx : ∀ x, x ∈ [V.ref p1, .ref p2, .ref p3, .ref p5] → ∃ p s v, x = .ref p ∧ H7 p = some (.tup [.str s, v]) ∧ isNum v := by
      intro x hx
      simp at hx
      rcases hx with rfl | rfl | rfl | rfl
      · exact ⟨p1, _, v1, rfl, (((((s2.trans s3).trans s4).trans s5).trans s6).trans s7) _ _ h1, w1⟩
      · exact ⟨p2, _, v2, rfl, ((((s3.trans s4).trans s5).trans s6).trans s7) _ _ h2, w2⟩
      · exact ⟨p3, _, v3, rfl, (((s4.trans s5).trans s6).trans s7) _ _ h3, w3⟩
      · exact ⟨p5, _, v4, rfl, (s6.trans s7) _ _ h5, w4⟩
    refine ⟨p7, rfl, ⟨_, SqL.of h7⟩, fun D nD => lc_list (K := K) (a := p7) (xs := [.ref p1, .ref p2, .ref p3, .ref p5]) (fun i H' => Same H7 H' ∧ H' D = some (.lst [])) ⟨Same.new nD, by rw [upd_same]⟩
      (fun i H' _ p => p.1.seq (SqL.of h7)) ?_ ?_⟩
    · rintro i x H' hi ⟨t, hD⟩
      obtain ⟨p, s, v, rfl, hp, n, rfl, n0, n1⟩ := hx x (List.mem_of_getElem? hi)
      refine ⟨p, _, rfl, SqT.of (t _ _ hp), rfl, _, _, rfl, _, _, rfl, rfl, ?_⟩
      exact ⟨rfl, _, rfl, n, rfl, n0, n1, _, rfl, iteF ⟨t, hD⟩⟩
    rintro J ⟨t, hf⟩
    have S := S.trans t
    clear hx
    -- code
    refine ⟨_, rfl, (by show 1 ≤ sizeLine; decide), ?_⟩
    walk_at "new1"
    have S := S.trans s1
    have hf := s1 _ _ hf
    refine ⟨_, rfl, self, Cc, dx, fs, _, rfl, S _ _ hs, cl, na _ (by decide), l5, a5, b5, rfl, w5.1.same S, w5.2.1, w5.2.2, fun J t => ?_⟩
    have S := S.trans t
    have hf := t _ _ hf
    have h1 := t _ _ h1
    refine ⟨_, rfl, .inr ⟨_, rfl, p1, _, _, rfl, rfl, h1, by decide, by decide, (by show 0 ≤ sizeLine; decide), ?_⟩⟩
    walk_at "new2"
    have S := S.trans s2
    have hf := s2 _ _ hf
    refine ⟨_, p2, _, _, rfl, rfl, hf, h2, (by show 0 ≤ sizeLine; decide), ?_⟩
    walk_at "new3"
    have S := S.trans s3
    replace hf : H3 p3 = some (.lst []) := h3
    -- constants
    refine ⟨_, rfl, (by show 1 ≤ sizeLine; decide), ?_⟩
    walk_at "new1"
    have S := S.trans s1
    have hf := s1 _ _ hf
    refine ⟨_, rfl, self, Cc, dx, fs, _, rfl, S _ _ hs, cl, na _ (by decide), l6, a6, b6, rfl, w6.1.same S, (fun x hx => (w6.2.1 x hx).same S), w6.2.2, fun J t => ?_⟩
    have S := S.trans t
    have hf := t _ _ hf
    have h1 := t _ _ h1
    refine ⟨_, rfl, .inr ⟨_, rfl, p1, _, _, rfl, rfl, h1, by decide, by decide, (by show 0 ≤ sizeLine; decide), ?_⟩⟩
    walk_at "new2"
    have S := S.trans s2
    have hf := s2 _ _ hf
    refine ⟨_, p2, _, _, rfl, rfl, hf, h2, (by show 0 ≤ sizeLine; decide), ?_⟩
    walk_at "new3"
    have S := S.trans s3
    replace hf : H3 p3 = some (.lst []) := h3
    -- names, slots
    refine ⟨_, rfl, (by show 1 ≤ sizeLine; decide), ?_⟩
    walk_at "new1"
    have S := S.trans s1
    have hf := s1 _ _ hf
    refine ⟨_, rfl, self, Cc, dx, fs, _, rfl, S _ _ hs, cl, na _ (by decide), l7, a7, b7, rfl, w7.1.same S, w7.2.1, w7.2.2, fun J t => ?_⟩
    have S := S.trans t
    have hf := t _ _ hf
    have h1 := t _ _ h1
    refine ⟨_, rfl, .inr ⟨_, rfl, p1, _, _, rfl, rfl, h1, by decide, by decide, (by show 0 ≤ sizeLine; decide), ?_⟩⟩
    walk_at "new2"
    have S := S.trans s2
    have hf := s2 _ _ hf
    refine ⟨_, p2, _, _, rfl, rfl, hf, h2, (by show 0 ≤ sizeLine; decide), ?_⟩
    walk_at "new3"
    have S := S.trans s3
    replace hf : H3 p3 = some (.lst []) := h3
    refine ⟨(by show 1 ≤ sizeLine; decide), ?_⟩
    walk_at "new1"
    have S := S.trans s1
    have hf := s1 _ _ hf
    refine ⟨_, rfl, self, Cc, dx, fs, _, rfl, S _ _ hs, cl, na _ (by decide), l8, a8, b8, rfl, w8.same S, w8b, w8c, fun J t => ?_⟩
    have S := S.trans t
    have hf := t _ _ hf
    have h1 := t _ _ h1
    refine ⟨_, rfl, .inr ⟨_, rfl, p1, _, _, rfl, rfl, h1, by decide, by decide, (by show 0 ≤ sizeLine; decide), ?_⟩⟩
    walk_at "new2"
    have S := S.trans s2
    have hf := s2 _ _ hf
    refine ⟨_, p2, _, _, rfl, rfl, hf, h2, (by show 0 ≤ sizeLine; decide), ?_⟩
    walk_at "new3"
    have S := S.trans s3
    replace hf : H3 p3 = some (.lst []) := h3
    -- kinds
    refine ⟨_, rfl, (by show 0 ≤ sizeLine; decide), ?_⟩
    walk_at "new1"
    have S := S.trans s1
    have hf := s1 _ _ hf
    refine ⟨_, _, Dp.lst (SqL.of hf) .nil, Dp.lst (SqL.of h1) .nil, rfl, rfl, _, rfl, ?_⟩
    refine ite2 (fun _ => ?_) (fun c => absurd rfl c)
    refine ⟨_, rfl, self, Cc, dx, fs, _, rfl, S _ _ hs, cl, na _ (by decide), l9, a9, b9, rfl, w9.same S, w9b, (by rw [w89]; exact w8c), fun J t => ?_⟩
    have S := S.trans t
    have hf := t _ _ hf
    refine ⟨_, rfl, iteF ?_⟩
    refine ⟨_, rfl, self, Cc, dx, fs, _, rfl, S _ _ hs, cl, na _ (by decide), l9, a9, _, rfl, (w9.same S).sq, _, rfl, self, Cc, dx, fs, _, rfl, S _ _ hs, cl, na _ (by decide), l8, a8, _, rfl, (w8.same S).sq, rfl, _, rfl, ?_⟩
    refine ite2 (fun c => absurd c (by rw [List.length_map, List.length_map, w89]; simp)) (fun _ => ?_)
    -- name, path
    refine ⟨_, rfl, ?_⟩
    refine ⟨_, rfl, self, Cc, dx, fs, v10, rfl, S _ _ hs, cl, na _ (by decide), l10, (by show 2 ≤ sizeLine; decide), ?_⟩
    walk_at "new1"
    have S := S.trans s1
    have hf := s1 _ _ hf
    refine ⟨_, rfl, self, Cc, dx, fs, v11, rfl, S _ _ hs, cl, na _ (by decide), l11, (by show 2 ≤ sizeLine; decide), ?_⟩
    walk_at "new2"
    have S := S.trans s2
    have hf := s2 _ _ hf
    refine ⟨(by show 2 ≤ sizeLine; decide), ?_⟩
    walk_at "new3"
    have S := S.trans s3
    have hf := s3 _ _ hf
    have hx : ∀ x, x ∈ [V.ref p1, .ref p2] → ∃ p s v, x = .ref p ∧ H3 p = some (.tup [.str s, v]) ∧ isTxt v := by
      intro x hx
      simp at hx
      rcases hx with rfl | rfl
      · exact ⟨p1, _, v10, rfl, (s2.trans s3) _ _ h1, w10⟩
      · exact ⟨p2, _, v11, rfl, s3 _ _ h2, w11⟩
    refine ⟨p3, rfl, ⟨_, SqL.of h3⟩, fun D nD => lc_list (K := K) (a := p3) (xs := [.ref p1, .ref p2]) (fun i H' => Same H3 H' ∧ H' D = some (.lst [])) ⟨Same.new nD, by rw [upd_same]⟩
      (fun i H' _ p => p.1.seq (SqL.of h3)) ?_ ?_⟩
    · rintro i x H' hi ⟨t, hD⟩
      obtain ⟨p, s, v, rfl, hp, n, rfl, n0, n1⟩ := hx x (List.mem_of_getElem? hi)
      refine ⟨p, _, rfl, SqT.of (t _ _ hp), rfl, _, _, rfl, _, _, rfl, rfl, ?_⟩
      exact ⟨rfl, _, rfl, n, rfl, n0, n1, fun J' t' => ⟨_, rfl, iteF ⟨t.trans t', t' _ _ hD⟩⟩⟩
    rintro J ⟨t, hD⟩
    have S := S.trans t
    have hf := t _ _ hf
    refine ⟨_, D, _, _, rfl, rfl, hf, hD, (by show 0 ≤ sizeLine; decide), ?_⟩
    walk_at "new4"
    have S := S.trans s4
    replace hf : H4 p4 = some (.lst []) := h4
    clear hx
    -- line
    refine ⟨_, rfl, (by show 1 ≤ sizeLine; decide), ?_⟩
    walk_at "new1"
    have S := S.trans s1
    have hf := s1 _ _ hf
    refine ⟨_, rfl, self, Cc, dx, fs, _, rfl, S _ _ hs, cl, na _ (by decide), l12, x12, rfl, w12.1, w12.2, ?_⟩
    refine ⟨_, rfl, .inr ⟨_, rfl, p1, _, _, rfl, rfl, h1, by decide, by decide, (by show 0 ≤ sizeLine; decide), ?_⟩⟩
    walk_at "new2"
    have S := S.trans s2
    have hf := s2 _ _ hf
    refine ⟨_, p2, _, _, rfl, rfl, hf, h2, (by show 0 ≤ sizeLine; decide), ?_⟩
    walk_at "new3"
    have S := S.trans s3
    replace hf : H3 p3 = some (.lst []) := h3
    -- lasts
    refine ⟨_, rfl, self, Cc, dx, fs, v13, rfl, S _ _ hs, cl, na _ (by decide), l13, (by show 2 ≤ sizeLine; decide), ?_⟩
    walk_at "new5"
    have S := S.trans s5
    have hf := s5 _ _ hf
    refine ⟨_, rfl, self, Cc, dx, fs, v14, rfl, S _ _ hs, cl, na _ (by decide), l14, (by show 2 ≤ sizeLine; decide), ?_⟩
    walk_at "new6"
    have S := S.trans s6
    have hf := s6 _ _ hf
    refine ⟨(by show 2 ≤ sizeLine; decide), ?_⟩
    walk_at "new7"
    have S := S.trans s7
    have hf := s7 _ _ hf
    have hx : ∀ x, x ∈ [V.ref p5, .ref p6] → ∃ p s v, x = .ref p ∧ H7 p = some (.tup [.str s, v]) ∧ isByt H7 v := by
      intro x hx
      simp at hx
      rcases hx with rfl | rfl
      · exact ⟨p5, _, v13, rfl, (s6.trans s7) _ _ h5, w13.same S⟩
      · exact ⟨p6, _, v14, rfl, s7 _ _ h6, w14.same S⟩
    refine ⟨_, rfl, _, rfl, p7, rfl, ⟨_, SqL.of h7⟩, fun D nD => lc_list (K := K) (a := p7) (xs := [.ref p5, .ref p6]) (fun i H' => Same H7 H' ∧ H' D = some (.lst [])) ⟨Same.new nD, by rw [upd_same]⟩
      (fun i H' _ p => p.1.seq (SqL.of h7)) ?_ ?_⟩
    · rintro i x H' hi ⟨t, hD⟩
      obtain ⟨p, s, v, rfl, hp, a, ns, rfl, m0, m1, m2⟩ := hx x (List.mem_of_getElem? hi)
      refine ⟨p, _, rfl, SqT.of (t _ _ hp), rfl, _, _, rfl, _, _, rfl, rfl, ?_⟩
      exact ⟨rfl, _, rfl, a, ns, rfl, m0.same t, m1, m2, fun J' t' => ⟨_, rfl, iteF ⟨t.trans t', t' _ _ hD⟩⟩⟩
    rintro J ⟨t, hD⟩
    have S := S.trans t
    have hf := t _ _ hf
    refine ⟨_, D, _, _, rfl, rfl, hf, hD, (by show 0 ≤ sizeLine; decide), ?_⟩
    walk_at "new4"
    have S := S.trans s4
    replace hf : H4 p4 = some (.lst []) := h4
    clear hx
    -- the end
    refine ⟨_, rfl, (by show 0 ≤ sizeLine; decide), ?_⟩
    walk_at "new1"
    have S := S.trans s1
    have hf := s1 _ _ hf
    refine ⟨_, _, Dp.lst (SqL.of hf) .nil, Dp.lst (SqL.of h1) .nil, rfl, rfl, _, rfl, ?_⟩
    refine ite2 (fun c => absurd c (by decide)) (fun _ => ?_)
    exact k _ S
end
end K52
set_option maxHeartbeats 4000000
set_option hygiene false in
local macro_rules | `(tactic| walk_at "fld") => `(tactic| (generalize eu : upd _ self (HO.ins _ _ _) = Hn; (have hs := (congrArg (fun z : Hp => z self = some _) eu).mp upd_same); (have B := (congrArg (But self H) eu).mp (But.upd B)); (have ln := fldlen hs ln); clear eu))
set_option hygiene false in
local macro_rules | `(tactic| walk_at "fld3") => `(tactic| (generalize eu : upd _ self (HO.ins _ _ _) = Hn; (have hs := (congrArg (fun z : Hp => z self = some _) eu).mp upd_same); (have B := (congrArg (But self H) eu).mp (But.upd B)); (have B3 := (congrArg (But self H3) eu).mp (But.upd B3)); (have ln := fldlen hs ln); clear eu))
set_option hygiene false in
local macro_rules | `(tactic| walk_at "new1") => `(tactic| (intro p1 n1; generalize e1 : upd _ p1 _ = H1; (have s1 := (congrArg (Same _) e1).mp (Same.new n1)); (have h1 := (congrArg (fun z : Hp => z p1 = some _) e1).mp upd_same); clear e1))
set_option hygiene false in
local macro_rules | `(tactic| walk_at "new2") => `(tactic| (intro p2 n2; generalize e2 : upd _ p2 _ = H2; (have s2 := (congrArg (Same _) e2).mp (Same.new n2)); (have h2 := (congrArg (fun z : Hp => z p2 = some _) e2).mp upd_same); clear e2))
set_option hygiene false in
local macro_rules | `(tactic| walk_at "new3") => `(tactic| (intro p3 n3; generalize e3 : upd _ p3 _ = H3; (have s3 := (congrArg (Same _) e3).mp (Same.new n3)); (have h3 := (congrArg (fun z : Hp => z p3 = some _) e3).mp upd_same); clear e3))
set_option hygiene false in
local macro_rules | `(tactic| walk_at "new4") => `(tactic| (intro p4 n4; generalize e4 : upd _ p4 _ = H4; (have s4 := (congrArg (Same _) e4).mp (Same.new n4)); (have h4 := (congrArg (fun z : Hp => z p4 = some _) e4).mp upd_same); clear e4))
set_option hygiene false in
local macro_rules | `(tactic| walk_at "new5") => `(tactic| (intro p5 n5; generalize e5 : upd _ p5 _ = H5; (have s5 := (congrArg (Same _) e5).mp (Same.new n5)); (have h5 := (congrArg (fun z : Hp => z p5 = some _) e5).mp upd_same); clear e5))
set_option hygiene false in
local macro_rules | `(tactic| walk_at "new6") => `(tactic| (intro p6 n6; generalize e6 : upd _ p6 _ = H6; (have s6 := (congrArg (Same _) e6).mp (Same.new n6)); (have h6 := (congrArg (fun z : Hp => z p6 = some _) e6).mp upd_same); clear e6))
set_option hygiene false in
local macro_rules | `(tactic| walk_at "new7") => `(tactic| (intro p7 n7; generalize e7 : upd _ p7 _ = H7; (have s7 := (congrArg (Same _) e7).mp (Same.new n7)); (have h7 := (congrArg (fun z : Hp => z p7 = some _) e7).mp upd_same); clear e7))
set_option hygiene false in
local macro_rules | `(tactic| walk_at "new8") => `(tactic| (intro p8 n8; generalize e8 : upd _ p8 _ = H8; (have s8 := (congrArg (Same _) e8).mp (Same.new n8)); (have h8 := (congrArg (fun z : Hp => z p8 = some _) e8).mp upd_same); clear e8))
set_option hygiene false in
local macro_rules | `(tactic| walk_at "new9") => `(tactic| (intro p9 n9; generalize e9 : upd _ p9 _ = H9; (have s9 := (congrArg (Same _) e9).mp (Same.new n9)); (have h9 := (congrArg (fun z : Hp => z p9 = some _) e9).mp upd_same); clear e9))
namespace K52
open PySem PySem.Spec PyProof.Rows L2 Nd
/-- what a Code is made of -/
structure CD where
  i1 : Int
  i2 : Int
  i3 : Int
  i4 : Int
  code : List Int
  consts : List V
  names : List Str
  slots : List Str
  kinds : List Int
  name : Str
  path : Str
  line : Int
  lines : List Int
  handlers : List Int
def isBts (ns : List Int) : Prop := (∀ n ∈ ns, 0 ≤ n ∧ n ≤ 255) ∧ ns.length ≤ 100000
def isStrs (xs : List Str) : Prop := (∀ x ∈ xs, x.cps.size ≤ 1000 ∧ OkS x) ∧ xs.length ≤ 100000
structure CdOk (Cc : Addr) (d : Nat) (H : Hp) (D : CD) : Prop where
  n1 : isNum (.int D.i1)
  n2 : isNum (.int D.i2)
  n3 : isNum (.int D.i3)
  n4 : isNum (.int D.i4)
  code : isBts D.code
  consts : ∀ x ∈ D.consts, KTop Cc d H x
  clen : D.consts.length ≤ 100000
  names : isStrs D.names
  slots : isStrs D.slots
  kinds : isBts D.kinds
  klen : D.kinds.length = D.slots.length
  name : isTxt (.str D.name)
  path : isTxt (.str D.path)
  line : isNum (.int D.line)
  lines : isBts D.lines
  handlers : isBts D.handlers
/-- how deep Codes stand in it -/
def NestOk (Cc : Addr) (H : Hp) (xs : List V) (m : Int) : Prop := (∀ x ∈ xs, ∀ j, KCode Cc H x j → j + 1 ≤ m) ∧ (m = 1 ∨ ∃ x ∈ xs, ∃ j, KCode Cc H x j ∧ m = j + 1)
def CodeAt (Cc : Addr) (H : Hp) (c : Addr) (D : CD) (m : Int) : Prop := ∃ (dx : Addr) (fs : List (Str × V)), H c = some (.ins Cc dx fs) ∧ fs.lookup ("argcount" : Str) = some (.int D.i1) ∧ fs.lookup ("onlycount" : Str) = some (.int D.i2) ∧ fs.lookup ("stacksize" : Str) = some (.int D.i3) ∧
  fs.lookup ("flags" : Str) = some (.int D.i4) ∧ (∃ t, fs.lookup ("code" : Str) = some (.ref t) ∧ H t = some (.tup (D.code.map V.int))) ∧ (∃ t, fs.lookup ("constants" : Str) = some (.ref t) ∧ H t = some (.tup D.consts)) ∧ (∃ t, fs.lookup ("names" : Str) = some (.ref t) ∧ H t = some (.tup (D.names.map V.str))) ∧
  (∃ t, fs.lookup ("slots" : Str) = some (.ref t) ∧ H t = some (.tup (D.slots.map V.str))) ∧ (∃ t, fs.lookup ("kinds" : Str) = some (.ref t) ∧ H t = some (.tup (D.kinds.map V.int))) ∧ fs.lookup ("name" : Str) = some (.str D.name) ∧ fs.lookup ("path" : Str) = some (.str D.path) ∧
  fs.lookup ("line" : Str) = some (.int D.line) ∧ (∃ t, fs.lookup ("lines" : Str) = some (.ref t) ∧ H t = some (.tup (D.lines.map V.int))) ∧ (∃ t, fs.lookup ("handlers" : Str) = some (.ref t) ∧ H t = some (.tup (D.handlers.map V.int))) ∧ fs.lookup ("nested" : Str) = some (.int m) ∧ fs.lookup ("fields" : Str) = none
theorem CodeAt.same {Cc : Addr} {H H' : Hp} {c : Addr} {D : CD} {m : Int} (s : Same H H') (h : CodeAt Cc H c D m) : CodeAt Cc H' c D m := by
  obtain ⟨dx, fs, h0, h1, h2, h3, h4, ⟨t5, h5, g5⟩, ⟨t6, h6, g6⟩, ⟨t7, h7, g7⟩, ⟨t8, h8, g8⟩, ⟨t9, h9, g9⟩, h10, h11, h12, ⟨t13, h13, g13⟩, ⟨t14, h14, g14⟩, h15⟩ := h
  exact ⟨dx, fs, s _ _ h0, h1, h2, h3, h4, ⟨t5, h5, s _ _ g5⟩, ⟨t6, h6, s _ _ g6⟩, ⟨t7, h7, s _ _ g7⟩, ⟨t8, h8, s _ _ g8⟩, ⟨t9, h9, s _ _ g9⟩, h10, h11, h12, ⟨t13, h13, s _ _ g13⟩, ⟨t14, h14, s _ _ g14⟩, h15⟩
theorem KIn.but {H H' : Hp} {self C dx : Addr} {fs : List (Str × V)} (hs : H self = some (.ins C dx fs)) (b : But self H H') : ∀ {d : Nat} {x : V}, KIn H d x → KIn H' d x
  | _, _, .non => .non
  | _, _, .bl b => .bl b
  | _, _, .int i => .int i
  | _, _, .str x h1 h2 => .str x h1 h2
  | _, _, .tup h hl hx => .tup (b _ _ (fun z => by rw [z, hs] at h; cases h) h) hl fun x m => KIn.but hs b (hx x m)
theorem KCode.but {Cc : Addr} {H H' : Hp} {self dx : Addr} {x : V} {j : Int} (hs : H self = some (.ins Cc dx [])) (b : But self H H') (h : KCode Cc H x j) : KCode Cc H' x j := by
  obtain ⟨a, dx', fs, e, h, l, k⟩ := h
  refine ⟨a, dx', fs, e, b _ _ (fun z => ?_) h, l, k⟩
  rw [z, hs] at h
  injection h with h
  injection h with _ _ h
  subst h
  cases l
theorem KTop.but {Cc : Addr} {d : Nat} {H H' : Hp} {self dx : Addr} {x : V} (hs : H self = some (.ins Cc dx [])) (b : But self H H') (h : KTop Cc d H x) : KTop Cc d H' x := h.imp (KIn.but hs b) fun ⟨j, z⟩ => ⟨j, z.but hs b⟩
theorem KCode.one {Cc : Addr} {H H' : Hp} {x : V} {i j : Int} (s : ∀ a o, H a = some o → x = .ref a → H' a = some o) (h : KCode Cc H x i) (g : KCode Cc H' x j) : i = j := by
  obtain ⟨a, dx, fs, e, h, l, _⟩ := h
  obtain ⟨a', dx', fs', e', h', l', _⟩ := g
  rw [e] at e'
  cases e'
  rw [s _ _ h e] at h'
  injection h' with h'
  injection h' with _ _ h'
  subst h'
  rw [l] at l'
  injection l' with l'
  injection l'
theorem KIn.odd {K : PySem.W.Frag} {H : Hp} : ∀ {d : Nat} {x : V}, KIn H d x → Odd K H x
  | _, _, .non => ⟨"NoneType", by decide, .base .non⟩
  | _, _, .bl b => ⟨"bool", by decide, .base (.bl b)⟩
  | _, _, .int i => ⟨"int", by decide, .base (.int i)⟩
  | _, _, .str x _ _ => ⟨"str", by decide, .base (.str x)⟩
  | _, _, .tup h _ _ => ⟨"tuple", by decide, .base (.tup h)⟩
theorem KIn.noCode {Cc : Addr} {H : Hp} : ∀ {d : Nat} {x : V} {j : Int}, KIn H d x → ¬ KCode Cc H x j
  | _, _, _, .non, ⟨_, _, _, e, _⟩ => by cases e
  | _, _, _, .bl b, ⟨_, _, _, e, _⟩ => by cases e
  | _, _, _, .int i, ⟨_, _, _, e, _⟩ => by cases e
  | _, _, _, .str x _ _, ⟨_, _, _, e, _⟩ => by cases e
  | _, _, _, .tup h _ _, ⟨_, _, _, e, h', _⟩ => by
    cases e
    rw [h] at h'
    cases h'
theorem fsok_of {Cc : Addr} {d : Nat} {H : Hp} {self C dx : Addr} {fs : List (Str × V)} (_ : H self = some (.ins C dx fs)) (h : FsOk Cc d H fs) : FsOk Cc d H fs := h
def spInit (Cc : Addr) (d : Nat) : Sp := fun vs H Q _ => ∃ (self dx c k1 k2 k3 k4 l h : Addr) (D : CD),
  vs = [.ref self, .int D.i1, .int D.i2, .int D.i3, .int D.i4, .ref c, .ref k1, .ref k2, .ref k3, .ref k4, .str D.name, .str D.path, .int D.line, .ref l, .ref h] ∧ H self = some (.ins Cc dx []) ∧ CdOk Cc d H D ∧
  LorT H c (D.code.map V.int) ∧ LorT H k1 D.consts ∧ LorT H k2 (D.names.map V.str) ∧ LorT H k3 (D.slots.map V.str) ∧ LorT H k4 (D.kinds.map V.int) ∧ LorT H l (D.lines.map V.int) ∧ LorT H h (D.handlers.map V.int) ∧
  ∀ H' m, But self H H' → NestOk Cc H D.consts m → CodeAt Cc H' self D m → Q .non H'
structure Gl3 (mg : Str → Option Value) : Prop where
  n_max : mg "max" = none
section
variable {P : Program} {w : World} {K : PySem.W.Frag} {mg : Str → Option Value} {base : Heap} {Cc Cn fI : Addr}
abbrev N_Code_init : List Str := ["self", "argcount", "onlycount", "stacksize", "flags", "code", "constants", "names", "slots", "kinds", "name", "path", "line", "lines", "handlers", "one"]
theorem sc_Code_init : FnScope N_Code_init ["self", "argcount", "onlycount", "stacksize", "flags", "code", "constants", "names", "slots", "kinds", "name", "path", "line", "lines", "handlers"] (defScope s_Code_init) := ⟨rfl, rfl, rfl, by decide +kernel, rfl, by decide +kernel, by decide +kernel⟩
theorem ok_Code_init {f fL : Addr} {fd fdL : FuncData} (T0 : Gl0 mg) (T : Gl2 mg) (T3 : Gl3 mg) (G : GlK P K mg Cc Cn fI) (ML : Meth K Cc "look" fL) {d : Nat} (FL : FnOk P w K mg base (L2.CX P w) (d + 4) fL fdL ["self"] (spLook Cc d)) (BL : Binds K fdL ["self"] [])
    (F : MetX K "__init__" "Code.__init__" s_Code_init ["self", "argcount", "onlycount", "stacksize", "flags", "code", "constants", "names", "slots", "kinds", "name", "path", "line", "lines", "handlers"] f fd) :
    FnOk P w K mg base (L2.CX P w) (d + 5) f fd ["self", "argcount", "onlycount", "stacksize", "flags", "code", "constants", "names", "slots", "kinds", "name", "path", "line", "lines", "handlers"] (spInit Cc d) := by
  refine F.fn.ok sc_Code_init (fun vs H Q E h => ?_) (fun cdv A outer s H vs Q E hr h => ?_)
  · obtain ⟨self, dx, c, k1, k2, k3, k4, l, h, D, rfl, _⟩ := h
    rfl
  · obtain ⟨self, dx, c, k1, k2, k3, k4, l, h, D, rfl, hs, ok, hc, e1, e2, e3, e4, hl, hh, k⟩ := h
    have hs0 := hs
    refine ⟨_, PSs.nox (pss_cons (ps_fld (pv 0) (pv 1) rfl)
    (pss_cons (ps_fld (pv 0) (pv 2) rfl)
    (pss_cons (ps_fld (pv 0) (pv 3) rfl)
    (pss_cons (ps_fld (pv 0) (pv 4) rfl)
    (pss_cons (ps_fld (pv 0) (pv 5) rfl)
    (pss_cons (ps_fld (pv 0) (pv 6) rfl)
    (pss_cons (ps_fld (pv 0) (pv 7) rfl)
    (pss_cons (ps_fld (pv 0) (pv 8) rfl)
    (pss_cons (ps_fld (pv 0) (pv 9) rfl)
    (pss_cons (ps_fld (pv 0) (pv 10) rfl)
    (pss_cons (ps_fld (pv 0) (pv 11) rfl)
    (pss_cons (ps_fld (pv 0) (pv 12) rfl)
    (pss_cons (ps_fld (pv 0) (pv 13) rfl)
    (pss_cons (ps_fld (pv 0) (pv 14) rfl)
    (pss_cons (ps_expr (pe_meth0 (pv 0) G.ins.cl ML FL (hr.mono (by omega)) BL .nil passL))
    (pss_cons (ps_fld (pv 0) (pe_callTy call_tupleB (by rfl) T.n_tuple Boot.«tuple» (pa_cons (pv 6) pa_nil)) rfl)
    (pss_cons (ps_fld (pv 0) (pe_callTy call_tupleB (by rfl) T.n_tuple Boot.«tuple» (pa_cons (pv 7) pa_nil)) rfl)
    (pss_cons (ps_fld (pv 0) (pe_callTy call_tupleB (by rfl) T.n_tuple Boot.«tuple» (pa_cons (pv 8) pa_nil)) rfl)
    (pss_cons (ps_asg (pe_tup (pa_cons (pe_callTy call_tupleB (by rfl) T.n_tuple Boot.«tuple» (pa_cons (pv 5) pa_nil)) (pa_cons (pe_callTy call_tupleB (by rfl) T.n_tuple Boot.«tuple» (pa_cons (pv 9) pa_nil)) pa_nil))) (pg_tup (by rfl) (pgs_cons (pg_fld (pv 0)) (pgs_cons (pg_fld (pv 0)) pgs_nil))))
    (pss_cons (ps_asg (pe_tup (pa_cons (pe_callTy call_tupleB (by rfl) T.n_tuple Boot.«tuple» (pa_cons (pv 13) pa_nil)) (pa_cons (pe_callTy call_tupleB (by rfl) T.n_tuple Boot.«tuple» (pa_cons (pv 14) pa_nil)) pa_nil))) (pg_tup (by rfl) (pgs_cons (pg_fld (pv 0)) (pgs_cons (pg_fld (pv 0)) pgs_nil))))
    (pss_one (ps_fld (pv 0) (pe_op op_add pe_int (pe_callB (cr_max rfl) (by rfl) T3.n_max Boot.«max» (pa_cons (pe_op op_cat (pe_lst (pa_cons pe_int pa_nil)) (pe_lc (own := [("one", 15)]) (g := gName 15) (tt := tB (tCB (rIsi K) (tCons (tVar 15) (tCons (tC (V.ref Cc)) tNil)))) (te := tFld K (tVar 15) "nested") rfl sc_Code_init.nd (pi_seq (pv 6)) (blkOk_by (own := [("one", 15)]) (N := N_Code_init) (sc := defScope s_Code_init) (by decide +kernel)) (fun _ _ _ _ _ => (pg_name (i := 15) sc_Code_init.nd rfl (Or.inl rfl))) (fun _ _ _ _ _ => (pts_one (pt_val (pe_callB call_isi (by rfl) G.n_isinstance Boot.«isinstance» (pa_cons (pv 15) (pa_cons (C8.pe_gc rfl G.c_Code) pa_nil)))))) (fun _ _ _ _ _ => (pe_fld (pv 15) rfl)))) pa_nil))) rfl)))))))))))))))))))))), ?_⟩
    have cl := G.ins.cl
    have na : ∀ f ∈ flds, NoAttr K Cc f := G.na
    have B : But self H H := But.refl
    have ln : Sm 0 ([] : List (Str × V)) := Nat.le_refl _
    have nlst : ∀ {a : Addr} {xs : List V}, LorT H a xs → a ≠ self := fun {a xs} e z => by
      rcases e with e | e <;> (rw [z, hs0] at e; cases e)
    have keep : ∀ {H' : Hp} {a : Addr} {xs : List V}, But self H H' → LorT H a xs → LorT H' a xs := fun b e => e.imp (b _ _ (nlst e)) (b _ _ (nlst e))
    refine ⟨_, rfl, _, rfl, self, Cc, dx, _, rfl, hs, cl, na _ (by decide), Nat.lt_of_le_of_lt ln (by decide), ?_⟩
    walk_at "fld"
    refine ⟨_, rfl, _, rfl, self, Cc, dx, _, rfl, hs, cl, na _ (by decide), Nat.lt_of_le_of_lt ln (by decide), ?_⟩
    walk_at "fld"
    refine ⟨_, rfl, _, rfl, self, Cc, dx, _, rfl, hs, cl, na _ (by decide), Nat.lt_of_le_of_lt ln (by decide), ?_⟩
    walk_at "fld"
    refine ⟨_, rfl, _, rfl, self, Cc, dx, _, rfl, hs, cl, na _ (by decide), Nat.lt_of_le_of_lt ln (by decide), ?_⟩
    walk_at "fld"
    refine ⟨_, rfl, _, rfl, self, Cc, dx, _, rfl, hs, cl, na _ (by decide), Nat.lt_of_le_of_lt ln (by decide), ?_⟩
    walk_at "fld"
    refine ⟨_, rfl, _, rfl, self, Cc, dx, _, rfl, hs, cl, na _ (by decide), Nat.lt_of_le_of_lt ln (by decide), ?_⟩
    walk_at "fld"
    refine ⟨_, rfl, _, rfl, self, Cc, dx, _, rfl, hs, cl, na _ (by decide), Nat.lt_of_le_of_lt ln (by decide), ?_⟩
    walk_at "fld"
    refine ⟨_, rfl, _, rfl, self, Cc, dx, _, rfl, hs, cl, na _ (by decide), Nat.lt_of_le_of_lt ln (by decide), ?_⟩
    walk_at "fld"
    refine ⟨_, rfl, _, rfl, self, Cc, dx, _, rfl, hs, cl, na _ (by decide), Nat.lt_of_le_of_lt ln (by decide), ?_⟩
    walk_at "fld"
    refine ⟨_, rfl, _, rfl, self, Cc, dx, _, rfl, hs, cl, na _ (by decide), Nat.lt_of_le_of_lt ln (by decide), ?_⟩
    walk_at "fld"
    refine ⟨_, rfl, _, rfl, self, Cc, dx, _, rfl, hs, cl, na _ (by decide), Nat.lt_of_le_of_lt ln (by decide), ?_⟩
    walk_at "fld"
    refine ⟨_, rfl, _, rfl, self, Cc, dx, _, rfl, hs, cl, na _ (by decide), Nat.lt_of_le_of_lt ln (by decide), ?_⟩
    walk_at "fld"
    refine ⟨_, rfl, _, rfl, self, Cc, dx, _, rfl, hs, cl, na _ (by decide), Nat.lt_of_le_of_lt ln (by decide), ?_⟩
    walk_at "fld"
    refine ⟨_, rfl, _, rfl, self, Cc, dx, _, rfl, hs, cl, na _ (by decide), Nat.lt_of_le_of_lt ln (by decide), ?_⟩
    walk_at "fld"
    have okf := fsok_of hs ⟨
      ⟨_, (look_miss (by decide +kernel) (look_miss (by decide +kernel) (look_miss (by decide +kernel) (look_miss (by decide +kernel) (look_miss (by decide +kernel) (look_miss (by decide +kernel) (look_miss (by decide +kernel) (look_miss (by decide +kernel) (look_miss (by decide +kernel) (look_miss (by decide +kernel) (look_miss (by decide +kernel) (look_miss (by decide +kernel) (look_miss (by decide +kernel) look_hit))))))))))))), ok.n1⟩,
      ⟨_, (look_miss (by decide +kernel) (look_miss (by decide +kernel) (look_miss (by decide +kernel) (look_miss (by decide +kernel) (look_miss (by decide +kernel) (look_miss (by decide +kernel) (look_miss (by decide +kernel) (look_miss (by decide +kernel) (look_miss (by decide +kernel) (look_miss (by decide +kernel) (look_miss (by decide +kernel) (look_miss (by decide +kernel) look_hit)))))))))))), ok.n2⟩,
      ⟨_, (look_miss (by decide +kernel) (look_miss (by decide +kernel) (look_miss (by decide +kernel) (look_miss (by decide +kernel) (look_miss (by decide +kernel) (look_miss (by decide +kernel) (look_miss (by decide +kernel) (look_miss (by decide +kernel) (look_miss (by decide +kernel) (look_miss (by decide +kernel) (look_miss (by decide +kernel) look_hit))))))))))), ok.n3⟩,
      ⟨_, (look_miss (by decide +kernel) (look_miss (by decide +kernel) (look_miss (by decide +kernel) (look_miss (by decide +kernel) (look_miss (by decide +kernel) (look_miss (by decide +kernel) (look_miss (by decide +kernel) (look_miss (by decide +kernel) (look_miss (by decide +kernel) (look_miss (by decide +kernel) look_hit)))))))))), ok.n4⟩,
      ⟨_, (look_miss (by decide +kernel) (look_miss (by decide +kernel) (look_miss (by decide +kernel) (look_miss (by decide +kernel) (look_miss (by decide +kernel) (look_miss (by decide +kernel) (look_miss (by decide +kernel) (look_miss (by decide +kernel) (look_miss (by decide +kernel) look_hit))))))))), c, D.code, rfl, keep B hc, ok.code.1, ok.code.2⟩,
      ⟨_, (look_miss (by decide +kernel) (look_miss (by decide +kernel) (look_miss (by decide +kernel) (look_miss (by decide +kernel) (look_miss (by decide +kernel) (look_miss (by decide +kernel) (look_miss (by decide +kernel) (look_miss (by decide +kernel) look_hit)))))))), k1, D.consts, rfl, keep B e1, (fun x hx => (ok.consts x hx).but hs0 B), ok.clen⟩,
      ⟨_, (look_miss (by decide +kernel) (look_miss (by decide +kernel) (look_miss (by decide +kernel) (look_miss (by decide +kernel) (look_miss (by decide +kernel) (look_miss (by decide +kernel) (look_miss (by decide +kernel) look_hit))))))), k2, D.names, rfl, keep B e2, ok.names.1, ok.names.2⟩,
      ⟨_, _, (look_miss (by decide +kernel) (look_miss (by decide +kernel) (look_miss (by decide +kernel) (look_miss (by decide +kernel) (look_miss (by decide +kernel) (look_miss (by decide +kernel) look_hit)))))), (look_miss (by decide +kernel) (look_miss (by decide +kernel) (look_miss (by decide +kernel) (look_miss (by decide +kernel) (look_miss (by decide +kernel) look_hit))))), k3, D.slots, k4, D.kinds, rfl, keep B e3, ok.slots.1, ok.slots.2, rfl, keep B e4, ok.kinds.1, ok.klen⟩,
      ⟨_, (look_miss (by decide +kernel) (look_miss (by decide +kernel) (look_miss (by decide +kernel) (look_miss (by decide +kernel) look_hit)))), ok.name⟩,
      ⟨_, (look_miss (by decide +kernel) (look_miss (by decide +kernel) (look_miss (by decide +kernel) look_hit))), ok.path⟩,
      ⟨_, (look_miss (by decide +kernel) (look_miss (by decide +kernel) look_hit)), ok.line⟩,
      ⟨_, (look_miss (by decide +kernel) look_hit), l, D.lines, rfl, keep B hl, ok.lines.1, ok.lines.2⟩,
      ⟨_, look_hit, h, D.handlers, rfl, keep B hh, ok.handlers.1, ok.handlers.2⟩⟩
    refine ⟨_, rfl, self, dx, _, rfl, hs, look_miss (by decide +kernel) (look_miss (by decide +kernel) (look_miss (by decide +kernel) (look_miss (by decide +kernel) (look_miss (by decide +kernel) (look_miss (by decide +kernel) (look_miss (by decide +kernel) (look_miss (by decide +kernel) (look_miss (by decide +kernel) (look_miss (by decide +kernel) (look_miss (by decide +kernel) (look_miss (by decide +kernel) (look_miss (by decide +kernel) (look_miss (by decide +kernel) (rfl)))))))))))))), self, dx, _, rfl, hs, okf, fun J S => ?_⟩
    replace hs := S _ _ hs
    replace B := B.trans (But.of S)
    clear okf S
    -- the tuples
    obtain ⟨F0, hs, ln, kp⟩ : ∃ F0, J self = some (.ins Cc dx F0) ∧ Sm 14 F0 ∧ (F0.lookup ("argcount" : Str) = some (V.int D.i1) ∧ F0.lookup ("onlycount" : Str) = some (V.int D.i2) ∧ F0.lookup ("stacksize" : Str) = some (V.int D.i3) ∧ F0.lookup ("flags" : Str) = some (V.int D.i4) ∧
        F0.lookup ("name" : Str) = some (V.str D.name) ∧ F0.lookup ("path" : Str) = some (V.str D.path) ∧ F0.lookup ("line" : Str) = some (V.int D.line) ∧ F0.lookup ("fields" : Str) = none) :=
      ⟨_, hs, ln, (look_miss (by decide +kernel) (look_miss (by decide +kernel) (look_miss (by decide +kernel) (look_miss (by decide +kernel) (look_miss (by decide +kernel) (look_miss (by decide +kernel) (look_miss (by decide +kernel) (look_miss (by decide +kernel) (look_miss (by decide +kernel) (look_miss (by decide +kernel) (look_miss (by decide +kernel) (look_miss (by decide +kernel) (look_miss (by decide +kernel) look_hit))))))))))))), (look_miss (by decide +kernel) (look_miss (by decide +kernel) (look_miss (by decide +kernel) (look_miss (by decide +kernel) (look_miss (by decide +kernel) (look_miss (by decide +kernel) (look_miss (by decide +kernel) (look_miss (by decide +kernel) (look_miss (by decide +kernel) (look_miss (by decide +kernel) (look_miss (by decide +kernel) (look_miss (by decide +kernel) look_hit)))))))))))), (look_miss (by decide +kernel) (look_miss (by decide +kernel) (look_miss (by decide +kernel) (look_miss (by decide +kernel) (look_miss (by decide +kernel) (look_miss (by decide +kernel) (look_miss (by decide +kernel) (look_miss (by decide +kernel) (look_miss (by decide +kernel) (look_miss (by decide +kernel) (look_miss (by decide +kernel) look_hit))))))))))), (look_miss (by decide +kernel) (look_miss (by decide +kernel) (look_miss (by decide +kernel) (look_miss (by decide +kernel) (look_miss (by decide +kernel) (look_miss (by decide +kernel) (look_miss (by decide +kernel) (look_miss (by decide +kernel) (look_miss (by decide +kernel) (look_miss (by decide +kernel) look_hit)))))))))), (look_miss (by decide +kernel) (look_miss (by decide +kernel) (look_miss (by decide +kernel) (look_miss (by decide +kernel) look_hit)))), (look_miss (by decide +kernel) (look_miss (by decide +kernel) (look_miss (by decide +kernel) look_hit))), (look_miss (by decide +kernel) (look_miss (by decide +kernel) look_hit)), (look_miss (by decide +kernel) (look_miss (by decide +kernel) (look_miss (by decide +kernel) (look_miss (by decide +kernel) (look_miss (by decide +kernel) (look_miss (by decide +kernel) (look_miss (by decide +kernel) (look_miss (by decide +kernel) (look_miss (by decide +kernel) (look_miss (by decide +kernel) (look_miss (by decide +kernel) (look_miss (by decide +kernel) (look_miss (by decide +kernel) (look_miss (by decide +kernel) rfl))))))))))))))⟩
    obtain ⟨kp1, kp2, kp3, kp4, kp5, kp6, kp7, kp8⟩ := kp
    refine ⟨_, rfl, _, _, rfl, keep B e1, fun t1 J1 s1 h1 q1 => ?_⟩
    replace hs := s1 _ _ hs
    replace B := B.trans (But.of s1)
    have z1 : t1 ≠ self := fun z => by
      rw [z, hs] at h1
      cases h1
    refine ⟨_, rfl, self, Cc, dx, _, rfl, hs, cl, na _ (by decide), Nat.lt_of_le_of_lt ln (by decide), ?_⟩
    generalize eu : upd _ self (HO.ins _ _ _) = Hn
    replace hs := (congrArg (fun z : Hp => z self = some _) eu).mp upd_same
    replace B := (congrArg (But self H) eu).mp (But.upd B)
    have bu : But self _ Hn := (congrArg (But self _) eu).mp (But.upd But.refl)
    have ln := fldlen hs ln
    replace h1 := bu _ _ z1 h1
    clear eu bu
    refine ⟨_, rfl, _, _, rfl, keep B e2, fun t2 J2 s2 h2 q2 => ?_⟩
    replace hs := s2 _ _ hs
    replace B := B.trans (But.of s2)
    have z2 : t2 ≠ self := fun z => by
      rw [z, hs] at h2
      cases h2
    replace h1 := s2 _ _ h1
    refine ⟨_, rfl, self, Cc, dx, _, rfl, hs, cl, na _ (by decide), Nat.lt_of_le_of_lt ln (by decide), ?_⟩
    generalize eu : upd _ self (HO.ins _ _ _) = Hn
    replace hs := (congrArg (fun z : Hp => z self = some _) eu).mp upd_same
    replace B := (congrArg (But self H) eu).mp (But.upd B)
    have bu : But self _ Hn := (congrArg (But self _) eu).mp (But.upd But.refl)
    have ln := fldlen hs ln
    replace h1 := bu _ _ z1 h1
    replace h2 := bu _ _ z2 h2
    clear eu bu
    refine ⟨_, rfl, _, _, rfl, keep B e3, fun t3 J3 s3 h3 q3 => ?_⟩
    replace hs := s3 _ _ hs
    replace B := B.trans (But.of s3)
    have z3 : t3 ≠ self := fun z => by
      rw [z, hs] at h3
      cases h3
    replace h1 := s3 _ _ h1
    replace h2 := s3 _ _ h2
    refine ⟨_, rfl, self, Cc, dx, _, rfl, hs, cl, na _ (by decide), Nat.lt_of_le_of_lt ln (by decide), ?_⟩
    generalize eu : upd _ self (HO.ins _ _ _) = Hn
    replace hs := (congrArg (fun z : Hp => z self = some _) eu).mp upd_same
    replace B := (congrArg (But self H) eu).mp (But.upd B)
    have bu : But self _ Hn := (congrArg (But self _) eu).mp (But.upd But.refl)
    have ln := fldlen hs ln
    replace h1 := bu _ _ z1 h1
    replace h2 := bu _ _ z2 h2
    replace h3 := bu _ _ z3 h3
    clear eu bu
    refine ⟨_, rfl, _, _, rfl, keep B hc, fun t4 J4 s4 h4 q4 => ?_⟩
    replace hs := s4 _ _ hs
    replace B := B.trans (But.of s4)
    have z4 : t4 ≠ self := fun z => by
      rw [z, hs] at h4
      cases h4
    replace h1 := s4 _ _ h1
    replace h2 := s4 _ _ h2
    replace h3 := s4 _ _ h3
    refine ⟨_, rfl, _, _, rfl, keep B e4, fun t5 J5 s5 h5 q5 => ?_⟩
    replace hs := s5 _ _ hs
    replace B := B.trans (But.of s5)
    have z5 : t5 ≠ self := fun z => by
      rw [z, hs] at h5
      cases h5
    replace h1 := s5 _ _ h1
    replace h2 := s5 _ _ h2
    replace h3 := s5 _ _ h3
    replace h4 := s5 _ _ h4
    refine ⟨(by show 2 ≤ sizeLine; decide), ?_⟩
    intro pp1 np1
    have sp1 := Same.new (o := .tup [.ref t4, .ref t5]) np1
    have hp1 : upd J5 pp1 (.tup [.ref t4, .ref t5]) pp1 = some (.tup [.ref t4, .ref t5]) := upd_same
    replace hs := sp1 _ _ hs
    replace B := B.trans (But.of sp1)
    replace h1 := sp1 _ _ h1
    replace h2 := sp1 _ _ h2
    replace h3 := sp1 _ _ h3
    replace h4 := sp1 _ _ h4
    replace h5 := sp1 _ _ h5
    refine ⟨pp1, _, rfl, SqT.of hp1, rfl, _, _, rfl, _, rfl, self, Cc, dx, _, rfl, hs, cl, na _ (by decide), Nat.lt_of_le_of_lt ln (by decide), ?_⟩
    generalize eu : upd _ self (HO.ins _ _ _) = Hn
    replace hs := (congrArg (fun z : Hp => z self = some _) eu).mp upd_same
    replace B := (congrArg (But self H) eu).mp (But.upd B)
    have bu : But self _ Hn := (congrArg (But self _) eu).mp (But.upd But.refl)
    have ln := fldlen hs ln
    replace h1 := bu _ _ z1 h1
    replace h2 := bu _ _ z2 h2
    replace h3 := bu _ _ z3 h3
    replace h4 := bu _ _ z4 h4
    replace h5 := bu _ _ z5 h5
    clear eu bu
    refine ⟨_, _, rfl, _, rfl, self, Cc, dx, _, rfl, hs, cl, na _ (by decide), Nat.lt_of_le_of_lt ln (by decide), ?_⟩
    generalize eu : upd _ self (HO.ins _ _ _) = Hn
    replace hs := (congrArg (fun z : Hp => z self = some _) eu).mp upd_same
    replace B := (congrArg (But self H) eu).mp (But.upd B)
    have bu : But self _ Hn := (congrArg (But self _) eu).mp (But.upd But.refl)
    have ln := fldlen hs ln
    replace h1 := bu _ _ z1 h1
    replace h2 := bu _ _ z2 h2
    replace h3 := bu _ _ z3 h3
    replace h4 := bu _ _ z4 h4
    replace h5 := bu _ _ z5 h5
    clear eu bu
    refine ⟨rfl, ?_⟩
    refine ⟨_, rfl, _, _, rfl, keep B hl, fun t6 J6 s6 h6 q6 => ?_⟩
    replace hs := s6 _ _ hs
    replace B := B.trans (But.of s6)
    have z6 : t6 ≠ self := fun z => by
      rw [z, hs] at h6
      cases h6
    replace h1 := s6 _ _ h1
    replace h2 := s6 _ _ h2
    replace h3 := s6 _ _ h3
    replace h4 := s6 _ _ h4
    replace h5 := s6 _ _ h5
    refine ⟨_, rfl, _, _, rfl, keep B hh, fun t7 J7 s7 h7 q7 => ?_⟩
    replace hs := s7 _ _ hs
    replace B := B.trans (But.of s7)
    have z7 : t7 ≠ self := fun z => by
      rw [z, hs] at h7
      cases h7
    replace h1 := s7 _ _ h1
    replace h2 := s7 _ _ h2
    replace h3 := s7 _ _ h3
    replace h4 := s7 _ _ h4
    replace h5 := s7 _ _ h5
    replace h6 := s7 _ _ h6
    refine ⟨(by show 2 ≤ sizeLine; decide), ?_⟩
    intro pp2 np2
    have sp2 := Same.new (o := .tup [.ref t6, .ref t7]) np2
    have hp2 : upd J7 pp2 (.tup [.ref t6, .ref t7]) pp2 = some (.tup [.ref t6, .ref t7]) := upd_same
    replace hs := sp2 _ _ hs
    replace B := B.trans (But.of sp2)
    replace h1 := sp2 _ _ h1
    replace h2 := sp2 _ _ h2
    replace h3 := sp2 _ _ h3
    replace h4 := sp2 _ _ h4
    replace h5 := sp2 _ _ h5
    replace h6 := sp2 _ _ h6
    replace h7 := sp2 _ _ h7
    refine ⟨pp2, _, rfl, SqT.of hp2, rfl, _, _, rfl, _, rfl, self, Cc, dx, _, rfl, hs, cl, na _ (by decide), Nat.lt_of_le_of_lt ln (by decide), ?_⟩
    generalize eu : upd _ self (HO.ins _ _ _) = Hn
    replace hs := (congrArg (fun z : Hp => z self = some _) eu).mp upd_same
    replace B := (congrArg (But self H) eu).mp (But.upd B)
    have bu : But self _ Hn := (congrArg (But self _) eu).mp (But.upd But.refl)
    have ln := fldlen hs ln
    replace h1 := bu _ _ z1 h1
    replace h2 := bu _ _ z2 h2
    replace h3 := bu _ _ z3 h3
    replace h4 := bu _ _ z4 h4
    replace h5 := bu _ _ z5 h5
    replace h6 := bu _ _ z6 h6
    replace h7 := bu _ _ z7 h7
    clear eu bu
    refine ⟨_, _, rfl, _, rfl, self, Cc, dx, _, rfl, hs, cl, na _ (by decide), Nat.lt_of_le_of_lt ln (by decide), ?_⟩
    generalize eu : upd _ self (HO.ins _ _ _) = Hn
    replace hs := (congrArg (fun z : Hp => z self = some _) eu).mp upd_same
    replace B := (congrArg (But self H) eu).mp (But.upd B)
    have bu : But self _ Hn := (congrArg (But self _) eu).mp (But.upd But.refl)
    have ln := fldlen hs ln
    replace h1 := bu _ _ z1 h1
    replace h2 := bu _ _ z2 h2
    replace h3 := bu _ _ z3 h3
    replace h4 := bu _ _ z4 h4
    replace h5 := bu _ _ z5 h5
    replace h6 := bu _ _ z6 h6
    replace h7 := bu _ _ z7 h7
    clear eu bu
    refine ⟨rfl, ?_⟩
    -- nested
    refine ⟨(by show 1 ≤ sizeLine; decide), ?_⟩
    intro pz nz
    have sz := Same.new (o := .lst [.int 0]) nz
    have hz : upd _ pz (.lst [.int 0]) pz = some (.lst [.int 0]) := upd_same (H := Hn)
    replace hs := sz _ _ hs
    replace B := B.trans (But.of sz)
    replace h1 := sz _ _ h1
    replace h2 := sz _ _ h2
    replace h3 := sz _ _ h3
    replace h4 := sz _ _ h4
    replace h5 := sz _ _ h5
    replace h6 := sz _ _ h6
    replace h7 := sz _ _ h7
    have hk := keep B e1
    generalize upd Hn pz (.lst [.int 0]) = Hz at sz hz hs B hk h1 h2 h3 h4 h5 h6 h7 ⊢
    have B0 := B
    have hx : ∀ x ∈ D.consts, KTop Cc d Hz x := fun x m => (ok.consts x m).but hs0 B
    refine ⟨_, rfl, k1, rfl, lc_both (K := K) hk.sq (fun A i H' => Same Hz H' ∧ ∃ l : List Int, H' A = some (.lst (l.map V.int)) ∧ l.length ≤ i ∧ (∀ j ∈ l, ∃ x ∈ D.consts, KCode Cc Hz x j) ∧ ∀ y ∈ D.consts.take i, ∀ j, KCode Cc Hz y j → j ∈ l)
      (fun A nA => ⟨Same.new nA, [], upd_same, Nat.le_refl _, (fun j hj => by cases hj), (fun y hy => by simp at hy)⟩) (fun A i H' _ _ p => p.1) ?_ ?_⟩
    · rintro A i x H' nA hi ⟨s2, l, hA, hl, ha, hb⟩
      have hxm := List.mem_of_getElem? hi
      have hil : i < D.consts.length := (List.getElem?_eq_some_iff.mp hi).1
      refine ⟨rfl, ?_⟩
      have htk : D.consts.take (i + 1) = D.consts.take i ++ [x] := by
        rw [List.take_add_one, hi]
        rfl
      rcases hx x hxm with hin | ⟨j, hc⟩
      · obtain ⟨t, tm, ty⟩ := hin.odd (K := K)
        refine ⟨_, rfl, x, V.ref Cc, .type t, .ref Cc, false, rfl, .own Cc, TyX.same s2 ty, G.no t tm, _, rfl, ?_⟩
        refine ⟨s2, l, hA, Nat.le_succ_of_le hl, ha, fun y hy j hc => ?_⟩
        rw [htk] at hy
        rcases List.mem_append.mp hy with z | z
        · exact hb y z j hc
        · rw [List.mem_singleton.mp z] at hc
          exact absurd hc hin.noCode
      · have hc0 := hc
        obtain ⟨a, dx', fs', rfl, hca, hcl, j0, j1⟩ := hc
        have hca := s2 _ _ hca
        refine ⟨_, rfl, V.ref a, V.ref Cc, .ref Cc, .ref Cc, true, rfl, .own Cc, .base (.ins hca G.ins.cl G.ins.ha G.ins.hn G.ins.htk G.ins.hm), G.ins.me, _, rfl, ?_⟩
        refine ⟨_, rfl, a, Cc, dx', fs', _, rfl, hca, cl, na _ (by decide), hcl, ?_⟩
        refine ⟨_, hA, ?_, Same.mut s2 nA, l ++ [j], ?_, ?_, ?_, ?_⟩
        · rw [List.length_map]
          exact Nat.lt_of_lt_of_le (Nat.lt_of_le_of_lt hl hil) (Nat.le_trans ok.clen (by decide))
        · rw [upd_same, List.map_append]
          rfl
        · rw [List.length_append]
          exact Nat.succ_le_succ hl
        · intro i' hi'
          rcases List.mem_append.mp hi' with z | z
          · exact ha i' z
          · rw [List.mem_singleton.mp z]
            exact ⟨_, hxm, hc0⟩
        · intro y hy j' hc'
          rw [htk] at hy
          rcases List.mem_append.mp hy with z | z
          · exact List.mem_append.mpr (.inl (hb y z j' hc'))
          · rw [List.mem_singleton.mp z] at hc'
            exact List.mem_append.mpr (.inr (List.mem_singleton.mpr (hc'.one (fun _ _ e _ => e) hc0)))
    rintro A H' nA ⟨s2, l, hA, hl, ha, hb⟩
    replace hs := s2 _ _ hs
    replace B := B.trans (But.of s2)
    replace h1 := s2 _ _ h1
    replace h2 := s2 _ _ h2
    replace h3 := s2 _ _ h3
    replace h4 := s2 _ _ h4
    replace h5 := s2 _ _ h5
    replace h6 := s2 _ _ h6
    replace h7 := s2 _ _ h7
    refine ⟨pz, A, _, _, rfl, rfl, s2 _ _ hz, hA, ?_, ?_⟩
    · rw [List.length_map]
      show 1 + l.length ≤ sizeLine
      exact Nat.le_trans (Nat.add_le_add_left (Nat.le_trans hl ok.clen) 1) (by decide)
    intro pw nw
    have sw := Same.new (o := .lst ([.int 0] ++ l.map V.int)) nw
    have hw : upd H' pw (.lst ([.int 0] ++ l.map V.int)) pw = some (.lst ((0 :: l).map V.int)) := upd_same
    replace hs := sw _ _ hs
    replace B := B.trans (But.of sw)
    replace h1 := sw _ _ h1
    replace h2 := sw _ _ h2
    replace h3 := sw _ _ h3
    replace h4 := sw _ _ h4
    replace h5 := sw _ _ h5
    replace h6 := sw _ _ h6
    replace h7 := sw _ _ h7
    refine ⟨pw, 0 :: l, rfl, SqL.of hw, (by simp), fun m hm hle => ?_⟩
    refine ⟨_, _, rfl, rfl, ?_⟩
    refine ⟨_, rfl, self, Cc, dx, _, rfl, hs, cl, na _ (by decide), Nat.lt_of_le_of_lt ln (by decide), ?_⟩
    generalize eu : upd _ self (HO.ins _ _ _) = Hn
    replace hs := (congrArg (fun z : Hp => z self = some _) eu).mp upd_same
    replace B := (congrArg (But self H) eu).mp (But.upd B)
    have bu : But self _ Hn := (congrArg (But self _) eu).mp (But.upd But.refl)
    have ln := fldlen hs ln
    replace h1 := bu _ _ z1 h1
    replace h2 := bu _ _ z2 h2
    replace h3 := bu _ _ z3 h3
    replace h4 := bu _ _ z4 h4
    replace h5 := bu _ _ z5 h5
    replace h6 := bu _ _ z6 h6
    replace h7 := bu _ _ z7 h7
    clear eu bu
    have back : ∀ {x : V} {j : Int}, x ∈ D.consts → KCode Cc Hz x j → KCode Cc H x j := fun {x j} hxm hc => by
      rcases ok.consts x hxm with z | ⟨j', z⟩
      · exfalso
        rcases hx x hxm with y | ⟨j'', y⟩
        · exact y.noCode hc
        · cases z with
          | tup hh _ _ =>
            obtain ⟨a, _, _, e, hh', _⟩ := hc
            cases e
            rw [B0 _ _ (fun z => by rw [z, hs0] at hh; cases hh) hh] at hh'
            cases hh'
          | _ =>
            obtain ⟨a, _, _, e, _⟩ := hc
            cases e
      · have := (z.but hs0 B0).one (fun _ _ e _ => e) hc
        rw [← this]
        exact z
    refine k Hn (1 + m) B ⟨fun x hxm j hc => ?_, ?_⟩ ⟨dx, _, hs, (look_miss (by decide +kernel) (look_miss (by decide +kernel) (look_miss (by decide +kernel) (look_miss (by decide +kernel) (look_miss (by decide +kernel) (look_miss (by decide +kernel) (look_miss (by decide +kernel) (look_miss (by decide +kernel) kp1)))))))), (look_miss (by decide +kernel) (look_miss (by decide +kernel) (look_miss (by decide +kernel) (look_miss (by decide +kernel) (look_miss (by decide +kernel) (look_miss (by decide +kernel) (look_miss (by decide +kernel) (look_miss (by decide +kernel) kp2)))))))), (look_miss (by decide +kernel) (look_miss (by decide +kernel) (look_miss (by decide +kernel) (look_miss (by decide +kernel) (look_miss (by decide +kernel) (look_miss (by decide +kernel) (look_miss (by decide +kernel) (look_miss (by decide +kernel) kp3)))))))), (look_miss (by decide +kernel) (look_miss (by decide +kernel) (look_miss (by decide +kernel) (look_miss (by decide +kernel) (look_miss (by decide +kernel) (look_miss (by decide +kernel) (look_miss (by decide +kernel) (look_miss (by decide +kernel) kp4)))))))), ⟨_, (look_miss (by decide +kernel) (look_miss (by decide +kernel) (look_miss (by decide +kernel) (look_miss (by decide +kernel) look_hit)))), h4⟩, ⟨_, (look_miss (by decide +kernel) (look_miss (by decide +kernel) (look_miss (by decide +kernel) (look_miss (by decide +kernel) (look_miss (by decide +kernel) (look_miss (by decide +kernel) (look_miss (by decide +kernel) look_hit))))))), h1⟩, ⟨_, (look_miss (by decide +kernel) (look_miss (by decide +kernel) (look_miss (by decide +kernel) (look_miss (by decide +kernel) (look_miss (by decide +kernel) (look_miss (by decide +kernel) look_hit)))))), h2⟩, ⟨_, (look_miss (by decide +kernel) (look_miss (by decide +kernel) (look_miss (by decide +kernel) (look_miss (by decide +kernel) (look_miss (by decide +kernel) look_hit))))), h3⟩, ⟨_, (look_miss (by decide +kernel) (look_miss (by decide +kernel) (look_miss (by decide +kernel) look_hit))), h5⟩, (look_miss (by decide +kernel) (look_miss (by decide +kernel) (look_miss (by decide +kernel) (look_miss (by decide +kernel) (look_miss (by decide +kernel) (look_miss (by decide +kernel) (look_miss (by decide +kernel) (look_miss (by decide +kernel) kp5)))))))), (look_miss (by decide +kernel) (look_miss (by decide +kernel) (look_miss (by decide +kernel) (look_miss (by decide +kernel) (look_miss (by decide +kernel) (look_miss (by decide +kernel) (look_miss (by decide +kernel) (look_miss (by decide +kernel) kp6)))))))), (look_miss (by decide +kernel) (look_miss (by decide +kernel) (look_miss (by decide +kernel) (look_miss (by decide +kernel) (look_miss (by decide +kernel) (look_miss (by decide +kernel) (look_miss (by decide +kernel) (look_miss (by decide +kernel) kp7)))))))), ⟨_, (look_miss (by decide +kernel) (look_miss (by decide +kernel) look_hit)), h6⟩, ⟨_, (look_miss (by decide +kernel) look_hit), h7⟩, look_hit, (look_miss (by decide +kernel) (look_miss (by decide +kernel) (look_miss (by decide +kernel) (look_miss (by decide +kernel) (look_miss (by decide +kernel) (look_miss (by decide +kernel) (look_miss (by decide +kernel) (look_miss (by decide +kernel) kp8))))))))⟩
    · have := hle j (List.mem_cons_of_mem _ (hb x (by rw [List.take_length]; exact hxm) j (hc.but hs0 B0)))
      omega
    · rcases List.mem_cons.mp hm with z | z
      · left
        omega
      · obtain ⟨x, hxm, hc⟩ := ha m z
        exact .inr ⟨x, hxm, m, back hxm hc, by omega⟩
end
end K52
set_option maxHeartbeats 4000000
set_option hygiene false in
local macro_rules | `(tactic| walk_at "new1") => `(tactic| (intro p1 n1; generalize e1 : upd _ p1 _ = H1; (have s1 := (congrArg (Same _) e1).mp (Same.new n1)); (have h1 := (congrArg (fun z : Hp => z p1 = some _) e1).mp upd_same); clear e1))
set_option hygiene false in
local macro_rules | `(tactic| walk_at "new2") => `(tactic| (intro p2 n2; generalize e2 : upd _ p2 _ = H2; (have s2 := (congrArg (Same _) e2).mp (Same.new n2)); (have h2 := (congrArg (fun z : Hp => z p2 = some _) e2).mp upd_same); clear e2))
set_option hygiene false in
local macro_rules | `(tactic| walk_at "new3") => `(tactic| (intro p3 n3; generalize e3 : upd _ p3 _ = H3; (have s3 := (congrArg (Same _) e3).mp (Same.new n3)); (have h3 := (congrArg (fun z : Hp => z p3 = some _) e3).mp upd_same); clear e3))
set_option hygiene false in
local macro_rules | `(tactic| walk_at "new4") => `(tactic| (intro p4 n4; generalize e4 : upd _ p4 _ = H4; (have s4 := (congrArg (Same _) e4).mp (Same.new n4)); (have h4 := (congrArg (fun z : Hp => z p4 = some _) e4).mp upd_same); clear e4))
set_option hygiene false in
local macro_rules | `(tactic| walk_at "new5") => `(tactic| (intro p5 n5; generalize e5 : upd _ p5 _ = H5; (have s5 := (congrArg (Same _) e5).mp (Same.new n5)); (have h5 := (congrArg (fun z : Hp => z p5 = some _) e5).mp upd_same); clear e5))
set_option hygiene false in
local macro_rules | `(tactic| walk_at "new6") => `(tactic| (intro p6 n6; generalize e6 : upd _ p6 _ = H6; (have s6 := (congrArg (Same _) e6).mp (Same.new n6)); (have h6 := (congrArg (fun z : Hp => z p6 = some _) e6).mp upd_same); clear e6))
set_option hygiene false in
local macro_rules | `(tactic| walk_at "new7") => `(tactic| (intro p7 n7; generalize e7 : upd _ p7 _ = H7; (have s7 := (congrArg (Same _) e7).mp (Same.new n7)); (have h7 := (congrArg (fun z : Hp => z p7 = some _) e7).mp upd_same); clear e7))
set_option hygiene false in
local macro_rules | `(tactic| walk_at "new8") => `(tactic| (intro p8 n8; generalize e8 : upd _ p8 _ = H8; (have s8 := (congrArg (Same _) e8).mp (Same.new n8)); (have h8 := (congrArg (fun z : Hp => z p8 = some _) e8).mp upd_same); clear e8))
set_option hygiene false in
local macro_rules | `(tactic| walk_at "new9") => `(tactic| (intro p9 n9; generalize e9 : upd _ p9 _ = H9; (have s9 := (congrArg (Same _) e9).mp (Same.new n9)); (have h9 := (congrArg (fun z : Hp => z p9 = some _) e9).mp upd_same); clear e9))
set_option hygiene false in
local macro_rules | `(tactic| walk_at "new10") => `(tactic| (intro p10 n10; generalize e10 : upd _ p10 _ = H10; (have s10 := (congrArg (Same _) e10).mp (Same.new n10)); (have h10 := (congrArg (fun z : Hp => z p10 = some _) e10).mp upd_same); clear e10))
set_option hygiene false in
local macro_rules | `(tactic| walk_at "new11") => `(tactic| (intro p11 n11; generalize e11 : upd _ p11 _ = H11; (have s11 := (congrArg (Same _) e11).mp (Same.new n11)); (have h11 := (congrArg (fun z : Hp => z p11 = some _) e11).mp upd_same); clear e11))
set_option hygiene false in
local macro_rules | `(tactic| walk_at "new12") => `(tactic| (intro p12 n12; generalize e12 : upd _ p12 _ = H12; (have s12 := (congrArg (Same _) e12).mp (Same.new n12)); (have h12 := (congrArg (fun z : Hp => z p12 = some _) e12).mp upd_same); clear e12))
set_option hygiene false in
local macro_rules | `(tactic| walk_at "new13") => `(tactic| (intro p13 n13; generalize e13 : upd _ p13 _ = H13; (have s13 := (congrArg (Same _) e13).mp (Same.new n13)); (have h13 := (congrArg (fun z : Hp => z p13 = some _) e13).mp upd_same); clear e13))
set_option hygiene false in
local macro_rules | `(tactic| walk_at "new14") => `(tactic| (intro p14 n14; generalize e14 : upd _ p14 _ = H14; (have s14 := (congrArg (Same _) e14).mp (Same.new n14)); (have h14 := (congrArg (fun z : Hp => z p14 = some _) e14).mp upd_same); clear e14))
set_option hygiene false in
local macro_rules | `(tactic| walk_at "new15") => `(tactic| (intro p15 n15; generalize e15 : upd _ p15 _ = H15; (have s15 := (congrArg (Same _) e15).mp (Same.new n15)); (have h15 := (congrArg (fun z : Hp => z p15 = some _) e15).mp upd_same); clear e15))
set_option hygiene false in
local macro_rules | `(tactic| walk_at "new16") => `(tactic| (intro p16 n16; generalize e16 : upd _ p16 _ = H16; (have s16 := (congrArg (Same _) e16).mp (Same.new n16)); (have h16 := (congrArg (fun z : Hp => z p16 = some _) e16).mp upd_same); clear e16))
set_option hygiene false in
local macro_rules | `(tactic| walk_at "new17") => `(tactic| (intro p17 n17; generalize e17 : upd _ p17 _ = H17; (have s17 := (congrArg (Same _) e17).mp (Same.new n17)); (have h17 := (congrArg (fun z : Hp => z p17 = some _) e17).mp upd_same); clear e17))
set_option hygiene false in
local macro_rules | `(tactic| walk_at "new18") => `(tactic| (intro p18 n18; generalize e18 : upd _ p18 _ = H18; (have s18 := (congrArg (Same _) e18).mp (Same.new n18)); (have h18 := (congrArg (fun z : Hp => z p18 = some _) e18).mp upd_same); clear e18))
set_option hygiene false in
local macro_rules | `(tactic| walk_at "new19") => `(tactic| (intro p19 n19; generalize e19 : upd _ p19 _ = H19; (have s19 := (congrArg (Same _) e19).mp (Same.new n19)); (have h19 := (congrArg (fun z : Hp => z p19 = some _) e19).mp upd_same); clear e19))
set_option hygiene false in
local macro_rules | `(tactic| walk_at "new20") => `(tactic| (intro p20 n20; generalize e20 : upd _ p20 _ = H20; (have s20 := (congrArg (Same _) e20).mp (Same.new n20)); (have h20 := (congrArg (fun z : Hp => z p20 = some _) e20).mp upd_same); clear e20))
set_option hygiene false in
local macro_rules | `(tactic| walk_at "new21") => `(tactic| (intro p21 n21; generalize e21 : upd _ p21 _ = H21; (have s21 := (congrArg (Same _) e21).mp (Same.new n21)); (have h21 := (congrArg (fun z : Hp => z p21 = some _) e21).mp upd_same); clear e21))
set_option hygiene false in
local macro_rules | `(tactic| walk_at "new22") => `(tactic| (intro p22 n22; generalize e22 : upd _ p22 _ = H22; (have s22 := (congrArg (Same _) e22).mp (Same.new n22)); (have h22 := (congrArg (fun z : Hp => z p22 = some _) e22).mp upd_same); clear e22))
set_option hygiene false in
local macro_rules | `(tactic| walk_at "new23") => `(tactic| (intro p23 n23; generalize e23 : upd _ p23 _ = H23; (have s23 := (congrArg (Same _) e23).mp (Same.new n23)); (have h23 := (congrArg (fun z : Hp => z p23 = some _) e23).mp upd_same); clear e23))
set_option hygiene false in
local macro_rules | `(tactic| walk_at "new24") => `(tactic| (intro p24 n24; generalize e24 : upd _ p24 _ = H24; (have s24 := (congrArg (Same _) e24).mp (Same.new n24)); (have h24 := (congrArg (fun z : Hp => z p24 = some _) e24).mp upd_same); clear e24))
set_option hygiene false in
local macro_rules | `(tactic| walk_at "new25") => `(tactic| (intro p25 n25; generalize e25 : upd _ p25 _ = H25; (have s25 := (congrArg (Same _) e25).mp (Same.new n25)); (have h25 := (congrArg (fun z : Hp => z p25 = some _) e25).mp upd_same); clear e25))
set_option hygiene false in
local macro_rules | `(tactic| walk_at "new26") => `(tactic| (intro p26 n26; generalize e26 : upd _ p26 _ = H26; (have s26 := (congrArg (Same _) e26).mp (Same.new n26)); (have h26 := (congrArg (fun z : Hp => z p26 = some _) e26).mp upd_same); clear e26))
set_option hygiene false in
local macro_rules | `(tactic| walk_at "new27") => `(tactic| (intro p27 n27; generalize e27 : upd _ p27 _ = H27; (have s27 := (congrArg (Same _) e27).mp (Same.new n27)); (have h27 := (congrArg (fun z : Hp => z p27 = some _) e27).mp upd_same); clear e27))
set_option hygiene false in
local macro_rules | `(tactic| walk_at "new28") => `(tactic| (intro p28 n28; generalize e28 : upd _ p28 _ = H28; (have s28 := (congrArg (Same _) e28).mp (Same.new n28)); (have h28 := (congrArg (fun z : Hp => z p28 = some _) e28).mp upd_same); clear e28))
set_option hygiene false in
local macro_rules | `(tactic| walk_at "new29") => `(tactic| (intro p29 n29; generalize e29 : upd _ p29 _ = H29; (have s29 := (congrArg (Same _) e29).mp (Same.new n29)); (have h29 := (congrArg (fun z : Hp => z p29 = some _) e29).mp upd_same); clear e29))
set_option hygiene false in
local macro_rules | `(tactic| walk_at "new30") => `(tactic| (intro p30 n30; generalize e30 : upd _ p30 _ = H30; (have s30 := (congrArg (Same _) e30).mp (Same.new n30)); (have h30 := (congrArg (fun z : Hp => z p30 = some _) e30).mp upd_same); clear e30))
namespace K52
open PySem PySem.Spec PyProof.Rows L2 Nd
/-! ### k50 .. k52: drawn values -/
/-- all but lists stays -/
def Kp (H H' : Hp) : Prop := ∀ b o, H b = some o → (∀ xs, o ≠ HO.lst xs) → H' b = some o
theorem Kp.same {H H' : Hp} (s : Same H H') : Kp H H' := fun b o e _ => s b o e
theorem Kp.trans {H H1 H2 : Hp} (a : Kp H H1) (b : Kp H1 H2) : Kp H H2 := fun c o e n => b c o (a c o e n) n
theorem Kp.but {src : Addr} {H H' : Hp} (hs : Src H src) (b : But src H H') : Kp H H' := fun c o e n => by
  obtain ⟨x, y, z, e2, _⟩ := hs
  exact b c o (fun w => by
    rw [w, e2] at e
    exact n _ (Option.some.inj e).symm) e
theorem Kp.mut {H : Hp} {C : Addr} {xs ys : List V} (hC : H C = some (.lst xs)) : Kp H (upd H C (.lst ys)) := fun c o e n => by
  rw [upd_ne (fun w => by
    rw [w, hC] at e
    exact n _ (Option.some.inj e).symm)]
  exact e
theorem KIn.kp {H H' : Hp} (s : Kp H H') : ∀ {d : Nat} {x : V}, KIn H d x → KIn H' d x
  | _, _, .non => .non
  | _, _, .bl b => .bl b
  | _, _, .int i => .int i
  | _, _, .str x h1 h2 => .str x h1 h2
  | _, _, .tup h hl hx => .tup (s _ _ h (fun _ z => by cases z)) hl fun x m => KIn.kp s (hx x m)
theorem oks_app {a b : Str} (ha : OkS a) (hb : OkS b) : OkS (a ++ b) := fun i c h => by
  have h : (a.cps ++ b.cps)[i]? = some c := h
  rw [Array.getElem?_append] at h
  split at h
  · exact ha _ _ h
  · exact hb _ _ h
def okB (z : Str) : Bool := z.cps.toList.all fun c => decide (32 ≤ c) && (decide (c ≤ 126) && decide (c ≠ 37))
theorem oks_by {z : Str} (h : okB z = true) : OkS z := fun i c e => by
  have hm : c ∈ z.cps.toList := by
    rw [← Array.getElem?_toList] at e
    exact List.mem_of_getElem? e
  have h2 := List.all_eq_true.mp h c hm
  rw [Bool.and_eq_true, Bool.and_eq_true] at h2
  obtain ⟨h3, h4, h5⟩ := h2
  have h3 := of_decide_eq_true h3
  have h4 := of_decide_eq_true h4
  have h5 := of_decide_eq_true h5
  refine ⟨decide_eq_false fun q => ?_, decide_eq_false fun q => ?_, fun q => ?_⟩
  · have q : [c] < [32] := q
    rcases List.cons_lt_cons_iff.mp q with q | ⟨_, q⟩
    · exact absurd q (by omega)
    · exact absurd q (List.not_lt_nil _)
  · have q : [126] < [c] := q
    rcases List.cons_lt_cons_iff.mp q with q | ⟨_, q⟩
    · exact absurd q (by omega)
    · exact absurd q (List.not_lt_nil _)
  · have q : ((c : Nat) : Int) = 37 := q
    exact h5 (by omega)
theorem joinL_flat : ∀ ps : List (List Nat), TL.joinL [] ps = ps.flatten
  | [] => rfl
  | [p] => by simp [TL.joinL]
  | p :: q :: r => by
    show p ++ ([] ++ TL.joinL [] (q :: r)) = _
    rw [joinL_flat (q :: r), List.flatten_cons]
    rfl
theorem join_okB {ys : List Str} (h : ∀ y, y ∈ ys → okB y = true ∧ y.cps.size ≤ 2) : okB (Txt.join "" ys) = true ∧ (Txt.join "" ys).cps.size ≤ 2 * ys.length := by
  have e : (Txt.join "" ys).cps.toList = (ys.map fun y => y.cps.toList).flatten := by
    rw [TL.join_eq]
    have := TL.tl_join "" ys
    rw [show TL.tl "" = ([] : List Nat) from rfl, joinL_flat] at this
    exact this
  constructor
  · unfold okB
    rw [e, List.all_eq_true]
    intro c hc
    obtain ⟨l, hl, hcl⟩ := List.mem_flatten.mp hc
    obtain ⟨y, hy, rfl⟩ := List.mem_map.mp hl
    exact List.all_eq_true.mp (h y hy).1 c hcl
  · rw [← Array.length_toList, e]
    clear e
    induction ys with
    | nil => exact Nat.le_refl _
    | cons y ys ih =>
      have h1 := (h y (List.mem_cons_self ..)).2
      have h2 := ih fun z hz => h z (List.mem_cons_of_mem _ hz)
      rw [List.map_cons, List.flatten_cons, List.length_append, List.length_cons, Array.length_toList]
      omega
theorem sum_len {ys : List Str} (h : ∀ y, y ∈ ys → y.cps.size ≤ 2) : (ys.map (·.length)).sum ≤ 2 * ys.length := by
  induction ys with
  | nil => exact Nat.le_refl _
  | cons y ys ih =>
    have h1 : y.length ≤ 2 := h y (List.mem_cons_self ..)
    have h2 := ih fun z hz => h z (List.mem_cons_of_mem _ hz)
    rw [List.map_cons, List.sum_cons, List.length_cons]
    omega
def spText : Sp := fun vs H Q _ => ∃ src, vs = [.ref src] ∧ Src H src ∧ ∀ s H', But src H H' → Src H' src → OkS s → s.cps.size ≤ 10 → Q (.str s) H'
def spBytes : Sp := fun vs H Q _ => ∃ (src : Addr) (m : Int), vs = [.ref src, .int m] ∧ Src H src ∧ 0 ≤ m ∧ m ≤ 100 ∧ ∀ p H' (ns : List Int), H p = none → But src H H' → Src H' src → H' p = some (.tup (ns.map V.int)) → isBts ns → (ns.length : Int) ≤ m → Q (.ref p) H'
/-- one of some, another list than the source's -/
def spOneN : Sp := fun vs H Q _ => ∃ (a b : Addr) (xs : List V), vs = [.ref a, .ref b] ∧ Src H a ∧ H b = some (.lst xs) ∧ b ≠ a ∧ xs ≠ [] ∧ xs.length ≤ 1000 ∧ ∀ v H', v ∈ xs → But a H H' → Src H' a → Q v H'
theorem oneN {P : Program} {w : World} {K : PySem.W.Frag} {mg : Str → Option Value} {base : Heap} (c : CalX P w K mg base 2 "_law_one" (fun vs H Q E => spOne K vs H Q E ∧ ∀ a b, vs = [.ref a, .ref b] → b ≠ a)) : CalX P w K mg base 2 "_law_one" spOneN := c.imp fun vs H Q E h => by
  obtain ⟨a, b, xs, rfl, h1, h2, h3, h4⟩ := h
  refine ⟨⟨a, b, xs, rfl, h1, h2, h4⟩, fun a' b' e => ?_⟩
  cases e
  exact h3
structure Gdr (mg : Str → Option Value) : Prop where
  n_range : mg "range" = none
  n_tuple : mg "tuple" = none
section
variable {P : Program} {w : World} {K : PySem.W.Frag} {mg : Str → Option Value} {base : Heap}
abbrev s_law_text : Stmt := top 47
abbrev s_law_bytes : Stmt := top 48
abbrev s_law_constant : Stmt := top 49
abbrev N_law_text : List Str := ["source", "k"]
theorem sc_law_text : FnScope N_law_text ["source"] (defScope s_law_text) := ⟨rfl, rfl, rfl, by decide +kernel, rfl, by decide +kernel, by decide +kernel⟩
theorem ok_law_text {f : Addr} {fd : FuncData} (T : Gdr mg) (c_law_next : CalX P w K mg base 1 "_law_next" spNext) (c_law_one : CalX P w K mg base 2 "_law_one" spOneN) (F : DefX K mg "_law_text" s_law_text ["source"] f fd) : CalX P w K mg base 3 "_law_text" spText := by
  refine calx F sc_law_text (fun vs H Q E h => ?_) (fun cdv A outer s H vs Q E hr h => ?_)
  · obtain ⟨src, rfl, _⟩ := h
    rfl
  · obtain ⟨src, rfl, hs, k⟩ := h
    have lv1 : 1 ≤ 2 := by decide
    have lv2 : 2 ≤ 2 := Nat.le_refl _
    refine ⟨_, (pss_one (ps_ret (pe_join pe_str (pe_lc (own := [("k", 1)]) (g := gName 1) (tt := tYes) rfl sc_law_text.nd (pi_range1 (by rfl) T.n_range (pa_cons (pe_cx c_law_next hr lv1 rfl (pa_cons (pv 0) (pa_cons pe_int pa_nil))) pa_nil)) (blkOk_by (own := [("k", 1)]) (N := N_law_text) (sc := defScope s_law_text) (by decide +kernel)) (fun _ _ _ _ _ => (pg_name (i := 1) sc_law_text.nd rfl (Or.inl rfl))) (fun _ _ _ _ _ => pts_nil) (fun _ _ _ _ _ => (pe_cx c_law_one hr lv2 rfl (pa_cons (pv 0) (pa_cons (pe_lst (pa_cons pe_str (pa_cons pe_str (pa_cons pe_str (pa_cons pe_str (pa_cons pe_str (pa_cons pe_str (pa_cons pe_str (pa_cons pe_str pa_nil))))))))) pa_nil)))))))), ?_⟩
    refine ⟨⟨_, rfl⟩, _, rfl, src, 5, rfl, hs, by decide, by decide, fun r H1 r0 r1 b1 hs1 => ?_⟩
    refine ⟨_, rfl, by omega, by omega, fun C nC => ?_⟩
    have neC : C ≠ src := hs1.ne0 nC
    refine lc_range (lo := 0) (n := r.toNat) (fun i H' => But src H1 H' ∧ Src H' src ∧ ∃ ys : List Str, H' C = some (.lst (ys.map V.str)) ∧ ys.length ≤ i ∧ ∀ y, y ∈ ys → okB y = true ∧ y.cps.size ≤ 2) ⟨But.of (Same.new nC), hs1.same (Same.new nC), [], upd_same, Nat.le_refl _, fun v hv => by cases hv⟩ ?_ ?_
    · rintro i H' hi ⟨b2, hs2, ys, hC, hl, hm⟩
      refine ⟨rfl, ?_⟩
      unfold tYes
      refine iteT ⟨_, rfl, (by show 8 ≤ sizeLine; decide), ?_⟩
      walk_at "new3"
      have hs3 := hs2.same s3
      refine ⟨src, p3, _, rfl, hs3, h3, hs2.ne0 n3, by simp, by show 8 ≤ 1000; decide, fun v H4 hv b4 hs4 => ?_⟩
      obtain ⟨z, rfl, hz⟩ : ∃ z : Str, v = .str z ∧ (okB z = true ∧ z.cps.size ≤ 2) := by
        simp only [List.mem_cons, List.mem_nil_iff, or_false] at hv
        rcases hv with rfl | rfl | rfl | rfl | rfl | rfl | rfl | rfl <;> exact ⟨_, rfl, by decide +kernel⟩
      have hC4 := b4 _ _ neC (s3 _ _ hC)
      refine ⟨_, hC4, ?_, fun b u n e => ?_, ?_, ys ++ [z], by rw [upd_same, List.map_append]; rfl, by rw [List.length_append]; exact Nat.succ_le_succ hl, fun y hy => ?_⟩
      · rw [List.length_map]
        exact Nat.lt_of_le_of_lt (show ys.length ≤ 10 by omega) (by decide)
      · rw [upd_ne (ne_of_none e nC)]
        exact b4 _ _ n (s3 _ _ (b2 _ _ n e))
      · obtain ⟨x1, y1, z1, e, hr1⟩ := hs4
        exact ⟨x1, y1, z1, by rw [upd_ne neC.symm]; exact e, hr1⟩
      · rcases List.mem_append.mp hy with hy | hy
        · exact hm y hy
        · rw [List.mem_singleton.mp hy]
          exact hz
    rintro H5 ⟨b5, hs5, ys, hC, hl, hm⟩
    obtain ⟨j1, j2⟩ := join_okB (ys := ys) fun y hy => hm y hy
    refine ⟨"", C, ys, rfl, rfl, .inl (SqL.of hC), ?_, k _ H5 (b1.trans b5) hs5 (oks_by j1) (Nat.le_trans j2 (by omega))⟩
    have h9 := sum_len (ys := ys) fun y hy => (hm y hy).2
    show (ys.map (·.length)).sum + ys.length * 0 ≤ 16777216
    omega
abbrev N_law_bytes : List Str := ["source", "most", "k"]
theorem sc_law_bytes : FnScope N_law_bytes ["source", "most"] (defScope s_law_bytes) := ⟨rfl, rfl, rfl, by decide +kernel, rfl, by decide +kernel, by decide +kernel⟩
theorem ok_law_bytes {f : Addr} {fd : FuncData} (T : Gdr mg) (c_law_next : CalX P w K mg base 1 "_law_next" spNext) (c_law_one : CalX P w K mg base 2 "_law_one" spOneN) (F : DefX K mg "_law_bytes" s_law_bytes ["source", "most"] f fd) : CalX P w K mg base 3 "_law_bytes" spBytes := by
  refine calx F sc_law_bytes (fun vs H Q E h => ?_) (fun cdv A outer s H vs Q E hr h => ?_)
  · obtain ⟨src, m, rfl, _⟩ := h
    rfl
  · obtain ⟨src, m, rfl, hs, m0, m1, k⟩ := h
    have lv1 : 1 ≤ 2 := by decide
    have lv2 : 2 ≤ 2 := Nat.le_refl _
    refine ⟨_, (pss_one (ps_ret (pe_callTy call_tuple_of (by rfl) T.n_tuple Boot.«tuple» (pa_cons (pe_lc (own := [("k", 2)]) (g := gName 2) (tt := tYes) rfl sc_law_bytes.nd (pi_range1 (by rfl) T.n_range (pa_cons (pe_cx c_law_next hr lv1 rfl (pa_cons (pv 0) (pa_cons (pe_op op_add (pv 1) pe_int) pa_nil))) pa_nil)) (blkOk_by (own := [("k", 2)]) (N := N_law_bytes) (sc := defScope s_law_bytes) (by decide +kernel)) (fun _ _ _ _ _ => (pg_name (i := 2) sc_law_bytes.nd rfl (Or.inl rfl))) (fun _ _ _ _ _ => pts_nil) (fun _ _ _ _ _ => (pe_cx c_law_one hr lv2 rfl (pa_cons (pv 0) (pa_cons (pe_lst (pa_cons pe_int (pa_cons pe_int (pa_cons (pe_cx c_law_next hr lv1 rfl (pa_cons (pv 0) (pa_cons pe_int pa_nil))) pa_nil)))) pa_nil))))) pa_nil)))), ?_⟩
    refine ⟨_, rfl, _, rfl, _, _, rfl, rfl, src, m + 1, rfl, hs, by omega, ?_, fun r H1 r0 r1 b1 hs1 => ?_⟩
    · exact Nat.lt_of_le_of_lt (show (m + 1).natAbs ≤ 101 by omega) (by decide)
    refine ⟨_, rfl, by omega, by omega, fun C nC => ?_⟩
    have neC : C ≠ src := hs1.ne0 nC
    refine lc_range (lo := 0) (n := r.toNat) (fun i H' => But src H1 H' ∧ Src H' src ∧ ∃ ns : List Int, H' C = some (.lst (ns.map V.int)) ∧ ns.length ≤ i ∧ ∀ n, n ∈ ns → 0 ≤ n ∧ n ≤ 255) ⟨But.of (Same.new nC), hs1.same (Same.new nC), [], upd_same, Nat.le_refl _, fun v hv => by cases hv⟩ ?_ ?_
    · rintro i H' hi ⟨b2, hs2, ns, hC, hl, hm⟩
      refine ⟨rfl, ?_⟩
      unfold tYes
      refine iteT ⟨_, rfl, _, rfl, src, 256, rfl, hs2, by decide, by decide, fun q H3 q0 q1 b3 hs3 => ⟨(by show 3 ≤ sizeLine; decide), ?_⟩⟩
      walk_at "new4"
      have hs4 := hs3.same s4
      refine ⟨src, p4, _, rfl, hs4, h4, hs3.ne0 n4, by simp, by show 3 ≤ 1000; decide, fun v H5 hv b5 hs5 => ?_⟩
      obtain ⟨z, rfl, hz⟩ : ∃ z : Int, v = .int z ∧ (0 ≤ z ∧ z ≤ 255) := by
        simp only [List.mem_cons, List.mem_nil_iff, or_false] at hv
        rcases hv with rfl | rfl | rfl
        · exact ⟨_, rfl, by decide⟩
        · exact ⟨_, rfl, by decide⟩
        · exact ⟨_, rfl, by omega⟩
      have hC5 := b5 _ _ neC (s4 _ _ (b3 _ _ neC hC))
      refine ⟨_, hC5, ?_, fun b u n e => ?_, ?_, ns ++ [z], by rw [upd_same, List.map_append]; rfl, by rw [List.length_append]; exact Nat.succ_le_succ hl, fun y hy => ?_⟩
      · rw [List.length_map]
        exact Nat.lt_of_le_of_lt (show ns.length ≤ 200 by omega) (by decide)
      · rw [upd_ne (ne_of_none e nC)]
        exact b5 _ _ n (s4 _ _ (b3 _ _ n (b2 _ _ n e)))
      · obtain ⟨x1, y1, z1, e, hr1⟩ := hs5
        exact ⟨x1, y1, z1, by rw [upd_ne neC.symm]; exact e, hr1⟩
      · rcases List.mem_append.mp hy with hy | hy
        · exact hm y hy
        · rw [List.mem_singleton.mp hy]
          exact hz
    rintro H5 ⟨b5, hs5, ns, hC, hl, hm⟩
    refine ⟨C, _, rfl, .inl ⟨SqL.of hC, fun p np => ?_⟩⟩
    have nep : p ≠ src := hs5.ne0 np
    refine k p _ ns ?_ ((b1.trans b5).trans (But.of (Same.new np))) (hs5.same (Same.new np)) upd_same ⟨hm, by omega⟩ (by omega)
    cases hz : H p with
    | none => rfl
    | some o =>
      rw [(b1.trans b5) p o nep hz] at np
      cases np
end
end K52
set_option maxHeartbeats 4000000
namespace K52
open PySem PySem.Spec PyProof.Rows L2 Nd
/-! ### k50 .. k52: drawn constants, with what they are in plain words -/
theorem joinH {c : Hp → Prop} {R : Hp → Prop} {G : Prop} (main : (∀ J, c J → R J) → G) (rest : ∀ J, c J → R J) : G := main rest
/-- the plain fields of a code -/
structure FD where
  i1 : Int
  i2 : Int
  i3 : Int
  i4 : Int
  line : Int
  code : List Int
  kinds : List Int
  lines : List Int
  handlers : List Int
  names : List Str
  slots : List Str
  name : Str
  path : Str
def _root_.K52.CD.fd (D : CD) : FD := ⟨D.i1, D.i2, D.i3, D.i4, D.line, D.code, D.kinds, D.lines, D.handlers, D.names, D.slots, D.name, D.path⟩
def FD.cd (F : FD) (xs : List V) : CD := ⟨F.i1, F.i2, F.i3, F.i4, F.code, xs, F.names, F.slots, F.kinds, F.name, F.path, F.line, F.lines, F.handlers⟩
/-- a constant in plain words -/
inductive Kd
  | non
  | bl (b : Bool)
  | int (i : Int)
  | str (s : Str)
  | tup (l : List Kd)
  | code (F : FD) (cs : List Kd)
mutual
/-- how deep codes stand in it -/
def rk : Kd → Nat
  | .code _ cs => rkL cs + 1
  | .non => 0
  | .bl _ => 0
  | .int _ => 0
  | .str _ => 0
  | .tup _ => 0
def rkL : List Kd → Nat
  | [] => 0
  | k :: ks => max (rk k) (rkL ks)
end
theorem rk_mem : ∀ {ks : List Kd} {k : Kd}, k ∈ ks → rk k ≤ rkL ks
  | x :: xs, k, h => by
    rw [rkL]
    rcases List.mem_cons.mp h with e | h
    · rw [e]
      exact Nat.le_max_left _ _
    · exact Nat.le_trans (rk_mem h) (Nat.le_max_right _ _)
mutual
inductive KvAt (Cc : Addr) (H : Hp) : V → Kd → Prop
  | non : KvAt Cc H .non .non
  | bl (b : Bool) : KvAt Cc H (.bl b) (.bl b)
  | int (i : Int) : KvAt Cc H (.int i) (.int i)
  | str (s : Str) : KvAt Cc H (.str s) (.str s)
  | tup {a : Addr} {xs : List V} {ks : List Kd} (h : H a = some (.tup xs)) (r : KvAll Cc H xs ks) : KvAt Cc H (.ref a) (.tup ks)
  | code {a : Addr} {D : CD} {m : Int} {cs : List Kd} (h : CodeAt Cc H a D m) (r : KvAll Cc H D.consts cs) (h0 : 1 ≤ m) (h1 : m ≤ rkL cs + 1) : KvAt Cc H (.ref a) (.code D.fd cs)
inductive KvAll (Cc : Addr) (H : Hp) : List V → List Kd → Prop
  | nil : KvAll Cc H [] []
  | cons {v : V} {vs : List V} {k : Kd} {ks : List Kd} (h : KvAt Cc H v k) (r : KvAll Cc H vs ks) : KvAll Cc H (v :: vs) (k :: ks)
end
theorem CodeAt.kp {Cc : Addr} {H H' : Hp} {c : Addr} {D : CD} {m : Int} (s : Kp H H') (h : CodeAt Cc H c D m) : CodeAt Cc H' c D m := by
  have st : ∀ {t xs}, H t = some (.tup xs) → H' t = some (.tup xs) := fun h => s _ _ h (fun _ z => by cases z)
  obtain ⟨dx, fs, h0, h1, h2, h3, h4, ⟨t5, h5, g5⟩, ⟨t6, h6, g6⟩, ⟨t7, h7, g7⟩, ⟨t8, h8, g8⟩, ⟨t9, h9, g9⟩, h10, h11, h12, ⟨t13, h13, g13⟩, ⟨t14, h14, g14⟩, h15⟩ := h
  exact ⟨dx, fs, s _ _ h0 (fun _ z => by cases z), h1, h2, h3, h4, ⟨t5, h5, st g5⟩, ⟨t6, h6, st g6⟩, ⟨t7, h7, st g7⟩, ⟨t8, h8, st g8⟩, ⟨t9, h9, st g9⟩, h10, h11, h12, ⟨t13, h13, st g13⟩, ⟨t14, h14, st g14⟩, h15⟩
mutual
theorem KvAt.kp {Cc : Addr} {H H' : Hp} (s : Kp H H') : ∀ {v : V} {k : Kd}, KvAt Cc H v k → KvAt Cc H' v k
  | _, _, .non => .non
  | _, _, .bl b => .bl b
  | _, _, .int i => .int i
  | _, _, .str x => .str x
  | _, _, .tup h r => .tup (s _ _ h (fun _ z => by cases z)) (KvAll.kp s r)
  | _, _, .code h r h0 h1 => .code (h.kp s) (KvAll.kp s r) h0 h1
theorem KvAll.kp {Cc : Addr} {H H' : Hp} (s : Kp H H') : ∀ {vs : List V} {ks : List Kd}, KvAll Cc H vs ks → KvAll Cc H' vs ks
  | _, _, .nil => .nil
  | _, _, .cons h r => .cons (KvAt.kp s h) (KvAll.kp s r)
end
theorem KvAll.snoc {Cc : Addr} {H : Hp} {v : V} {k : Kd} (h : KvAt Cc H v k) : ∀ {vs : List V} {ks : List Kd}, KvAll Cc H vs ks → KvAll Cc H (vs ++ [v]) (ks ++ [k])
  | _, _, .nil => .cons h .nil
  | _, _, .cons h1 r => .cons h1 (r.snoc h)
theorem KvAll.len {Cc : Addr} {H : Hp} : ∀ {vs : List V} {ks : List Kd}, KvAll Cc H vs ks → vs.length = ks.length
  | _, _, .nil => rfl
  | _, _, .cons _ r => by rw [List.length_cons, List.length_cons, r.len]
theorem KvAll.get {Cc : Addr} {H : Hp} : ∀ {vs : List V} {ks : List Kd} {i : Nat} {v : V}, KvAll Cc H vs ks → vs[i]? = some v → ∃ k, ks[i]? = some k ∧ KvAt Cc H v k
  | _, _, _, _, .nil, h => by cases h
  | _, _, 0, _, .cons h1 r, h => by
    cases h
    exact ⟨_, rfl, h1⟩
  | _, _, i + 1, v, .cons (vs := vs) h1 r, h => by
    obtain ⟨k, h2, h3⟩ := KvAll.get (i := i) (v := v) r h
    exact ⟨k, h2, h3⟩
theorem KvAll.mem {Cc : Addr} {H : Hp} {vs : List V} {ks : List Kd} {v : V} (h : KvAll Cc H vs ks) (hv : v ∈ vs) : ∃ k, k ∈ ks ∧ KvAt Cc H v k := by
  obtain ⟨i, hi⟩ := List.mem_iff_getElem?.mp hv
  obtain ⟨k, h1, h2⟩ := h.get hi
  exact ⟨k, List.mem_of_getElem? h1, h2⟩
/-- a constant without codes, n tuples deep at most -/
inductive KdC : Nat → Kd → Prop
  | non {n : Nat} : KdC n .non
  | bl {n : Nat} (b : Bool) : KdC n (.bl b)
  | int {n : Nat} (i : Int) (h : i.natAbs < 2 ^ 3400 + n) : KdC n (.int i)
  | str {n : Nat} (s : Str) (h1 : s.cps.size ≤ 20) (h2 : OkS s) : KdC n (.str s)
  | tup {n : Nat} {l : List Kd} (hl : l.length ≤ 3) (h : ∀ k, k ∈ l → KdC n k) : KdC (n + 1) (.tup l)
theorem KdC.mono {n : Nat} {k : Kd} (h : KdC n k) : KdC (n + 1) k := by
  induction h with
  | non => exact .non
  | bl b => exact .bl b
  | int i h => exact .int i (by omega)
  | str s h1 h2 => exact .str s h1 h2
  | tup hl h ih => exact .tup hl ih
theorem KdC.rk {n : Nat} {k : Kd} (h : KdC n k) : rk k = 0 := by
  cases h <;> simp [K52.rk]
mutual
theorem KvAt.kin {Cc : Addr} {H : Hp} : ∀ {n : Nat} {v : V} {k : Kd}, KvAt Cc H v k → KdC n k → KIn H n v
  | _, _, _, .non, _ => .non
  | _, _, _, .bl b, _ => .bl b
  | _, _, _, .int i, _ => .int i
  | _, _, _, .str s, h => by cases h with | str _ h1 h2 => exact .str s (Nat.le_trans h1 (by decide)) h2
  | _, _, _, .tup h r, q => by
    cases q with
    | tup hl h2 => exact .tup h (by rw [r.len]; exact Nat.le_trans hl (by decide)) fun x hx => KvAll.kin r h2 x hx
  | _, _, _, .code h r _ _, q => by cases q
theorem KvAll.kin {Cc : Addr} {H : Hp} : ∀ {n : Nat} {vs : List V} {ks : List Kd}, KvAll Cc H vs ks → (∀ k, k ∈ ks → KdC n k) → ∀ x, x ∈ vs → KIn H n x
  | _, _, _, .nil, _, x, hx => by cases hx
  | _, _, _, .cons h r, q, x, hx => by
    rcases List.mem_cons.mp hx with e | hx
    · rw [e]
      exact KvAt.kin h (q _ (List.mem_cons_self ..))
    · exact KvAll.kin r (fun k hk => q k (List.mem_cons_of_mem _ hk)) x hx
end
/-- plain fields that a code may have, of m things at most -/
structure FldS (m : Nat) (F : FD) : Prop where
  n1 : 0 ≤ F.i1 ∧ F.i1 ≤ 2147483647
  n2 : 0 ≤ F.i2 ∧ F.i2 ≤ 2147483647
  n3 : 0 ≤ F.i3 ∧ F.i3 ≤ 2147483647
  n4 : 0 ≤ F.i4 ∧ F.i4 ≤ 2147483647
  line : 0 ≤ F.line ∧ F.line ≤ 2147483647
  code : (∀ n ∈ F.code, 0 ≤ n ∧ n ≤ 255) ∧ F.code.length ≤ m
  kinds : (∀ n ∈ F.kinds, 0 ≤ n ∧ n ≤ 255) ∧ F.kinds.length ≤ m
  lines : (∀ n ∈ F.lines, 0 ≤ n ∧ n ≤ 255) ∧ F.lines.length ≤ m
  handlers : (∀ n ∈ F.handlers, 0 ≤ n ∧ n ≤ 255) ∧ F.handlers.length ≤ m
  names : (∀ x ∈ F.names, x.cps.size ≤ m ∧ OkS x) ∧ F.names.length ≤ m
  slots : (∀ x ∈ F.slots, x.cps.size ≤ m ∧ OkS x) ∧ F.slots.length ≤ m
  name : F.name.cps.size ≤ m ∧ OkS F.name
  path : F.path.cps.size ≤ m ∧ OkS F.path
  klen : F.kinds.length = F.slots.length
theorem FldS.mono {m m' : Nat} {F : FD} (hm : m ≤ m') (h : FldS m F) : FldS m' F :=
  ⟨h.n1, h.n2, h.n3, h.n4, h.line, ⟨h.code.1, Nat.le_trans h.code.2 hm⟩, ⟨h.kinds.1, Nat.le_trans h.kinds.2 hm⟩, ⟨h.lines.1, Nat.le_trans h.lines.2 hm⟩, ⟨h.handlers.1, Nat.le_trans h.handlers.2 hm⟩,
    ⟨fun x hx => ⟨Nat.le_trans (h.names.1 x hx).1 hm, (h.names.1 x hx).2⟩, Nat.le_trans h.names.2 hm⟩, ⟨fun x hx => ⟨Nat.le_trans (h.slots.1 x hx).1 hm, (h.slots.1 x hx).2⟩, Nat.le_trans h.slots.2 hm⟩, ⟨Nat.le_trans h.name.1 hm, h.name.2⟩, ⟨Nat.le_trans h.path.1 hm, h.path.2⟩, h.klen⟩
/-- a good constant: n tuples deep at most, codes e deep at most -/
inductive Gk (n m : Nat) : Nat → Kd → Prop
  | flat {e : Nat} {k : Kd} (h : KdC n k) : Gk n m e k
  | code {e : Nat} {F : FD} {cs : List Kd} (h : FldS m F) (hl : cs.length ≤ 6) (hc : ∀ c, c ∈ cs → Gk n m e c) : Gk n m (e + 1) (.code F cs)
theorem rkL_le {b : Nat} : ∀ {ks : List Kd}, (∀ k, k ∈ ks → rk k ≤ b) → rkL ks ≤ b
  | [], _ => by
    rw [rkL]
    exact Nat.zero_le _
  | k :: ks, h => by
    rw [rkL]
    exact Nat.max_le.mpr ⟨h k (List.mem_cons_self ..), rkL_le fun x hx => h x (List.mem_cons_of_mem _ hx)⟩
theorem Gk.rk {n m e : Nat} {k : Kd} (h : Gk n m e k) : rk k ≤ e := by
  induction h with
  | flat h =>
    rw [h.rk]
    exact Nat.zero_le _
  | code h hl hc ih =>
    rw [K52.rk]
    exact Nat.succ_le_succ (rkL_le ih)
theorem Gk.mono {n m n' m' e : Nat} {k : Kd} (hn : n' = n ∨ n' = n + 1) (hm : m ≤ m') (h : Gk n m e k) : Gk n' m' e k := by
  induction h with
  | flat h =>
    refine .flat ?_
    rcases hn with e | e
    · rw [e]
      exact h
    · rw [e]
      exact h.mono
  | code h hl hc ih => exact .code (h.mono hm) hl ih
theorem Gk.up {n m e : Nat} {k : Kd} (h : Gk n m e k) : Gk n m (e + 1) k := by
  induction h with
  | flat h => exact .flat h
  | code h hl hc ih => exact .code h hl ih
theorem Gk.ups {n m e e' : Nat} {k : Kd} (he : e ≤ e') (h : Gk n m e k) : Gk n m e' k := by
  induction he with
  | refl => exact h
  | step _ ih => exact ih.up
theorem KvAt.ktop {Cc : Addr} {H : Hp} {n m e : Nat} {v : V} {k : Kd} (he : e ≤ 90) (h : KvAt Cc H v k) (g : Gk n m e k) : KTop Cc n H v := by
  cases g with
  | flat g => exact .inl (h.kin g)
  | @code e F cs g hl hc =>
    cases h with
    | @code a D j _ h r h0 h1 =>
      refine .inr ⟨j, ?_⟩
      have h3 : rkL cs ≤ e := rkL_le fun k hk => (hc k hk).rk
      obtain ⟨dx, fs, h0', _, _, _, _, _, _, _, _, _, _, _, _, _, _, h15⟩ := h
      exact ⟨a, dx, fs, rfl, h0', h15.1, h0, by omega⟩
/-- a code's fields are good -/
theorem cdok_of {Cc : Addr} {H : Hp} {n m e : Nat} {D : CD} {cs : List Kd} (he : e ≤ 90) (hm : m ≤ 1000) (g : Gk n m (e + 1) (.code D.fd cs)) (r : KvAll Cc H D.consts cs) : CdOk Cc n H D := by
  cases g with
  | flat g => cases g
  | code g hl hc =>
    have tl : ∀ {j : Nat}, j ≤ m → j ≤ 100000 := fun h => Nat.le_trans h (Nat.le_trans hm (by decide))
    exact ⟨⟨_, rfl, g.n1⟩, ⟨_, rfl, g.n2⟩, ⟨_, rfl, g.n3⟩, ⟨_, rfl, g.n4⟩, ⟨g.code.1, tl g.code.2⟩, fun x hx => by
        obtain ⟨k, hk, h⟩ := r.mem hx
        exact h.ktop he (hc k hk), by rw [r.len]; exact Nat.le_trans hl (by decide), ⟨fun x hx => ⟨Nat.le_trans (g.names.1 x hx).1 hm, (g.names.1 x hx).2⟩, tl g.names.2⟩, ⟨fun x hx => ⟨Nat.le_trans (g.slots.1 x hx).1 hm, (g.slots.1 x hx).2⟩, tl g.slots.2⟩,
      ⟨g.kinds.1, tl g.kinds.2⟩, g.klen, ⟨_, rfl, Nat.le_trans g.name.1 hm, g.name.2⟩, ⟨_, rfl, Nat.le_trans g.path.1 hm, g.path.2⟩, ⟨_, rfl, g.line⟩, ⟨g.lines.1, tl g.lines.2⟩, ⟨g.handlers.1, tl g.handlers.2⟩⟩
/-- a new code is its fields -/
theorem KvAt.mk {Cc : Addr} {H H' : Hp} {c : Addr} {D : CD} {m : Int} {cs : List Kd} (kp : Kp H H') (r : KvAll Cc H D.consts cs) (hN : NestOk Cc H D.consts m) (hC : CodeAt Cc H' c D m) : KvAt Cc H' (.ref c) (.code D.fd cs) := by
  have hb : 1 ≤ m ∧ m ≤ (rkL cs : Int) + 1 := by
    rcases hN.2 with h | ⟨x, hx, j, hj, e⟩
    · omega
    · obtain ⟨k, hk, h⟩ := r.mem hx
      obtain ⟨a, dx, fs, ex, g1, g2, g3, _⟩ := hj
      rw [ex] at h
      cases h with
      | tup g _ =>
        rw [g1] at g
        cases g
      | @code _ D' j' cs' g r' h0 h1 =>
        obtain ⟨dx', fs', g0, _, _, _, _, _, _, _, _, _, _, _, _, _, _, g15⟩ := g
        rw [g1] at g0
        cases g0
        have g15 := g15.1
        rw [g2] at g15
        cases g15
        have h4 := rk_mem hk
        rw [rk] at h4
        omega
  exact .code hC (r.kp kp) hb.1 hb.2
/-- a great integer -/
def spGreat : Sp := fun vs H Q _ => ∃ (src : Addr), vs = [.ref src] ∧ Src H src ∧ ∀ (i : Int) H', i.natAbs < 2 ^ 3400 → But src H H' → Src H' src → Q (.int i) H'
section
variable {P : Program} {w : World} {K : PySem.W.Frag} {mg : Str → Option Value} {base : Heap}
abbrev s_law_great : Stmt := top 50
abbrev N_law_great : List Str := ["source", "number", "most", "k"]
theorem sc_law_great : FnScope N_law_great ["source"] (defScope s_law_great) := ⟨rfl, rfl, rfl, by decide +kernel, rfl, by decide +kernel, by decide +kernel⟩
theorem ok_law_great {f : Addr} {fd : FuncData} (T : Gdr mg) (c_law_next : CalX P w K mg base 1 "_law_next" spNext) (c_law_one : CalX P w K mg base 2 "_law_one" spOneN) (F : DefX K mg "_law_great" s_law_great ["source"] f fd) : CalX P w K mg base 3 "_law_great" spGreat := by
  refine calx F sc_law_great (fun vs H Q E h => ?_) (fun cdv A outer s H vs Q E hr h => ?_)
  · obtain ⟨src, rfl, _⟩ := h
    rfl
  · obtain ⟨src, rfl, hs, k⟩ := h
    refine ⟨_, (pss_cons (ps_par (i := 1) (j := 2) (by rfl) sc_law_great.nd rfl rfl (by decide) rfl rfl (pa_cons pe_int (pa_cons (pe_cx c_law_one hr (by decide) rfl (pa_cons (pv 0) (pa_cons (pe_lst (pa_cons pe_int (pa_cons pe_int (pa_cons pe_int (pa_cons pe_int pa_nil))))) pa_nil))) pa_nil)) (by rfl))
    (pss_cons (ps_for PassesOwn.never rfl (pi_range1 (by rfl) T.n_range (pa_cons (pe_op op_add pe_int (pe_cx c_law_next hr (by decide) rfl (pa_cons (pv 0) (pa_cons (pv 2) pa_nil)))) pa_nil)) (pg_name (i := 3) sc_law_great.nd rfl (.inl rfl))
      (pss_one (ps_set (i := 1) sc_law_great.nd rfl (.inl rfl) (pe_op op_add (pe_op op_mulW (pv 1) (pe_op op_pow pe_int pe_int)) (pe_cx c_law_next hr (by decide) rfl (pa_cons (pv 0) (pa_cons (pe_op op_pow pe_int pe_int) pa_nil)))))))
    (pss_cons (ps_if (pt_cmpR op_eq (pe_cx c_law_next hr (by decide) rfl (pa_cons (pv 0) (pa_cons pe_int pa_nil))) pe_int (nomark _))
      (pss_one (ps_set (i := 1) sc_law_great.nd rfl (.inl rfl) (pe_op op_sub (pe_op op_shlW pe_int (pe_op op_mul pe_int (pe_cx c_law_next hr (by decide) rfl (pa_cons (pv 0) (pa_cons pe_int pa_nil))))) (pe_cx c_law_next hr (by decide) rfl (pa_cons (pv 0) (pa_cons pe_int pa_nil))))))
      pss_nil)
    (pss_one (ps_ret (pe_op op_mulW (pv 1) (pe_cx c_law_one hr (by decide) rfl (pa_cons (pv 0) (pa_cons (pe_lst (pa_cons pe_int (pa_cons (pe_op op_sub pe_int pe_int) pa_nil))) pa_nil))))))))), ?_⟩
    refine ⟨_, rfl, (by show 4 ≤ sizeLine; decide), ?_⟩
    walk_at "new1"
    have hs1 := hs.same s1
    refine ⟨src, p1, _, rfl, hs1, h1, hs.ne0 n1, by simp, by show 4 ≤ 1000; decide, fun v J hv bJ hJ => ?_⟩
    obtain ⟨m, rfl, m1, m2⟩ : ∃ m : Nat, v = .int m ∧ 1 ≤ m ∧ m ≤ 62 := by
      simp only [List.mem_cons, List.mem_nil_iff, or_false] at hv
      rcases hv with rfl | rfl | rfl | rfl
      · exact ⟨1, rfl, by decide, by decide⟩
      · exact ⟨3, rfl, by decide, by decide⟩
      · exact ⟨12, rfl, by decide, by decide⟩
      · exact ⟨62, rfl, by decide, by decide⟩
    have b0 : But src H J := (But.of s1).trans bJ
    refine ⟨_, _, rfl, ?_⟩
    refine ⟨_, rfl, _, rfl, src, _, rfl, hJ, by omega, Nat.lt_of_le_of_lt (show _ ≤ 62 by omega) (by decide +kernel), fun r J2 r0 r1 b2 hs2 => ⟨_, _, rfl, rfl, ?_⟩⟩
    have t16 : ((10 : Int) ^ (16 : Int).toNat) = 10 ^ 16 := rfl
    refine ⟨1 + r, rfl, by omega, by omega, for_range (lo := 0) (n := (1 + r).toNat) (fun i σ H' => ∃ (num : Int) (v3 : _), σ = [some (.ref src), some (.int num), some (.int m), v3] ∧ 0 ≤ num ∧ num.natAbs < 2 ^ (54 * i + 1) ∧ But src H H' ∧ Src H' src) ⟨0, _, rfl, by decide, by decide, b0.trans b2, hs2⟩ ?_ ?_⟩
    · rintro i σ H' hi ⟨num, v3, rfl, n0, n1, b3, hs3⟩
      have i62 : i < 62 := by omega
      refine ⟨_, rfl, _, _, rfl, rfl, ⟨by decide, by decide, by decide⟩, _, _, rfl, rfl, wide_mul (b := 54) n1 (by decide) (by omega) (by decide) (by omega), ?_⟩
      refine ⟨_, rfl, _, _, rfl, rfl, ⟨by decide, by decide, by decide⟩, src, _, rfl, hs3, by decide, by decide, fun v J3 v0 v1 b4 hs4 => ⟨_, _, rfl, rfl, ?_⟩⟩
      rw [t16] at v1 ⊢
      refine ⟨num * 10 ^ 16 + v, _, rfl, by omega, ?_, b3.trans b4, hs4⟩
      have e : 2 ^ (54 * (i + 1) + 1) = 2 ^ (54 * i + 1) * 2 ^ 54 := by
        rw [← Nat.pow_add]
        congr 1
      rw [e]
      generalize 2 ^ (54 * i + 1) = B at n1
      have : (10 : Nat) ^ 16 < 2 ^ 54 := by decide
      omega
    · rintro σ J3 ⟨num, v3, rfl, n0, n1, b3, hs3⟩
      refine ⟨_, rfl, src, 4, rfl, hs3, by decide, by decide, fun q J4 q0 q1 b4 hs4 => ⟨rfl, _, rfl, ?_⟩⟩
      refine ite2 (fun _ => ?_) (fun _ => ?_)
      · refine ⟨_, rfl, src, 221, rfl, hs4, by decide, by decide, fun u J5 u0 u1 b5 hs5 => ⟨_, _, rfl, rfl, .inl ⟨by decide, by decide⟩, _, _, rfl, rfl, ⟨by omega, ?_⟩, ?_⟩⟩
        · have : Builtin.Int.intBits 1 ≤ 2 := by decide
          omega
        refine ⟨_, rfl, src, 2, rfl, hs5, by decide, by decide, fun y J6 y0 y1 b6 hs6 => ⟨_, _, rfl, rfl, ?_⟩⟩
        have hN : ((1 : Int) * 2 ^ (15 * u).toNat - y).natAbs < 2 ^ 3399 := by
          have e1 : (15 * u).toNat ≤ 3300 := by omega
          have e2 : (2 : Nat) ^ (15 * u).toNat ≤ 2 ^ 3300 := Nat.pow_le_pow_right (by decide) e1
          have e3 : (2 : Nat) ^ 3300 + 2 < 2 ^ 3399 := by decide +kernel
          have e4 : ((2 : Int) ^ (15 * u).toNat) = ((2 ^ (15 * u).toNat : Nat) : Int) := by push_cast; rfl
          rw [e4]
          generalize (2 : Nat) ^ (15 * u).toNat = A at e2
          generalize (2 : Nat) ^ 3300 = B at e2 e3
          generalize (2 : Nat) ^ 3399 = C at e3
          omega
        refine ⟨_, rfl, _, rfl, _, _, rfl, rfl, (by show 2 ≤ sizeLine; decide), ?_⟩
        walk_at "new5"
        refine ⟨src, p5, _, rfl, hs6.same s5, h5, hs6.ne0 n5, by simp, by show 2 ≤ 1000; decide, fun v J7 hv b7 hs7 => ?_⟩
        simp only [List.mem_cons, List.mem_nil_iff, or_false] at hv
        rcases hv with rfl | rfl
        · exact ⟨_, _, rfl, rfl, wide_mul (b := 1) hN (by decide) (by decide) (by decide) (by decide), k _ J7 (wide_lt (b := 1) hN (by decide)) ((((b3.trans b4).trans b5).trans b6).trans ((But.of s5).trans b7)) hs7⟩
        · exact ⟨_, _, rfl, rfl, wide_mul (b := 1) hN (by decide) (by decide) (by decide) (by decide), k _ J7 (wide_lt (b := 1) hN (by decide)) ((((b3.trans b4).trans b5).trans b6).trans ((But.of s5).trans b7)) hs7⟩
      · have hN : num.natAbs < 2 ^ 3399 := Nat.lt_of_lt_of_le n1 (Nat.pow_le_pow_right (by decide) (by omega))
        refine ⟨_, rfl, _, rfl, _, _, rfl, rfl, (by show 2 ≤ sizeLine; decide), ?_⟩
        walk_at "new5"
        refine ⟨src, p5, _, rfl, hs4.same s5, h5, hs4.ne0 n5, by simp, by show 2 ≤ 1000; decide, fun v J7 hv b7 hs7 => ?_⟩
        simp only [List.mem_cons, List.mem_nil_iff, or_false] at hv
        rcases hv with rfl | rfl
        · exact ⟨_, _, rfl, rfl, wide_mul (b := 1) hN (by decide) (by decide) (by decide) (by decide), k _ J7 (wide_lt (b := 1) hN (by decide)) ((b3.trans b4).trans ((But.of s5).trans b7)) hs7⟩
        · exact ⟨_, _, rfl, rfl, wide_mul (b := 1) hN (by decide) (by decide) (by decide) (by decide), k _ J7 (wide_lt (b := 1) hN (by decide)) ((b3.trans b4).trans ((But.of s5).trans b7)) hs7⟩
end
def spConstant (Cc : Addr) (n : Nat) : Sp := fun vs H Q _ => ∃ (src : Addr), vs = [.ref src, .int n] ∧ Src H src ∧ ∀ v H' k, But src H H' → Src H' src → KvAt Cc H' v k → KdC n k → Q v H'
section
variable {P : Program} {w : World} {K : PySem.W.Frag} {mg : Str → Option Value} {base : Heap}
abbrev N_law_constant : List Str := ["source", "deep", "some", "k"]
theorem sc_law_constant : FnScope N_law_constant ["source", "deep"] (defScope s_law_constant) := ⟨rfl, rfl, rfl, by decide +kernel, rfl, by decide +kernel, by decide +kernel⟩
theorem ok_law_constant {Cc f : Addr} {fd : FuncData} (T : Gdr mg) (c_law_next : CalX P w K mg base 1 "_law_next" spNext) (c_law_one : CalX P w K mg base 2 "_law_one" spOneN) (c_law_text : CalX P w K mg base 3 "_law_text" spText) (c_law_great : CalX P w K mg base 3 "_law_great" spGreat) (F : DefX K mg "_law_constant" s_law_constant ["source", "deep"] f fd) : ∀ n, CalX P w K mg base (n + 4) "_law_constant" (spConstant Cc n) := by
  have two : ∀ (n : Nat) (sp' : Sp), CalX P w K mg base (n + 3) "_law_constant" sp' → (∀ m, n = m + 1 → sp' = spConstant Cc m) → CalX P w K mg base (n + 4) "_law_constant" (spConstant Cc n) := by
    intro n sp' c_law_constant hsp
    refine calx F sc_law_constant (fun vs H Q E h => ?_) (fun cdv A outer s H vs Q E hr h => ?_)
    · obtain ⟨src, rfl, _⟩ := h
      rfl
    · obtain ⟨src, rfl, hs, k⟩ := h
      have lv1 : 1 ≤ n + 3 := by omega
      have lv2 : 2 ≤ n + 3 := by omega
      have lv3 : 3 ≤ n + 3 := by omega
      refine ⟨_, (pss_cons (ps_if (PW.pt (pw_and (pt_cmpR op_gt (pv 1) pe_int (nomark _)) (pw_and1 (pt_cmpR op_eq (pe_cx c_law_next hr lv1 rfl (pa_cons (pv 0) (pa_cons pe_int pa_nil))) pe_int (nomark _)))))
      (pss_one (ps_ret (pe_callTy call_tuple_of (by rfl) T.n_tuple Boot.«tuple» (pa_cons (pe_lc (own := [("k", 3)]) (g := gName 3) (tt := tYes) rfl sc_law_constant.nd (pi_range1 (by rfl) T.n_range (pa_cons (pe_cx c_law_next hr lv1 rfl (pa_cons (pv 0) (pa_cons pe_int pa_nil))) pa_nil)) (blkOk_by (own := [("k", 3)]) (N := N_law_constant) (sc := defScope s_law_constant) (by decide +kernel)) (fun _ _ _ _ _ => (pg_name (i := 3) sc_law_constant.nd rfl (Or.inl rfl))) (fun _ _ _ _ _ => pts_nil) (fun _ _ _ _ _ => (pe_cx c_law_constant hr (Nat.le_refl _) rfl (pa_cons (pv 0) (pa_cons (pe_op op_sub (pv 1) pe_int) pa_nil))))) pa_nil))))
      pss_nil)
    (pss_cons (ps_if (pt_cmpR op_eq (pe_cx c_law_next hr lv1 rfl (pa_cons (pv 0) (pa_cons pe_int pa_nil))) pe_int (nomark _))
      (pss_one (ps_ret (pe_cx c_law_great hr lv3 rfl (pa_cons (pv 0) pa_nil))))
      pss_nil)
    (pss_cons (ps_set (i := 2) sc_law_constant.nd rfl (.inl rfl) (pe_lst (pa_cons pe_non (pa_cons pe_bl (pa_cons pe_bl (pa_cons pe_int (pa_cons pe_int (pa_cons (pe_op op_sub pe_int pe_int) (pa_cons pe_int (pa_cons pe_int (pa_cons (pe_op op_sub pe_int pe_int) (pa_cons (pe_op op_sub pe_int pe_int) (pa_cons (pe_op op_pow pe_int pe_int) pa_nil)))))))))))))
    (pss_cons (ps_set (i := 2) sc_law_constant.nd rfl (.inl rfl) (pe_op op_cat (pv 2) (pe_lst (pa_cons (pe_op op_sub (pe_cx c_law_next hr lv1 rfl (pa_cons (pv 0) (pa_cons (pe_op op_pow pe_int pe_int) pa_nil))) (pe_op op_pow pe_int pe_int)) (pa_cons (pe_cx c_law_text hr lv3 rfl (pa_cons (pv 0) pa_nil)) (pa_cons (pe_cx c_law_text hr lv3 rfl (pa_cons (pv 0) pa_nil)) (pa_cons (pe_op op_sub (pe_op op_pow pe_int pe_int) pe_int) pa_nil)))))))
    (pss_one (ps_ret (pe_cx c_law_one hr lv2 rfl (pa_cons (pv 0) (pa_cons (pv 2) pa_nil))))))))), ?_⟩
      exact joinH (c := fun J => But src H J ∧ Src J src) (fun rest => by
        refine ⟨_, rfl, _, _, rfl, rfl, _, rfl, ?_⟩
        rcases Nat.eq_zero_or_pos n with hn | hn
        case inr =>
          obtain ⟨m, hm⟩ : ∃ m, n = m + 1 := ⟨n - 1, by omega⟩
          rw [decide_eq_true (show (0 : Int) < (n : Int) by omega)]
          refine iteT ⟨_, rfl, src, 3, rfl, hs, by decide, by decide, fun r H1 r0 r1 b1 hs1 => ⟨rfl, _, rfl, ?_⟩⟩
          refine ite2 (fun c1 => ?_) (fun c1 => rest H1 ⟨b1, hs1⟩)
          refine ⟨_, rfl, src, 4, rfl, hs1, by decide, by decide, fun q H2 q0 q1 b2 hs2 => ?_⟩
          refine ⟨_, rfl, by omega, by omega, fun C nC => ?_⟩
          have neC : C ≠ src := hs2.ne0 nC
          refine lc_range (lo := 0) (n := q.toNat) (fun i H' => But src H2 H' ∧ Src H' src ∧ ∃ (acc : List V) (ks : List Kd), H' C = some (.lst acc) ∧ acc.length ≤ i ∧ KvAll Cc H' acc ks ∧ ∀ k, k ∈ ks → KdC m k) ⟨But.of (Same.new nC), hs2.same (Same.new nC), [], [], upd_same, Nat.le_refl _, .nil, fun v hv => by cases hv⟩ ?_ ?_
          · rintro i H' hi ⟨b3, hs3, acc, ks, hC, hl, hac, hks⟩
            refine ⟨rfl, ?_⟩
            unfold tYes
            refine iteT ⟨_, rfl, _, rfl, _, _, rfl, rfl, ?_⟩
            rw [hsp m hm]
            refine ⟨src, by
              show [V.ref src, V.int ((n : Int) - 1)] = _
              rw [show (n : Int) - 1 = (m : Int) by omega], hs3, fun v H4 k1 b4 hs4 hk hkc => ?_⟩
            have hC4 := b4 _ _ neC hC
            have kp4 := Kp.but hs3 b4
            refine ⟨acc, hC4, Nat.lt_of_le_of_lt (show acc.length ≤ 10 by omega) (by decide), fun b u n e => ?_, ?_, acc ++ [v], ks ++ [k1], upd_same, by rw [List.length_append]; exact Nat.succ_le_succ hl, ((hac.kp kp4).snoc hk).kp (Kp.mut hC4), fun k2 hk2 => ?_⟩
            · rw [upd_ne (ne_of_none e nC)]
              exact b4 _ _ n (b3 _ _ n e)
            · obtain ⟨x1, y1, z1, e, hr1⟩ := hs4
              exact ⟨x1, y1, z1, by rw [upd_ne neC.symm]; exact e, hr1⟩
            · rcases List.mem_append.mp hk2 with hk2 | hk2
              · exact hks k2 hk2
              · rw [List.mem_singleton.mp hk2]
                exact hkc
          rintro H5 ⟨b5, hs5, acc, ks, hC, hl, hac, hks⟩
          refine ⟨C, _, rfl, .inl ⟨SqL.of hC, fun p np => ?_⟩⟩
          have sn := Same.new (o := .tup acc) np
          refine k _ _ (.tup ks) (((b1.trans b2).trans b5).trans (But.of sn)) (hs5.same sn) (.tup upd_same (hac.kp (.same sn))) ?_
          rw [hm]
          refine .tup ?_ hks
          rw [← hac.len]
          omega
        case inl =>
          rw [decide_eq_false (show ¬ (0 : Int) < (n : Int) by omega)]
          exact iteF (iteF (rest H ⟨But.refl, hs⟩))) (fun J hJ => by
      obtain ⟨bJ0, hsJ0⟩ := hJ
      refine ⟨_, rfl, src, 4, rfl, hsJ0, by decide, by decide, fun r J r0 r1 bJ1 hsJ => ⟨rfl, _, rfl, ?_⟩⟩
      have bJ := bJ0.trans bJ1
      refine ite2 (fun _ => ⟨_, rfl, src, rfl, hsJ, fun i J2 hi b2 hs2 => k _ J2 _ (bJ.trans b2) hs2 (.int i) (.int i (Nat.lt_of_lt_of_le hi (Nat.le_add_right _ _)))⟩) (fun _ => ?_)
      refine ⟨_, _, rfl, rfl, _, _, rfl, rfl, _, _, rfl, rfl, _, _, rfl, rfl, ⟨by decide, by decide, by decide⟩, (by show 11 ≤ sizeLine; decide), ?_⟩
      walk_at "new3"
      have hs3 := hsJ.same s3
      have ne3 : p3 ≠ src := hsJ.ne0 n3
      refine ⟨_, rfl, _, rfl, _, _, rfl, rfl, ⟨by decide, by decide, by decide⟩, src, _, rfl, hs3, by decide, by decide, fun v H4 v0 v1 b4 hs4 => ⟨_, _, rfl, rfl, ⟨by decide, by decide, by decide⟩, _, _, rfl, rfl, ?_⟩⟩
      refine ⟨_, rfl, src, rfl, hs4, fun t5 H5 b5 hs5 o5 z5 => ?_⟩
      refine ⟨_, rfl, src, rfl, hs5, fun t6 H6 b6 hs6 o6 z6 => ?_⟩
      refine ⟨_, _, rfl, rfl, ⟨by decide, by decide, by decide⟩, _, _, rfl, rfl, (by show 4 ≤ sizeLine; decide), ?_⟩
      walk_at "new7"
      have h37 := s7 _ _ (b6 _ _ ne3 (b5 _ _ ne3 (b4 _ _ ne3 h3)))
      refine ⟨p3, p7, _, _, rfl, rfl, h37, h7, (by show 15 ≤ sizeLine; decide), ?_⟩
      walk_at "new8"
      have b38 : But src J H8 := (((((But.of s3).trans b4).trans b5).trans b6).trans (But.of s7)).trans (But.of s8)
      have hs8 := (hs6.same s7).same s8
      refine ⟨_, rfl, _, rfl, src, p8, _, rfl, hs8, h8, (hs6.same s7).ne0 n8, by simp, by show 15 ≤ 1000; decide, fun x H9 hx b9 hs9 => ?_⟩
      have fin : ∀ k1, KvAt Cc H9 x k1 → KdC n k1 → Q x H9 := fun k1 h1 h2 => k x H9 k1 ((bJ.trans b38).trans b9) hs9 h1 h2
      have v1 : v < 10 ^ 30 := v1
      have ib : ∀ i : Int, i.natAbs < 2 ^ 3400 → KdC n (.int i) := fun i h => .int i (Nat.lt_of_lt_of_le h (Nat.le_add_right _ _))
      rcases List.mem_append.mp hx with hx | hx
      · simp only [List.mem_cons, List.mem_nil_iff, or_false] at hx
        rcases hx with rfl | rfl | rfl | rfl | rfl | rfl | rfl | rfl | rfl | rfl | rfl
        · exact fin _ .non .non
        · exact fin _ (.bl _) (.bl _)
        · exact fin _ (.bl _) (.bl _)
        · exact fin _ (.int _) (ib _ (by decide))
        · exact fin _ (.int _) (ib _ (by decide))
        · exact fin _ (.int _) (ib _ (by decide))
        · exact fin _ (.int _) (ib _ (by decide))
        · exact fin _ (.int _) (ib _ (by decide))
        · exact fin _ (.int _) (ib _ (by decide))
        · exact fin _ (.int _) (ib _ (by decide))
        · exact fin _ (.int _) (ib _ (by decide))
      · simp only [List.mem_cons, List.mem_nil_iff, or_false] at hx
        rcases hx with rfl | rfl | rfl | rfl
        · exact fin _ (.int _) (ib _ (Nat.lt_of_lt_of_le (show (v - 10 ^ 29).natAbs < 10 ^ 31 by omega) (by decide)))
        · exact fin _ (.str _) (.str _ (Nat.le_trans z5 (by decide)) o5)
        · exact fin _ (.str _) (.str _ (Nat.le_trans z6 (by decide)) o6)
        · exact fin _ (.int _) (ib _ (by decide)))
  intro n
  induction n with
  | zero =>
    refine two 0 (fun _ _ _ _ => False) ?_ fun m e => absurd e (by omega)
    exact calx F sc_law_constant (fun vs H Q E h => h.elim) (fun cdv A outer s H vs Q E hr h => h.elim)
  | succ n ih =>
    refine two (n + 1) _ ih fun m e => ?_
    obtain rfl : n = m := by omega
    rfl
end
end K52
set_option maxHeartbeats 4000000
namespace K52
open PySem PySem.Spec PyProof.Rows L2 Nd
/-! ### k50 .. k52: a code of a row of fields -/
theorem GlK.gC {P : Program} {K : PySem.W.Frag} {mg : Str → Option Value} {Cc Cn fI : Addr} (G : GlK P K mg Cc Cn fI) : mg "Code" = some (.ref Cc) := by
  obtain ⟨u, e, r⟩ := G.c_Code
  rw [e]
  exact congrArg some r
/-- the row of a code's fields -/
def RowOf (H : Hp) (xs : List V) (D : CD) : Prop := ∃ c k1 k2 k3 k4 l h : Addr, xs = [.int D.i1, .int D.i2, .int D.i3, .int D.i4, .ref c, .ref k1, .ref k2, .ref k3, .ref k4, .str D.name, .str D.path, .int D.line, .ref l, .ref h] ∧
  LorT H c (D.code.map V.int) ∧ LorT H k1 D.consts ∧ LorT H k2 (D.names.map V.str) ∧ LorT H k3 (D.slots.map V.str) ∧ LorT H k4 (D.kinds.map V.int) ∧ LorT H l (D.lines.map V.int) ∧ LorT H h (D.handlers.map V.int)
/-- the same, all rows tuples -/
def RowT (H : Hp) (xs : List V) (D : CD) : Prop := ∃ c k1 k2 k3 k4 l h : Addr, xs = [.int D.i1, .int D.i2, .int D.i3, .int D.i4, .ref c, .ref k1, .ref k2, .ref k3, .ref k4, .str D.name, .str D.path, .int D.line, .ref l, .ref h] ∧
  H c = some (.tup (D.code.map V.int)) ∧ H k1 = some (.tup D.consts) ∧ H k2 = some (.tup (D.names.map V.str)) ∧ H k3 = some (.tup (D.slots.map V.str)) ∧ H k4 = some (.tup (D.kinds.map V.int)) ∧ H l = some (.tup (D.lines.map V.int)) ∧ H h = some (.tup (D.handlers.map V.int))
theorem RowT.row {H : Hp} {xs : List V} {D : CD} (h : RowT H xs D) : RowOf H xs D := by
  obtain ⟨c, k1, k2, k3, k4, l, h, e, a1, a2, a3, a4, a5, a6, a7⟩ := h
  exact ⟨c, k1, k2, k3, k4, l, h, e, .inr a1, .inr a2, .inr a3, .inr a4, .inr a5, .inr a6, .inr a7⟩
theorem RowT.kp {H H' : Hp} {xs : List V} {D : CD} (s : Kp H H') (h : RowT H xs D) : RowT H' xs D := by
  obtain ⟨c, k1, k2, k3, k4, l, h, e, a1, a2, a3, a4, a5, a6, a7⟩ := h
  have st : ∀ {t xs}, H t = some (.tup xs) → H' t = some (.tup xs) := fun h => s _ _ h (fun _ z => by cases z)
  exact ⟨c, k1, k2, k3, k4, l, h, e, st a1, st a2, st a3, st a4, st a5, st a6, st a7⟩
def spCode (Cc : Addr) (d : Nat) : Sp := fun vs H Q _ => ∃ (a : Addr) (xs : List V) (D : CD) (cs : List Kd) (m e : Nat), vs = [.ref a] ∧ H a = some (.lst xs) ∧ RowOf H xs D ∧ KvAll Cc H D.consts cs ∧ Gk d m (e + 1) (.code D.fd cs) ∧ e ≤ 90 ∧ m ≤ 1000 ∧ ∀ c H', H c = none → Same H H' → KvAt Cc H' (.ref c) (.code D.fd cs) → Q (.ref c) H'
theorem lort {H H' : Hp} {a : Addr} {xs : List V} (s : Same H H') (h : LorT H a xs) : LorT H' a xs := h.elim (fun h => .inl (s _ _ h)) fun h => .inr (s _ _ h)
theorem CdOk.same' {Cc : Addr} {d : Nat} {H H' : Hp} {D : CD} (s : Same H H') (h : CdOk Cc d H D) : CdOk Cc d H' D :=
  ⟨h.n1, h.n2, h.n3, h.n4, h.code, fun x hx => (h.consts x hx).same s, h.clen, h.names, h.slots, h.kinds, h.klen, h.name, h.path, h.line, h.lines, h.handlers⟩
section
variable {P : Program} {w : World} {K : PySem.W.Frag} {mg : Str → Option Value} {base : Heap} {Cc Cn fI : Addr}
abbrev s_law_code : Stmt := top 45
abbrev N_law_code : List Str := ["some"]
theorem sc_law_code : FnScope N_law_code ["some"] (defScope s_law_code) := ⟨rfl, rfl, rfl, by decide +kernel, rfl, by decide +kernel, by decide +kernel⟩
theorem ok_law_code {f fN : Addr} {fd fdN : FuncData} {ps : List Str} {d : Nat} (G : GlK P K mg Cc Cn fI) (M : Mk K Cc fN) (FN : FnOk P w K mg base (L2.CX P w) (d + 5) fN fdN ps (spInit Cc d)) (BN : Binds K fdN ps []) (F : DefX K mg "_law_code" s_law_code ["some"] f fd) : CalX P w K mg base (d + 7) "_law_code" (spCode Cc d) := by
  refine calx F sc_law_code (fun vs H Q E h => ?_) (fun cdv A outer s H vs Q E hr h => ?_)
  · obtain ⟨a, xs, D, cs, m, e, rfl, _⟩ := h
    rfl
  · obtain ⟨a, xs, D, cs, mz, ez, rfl, ha, hrow, hks, hgk, he, hm, k⟩ := h
    have hok := cdok_of he hm hgk hks
    obtain ⟨c, k1, k2, k3, k4, l, h, rfl, g1, g2, g3, g4, g5, g6, g7⟩ := hrow
    refine ⟨_, (pss_one (ps_ret (pe_make M FN hr rfl (GlK.gC G) BN .nil passL (pa_cons (pe_ix ix_list (pv 0) pe_int (fun _ _ => rfl)) (pa_cons (pe_ix ix_list (pv 0) pe_int (fun _ _ => rfl)) (pa_cons (pe_ix ix_list (pv 0) pe_int (fun _ _ => rfl)) (pa_cons (pe_ix ix_list (pv 0) pe_int (fun _ _ => rfl)) (pa_cons (pe_ix ix_list (pv 0) pe_int (fun _ _ => rfl)) (pa_cons (pe_ix ix_list (pv 0) pe_int (fun _ _ => rfl)) (pa_cons (pe_ix ix_list (pv 0) pe_int (fun _ _ => rfl)) (pa_cons (pe_ix ix_list (pv 0) pe_int (fun _ _ => rfl)) (pa_cons (pe_ix ix_list (pv 0) pe_int (fun _ _ => rfl)) (pa_cons (pe_ix ix_list (pv 0) pe_int (fun _ _ => rfl)) (pa_cons (pe_ix ix_list (pv 0) pe_int (fun _ _ => rfl)) (pa_cons (pe_ix ix_list (pv 0) pe_int (fun _ _ => rfl)) (pa_cons (pe_ix ix_list (pv 0) pe_int (fun _ _ => rfl)) (pa_cons (pe_ix ix_list (pv 0) pe_int (fun _ _ => rfl)) pa_nil))))))))))))))))), ?_⟩
    have sq := SqL.of (K := K) ha
    refine ⟨_, rfl, a, _, 0, _, rfl, rfl, sq, atI_nat (j := 0) rfl, ?_⟩
    refine ⟨_, rfl, a, _, 1, _, rfl, rfl, sq, atI_nat (j := 1) rfl, ?_⟩
    refine ⟨_, rfl, a, _, 2, _, rfl, rfl, sq, atI_nat (j := 2) rfl, ?_⟩
    refine ⟨_, rfl, a, _, 3, _, rfl, rfl, sq, atI_nat (j := 3) rfl, ?_⟩
    refine ⟨_, rfl, a, _, 4, _, rfl, rfl, sq, atI_nat (j := 4) rfl, ?_⟩
    refine ⟨_, rfl, a, _, 5, _, rfl, rfl, sq, atI_nat (j := 5) rfl, ?_⟩
    refine ⟨_, rfl, a, _, 6, _, rfl, rfl, sq, atI_nat (j := 6) rfl, ?_⟩
    refine ⟨_, rfl, a, _, 7, _, rfl, rfl, sq, atI_nat (j := 7) rfl, ?_⟩
    refine ⟨_, rfl, a, _, 8, _, rfl, rfl, sq, atI_nat (j := 8) rfl, ?_⟩
    refine ⟨_, rfl, a, _, 9, _, rfl, rfl, sq, atI_nat (j := 9) rfl, ?_⟩
    refine ⟨_, rfl, a, _, 10, _, rfl, rfl, sq, atI_nat (j := 10) rfl, ?_⟩
    refine ⟨_, rfl, a, _, 11, _, rfl, rfl, sq, atI_nat (j := 11) rfl, ?_⟩
    refine ⟨_, rfl, a, _, 12, _, rfl, rfl, sq, atI_nat (j := 12) rfl, ?_⟩
    refine ⟨_, rfl, a, _, 13, _, rfl, rfl, sq, atI_nat (j := 13) rfl, ?_⟩
    intro x dx nx nd ne
    have hsx : upd (upd H dx (.own x)) x (.ins Cc dx []) x = some (.ins Cc dx []) := upd_same
    have S8 : Same H (upd (upd H dx (.own x)) x (.ins Cc dx [])) := fun b o e => by
      rw [upd_ne (ne_of_none e nx), upd_ne (ne_of_none e nd)]
      exact e
    generalize upd (upd H dx (.own x)) x (.ins Cc dx []) = H8 at hsx S8
    refine ⟨x, dx, c, k1, k2, k3, k4, l, h, D, rfl, hsx, hok.same' S8, lort S8 g1, lort S8 g2, lort S8 g3, lort S8 g4, lort S8 g5, lort S8 g6, lort S8 g7, fun H' m B hN hC => ⟨rfl, k x H' nx (fun b o e => B b o (ne_of_none e nx) (S8 _ _ e)) ?_⟩⟩
    exact KvAt.mk (Kp.same fun b o e => B b o (ne_of_none e nx) (S8 _ _ e)) hks ⟨fun y hy j hj => hN.1 y hy j (hj.same S8), hN.2.imp (fun e => e) fun ⟨y, hy, j, hj, e⟩ => (by
      rcases hok.consts y hy with h1 | ⟨j', h1⟩
      · exact absurd hj (KIn.noCode (h1.same S8))
      · obtain rfl : j' = j := KCode.one (fun a o e _ => S8 a o e) h1 hj
        exact ⟨y, hy, _, h1, e⟩)⟩ hC
end
end K52
set_option maxHeartbeats 4000000
namespace K52
open PySem PySem.Spec PyProof.Rows L2 Nd
/-! ### k50 .. k52: drawn fields -/
theorem CdOk.kp {Cc : Addr} {d : Nat} {H H' : Hp} {D : CD} (s : Kp H H') (h : CdOk Cc d H D) : CdOk Cc d H' D :=
  ⟨h.n1, h.n2, h.n3, h.n4, h.code, fun x hx => (h.consts x hx).imp (KIn.kp s) fun ⟨j, a, dx, fs, e, h1, h2⟩ => ⟨j, a, dx, fs, e, s _ _ h1 (fun _ z => by cases z), h2⟩, h.clen, h.names, h.slots, h.kinds, h.klen, h.name, h.path, h.line, h.lines, h.handlers⟩
/-- a list of drawn things -/
theorem lc_draw {src C : Addr} {H1 : Hp} {m j : Nat} {te : TE} {vs : List Nat} {σ : L2.St} {Qd : Hp → Prop} (Pv : Hp → V → Prop) (kp : ∀ H H' v, Kp H H' → Pv H v → Pv H' v) (hs1 : Src H1 src) (nC : H1 C = none) (hm : m ≤ 1000) (hw : ∀ v, wipe ((wipe σ vs).set j (some v)) vs = wipe σ vs)
    (hstep : ∀ (i : Nat) (H' : Hp) (R : V → Hp → Prop), i < m → But src H1 H' → Src H' src → (∀ y H4, But src H' H4 → Src H4 src → Pv H4 y → R y H4) → te ((wipe σ vs).set j (some (.int (0 + i)))) H' R)
    (hd : ∀ H' acc, But src H1 H' → Src H' src → H' C = some (.lst acc) → acc.length = m → (∀ v, v ∈ acc → Pv H' v) → Qd H') :
    ∃ W : Nat → Nat → Hp → Prop, (∃ m, W 0 m (upd H1 C (.lst []))) ∧ ∀ i k H, W i k H →
      ((Itr 0 m).stop i H ∧ Qd H) ∨ ((Itr 0 m).go i H ∧ ∃ Nx : Hp → Prop, (∀ H', Nx H' → ∃ m', m' < k ∧ W (i + 1) m' H') ∧ ∀ x H', (Itr 0 m).yld i H x H' → gName j x (wipe σ vs) H' fun σ2 H2 => wipe σ2 vs = wipe σ vs ∧ tYes σ2 H2 fun b H3 =>
        if b = true then te σ2 H3 fun y H4 => ∃ acc, H4 C = some (.lst acc) ∧ acc.length < sizeLine ∧ Nx (upd H4 C (.lst (acc ++ [y]))) else Nx H3) := by
  have neC : C ≠ src := hs1.ne0 nC
  refine lc_range (lo := 0) (n := m) (fun i H' => But src H1 H' ∧ Src H' src ∧ ∃ acc : List V, H' C = some (.lst acc) ∧ acc.length = i ∧ ∀ v, v ∈ acc → Pv H' v) ⟨But.of (Same.new nC), hs1.same (Same.new nC), [], upd_same, rfl, fun v hv => by cases hv⟩ ?_ ?_
  · rintro i H' hi ⟨b2, hs2, acc, hC, hl, hac⟩
    refine ⟨hw _, ?_⟩
    unfold tYes
    refine iteT (hstep i H' _ hi b2 hs2 fun y H4 b4 hs4 hy => ?_)
    have hC4 := b4 _ _ neC hC
    refine ⟨acc, hC4, Nat.lt_of_le_of_lt (show acc.length ≤ 1000 by omega) (by decide), fun b u n e => ?_, ?_, acc ++ [y], upd_same, by rw [List.length_append, hl]; rfl, fun v hv => ?_⟩
    · rw [upd_ne (ne_of_none e nC)]
      exact b4 _ _ n (b2 _ _ n e)
    · obtain ⟨x1, y1, z1, e, hr1⟩ := hs4
      exact ⟨x1, y1, z1, by rw [upd_ne neC.symm]; exact e, hr1⟩
    · refine kp _ _ _ (Kp.mut hC4) ?_
      rcases List.mem_append.mp hv with hv | hv
      · exact kp _ _ _ (Kp.but hs2 b4) (hac v hv)
      · rw [List.mem_singleton.mp hv]
        exact hy
  · rintro H' ⟨b2, hs2, acc, hC, hl, hac⟩
    exact hd H' acc b2 hs2 hC hl hac
/-- the same over a list -/
theorem lc_drawL {K : PySem.W.Frag} {src C a : Addr} {H1 : Hp} {xs : List V} {j : Nat} {te : TE} {vs : List Nat} {σ : L2.St} {Qd : Hp → Prop} (Pv : Hp → V → Prop) (kp : ∀ H H' v, Kp H H' → Pv H v → Pv H' v) (hs1 : Src H1 src) (nC : H1 C = none) (ha : H1 a = some (.lst xs)) (nea : a ≠ src) (hm : xs.length ≤ 1000) (hw : ∀ v, wipe ((wipe σ vs).set j (some v)) vs = wipe σ vs)
    (hstep : ∀ (x : V) (H' : Hp) (R : V → Hp → Prop), x ∈ xs → But src H1 H' → Src H' src → (∀ y H4, But src H' H4 → Src H4 src → Pv H4 y → R y H4) → te ((wipe σ vs).set j (some x)) H' R)
    (hd : ∀ H' acc, But src H1 H' → Src H' src → H' C = some (.lst acc) → acc.length = xs.length → (∀ v, v ∈ acc → Pv H' v) → Qd H') :
    ∃ W : Nat → Nat → Hp → Prop, (∃ m, W 0 m (upd H1 C (.lst []))) ∧ ∀ i k H, W i k H →
      ((Itl K a).stop i H ∧ Qd H) ∨ ((Itl K a).go i H ∧ ∃ Nx : Hp → Prop, (∀ H', Nx H' → ∃ m', m' < k ∧ W (i + 1) m' H') ∧ ∀ x H', (Itl K a).yld i H x H' → gName j x (wipe σ vs) H' fun σ2 H2 => wipe σ2 vs = wipe σ vs ∧ tYes σ2 H2 fun b H3 =>
        if b = true then te σ2 H3 fun y H4 => ∃ acc, H4 C = some (.lst acc) ∧ acc.length < sizeLine ∧ Nx (upd H4 C (.lst (acc ++ [y]))) else Nx H3) := by
  have neC : C ≠ src := hs1.ne0 nC
  refine lc_list (K := K) (a := a) (xs := xs) (fun i H' => But src H1 H' ∧ Src H' src ∧ ∃ acc : List V, H' C = some (.lst acc) ∧ acc.length = i ∧ ∀ v, v ∈ acc → Pv H' v) ⟨But.of (Same.new nC), hs1.same (Same.new nC), [], upd_same, rfl, fun v hv => by cases hv⟩ (fun i H' _ p => SqL.of (p.1 _ _ nea ha)) ?_ ?_
  · rintro i x H' hi ⟨b2, hs2, acc, hC, hl, hac⟩
    have hil : i < xs.length := (List.getElem?_eq_some_iff.mp hi).1
    refine ⟨hw _, ?_⟩
    unfold tYes
    refine iteT (hstep x H' _ (List.mem_of_getElem? hi) b2 hs2 fun y H4 b4 hs4 hy => ?_)
    have hC4 := b4 _ _ neC hC
    refine ⟨acc, hC4, Nat.lt_of_le_of_lt (show acc.length ≤ 1000 by omega) (by decide), fun b u n e => ?_, ?_, acc ++ [y], upd_same, by rw [List.length_append, hl]; rfl, fun v hv => ?_⟩
    · rw [upd_ne (ne_of_none e nC)]
      exact b4 _ _ n (b2 _ _ n e)
    · obtain ⟨x1, y1, z1, e, hr1⟩ := hs4
      exact ⟨x1, y1, z1, by rw [upd_ne neC.symm]; exact e, hr1⟩
    · refine kp _ _ _ (Kp.mut hC4) ?_
      rcases List.mem_append.mp hv with hv | hv
      · exact kp _ _ _ (Kp.but hs2 b4) (hac v hv)
      · rw [List.mem_singleton.mp hv]
        exact hy
  · rintro H' ⟨b2, hs2, acc, hC, hl, hac⟩
    exact hd H' acc b2 hs2 hC hl hac
def isN (H : Hp) (v : V) : Prop := ∃ i : Int, v = .int i ∧ 0 ≤ i ∧ i ≤ 2147483647
def isT (H : Hp) (v : V) : Prop := ∃ s : Str, v = .str s ∧ OkS s ∧ s.cps.size ≤ 10
def isB (H : Hp) (v : V) : Prop := ∃ i : Int, v = .int i ∧ 0 ≤ i ∧ i ≤ 255
theorem strs_back {H : Hp} : ∀ {vs : List V}, (∀ v, v ∈ vs → isT H v) → ∃ ys : List Str, vs = ys.map V.str ∧ ∀ y, y ∈ ys → OkS y ∧ y.cps.size ≤ 10
  | [], _ => ⟨[], rfl, fun y hy => by cases hy⟩
  | v :: vs, h => by
    obtain ⟨y, rfl, h1⟩ := h v (List.mem_cons_self ..)
    obtain ⟨ys, rfl, h2⟩ := strs_back (vs := vs) fun u hu => h u (List.mem_cons_of_mem _ hu)
    exact ⟨y :: ys, rfl, fun z hz => by
      rcases List.mem_cons.mp hz with e | hz
      · rw [e]
        exact h1
      · exact h2 z hz⟩
theorem ints_back {H : Hp} : ∀ {vs : List V}, (∀ v, v ∈ vs → isB H v) → ∃ ns : List Int, vs = ns.map V.int ∧ ∀ n, n ∈ ns → 0 ≤ n ∧ n ≤ 255
  | [], _ => ⟨[], rfl, fun y hy => by cases hy⟩
  | v :: vs, h => by
    obtain ⟨y, rfl, h1⟩ := h v (List.mem_cons_self ..)
    obtain ⟨ys, rfl, h2⟩ := ints_back (vs := vs) fun u hu => h u (List.mem_cons_of_mem _ hu)
    exact ⟨y :: ys, rfl, fun z hz => by
      rcases List.mem_cons.mp hz with e | hz
      · rw [e]
        exact h1
      · exact h2 z hz⟩
theorem four_back {H : Hp} {vs : List V} (hl : vs.length = 4) (h : ∀ v, v ∈ vs → isN H v) : ∃ i1 i2 i3 i4 : Int, vs = [.int i1, .int i2, .int i3, .int i4] ∧ (0 ≤ i1 ∧ i1 ≤ 2147483647) ∧ (0 ≤ i2 ∧ i2 ≤ 2147483647) ∧ (0 ≤ i3 ∧ i3 ≤ 2147483647) ∧ (0 ≤ i4 ∧ i4 ≤ 2147483647) := by
  match vs, hl with
  | [a, b, c, d], _ =>
    obtain ⟨i1, rfl, h1⟩ := h a (by simp)
    obtain ⟨i2, rfl, h2⟩ := h b (by simp)
    obtain ⟨i3, rfl, h3⟩ := h c (by simp)
    obtain ⟨i4, rfl, h4⟩ := h d (by simp)
    exact ⟨i1, i2, i3, i4, rfl, h1, h2, h3, h4⟩
theorem joinS {c : L2.St → Hp → Prop} {R : L2.St → Hp → Prop} {G : Prop} (main : (∀ J x, c x J → R x J) → G) (rest : ∀ J x, c x J → R x J) : G := main rest
theorem kvall_of {Cc : Addr} {H : Hp} {p : Kd → Prop} : ∀ {vs : List V}, (∀ v, v ∈ vs → ∃ k, KvAt Cc H v k ∧ p k) → ∃ ks, KvAll Cc H vs ks ∧ ∀ k, k ∈ ks → p k
  | [], _ => ⟨[], .nil, fun k hk => by cases hk⟩
  | v :: vs, h => by
    obtain ⟨k, h1, h2⟩ := h v (List.mem_cons_self ..)
    obtain ⟨ks, h3, h4⟩ := kvall_of (vs := vs) fun u hu => h u (List.mem_cons_of_mem _ hu)
    exact ⟨k :: ks, .cons h1 h3, fun k2 hk => by
      rcases List.mem_cons.mp hk with e | hk
      · rw [e]
        exact h2
      · exact h4 k2 hk⟩
theorem KvAll.app {Cc : Addr} {H : Hp} {us : List V} {ls : List Kd} (g : KvAll Cc H us ls) : ∀ {vs : List V} {ks : List Kd}, KvAll Cc H vs ks → KvAll Cc H (vs ++ us) (ks ++ ls)
  | _, _, .nil => g
  | _, _, .cons h r => .cons h (KvAll.app g r)
theorem KvAll.take {Cc : Addr} {H : Hp} : ∀ {vs : List V} {ks : List Kd} (n : Nat), KvAll Cc H vs ks → KvAll Cc H (vs.take n) (ks.take n)
  | _, _, 0, _ => by rw [List.take_zero, List.take_zero]; exact .nil
  | _, _, n + 1, .nil => .nil
  | _, _, n + 1, .cons h r => .cons h (KvAll.take n r)
theorem KvAll.drop {Cc : Addr} {H : Hp} : ∀ {vs : List V} {ks : List Kd} (n : Nat), KvAll Cc H vs ks → KvAll Cc H (vs.drop n) (ks.drop n)
  | _, _, 0, h => h
  | _, _, n + 1, .nil => .nil
  | _, _, n + 1, .cons h r => KvAll.drop n r
theorem cutT {xs : List V} {k : Nat} : cutV xs none (some (k : Int)) = xs.take k := by
  unfold cutV
  rw [HT.sIx_none, HT.sIx_nat, List.drop_zero, Nat.sub_zero]
  by_cases h : k ≤ xs.length
  · rw [Nat.min_eq_left h]
  · rw [Nat.min_eq_right (by omega), List.take_length, List.take_of_length_le (by omega)]
theorem cutD {xs : List V} {k : Nat} : cutV xs (some (k : Int)) none = xs.drop k := by
  unfold cutV
  rw [HT.sIx_none, HT.sIx_nat]
  by_cases h : k ≤ xs.length
  · rw [Nat.min_eq_left h, List.take_of_length_le (by rw [List.length_drop]; omega)]
  · rw [Nat.min_eq_right (by omega), Nat.sub_self, List.take_zero, List.drop_eq_nil_of_le (by omega)]
def spDrawn (Cc : Addr) (e : Nat) : Sp := fun vs H Q _ => ∃ (src : Addr), vs = [.ref src, .int e] ∧ Src H src ∧ e ≤ 50 ∧ ∀ a H' (D : CD) (xs : List V) (cs : List Kd), H a = none → But src H H' → Src H' src → H' a = some (.lst xs) → RowT H' xs D → KvAll Cc H' D.consts cs → Gk 2 20 (e + 1) (.code D.fd cs) → Q (.ref a) H'
section
variable {P : Program} {w : World} {K : PySem.W.Frag} {mg : Str → Option Value} {base : Heap}
abbrev s_law_drawn_fields : Stmt := top 51
abbrev N_law_drawn_fields : List Str := ["source", "deep", "found", "wares", "nest", "slots", "sorts", "names", "k", "name"]
theorem sc_law_drawn_fields : FnScope N_law_drawn_fields ["source", "deep"] (defScope s_law_drawn_fields) := ⟨rfl, rfl, rfl, by decide +kernel, rfl, by decide +kernel, by decide +kernel⟩
theorem ok_law_drawn_fields {Cc f : Addr} {fd : FuncData} (T : Gdr mg) (c_law_next : CalX P w K mg base 1 "_law_next" spNext) (c_law_one : CalX P w K mg base 2 "_law_one" spOneN) (c_law_text : CalX P w K mg base 3 "_law_text" spText) (c_law_bytes : CalX P w K mg base 3 "_law_bytes" spBytes)
    (c_law_constant : CalX P w K mg base 6 "_law_constant" (spConstant Cc 2)) (c_law_code : CalX P w K mg base 9 "_law_code" (spCode Cc 2)) (F : DefX K mg "_law_drawn_fields" s_law_drawn_fields ["source", "deep"] f fd) : ∀ n, FnOk P w K mg base (L2.CX P w) (n + 10) f fd ["source", "deep"] (spDrawn Cc n) := by
  have two : ∀ (n : Nat) (sp' : Sp), CalX P w K mg base (n + 9) "_law_drawn_fields" sp' → (∀ m, n = m + 1 → sp' = spDrawn Cc m) → FnOk P w K mg base (L2.CX P w) (n + 10) f fd ["source", "deep"] (spDrawn Cc n) := by
    intro n sp' c_law_drawn_fields hsp
    refine fnx F sc_law_drawn_fields (fun vs H Q E h => ?_) (fun cdv A outer s H vs Q E hr h => ?_)
    · obtain ⟨src, rfl, _⟩ := h
      rfl
    · obtain ⟨src, rfl, hs, n50, k⟩ := h
      have lv1 : 1 ≤ n + 9 := by omega
      have lv2 : 2 ≤ n + 9 := by omega
      have lv3 : 3 ≤ n + 9 := by omega
      have lv6 : 6 ≤ n + 9 := by omega
      have lv9 : 9 ≤ n + 9 := by omega
      refine ⟨_, (pss_cons (ps_setLc (i := 2) (y := "found") (own := [("k", 8)]) (g := gName 8) (tt := tYes) rfl sc_law_drawn_fields.nd rfl rfl (sw_true rfl rfl rfl (by decide +kernel)) (pi_range1 (by rfl) T.n_range (pa_cons pe_int pa_nil)) (blkOk_by (own := [("k", 8)]) (N := N_law_drawn_fields) (sc := defScope s_law_drawn_fields) (by decide +kernel)) (fun _ _ _ _ _ => (pg_name (i := 8) sc_law_drawn_fields.nd rfl (Or.inl rfl))) (fun _ _ _ _ _ => pts_nil) (fun _ _ _ _ _ => (pe_cx c_law_one hr lv2 rfl (pa_cons (pv 0) (pa_cons (pe_lst (pa_cons pe_int (pa_cons pe_int (pa_cons pe_int (pa_cons pe_int (pa_cons pe_int (pa_cons (pe_cx c_law_next hr lv1 rfl (pa_cons (pv 0) (pa_cons pe_int pa_nil))) pa_nil))))))) pa_nil)))))
          (pss_cons (ps_setLc (i := 3) (y := "wares") (own := [("k", 8)]) (g := gName 8) (tt := tYes) rfl sc_law_drawn_fields.nd rfl rfl (sw_true rfl rfl rfl (by decide +kernel)) (pi_range1 (by rfl) T.n_range (pa_cons (pe_cx c_law_next hr lv1 rfl (pa_cons (pv 0) (pa_cons pe_int pa_nil))) pa_nil)) (blkOk_by (own := [("k", 8)]) (N := N_law_drawn_fields) (sc := defScope s_law_drawn_fields) (by decide +kernel)) (fun _ _ _ _ _ => (pg_name (i := 8) sc_law_drawn_fields.nd rfl (Or.inl rfl))) (fun _ _ _ _ _ => pts_nil) (fun _ _ _ _ _ => (pe_cx c_law_constant hr lv6 rfl (pa_cons (pv 0) (pa_cons pe_int pa_nil)))))
          (pss_cons (ps_if (pt_cmpR op_gt (pv 1) pe_int (nomark _))
            (pss_cons (ps_setLc (i := 4) (y := "nest") (own := [("k", 8)]) (g := gName 8) (tt := tYes) rfl sc_law_drawn_fields.nd rfl rfl (sw_true rfl rfl rfl (by decide +kernel)) (pi_range1 (by rfl) T.n_range (pa_cons (pe_cx c_law_next hr lv1 rfl (pa_cons (pv 0) (pa_cons pe_int pa_nil))) pa_nil)) (blkOk_by (own := [("k", 8)]) (N := N_law_drawn_fields) (sc := defScope s_law_drawn_fields) (by decide +kernel)) (fun _ _ _ _ _ => (pg_name (i := 8) sc_law_drawn_fields.nd rfl (Or.inl rfl))) (fun _ _ _ _ _ => pts_nil) (fun _ _ _ _ _ => (pe_cx c_law_code hr lv9 rfl (pa_cons (pe_cx c_law_drawn_fields hr (Nat.le_refl _) rfl (pa_cons (pv 0) (pa_cons (pe_op op_sub (pv 1) pe_int) pa_nil))) pa_nil))))
          (pss_one (ps_set (i := 3) sc_law_drawn_fields.nd rfl (.inl rfl) (pe_op op_cat (pe_op op_cat (pe_slice sl_list (pv 3) po_none (po_some pe_int)) (pv 4)) (pe_slice sl_list (pv 3) (po_some pe_int) po_none)))))
            pss_nil)
          (pss_cons (ps_setLc (i := 5) (y := "slots") (own := [("k", 8)]) (g := gName 8) (tt := tYes) rfl sc_law_drawn_fields.nd rfl rfl (sw_true rfl rfl rfl (by decide +kernel)) (pi_range1 (by rfl) T.n_range (pa_cons (pe_cx c_law_next hr lv1 rfl (pa_cons (pv 0) (pa_cons pe_int pa_nil))) pa_nil)) (blkOk_by (own := [("k", 8)]) (N := N_law_drawn_fields) (sc := defScope s_law_drawn_fields) (by decide +kernel)) (fun _ _ _ _ _ => (pg_name (i := 8) sc_law_drawn_fields.nd rfl (Or.inl rfl))) (fun _ _ _ _ _ => pts_nil) (fun _ _ _ _ _ => (pe_cx c_law_text hr lv3 rfl (pa_cons (pv 0) pa_nil))))
          (pss_cons (ps_set (i := 6) sc_law_drawn_fields.nd rfl (.inl rfl) (pe_callTy call_tuple_of (by rfl) T.n_tuple Boot.«tuple» (pa_cons (pe_lc (own := [("name", 9)]) (g := gName 9) (tt := tYes) rfl sc_law_drawn_fields.nd (pi_list (pv 5)) (blkOk_by (own := [("name", 9)]) (N := N_law_drawn_fields) (sc := defScope s_law_drawn_fields) (by decide +kernel)) (fun _ _ _ _ _ => (pg_name (i := 9) sc_law_drawn_fields.nd rfl (Or.inl rfl))) (fun _ _ _ _ _ => pts_nil) (fun _ _ _ _ _ => (pe_cx c_law_one hr lv2 rfl (pa_cons (pv 0) (pa_cons (pe_lst (pa_cons pe_int (pa_cons pe_int (pa_cons pe_int (pa_cons pe_int (pa_cons (pe_cx c_law_next hr lv1 rfl (pa_cons (pv 0) (pa_cons pe_int pa_nil))) pa_nil)))))) pa_nil))))) pa_nil)))
          (pss_cons (ps_setLc (i := 7) (y := "names") (own := [("k", 8)]) (g := gName 8) (tt := tYes) rfl sc_law_drawn_fields.nd rfl rfl (sw_true rfl rfl rfl (by decide +kernel)) (pi_range1 (by rfl) T.n_range (pa_cons (pe_cx c_law_next hr lv1 rfl (pa_cons (pv 0) (pa_cons pe_int pa_nil))) pa_nil)) (blkOk_by (own := [("k", 8)]) (N := N_law_drawn_fields) (sc := defScope s_law_drawn_fields) (by decide +kernel)) (fun _ _ _ _ _ => (pg_name (i := 8) sc_law_drawn_fields.nd rfl (Or.inl rfl))) (fun _ _ _ _ _ => pts_nil) (fun _ _ _ _ _ => (pe_cx c_law_text hr lv3 rfl (pa_cons (pv 0) pa_nil))))
          (pss_cons (ps_set (i := 2) sc_law_drawn_fields.nd rfl (.inl rfl) (pe_op op_cat (pv 2) (pe_lst (pa_cons (pe_cx c_law_bytes hr lv3 rfl (pa_cons (pv 0) (pa_cons pe_int pa_nil))) (pa_cons (pe_callTy call_tuple_of (by rfl) T.n_tuple Boot.«tuple» (pa_cons (pv 3) pa_nil)) (pa_cons (pe_callTy call_tuple_of (by rfl) T.n_tuple Boot.«tuple» (pa_cons (pv 7) pa_nil)) (pa_cons (pe_callTy call_tuple_of (by rfl) T.n_tuple Boot.«tuple» (pa_cons (pv 5) pa_nil)) (pa_cons (pv 6) (pa_cons (pe_cx c_law_text hr lv3 rfl (pa_cons (pv 0) pa_nil)) pa_nil)))))))))
          (pss_one (ps_ret (pe_op op_cat (pv 2) (pe_lst (pa_cons (pe_cx c_law_text hr lv3 rfl (pa_cons (pv 0) pa_nil)) (pa_cons (pe_cx c_law_next hr lv1 rfl (pa_cons (pv 0) (pa_cons pe_int pa_nil))) (pa_cons (pe_cx c_law_bytes hr lv3 rfl (pa_cons (pv 0) (pa_cons pe_int pa_nil))) (pa_cons (pe_cx c_law_bytes hr lv3 rfl (pa_cons (pv 0) (pa_cons pe_int pa_nil))) pa_nil))))))))))))))), ?_⟩
      refine ⟨_, rfl, by decide, by decide, fun C1 n1 => lc_draw (m := 4) isN (fun _ _ _ _ h => h) hs n1 (by decide) (fun _ => rfl) (fun i H' R hi b2 hs2 hR => ?_) fun H1 fnd b1 hs1 hC1 hl1 hf1 => ?_⟩
      · refine ⟨_, rfl, _, rfl, src, 2147483648, rfl, hs2, by decide, by decide, fun v H3 v0 v1 b3 hs3 => ⟨(by show 6 ≤ sizeLine; decide), ?_⟩⟩
        walk_at "new4"
        have hs4 := hs3.same s4
        refine ⟨src, p4, _, rfl, hs4, h4, hs3.ne0 n4, by simp, by show 6 ≤ 1000; decide, fun x H5 hx b5 hs5 => hR x H5 ((b3.trans (But.of s4)).trans b5) hs5 ?_⟩
        have v1 : v < 2147483648 := v1
        simp only [List.mem_cons, List.mem_nil_iff, or_false] at hx
        rcases hx with rfl | rfl | rfl | rfl | rfl | rfl
        · exact ⟨_, rfl, by decide, by decide⟩
        · exact ⟨_, rfl, by decide, by decide⟩
        · exact ⟨_, rfl, by decide, by decide⟩
        · exact ⟨_, rfl, by decide, by decide⟩
        · exact ⟨_, rfl, by decide, by decide⟩
        · exact ⟨_, rfl, v0, by omega⟩
      refine ⟨_, rfl, src, 5, rfl, hs1, by decide, by decide, fun r H2 r0 r1 b2 hs2 => ⟨_, rfl, by omega, by omega, fun C2 n2 => ?_⟩⟩
      refine lc_draw (m := r.toNat) (fun H v => ∃ k, KvAt Cc H v k ∧ KdC 2 k) (fun _ _ _ s ⟨k, h1, h2⟩ => ⟨k, h1.kp s, h2⟩) hs2 n2 (by omega) (fun _ => rfl) (fun i H' R hi b3 hs3 hR => ?_) fun H3 wrs b3 hs3 hC3 hl3 hf3 => ?_
      · exact ⟨_, rfl, src, rfl, hs3, fun v H4 k1 b4 hs4 hk hkc => hR v H4 b4 hs4 ⟨k1, hk, hkc⟩⟩
      obtain ⟨cs0, hcs0, hcs1⟩ := kvall_of hf3
      have nC2 := hs2.ne0 n2
      change tSeq _ _ _ [some (.ref src), some (.int n), some (.ref C1), some (.ref C2), none, none, none, none, none, none] H3
      exact joinS (c := fun σ J => ∃ aw w4 wrs2 cs, σ = [some (.ref src), some (.int n), some (.ref C1), some (.ref aw), w4, none, none, none, none, none] ∧ But src H3 J ∧ Src J src ∧ aw ≠ src ∧ J aw = some (.lst wrs2) ∧ KvAll Cc J wrs2 cs ∧ (∀ k, k ∈ cs → Gk 2 20 n k) ∧ wrs2.length ≤ 6) (fun rest => by
        obtain ⟨J, eJ⟩ : ∃ J, H3 = J := ⟨_, rfl⟩
        obtain ⟨σ', eσ⟩ : ∃ σ', [some (V.ref src), some (.int n), some (.ref C1), some (.ref C2), none, none, none, none, none, none] = σ' := ⟨_, rfl⟩
        refine ⟨_, rfl, _, _, rfl, rfl, _, rfl, ?_⟩
        rcases Nat.eq_zero_or_pos n with hn | hn
        case inl =>
          rw [decide_eq_false (show ¬ (0 : Int) < (n : Int) by omega)]
          refine iteF ?_
          rw [eσ, eJ]
          exact rest J σ' ⟨C2, none, wrs, cs0, eσ.symm, by rw [← eJ]; exact But.refl, by rw [← eJ]; exact hs3, nC2, by rw [← eJ]; exact hC3, by rw [← eJ]; exact hcs0, fun k hk => .flat (hcs1 k hk), by omega⟩
        case inr =>
          obtain ⟨m, hm⟩ : ∃ m, n = m + 1 := ⟨n - 1, by omega⟩
          rw [decide_eq_true (show (0 : Int) < (n : Int) by omega)]
          refine iteT ⟨_, rfl, src, 3, rfl, hs3, by decide, by decide, fun r4 H4 r40 r41 b4 hs4 => ⟨_, rfl, by omega, by omega, fun C4 n4 => ?_⟩⟩
          refine lc_draw (m := r4.toNat) (fun H v => ∃ k, KvAt Cc H v k ∧ Gk 2 20 n k) (fun _ _ _ s ⟨k, h1, h2⟩ => ⟨k, h1.kp s, h2⟩) hs4 n4 (by omega) (fun _ => rfl) (fun i H' R hi b5 hs5 hR => ?_) fun H5 nst b5 hs5 hC5 hl5 hf5 => ?_
          · refine ⟨_, rfl, _, rfl, _, _, rfl, rfl, ?_⟩
            rw [hsp m hm]
            refine ⟨src, by
              show [V.ref src, V.int ((n : Int) - 1)] = _
              rw [show (n : Int) - 1 = (m : Int) by omega], hs5, by omega, fun a H6 D xs cs na b6 hs6 ha hrow hk hg => ?_⟩
            exact ⟨a, xs, D, cs, 20, m, rfl, ha, hrow.row, hk, hg, by omega, by decide, fun c H7 nc s7 hC => hR (.ref c) H7 (b6.trans (But.of s7)) (hs6.same s7) ⟨_, hC, by rw [hm]; exact hg⟩⟩
          have neC4 := hs4.ne0 n4
          have b35 : But src H3 H5 := b4.trans b5
          have hC25 := b35 _ _ nC2 hC3
          refine ⟨_, rfl, _, rfl, C2, wrs, rfl, SqL.of hC25, ?_⟩
          walk_at "new6"
          refine ⟨_, rfl, p6, C4, _, _, rfl, rfl, h6, s6 _ _ hC5, ?_, ?_⟩
          · have := cutV_length wrs none (some 2)
            exact Nat.le_trans (show _ ≤ 20 by omega) (by decide)
          walk_at "new7"
          refine ⟨_, rfl, _, rfl, ?_⟩
          dsimp only [tNoPart]
          refine ⟨C2, wrs, rfl, SqL.of (s7 _ _ (s6 _ _ hC25)), ?_⟩
          walk_at "new8"
          have h78 := s8 _ _ h7
          have e1 : cutV wrs none (some 2) = wrs.take 2 := cutT (k := 2)
          have e2 : cutV wrs (some 2) none = wrs.drop 2 := cutD (k := 2)
          rw [e1] at h78
          rw [e2] at h8
          refine ⟨p7, p8, _, _, rfl, rfl, h78, h8, ?_, ?_⟩
          · rw [List.length_append, List.length_take, List.length_drop]
            exact Nat.le_trans (show _ ≤ 20 by omega) (by decide)
          walk_at "new9"
          have s59 : Same H5 H9 := ((s6.trans s7).trans s8).trans s9
          have kp59 : Kp H5 H9 := .same s59
          have kp39 : Kp H3 H9 := (Kp.but hs3 b35).trans kp59
          obtain ⟨csn, hcn, hcj⟩ := kvall_of hf5
          have hs9 := hs5.same s59
          have ne9 : p9 ≠ src := ((hs5.same ((s6.trans s7).trans s8))).ne0 n9
          refine rest H9 _ ⟨p9, some (.ref C4), (wrs.take 2 ++ nst) ++ wrs.drop 2, (cs0.take 2 ++ csn) ++ cs0.drop 2, rfl, b35.trans (But.of s59), hs9, ne9, h9, ?_, fun k hk => ?_, ?_⟩
          · exact KvAll.app ((KvAll.drop 2 hcs0).kp kp39) (KvAll.app (hcn.kp kp59) ((KvAll.take 2 hcs0).kp kp39))
          · rcases List.mem_append.mp hk with hk | hk
            · rcases List.mem_append.mp hk with hk | hk
              · exact .flat (hcs1 k (List.mem_of_mem_take hk))
              · exact hcj k hk
            · exact .flat (hcs1 k (List.mem_of_mem_drop hk))
          · rw [List.length_append, List.length_append, List.length_take, List.length_drop]
            omega) (fun J σ hJ => by
        obtain ⟨aw, w4, wrs2, cs, rfl, bJ, hsJ, neaw, haw, hcs, hkx, hwl⟩ := hJ
        refine ⟨_, rfl, src, 4, rfl, hsJ, by decide, by decide, fun r5 H5 r50 r51 b5 hs5 => ⟨_, rfl, by omega, by omega, fun C5 n5 => ?_⟩⟩
        refine lc_draw (m := r5.toNat) isT (fun _ _ _ _ h => h) hs5 n5 (by omega) (fun _ => rfl) (fun i H' R hi b6 hs6 hR => ?_) fun H6 slv b6 hs6 hC5 hl5 hf5 => ?_
        · exact ⟨_, rfl, src, rfl, hs6, fun z H7 b7 hs7 oz lz => hR (.str z) H7 b7 hs7 ⟨z, rfl, oz, lz⟩⟩
        have ne5 := hs5.ne0 n5
        refine ⟨_, rfl, C5, rfl, ⟨_, SqL.of hC5⟩, fun C7 n7 => ?_⟩
        have ne7 := hs6.ne0 n7
        refine lc_drawL (a := C5) (xs := slv) isB (fun _ _ _ _ h => h) hs6 n7 hC5 ne5 (by omega) (fun _ => rfl) (fun x H' R hi b8 hs8 hR => ?_) fun H8 srt b8 hs8 hC7 hl7 hf7 => ?_
        · refine ⟨_, rfl, _, rfl, src, 256, rfl, hs8, by decide, by decide, fun v H9 v0 v1 b9 hs9 => ⟨(by show 5 ≤ sizeLine; decide), ?_⟩⟩
          walk_at "new10"
          have hs10 := hs9.same s10
          refine ⟨src, p10, _, rfl, hs10, h10, hs9.ne0 n10, by simp, by show 5 ≤ 1000; decide, fun x H11 hx b11 hs11 => hR x H11 ((b9.trans (But.of s10)).trans b11) hs11 ?_⟩
          have v1 : v < 256 := v1
          simp only [List.mem_cons, List.mem_nil_iff, or_false] at hx
          rcases hx with rfl | rfl | rfl | rfl | rfl
          · exact ⟨_, rfl, by decide, by decide⟩
          · exact ⟨_, rfl, by decide, by decide⟩
          · exact ⟨_, rfl, by decide, by decide⟩
          · exact ⟨_, rfl, by decide, by decide⟩
          · exact ⟨_, rfl, v0, by omega⟩
        refine ⟨C7, _, rfl, .inl ⟨SqL.of hC7, ?_⟩⟩
        walk_at "new9"
        have hs9 := hs8.same s9
        refine ⟨_, rfl, src, 4, rfl, hs9, by decide, by decide, fun r10 H10 r100 r101 b10 hs10 => ⟨_, rfl, by omega, by omega, fun C11 n11 => ?_⟩⟩
        have ne11 := hs10.ne0 n11
        refine lc_draw (m := r10.toNat) isT (fun _ _ _ _ h => h) hs10 n11 (by omega) (fun _ => rfl) (fun i H' R hi b6 hs6 hR => ?_) fun H12 nms b12 hs12 hC12 hl12 hf12 => ?_
        · exact ⟨_, rfl, src, rfl, hs6, fun z H7 b7 hs7 oz lz => hR (.str z) H7 b7 hs7 ⟨z, rfl, oz, lz⟩⟩
        have ne1 := hs.ne0 n1
        refine ⟨_, rfl, _, rfl, src, 9, rfl, hs12, by decide, by decide, fun pb H13 ns13 nb13 b13 hs13 hpb hbts hb9 => ?_⟩
        have bJ12 : But src J H12 := ((((b5.trans b6).trans b8).trans (But.of s9)).trans b10).trans b12
        have haw13 := b13 _ _ neaw (bJ12 _ _ neaw haw)
        refine ⟨_, rfl, aw, _, rfl, .inl ⟨SqL.of haw13, ?_⟩⟩
        walk_at "new14"
        have hC14 := s14 _ _ (b13 _ _ ne11 hC12)
        refine ⟨_, rfl, C11, _, rfl, .inl ⟨SqL.of hC14, ?_⟩⟩
        walk_at "new15"
        have b6_12 : But src H6 H12 := (((b8.trans (But.of s9)).trans b10).trans b12)
        have hC15 := s15 _ _ (s14 _ _ (b13 _ _ ne5 (b6_12 _ _ ne5 hC5)))
        refine ⟨_, rfl, C5, _, rfl, .inl ⟨SqL.of hC15, ?_⟩⟩
        walk_at "new16"
        have hs16 := ((hs13.same s14).same s15).same s16
        refine ⟨_, rfl, _, rfl, src, rfl, hs16, fun z17 H17 b17 hs17 o17 l17 => ⟨(by show 6 ≤ sizeLine; decide), ?_⟩⟩
        walk_at "new18"
        have b01 : But src H H3 := ((b1.trans b2).trans b3)
        have b1_3 : But src H1 H3 := b2.trans b3
        have b3_17 : But src H3 H17 := (((((bJ.trans bJ12).trans b13).trans (But.of s14)).trans (But.of s15)).trans (But.of s16)).trans b17
        have hC18 := s18 _ _ (b3_17 _ _ ne1 (b1_3 _ _ ne1 hC1))
        refine ⟨C1, p18, fnd, _, rfl, rfl, hC18, h18, Nat.le_trans (show fnd.length + 6 ≤ 20 by omega) (by decide), ?_⟩
        walk_at "new19"
        have hs19 := (hs17.same s18).same s19
        have ne19 := (hs17.same s18).ne0 n19
        refine ⟨_, rfl, _, rfl, src, rfl, hs19, fun z20 H20 b20 hs20 o20 l20 => ⟨_, rfl, src, 1000, rfl, hs20, by decide, by decide, fun v21 H21 v0 v1 b21 hs21 => ⟨_, rfl, src, 5, rfl, hs21, by decide, by decide, fun pl H22 nl nnl b22 hs22 hpl hlts hl9 => ⟨_, rfl, src, 5, rfl, hs22, by decide, by decide, fun ph H23 nh nnh b23 hs23 hph hhts hh9 => ⟨(by show 4 ≤ sizeLine; decide), ?_⟩⟩⟩⟩⟩
        walk_at "new24"
        have b19_23 : But src H19 H23 := ((b20.trans b21).trans b22).trans b23
        refine ⟨p19, p24, _, _, rfl, rfl, s24 _ _ (b19_23 _ _ ne19 h19), h24, Nat.le_trans (show (fnd ++ _).length + 4 ≤ 20 by rw [List.length_append]; show fnd.length + 6 + 4 ≤ 20; omega) (by decide), ?_⟩
        walk_at "new25"
        obtain ⟨i1, i2, i3, i4, rfl, g1, g2, g3, g4⟩ := four_back hl1 hf1
        obtain ⟨nms, rfl, hnm⟩ := strs_back hf12
        obtain ⟨slv, rfl, hsl⟩ := strs_back hf5
        obtain ⟨srt, rfl, hsr⟩ := ints_back hf7
        have q23 : Kp H23 H25 := .same (s24.trans s25)
        have q22 := (Kp.but hs22 b23).trans q23
        have q21 := (Kp.but hs21 b22).trans q22
        have q20 := (Kp.but hs20 b21).trans q21
        have q19 := (Kp.but hs19 b20).trans q20
        have q17 : Kp H17 H25 := (Kp.same (s18.trans s19)).trans q19
        have q16 := (Kp.but hs16 b17).trans q17
        have q15 := (Kp.same s16).trans q16
        have q14 := (Kp.same s15).trans q15
        have q13 := (Kp.same s14).trans q14
        have q12 := (Kp.but hs12 b13).trans q13
        have q9 := ((Kp.but hs9 b10).trans (Kp.but hs10 b12)).trans q12
        have qJ := (Kp.but hsJ bJ12).trans q12
        have tp : ∀ {H' : Hp} {t : Addr} {xs : List V}, Kp H' H25 → H' t = some (.tup xs) → H25 t = some (.tup xs) := fun q h => q _ _ h (fun _ z => by cases z)
        have b24 : But src H H24 := ((((b01.trans b3_17).trans (But.of s18)).trans (But.of s19)).trans b19_23).trans (But.of s24)
        have hs24 : Src H24 src := hs23.same s24
        refine k p25 H25 ⟨i1, i2, i3, i4, ns13, wrs2, nms, slv, srt, z17, z20, v21, nl, nh⟩ _ cs ?_ (b24.trans (But.of s25)) (hs24.same s25) h25 ⟨pb, p14, p15, p16, p9, pl, ph, rfl, (tp q13 hpb), (tp q14 h14), (tp q15 h15), (tp q16 h16), (tp q9 h9), (tp q22 hpl), (tp q23 hph)⟩
          (hcs.kp qJ) (.code ?_ (by rw [← hcs.len]; exact hwl) hkx)
        · cases hz : H p25 with
          | none => rfl
          | some o =>
            rw [b24 p25 o (hs24.ne0 n25) hz] at n25
            cases n25
        · rw [List.length_map] at hl12 hl5 hl7
          rw [List.length_map] at hl7
          have v1 : v21 < 1000 := v1
          exact ⟨g1, g2, g3, g4, ⟨v0, by show v21 ≤ 2147483647; omega⟩, ⟨hbts.1, by show ns13.length ≤ 20; omega⟩, ⟨hsr, by show srt.length ≤ 20; omega⟩, ⟨hlts.1, by show nl.length ≤ 20; omega⟩, ⟨hhts.1, by show nh.length ≤ 20; omega⟩,
            ⟨fun x hx => ⟨Nat.le_trans (hnm x hx).2 (by decide), (hnm x hx).1⟩, by show nms.length ≤ 20; omega⟩, ⟨fun x hx => ⟨Nat.le_trans (hsl x hx).2 (by decide), (hsl x hx).1⟩, by show slv.length ≤ 20; omega⟩, ⟨Nat.le_trans l17 (by decide), o17⟩, ⟨Nat.le_trans l20 (by decide), o20⟩, hl7⟩)
  intro n
  induction n with
  | zero =>
    refine two 0 (fun _ _ _ _ => False) ?_ fun m e => absurd e (by omega)
    exact calx F sc_law_drawn_fields (fun vs H Q E h => h.elim) (fun cdv A outer s H vs Q E hr h => h.elim)
  | succ n ih =>
    refine two (n + 1) _ (F.cal ih) fun m e => ?_
    obtain rfl : n = m := by omega
    rfl
/-- of any depth up to 3 -/
def spDrawnA (Cc : Addr) : Sp := fun vs H Q E => ∃ e : Nat, e ≤ 3 ∧ spDrawn Cc e vs H Q E
theorem drawn_any {Cc f : Addr} {fd : FuncData} (h : ∀ n, FnOk P w K mg base (L2.CX P w) (n + 10) f fd ["source", "deep"] (spDrawn Cc n)) : FnOk P w K mg base (L2.CX P w) 13 f fd ["source", "deep"] (spDrawnA Cc) :=
  ⟨fun vs H Q E ⟨e, _, q⟩ => (h e).len vs H Q E q, fun A outer s H args us vs Q E hr e0 hb hv ⟨e, he, q⟩ => (h e).run A outer s H args us vs Q E (hr.mono (by omega)) e0 hb hv q⟩
end
end K52
set_option maxHeartbeats 4000000
namespace K52
open PySem PySem.Spec PyProof.Rows L2 Nd
/-! ### k50 .. k52: the fields of a code -/
def spFields (Cc : Addr) : Sp := fun vs H Q _ => ∃ (c : Addr) (D : CD) (m : Int), vs = [.ref c] ∧ CodeAt Cc H c D m ∧ ∀ a H' xs, H a = none → Same H H' → H' a = some (.lst xs) → RowT H' xs D → Q (.ref a) H'
section
variable {P : Program} {w : World} {K : PySem.W.Frag} {mg : Str → Option Value} {base : Heap} {Cc Cn fI : Addr}
abbrev s_law_fields : Stmt := top 46
abbrev N_law_fields : List Str := ["made", "found"]
theorem sc_law_fields : FnScope N_law_fields ["made"] (defScope s_law_fields) := ⟨rfl, rfl, rfl, by decide +kernel, rfl, by decide +kernel, by decide +kernel⟩
theorem ok_law_fields {f : Addr} {fd : FuncData} (G : GlK P K mg Cc Cn fI) (F : DefX K mg "_law_fields" s_law_fields ["made"] f fd) : CalX P w K mg base 1 "_law_fields" (spFields Cc) := by
  refine calx F sc_law_fields (fun vs H Q E h => ?_) (fun cdv A outer s H vs Q E hr h => ?_)
  · obtain ⟨c, D, m, rfl, _⟩ := h
    rfl
  · obtain ⟨c, D, m, rfl, hC, k⟩ := h
    have cl := G.ins.cl
    have na : ∀ f ∈ flds, NoAttr K Cc f := G.na
    obtain ⟨dx, fs, h0, h1, h2, h3, h4, ⟨t5, h5, g5⟩, ⟨t6, h6, g6⟩, ⟨t7, h7, g7⟩, ⟨t8, h8, g8⟩, ⟨t9, h9, g9⟩, h10, h11, h12, ⟨t13, h13, g13⟩, ⟨t14, h14, g14⟩, h15⟩ := hC
    refine ⟨_, (pss_cons (ps_set (i := 1) sc_law_fields.nd rfl (.inl rfl) (pe_lst (pa_cons (pe_fld (pv 0) rfl) (pa_cons (pe_fld (pv 0) rfl) (pa_cons (pe_fld (pv 0) rfl) (pa_cons (pe_fld (pv 0) rfl) (pa_cons (pe_fld (pv 0) rfl) (pa_cons (pe_fld (pv 0) rfl) (pa_cons (pe_fld (pv 0) rfl) pa_nil)))))))))
    (pss_one (ps_ret (pe_op op_cat (pv 1) (pe_lst (pa_cons (pe_fld (pv 0) rfl) (pa_cons (pe_fld (pv 0) rfl) (pa_cons (pe_fld (pv 0) rfl) (pa_cons (pe_fld (pv 0) rfl) (pa_cons (pe_fld (pv 0) rfl) (pa_cons (pe_fld (pv 0) rfl) (pa_cons (pe_fld (pv 0) rfl) pa_nil)))))))))))), ?_⟩
    refine ⟨_, rfl, c, Cc, dx, fs, _, rfl, h0, cl, na _ (by decide), h1, ?_⟩
    refine ⟨_, rfl, c, Cc, dx, fs, _, rfl, h0, cl, na _ (by decide), h2, ?_⟩
    refine ⟨_, rfl, c, Cc, dx, fs, _, rfl, h0, cl, na _ (by decide), h3, ?_⟩
    refine ⟨_, rfl, c, Cc, dx, fs, _, rfl, h0, cl, na _ (by decide), h4, ?_⟩
    refine ⟨_, rfl, c, Cc, dx, fs, _, rfl, h0, cl, na _ (by decide), h5, ?_⟩
    refine ⟨_, rfl, c, Cc, dx, fs, _, rfl, h0, cl, na _ (by decide), h6, ?_⟩
    refine ⟨_, rfl, c, Cc, dx, fs, _, rfl, h0, cl, na _ (by decide), h7, ?_⟩
    refine ⟨(by show 7 ≤ sizeLine; decide), ?_⟩
    intro p1 n1
    have s1 := Same.new (o := .lst [.int D.i1, .int D.i2, .int D.i3, .int D.i4, .ref t5, .ref t6, .ref t7]) n1
    have l1 : upd H p1 (.lst [.int D.i1, .int D.i2, .int D.i3, .int D.i4, .ref t5, .ref t6, .ref t7]) p1 = some (.lst [.int D.i1, .int D.i2, .int D.i3, .int D.i4, .ref t5, .ref t6, .ref t7]) := upd_same
    generalize upd H p1 (.lst [.int D.i1, .int D.i2, .int D.i3, .int D.i4, .ref t5, .ref t6, .ref t7]) = H1 at s1 l1 ⊢
    refine ⟨_, rfl, ?_⟩
    refine ⟨_, rfl, c, Cc, dx, fs, _, rfl, s1 _ _ h0, cl, na _ (by decide), h8, ?_⟩
    refine ⟨_, rfl, c, Cc, dx, fs, _, rfl, s1 _ _ h0, cl, na _ (by decide), h9, ?_⟩
    refine ⟨_, rfl, c, Cc, dx, fs, _, rfl, s1 _ _ h0, cl, na _ (by decide), h10, ?_⟩
    refine ⟨_, rfl, c, Cc, dx, fs, _, rfl, s1 _ _ h0, cl, na _ (by decide), h11, ?_⟩
    refine ⟨_, rfl, c, Cc, dx, fs, _, rfl, s1 _ _ h0, cl, na _ (by decide), h12, ?_⟩
    refine ⟨_, rfl, c, Cc, dx, fs, _, rfl, s1 _ _ h0, cl, na _ (by decide), h13, ?_⟩
    refine ⟨_, rfl, c, Cc, dx, fs, _, rfl, s1 _ _ h0, cl, na _ (by decide), h14, ?_⟩
    refine ⟨(by show 7 ≤ sizeLine; decide), ?_⟩
    walk_at "new2"
    refine ⟨p1, p2, _, _, rfl, rfl, s2 _ _ l1, h2, (by show 14 ≤ sizeLine; decide), ?_⟩
    walk_at "new3"
    have S : Same H H3 := (s1.trans s2).trans s3
    refine k p3 H3 _ ?_ S h3 ⟨t5, t6, t7, t8, t9, t13, t14, rfl, (S _ _ g5), (S _ _ g6), (S _ _ g7), (S _ _ g8), (S _ _ g9), (S _ _ g13), (S _ _ g14)⟩
    cases hz : H p3 with
    | none => rfl
    | some o =>
      rw [(s1.trans s2) _ _ hz] at n3
      cases n3
end
end K52
set_option maxHeartbeats 4000000
namespace K52
open PySem PySem.Spec PyProof.Rows L2 Nd
/-! ### k51: Code.fields -/
def intsD (ns : List Int) : PyData := .tuple (ns.map PyData.int)
def strsD (xs : List Str) : PyData := .tuple (xs.map PyData.str)
/-- what Code.fields tells -/
def fldD (F : FD) : PyData := .tuple [.tuple [.int F.i1, .int F.i2, .int F.i3, .int F.i4, .int F.line], .tuple [strsD F.names, strsD F.slots, .str F.name, .str F.path], intsD F.code, intsD F.kinds, intsD F.lines, intsD F.handlers]
theorem dpa_ints {K : PySem.W.Frag} {H : Hp} : ∀ ns : List Int, DpAll K H (ns.map V.int) (ns.map PyData.int)
  | [] => .nil
  | n :: ns => .cons (.int n) (dpa_ints ns)
theorem dpa_strs {K : PySem.W.Frag} {H : Hp} : ∀ xs : List Str, DpAll K H (xs.map V.str) (xs.map PyData.str)
  | [] => .nil
  | x :: xs => .cons (.str x) (dpa_strs xs)
theorem dp_ints {K : PySem.W.Frag} {H : Hp} {t : Addr} {ns : List Int} (h : H t = some (.tup (ns.map V.int))) : Dp K H (.ref t) (intsD ns) := .tup (SqT.of h) (dpa_ints ns)
theorem dp_strs {K : PySem.W.Frag} {H : Hp} {t : Addr} {xs : List Str} (h : H t = some (.tup (xs.map V.str))) : Dp K H (.ref t) (strsD xs) := .tup (SqT.of h) (dpa_strs xs)
def spFldM (K : PySem.W.Frag) (Cc : Addr) : Sp := fun vs H Q _ => ∃ (c : Addr) (D : CD) (m : Int), vs = [.ref c] ∧ CodeAt Cc H c D m ∧ ∀ t H', Same H H' → Dp K H' (.ref t) (fldD D.fd) → Q (.ref t) H'
section
variable {P : Program} {w : World} {K : PySem.W.Frag} {mg : Str → Option Value} {base : Heap} {Cc Cn fI : Addr}
abbrev s_Code_fields : Stmt := metOf (top 17) 2
abbrev N_Code_fields : List Str := ["self", "numbers", "names"]
theorem sc_Code_fields : FnScope N_Code_fields ["self"] (defScope s_Code_fields) := ⟨rfl, rfl, rfl, by decide +kernel, rfl, by decide +kernel, by decide +kernel⟩
theorem ok_Code_fields {f : Addr} {fd : FuncData} (G : GlK P K mg Cc Cn fI) (F : MetX K "fields" "Code.fields" s_Code_fields ["self"] f fd) : FnOk P w K mg base (L2.CX P w) 1 f fd ["self"] (spFldM K Cc) := by
  refine F.fn.ok sc_Code_fields (fun vs H Q E h => ?_) (fun cdv A outer s H vs Q E hr h => ?_)
  · obtain ⟨c, D, m, rfl, _⟩ := h
    rfl
  · obtain ⟨c, D, m, rfl, hC, k⟩ := h
    have cl := G.ins.cl
    have na : ∀ f ∈ flds, NoAttr K Cc f := G.na
    obtain ⟨dx, fs, h0, h1, h2, h3, h4, ⟨t5, h5, g5⟩, ⟨t6, h6, g6⟩, ⟨t7, h7, g7⟩, ⟨t8, h8, g8⟩, ⟨t9, h9, g9⟩, h10, h11, h12, ⟨t13, h13, g13⟩, ⟨t14, h14, g14⟩, h15⟩ := hC
    refine ⟨_, PSs.nox (pss_cons (ps_set (i := 1) sc_Code_fields.nd rfl (.inl rfl) (pe_tup (pa_cons (pe_fld (pv 0) rfl) (pa_cons (pe_fld (pv 0) rfl) (pa_cons (pe_fld (pv 0) rfl) (pa_cons (pe_fld (pv 0) rfl) (pa_cons (pe_fld (pv 0) rfl) pa_nil)))))))
    (pss_cons (ps_set (i := 2) sc_Code_fields.nd rfl (.inl rfl) (pe_tup (pa_cons (pe_fld (pv 0) rfl) (pa_cons (pe_fld (pv 0) rfl) (pa_cons (pe_fld (pv 0) rfl) (pa_cons (pe_fld (pv 0) rfl) pa_nil))))))
    (pss_one (ps_ret (pe_tup (pa_cons (pv 1) (pa_cons (pv 2) (pa_cons (pe_fld (pv 0) rfl) (pa_cons (pe_fld (pv 0) rfl) (pa_cons (pe_fld (pv 0) rfl) (pa_cons (pe_fld (pv 0) rfl) pa_nil))))))))))), ?_⟩
    refine ⟨_, rfl, c, Cc, dx, fs, _, rfl, h0, cl, na _ (by decide), h1, ?_⟩
    refine ⟨_, rfl, c, Cc, dx, fs, _, rfl, h0, cl, na _ (by decide), h2, ?_⟩
    refine ⟨_, rfl, c, Cc, dx, fs, _, rfl, h0, cl, na _ (by decide), h3, ?_⟩
    refine ⟨_, rfl, c, Cc, dx, fs, _, rfl, h0, cl, na _ (by decide), h4, ?_⟩
    refine ⟨_, rfl, c, Cc, dx, fs, _, rfl, h0, cl, na _ (by decide), h12, ?_⟩
    refine ⟨(by show 5 ≤ sizeLine; decide), ?_⟩
    intro p1 n1
    have s1 := Same.new (o := .tup [.int D.i1, .int D.i2, .int D.i3, .int D.i4, .int D.line]) n1
    have l1 : upd H p1 (.tup [.int D.i1, .int D.i2, .int D.i3, .int D.i4, .int D.line]) p1 = some (.tup [.int D.i1, .int D.i2, .int D.i3, .int D.i4, .int D.line]) := upd_same
    generalize upd H p1 (.tup [.int D.i1, .int D.i2, .int D.i3, .int D.i4, .int D.line]) = H1 at s1 l1 ⊢
    refine ⟨_, rfl, c, Cc, dx, fs, _, rfl, s1 _ _ h0, cl, na _ (by decide), h7, ?_⟩
    refine ⟨_, rfl, c, Cc, dx, fs, _, rfl, s1 _ _ h0, cl, na _ (by decide), h8, ?_⟩
    refine ⟨_, rfl, c, Cc, dx, fs, _, rfl, s1 _ _ h0, cl, na _ (by decide), h10, ?_⟩
    refine ⟨_, rfl, c, Cc, dx, fs, _, rfl, s1 _ _ h0, cl, na _ (by decide), h11, ?_⟩
    refine ⟨(by show 4 ≤ sizeLine; decide), ?_⟩
    intro p2 n2
    have s2 := Same.new (o := .tup [.ref t7, .ref t8, .str D.name, .str D.path]) n2
    have l2 : upd H1 p2 (.tup [.ref t7, .ref t8, .str D.name, .str D.path]) p2 = some (.tup [.ref t7, .ref t8, .str D.name, .str D.path]) := upd_same
    generalize upd H1 p2 (.tup [.ref t7, .ref t8, .str D.name, .str D.path]) = H2 at s2 l2 ⊢
    refine ⟨_, rfl, _, rfl, ?_⟩
    have s12 := s1.trans s2
    refine ⟨_, rfl, c, Cc, dx, fs, _, rfl, s12 _ _ h0, cl, na _ (by decide), h5, ?_⟩
    refine ⟨_, rfl, c, Cc, dx, fs, _, rfl, s12 _ _ h0, cl, na _ (by decide), h9, ?_⟩
    refine ⟨_, rfl, c, Cc, dx, fs, _, rfl, s12 _ _ h0, cl, na _ (by decide), h13, ?_⟩
    refine ⟨_, rfl, c, Cc, dx, fs, _, rfl, s12 _ _ h0, cl, na _ (by decide), h14, ?_⟩
    refine ⟨(by show 6 ≤ sizeLine; decide), ?_⟩
    intro p3 n3
    have s3 := Same.new (o := .tup [.ref p1, .ref p2, .ref t5, .ref t9, .ref t13, .ref t14]) n3
    have S := s12.trans s3
    refine k p3 _ S (.tup (SqT.of upd_same) (.cons (.tup (SqT.of (s3 _ _ (s2 _ _ l1))) (.cons (.int _) (.cons (.int _) (.cons (.int _) (.cons (.int _) (.cons (.int _) .nil)))))) (.cons (.tup (SqT.of (s3 _ _ l2)) (.cons (dp_strs (S _ _ g7)) (.cons (dp_strs (S _ _ g8)) (.cons (.str _) (.cons (.str _) .nil))))) (.cons (dp_ints (S _ _ g5)) (.cons (dp_ints (S _ _ g9)) (.cons (dp_ints (S _ _ g13)) (.cons (dp_ints (S _ _ g14)) .nil)))))))
end
end K52
set_option maxHeartbeats 4000000
/-! ### == of two instances by their class's own __eq__, whatever it answers -/
namespace Nd
open PySem PySem.Spec PyProof.Rows L2
/-- both are instances of the class at C; its __eq__ keeps sp -/
def rOwnEq (C : Addr) (sp : Sp) (E : XK) : R2 := fun x y H Q => ∃ (a b da db : Addr) (us vs : List (Str × V)), x = .ref a ∧ y = .ref b ∧ H a = some (.ins C da us) ∧ H b = some (.ins C db vs) ∧ sp [.ref a, .ref b] H (fun z H' => (∃ r, z = .bl r) ∧ Q z H') E
theorem op_ownEq {X : Cx} {k : Nat} {C g : Addr} {fd : FuncData} {ps : List Str} {sp : Sp} {E : XK} (fn : FnOk X.prog X.w X.K X.mg X.base (L2.CX X.prog X.w) k g fd ps sp) (room : Room k X.A)
    (find : PySem.W.findIn X.K (.ref C) "__eq__" = some (some (.ref g))) (isf : PySem.W.isFn X.K (.ref g) = true) (bi : Binds X.K fd ps []) (ps' : Passes (L2.CX X.prog X.w) X E) : OpR X (compareOp .Eq) (rOwnEq C sp E) := by
  rintro pins s σ H x y v u Q I rx ry ⟨a, b, da, db, us, vs, rfl, rfl, ia, ib, want⟩
  obtain rfl : v = Value.ref a := rx
  obtain rfl : u = Value.ref b := ry
  have ⟨_, la, _⟩ := ins_get I.hok ia
  have ⟨_, lb, _⟩ := ins_get I.hok ib
  have ⟨_, ka, _⟩ := la.look
  have ⟨_, kb, _⟩ := lb.look
  have ⟨m, fr⟩ := I.fr
  have bound := bi s [.ref a, .ref b] I.kIn (by have q := fn.len _ _ _ _ want; simpa using q)
  have run := fn.run X.A X.stack s H ⟨[.ref a, .ref b], []⟩ [.ref a, .ref b] [.ref a, .ref b] _ E room I.env0 (by simpa using bound) (.cons rfl (.cons rfl .nil)) want
  show wpAny _ X.A (richCompare .Eq (.ref a) (.ref b)) _ _ s
  refine PySem.W.cmp_K (op := .Eq) (tb := .ref C) room.units0 fr I.ok.mod.kin ka kb.type (by simp [PySem.W.notFirst]) find isf ?_
  refine wpAny_call (codeAny_mono run fun r s2 h2 => ?_)
  match r, h2 with
  | .error e, h2 => exact ps' pins σ H s e s2 I h2
  | .ok (.ret z), h2 =>
    have ⟨o, H2, I2, ro, ⟨t, et⟩, q2⟩ := I.after h2
    subst et
    cases ro
    exact ⟨.bl t, H2, I2, rfl, q2⟩
  | .ok .next, h2 => exact False.elim h2
  | .ok .brk, h2 => exact False.elim h2
  | .ok .cont, h2 => exact False.elim h2
end Nd
set_option maxHeartbeats 4000000
/-! ### == and != of an instance with anything, by its class's own __eq__; != by object's own __ne__ -/
namespace Nd
open PySem PySem.Spec PyProof.Rows L2 PySem.W PySem.Builtin
section
variable {prog : Program} {w : World} {A : Around} {E : Value → Shared → Prop} {s : Shared} {K : Frag} {x C L f : Addr} {h₀ : Heap} {m : PySem.Str → Option Value} {ox : Obj} {od : Option Obj} {b tb : Value}
theorem bind_ne (self : Value) : bindSpecial (.builtin "object.__ne__") self = pure (.builtin "object.__ne__", [self]) := PySem.F.cmp_object.ne.bind self
theorem ne_special {M : Model} {args : List Value} {Q : Option Value → Shared → Prop} (X : K.In s.heap) (I : InstAt s.heap x ox C od) (hs : findIn K (.ref C) "__ne__" = some (some (.builtin "object.__ne__")))
    (h : wpAny M A (call (.builtin "object.__ne__") (.ref x :: args)) (fun v => Q (some v)) E s) : wpAny M A (callSpecialIfBound? (.ref x) "__ne__" args) Q E s := by
  simp only [callSpecialIfBound?, bindSpecialIfBound?]
  refine wpAny_holding (wpAny_bind (wpAny_bind (wpAny_bind (I.type.here ((looks_findIn X hs).here ?_)))))
  refine wpAny_bind (wpAny_askSetting (wpAny_ite ?_))
  have fin : wpAny M A (call (.builtin "object.__ne__") ([.ref x] ++ args) >>= fun v => pure (some v)) Q E s := wpAny_bind (wpAny_mono h (fun v s' h' => wpAny_pure h') fun _ _ h' => h')
  split
  · exact wpAny_bind (wpAny_of_eq (bind_ne _) (wpAny_pure (by exact fin)))
  · exact wpAny_tryCatch (wpAny_bind (wpAny_of_eq (bind_ne _) (wpAny_pure (by exact fin))))
theorem ne_call {Q : Value → Shared → Prop} (hu : A.units + 1 < cLine) (X : K.In s.heap) (I : InstAt s.heap x ox C od) (hsub : subIn K (.ref C) (.type "object") = some true)
    (hs : findIn K (.ref C) "__eq__" = some (some (.ref f))) (hf : isFn K (.ref f) = true)
    (h : wpAny (model prog w) A.in1 (call (.ref f) [.ref x, b]) (fun v s' => ∃ t, v = .bool t ∧ Q (.bool (!t)) s') E s) :
    wpAny (model prog w) A (call (.builtin "object.__ne__") [.ref x, b]) Q E s := by
  have inst : Looks (model prog w) s.heap (isInstance (.ref x) (.type "object")) true := I.type.andThen (looks_subIn X hsub)
  refine wpAny_call (codeAny_call_builtin PySem.F.cmp_object.ne.plain PySem.F.cmpEntry_ne (check_slot PySem.F.cmpKind_ne PySem.F.cmpSplit_ne inst (PySem.F.cmpArgs_ne _ _) ?_))
  unfold Builtin.«object.__ne__»
  repeat (first
    | with_reducible refine wpAny_cRoomFor (show A.in1.units < cLine from hu) ?_
    | (refine wpAny_bind (m := callSpecialIfBound? (.ref x) (Str.ofString "__eq__") [b])
        (ifBound_K X I hs hf (wpAny_mono h (fun r s' hr => by
          obtain ⟨t, rfl, hq⟩ := hr
          repeat (first | exact hq | exact wpAny_pure hq | exact wpAny_truthy_bool hq | (refine wpAny_bind (m := truthy (.bool _)) (wpAny_truthy_bool ?_)) | wp_step)) fun _ _ e => e)))
    | wp_step)
theorem ne_K {Q : Value → Shared → Prop} (hu : A.units + 1 < cLine) (F : Fr h₀ L s.heap m) (X₀ : K.In h₀) (I : InstAt s.heap x ox C od) (hb : Looks (model prog w) s.heap (typeOf b) tb) (hn : notFirst K C tb = true)
    (hne : findIn K (.ref C) "__ne__" = some (some (.builtin "object.__ne__"))) (hsub : subIn K (.ref C) (.type "object") = some true)
    (hs : findIn K (.ref C) "__eq__" = some (some (.ref f))) (hf : isFn K (.ref f) = true)
    (h : wpAny (model prog w) A.in1 (call (.ref f) [.ref x, b]) (fun v s' => ∃ t, v = .bool t ∧ Q (.bool (!t)) s') E s) :
    wpAny (model prog w) A (richCompare .NotEq (.ref x) b) Q E s := by
  have X := X₀.keeps F.keep
  have one : wpAny (model prog w) A (tryCompare (.ref x) "__ne__" b) (fun r s' => ∃ v, r = some v ∧ Q v s') E s := by
    unfold tryCompare
    refine wpAny_bind (ne_special X I hne (ne_call hu X I hsub hs hf (wpAny_mono h (fun v s' hv => ?_) fun _ _ e => e)))
    obtain ⟨t, rfl, hq⟩ := hv
    exact ⟨t, rfl, wpAny_pure ⟨_, rfl, hq⟩⟩
  unfold richCompare
  simp only [oneThing_ref]
  refine wpAny_holding (wpAny_bind (wpAny_cRoomFor (Nat.lt_of_succ_lt hu) ?_))
  rw [cmpInfo_NotEq]
  dsimp only
  refine wpAny_bind (I.type.here (wpAny_bind (hb.here ?_)))
  split
  · rename_i q
    have e : subIn K tb (.ref C) = some false := by
      rcases Bool.or_eq_true_iff.mp hn with e | e
      · rw [beq_iff_eq.mp e] at q; simp at q
      · exact beq_iff_eq.mp e
    refine wpAny_bind ((looks_subIn X e).here ?_)
    simp only [Bool.false_eq_true, if_false]
    refine wpAny_bind (wpAny_mono one (fun r s' z => ?_) fun _ _ e => e)
    obtain ⟨v, rfl, hq⟩ := z
    exact wpAny_pure hq
  · refine wpAny_bind (wpAny_pure ?_)
    simp only [Bool.false_eq_true, if_false]
    refine wpAny_bind (wpAny_mono one (fun r s' z => ?_) fun _ _ e => e)
    obtain ⟨v, rfl, hq⟩ := z
    exact wpAny_pure hq
end
/-- the class's own == , and no != but object's -/
structure EqC (K : Frag) (C g : Addr) : Prop where
  eq : findIn K (.ref C) "__eq__" = some (some (.ref g))
  ne : findIn K (.ref C) "__ne__" = some (some (.builtin "object.__ne__"))
  sub : subIn K (.ref C) (.type "object") = some true
  fn : isFn K (.ref g) = true
/-- x is an instance of the class at C, y is anything whose type is known and no class below C; C's own __eq__ keeps sp -/
def rAnyEq (K : Frag) (C : Addr) (sp : Sp) (E : XK) : R2 := fun x y H Q => ∃ (a da : Addr) (us : List (PySem.Str × V)) (t : Value), x = .ref a ∧ H a = some (.ins C da us) ∧ TyX K H y t ∧ notFirst K C t = true ∧ sp [.ref a, y] H (fun z H' => (∃ r, z = .bl r) ∧ Q z H') E
def rAnyNe (K : Frag) (C : Addr) (sp : Sp) (E : XK) : R2 := fun x y H Q => ∃ (a da : Addr) (us : List (PySem.Str × V)) (t : Value), x = .ref a ∧ H a = some (.ins C da us) ∧ TyX K H y t ∧ notFirst K C t = true ∧ sp [.ref a, y] H (fun z H' => ∃ r, z = .bl r ∧ Q (.bl (!r)) H') E
section
variable {X : Cx} {k : Nat} {C g : Addr} {fd : FuncData} {ps : List PySem.Str} {sp : Sp} {E : XK}
theorem op_anyEq (fn : FnOk X.prog X.w X.K X.mg X.base (L2.CX X.prog X.w) k g fd ps sp) (room : Room k X.A) (c : EqC X.K C g) (bi : Binds X.K fd ps []) (ps' : Passes (L2.CX X.prog X.w) X E) : OpR X (compareOp .Eq) (rAnyEq X.K C sp E) := by
  rintro pins s σ H x y v u Q I rx ry ⟨a, da, us, t, rfl, ia, ty, hn, want⟩
  obtain rfl : v = Value.ref a := rx
  have ⟨_, la, _⟩ := ins_get I.hok ia
  have ⟨_, ka, _⟩ := la.look
  obtain ⟨Pk, KX, hPk, _⟩ := kit_of I ry ty
  have ⟨m, fr⟩ := I.fr
  have bound := bi s [.ref a, u] I.kIn (by have q := fn.len _ _ _ _ want; simpa using q)
  have run := fn.run X.A X.stack s H ⟨[.ref a, u], []⟩ [.ref a, u] [.ref a, y] _ E room I.env0 (by simpa using bound) (.cons rfl (.cons ry .nil)) want
  show wpAny _ X.A (richCompare .Eq (.ref a) u) _ _ s
  refine cmp_K (op := .Eq) (tb := t) room.units0 fr I.ok.mod.kin ka (KX.ty _ _ I.kIn hPk) hn c.eq c.fn ?_
  refine wpAny_call (codeAny_mono run fun r s2 h2 => ?_)
  match r, h2 with
  | .error e, h2 => exact ps' pins σ H s e s2 I h2
  | .ok (.ret z), h2 =>
    have ⟨o, H2, I2, ro, ⟨t, et⟩, q2⟩ := I.after h2
    subst et
    cases ro
    exact ⟨.bl t, H2, I2, rfl, q2⟩
  | .ok .next, h2 => exact False.elim h2
  | .ok .brk, h2 => exact False.elim h2
  | .ok .cont, h2 => exact False.elim h2
theorem op_anyNe (fn : FnOk X.prog X.w X.K X.mg X.base (L2.CX X.prog X.w) k g fd ps sp) (room : Room (k + 1) X.A) (c : EqC X.K C g) (bi : Binds X.K fd ps []) (ps' : Passes (L2.CX X.prog X.w) X E) : OpR X (compareOp .NotEq) (rAnyNe X.K C sp E) := by
  rintro pins s σ H x y v u Q I rx ry ⟨a, da, us, t, rfl, ia, ty, hn, want⟩
  obtain rfl : v = Value.ref a := rx
  have ⟨_, la, _⟩ := ins_get I.hok ia
  have ⟨_, ka, _⟩ := la.look
  obtain ⟨Pk, KX, hPk, _⟩ := kit_of I ry ty
  have ⟨m, fr⟩ := I.fr
  have bound := bi s [.ref a, u] I.kIn (by have q := fn.len _ _ _ _ want; simpa using q)
  have e0 := I.env0
  have run := fn.run X.A.in1 X.stack s H ⟨[.ref a, u], []⟩ [.ref a, u] [.ref a, y] _ E room.in1 ⟨e0.frames, e0.mod, e0.bs, e0.bsz, e0.funs, e0.frf, e0.hok, e0.bare⟩ (by simpa using bound) (.cons rfl (.cons ry .nil)) want
  show wpAny _ X.A (richCompare .NotEq (.ref a) u) _ _ s
  refine ne_K (tb := t) (by have := room.un; omega) fr I.ok.mod.kin ka (KX.ty _ _ I.kIn hPk) hn c.ne c.sub c.eq c.fn ?_
  refine wpAny_call (codeAny_mono run fun r s2 h2 => ?_)
  match r, h2 with
  | .error e, h2 => exact ps' pins σ H s e s2 I h2
  | .ok (.ret z), h2 =>
    have ⟨o, H2, I2, ro, t, et, q2⟩ := I.after h2
    subst et
    cases ro
    exact ⟨t, rfl, .bl (!t), H2, I2, rfl, q2⟩
  | .ok .next, h2 => exact False.elim h2
  | .ok .brk, h2 => exact False.elim h2
  | .ok .cont, h2 => exact False.elim h2
end
end Nd
set_option maxHeartbeats 4000000
namespace K52
open PySem PySem.Spec PyProof.Rows L2 Nd
/-! ### k51: equal constants, plain -/
mutual
theorem Dp.same {K : PySem.W.Frag} {H H' : Hp} (s : Same H H') : ∀ {x : V} {d : PyData}, Dp K H x d → Dp K H' x d
  | _, _, .non => .non
  | _, _, .bl b => .bl b
  | _, _, .int i => .int i
  | _, _, .str x => .str x
  | _, _, .lst h g => .lst (s.seq h) (DpAll.same s g)
  | _, _, .tup h g => .tup (seqT s h) (DpAll.same s g)
theorem DpAll.same {K : PySem.W.Frag} {H H' : Hp} (s : Same H H') : ∀ {xs : List V} {ds : List PyData}, DpAll K H xs ds → DpAll K H' xs ds
  | _, _, .nil => .nil
  | _, _, .cons h g => .cons (Dp.same s h) (DpAll.same s g)
end
mutual
/-- a constant without codes as data -/
def pd : Kd → PyData
  | .non => .none
  | .bl b => .bool b
  | .int i => .int i
  | .str s => .str s
  | .tup l => .tuple (pdL l)
  | .code _ _ => .none
def pdL : List Kd → List PyData
  | [] => []
  | k :: ks => pd k :: pdL ks
end
mutual
theorem KvAt.dp {Cc : Addr} {K : PySem.W.Frag} {H : Hp} : ∀ {n : Nat} {v : V} {k : Kd}, KvAt Cc H v k → KdC n k → Dp K H v (pd k)
  | _, _, _, .non, _ => .non
  | _, _, _, .bl b, _ => .bl b
  | _, _, _, .int i, _ => .int i
  | _, _, _, .str s, _ => .str s
  | _, _, _, .tup h r, q => by
    cases q with
    | tup hl h2 => exact .tup (SqT.of h) (KvAll.dp r h2)
  | _, _, _, .code h r _ _, q => by cases q
theorem KvAll.dp {Cc : Addr} {K : PySem.W.Frag} {H : Hp} : ∀ {n : Nat} {vs : List V} {ks : List Kd}, KvAll Cc H vs ks → (∀ k, k ∈ ks → KdC n k) → DpAll K H vs (pdL ks)
  | _, _, _, .nil, _ => .nil
  | _, _, _, .cons h r, q => .cons (KvAt.dp h (q _ (List.mem_cons_self ..))) (KvAll.dp r fun k hk => q k (List.mem_cons_of_mem _ hk))
end
theorem oks_lt {s : Str} (h : OkS s) {i c : Nat} (hc : s.cps[i]? = some c) : 32 ≤ c ∧ c ≤ 126 := by
  obtain ⟨h1, h2, _⟩ := h i c hc
  have h1 := of_decide_eq_false h1
  have h2 := of_decide_eq_false h2
  refine ⟨Nat.not_lt.mp fun z => h1 ?_, Nat.not_lt.mp fun z => h2 ?_⟩
  · show [c] < [32]
    exact List.cons_lt_cons_iff.mpr (.inl z)
  · show [126] < [c]
    exact List.cons_lt_cons_iff.mpr (.inl z)
theorem oks_str {s : Str} (h : OkS s) : PyData.strOk s = true := by
  unfold PyData.strOk
  rw [Array.all_eq_true]
  intro i hi
  have := (oks_lt h (i := i) (c := s.cps[i]) (by simp [hi])).2
  exact decide_eq_true (by omega)
theorem canl_all : ∀ {ds : List PyData}, (∀ d, d ∈ ds → d.canLay0 = true) → PyData.canLayAll0 ds = true
  | [], _ => by rw [PyData.canLayAll0]
  | d :: ds, h => by
    rw [PyData.canLayAll0, h d (List.mem_cons_self ..), canl_all fun x hx => h x (List.mem_cons_of_mem _ hx)]
    rfl
theorem dpt_all {n : Nat} : ∀ {ds : List PyData}, (∀ d, d ∈ ds → d.depth ≤ n) → PyData.depthAll ds ≤ n
  | [], _ => by
    rw [PyData.depthAll]
    exact Nat.zero_le _
  | d :: ds, h => by
    rw [PyData.depthAll]
    exact Nat.max_le.mpr ⟨h d (List.mem_cons_self ..), dpt_all fun x hx => h x (List.mem_cons_of_mem _ hx)⟩
theorem pdL_mem : ∀ {ks : List Kd} {d : PyData}, d ∈ pdL ks → ∃ k, k ∈ ks ∧ d = pd k
  | k :: ks, d, h => by
    rw [pdL] at h
    rcases List.mem_cons.mp h with e | h
    · exact ⟨k, List.mem_cons_self .., e⟩
    · obtain ⟨x, h1, h2⟩ := pdL_mem h
      exact ⟨x, List.mem_cons_of_mem _ h1, h2⟩
  | [], d, h => by
    rw [pdL] at h
    cases h
theorem KdC.shape {n : Nat} {k : Kd} (h : KdC n k) : (pd k).canLay0 = true ∧ (pd k).depth ≤ n := by
  induction h with
  | non => exact ⟨by rw [pd, PyData.canLay0], by rw [pd, PyData.depth]; exact Nat.zero_le _⟩
  | bl b => exact ⟨by rw [pd, PyData.canLay0], by rw [pd, PyData.depth]; exact Nat.zero_le _⟩
  | int i _ => exact ⟨by rw [pd, PyData.canLay0], by rw [pd, PyData.depth]; exact Nat.zero_le _⟩
  | str s _ h => exact ⟨by rw [pd, PyData.canLay0]; exact oks_str h, by rw [pd, PyData.depth]; exact Nat.zero_le _⟩
  | tup hl h ih =>
    rw [pd, PyData.canLay0, PyData.depth]
    exact ⟨canl_all fun d hd => by
      obtain ⟨k, hk, rfl⟩ := pdL_mem hd
      exact (ih k hk).1, Nat.succ_le_succ (dpt_all fun d hd => by
      obtain ⟨k, hk, rfl⟩ := pdL_mem hd
      exact (ih k hk).2)⟩
theorem KdC.shaped {n : Nat} {k : Kd} (h : KdC n k) (hn : n ≤ 60) : SeqAt.shaped (pd k) = true := by
  unfold SeqAt.shaped
  rw [h.shape.1, decide_eq_true (Nat.le_trans h.shape.2 (Nat.le_trans hn (by decide)))]
  rfl
def isTup : Kd → Bool
  | .tup _ => true
  | _ => false
def isBl : Kd → Bool
  | .bl _ => true
  | _ => false
def isCd : Kd → Bool
  | .code _ _ => true
  | _ => false
theorem beq_str {s t : Str} : (s == t) = true ↔ s = t := beq_iff_eq
/-- == of data, bools told apart, but for two tuples -/
theorem eqv_flat {k l : Kd} (hk : isCd k = false) (hl : isCd l = false) (ht : ¬ (isTup k = true ∧ isTup l = true)) (hb : isBl k = isBl l) : PyData.eqv (pd k) (pd l) = true ↔ k = l := by
  cases k <;> cases l <;> simp_all [pd, PyData.eqv, isTup, isBl, isCd]
theorem eqv_ints : ∀ {ns ms : List Int}, PyData.eqvAll (ns.map PyData.int) (ms.map PyData.int) = true ↔ ns = ms
  | [], [] => by simp [PyData.eqvAll]
  | [], m :: ms => by simp [PyData.eqvAll]
  | n :: ns, [] => by simp [PyData.eqvAll]
  | n :: ns, m :: ms => by
    rw [List.map_cons, List.map_cons, PyData.eqvAll, Bool.and_eq_true, eqv_ints, PyData.eqv, beq_iff_eq]
    simp
theorem eqv_strs : ∀ {ns ms : List Str}, PyData.eqvAll (ns.map PyData.str) (ms.map PyData.str) = true ↔ ns = ms
  | [], [] => by simp [PyData.eqvAll]
  | [], m :: ms => by simp [PyData.eqvAll]
  | n :: ns, [] => by simp [PyData.eqvAll]
  | n :: ns, m :: ms => by
    rw [List.map_cons, List.map_cons, PyData.eqvAll, Bool.and_eq_true, eqv_strs, PyData.eqv, beq_iff_eq]
    simp
theorem eqv_fld {F G : FD} : PyData.eqv (fldD F) (fldD G) = true ↔ F = G := by
  obtain ⟨a1, a2, a3, a4, a5, a6, a7, a8, a9, a10, a11, a12, a13⟩ := F
  obtain ⟨b1, b2, b3, b4, b5, b6, b7, b8, b9, b10, b11, b12, b13⟩ := G
  simp only [fldD, intsD, strsD, PyData.eqv, PyData.eqvAll, Bool.and_eq_true, beq_iff_eq, eqv_ints, eqv_strs, FD.mk.injEq, and_true]
  constructor
  · rintro ⟨⟨h1, h2, h3, h4, h5⟩, ⟨h6, h7, h8, h9⟩, h10, h11, h12, h13⟩
    exact ⟨h1, h2, h3, h4, h5, h10, h11, h12, h13, h6, h7, h8, h9⟩
  · rintro ⟨h1, h2, h3, h4, h5, h10, h11, h12, h13, h6, h7, h8, h9⟩
    exact ⟨⟨h1, h2, h3, h4, h5⟩, ⟨h6, h7, h8, h9⟩, h10, h11, h12, h13⟩
theorem int_can (ns : List Int) : PyData.canLayAll0 (ns.map PyData.int) = true := canl_all fun d hd => by
  obtain ⟨n, _, rfl⟩ := List.mem_map.mp hd
  rw [PyData.canLay0]
theorem str_can {xs : List Str} (h : ∀ x, x ∈ xs → OkS x) : PyData.canLayAll0 (xs.map PyData.str) = true := canl_all fun d hd => by
  obtain ⟨n, hn, rfl⟩ := List.mem_map.mp hd
  rw [PyData.canLay0]
  exact oks_str (h n hn)
theorem int_dep (ns : List Int) : PyData.depthAll (ns.map PyData.int) ≤ 0 := dpt_all fun d hd => by
  obtain ⟨n, _, rfl⟩ := List.mem_map.mp hd
  rw [PyData.depth]
  exact Nat.le_refl _
theorem str_dep (xs : List Str) : PyData.depthAll (xs.map PyData.str) ≤ 0 := dpt_all fun d hd => by
  obtain ⟨n, hn, rfl⟩ := List.mem_map.mp hd
  rw [PyData.depth]
  exact Nat.le_refl _
theorem fld_shaped {m : Nat} {F : FD} (h : FldS m F) : SeqAt.shaped (fldD F) = true := by
  unfold SeqAt.shaped
  rw [Bool.and_eq_true]
  constructor
  · simp only [fldD, intsD, strsD, PyData.canLay0, PyData.canLayAll0, int_can, str_can fun x hx => (h.names.1 x hx).2, str_can fun x hx => (h.slots.1 x hx).2, oks_str h.name.2, oks_str h.path.2, Bool.and_true]
  · have h1 := str_dep F.names
    have h2 := str_dep F.slots
    have h3 := int_dep F.code
    have h4 := int_dep F.kinds
    have h5 := int_dep F.lines
    have h6 := int_dep F.handlers
    refine decide_eq_true ?_
    simp only [fldD, intsD, strsD, PyData.depth, PyData.depthAll]
    omega
mutual
/-- two constants that may be compared: not one code alone -/
inductive Cmp : Kd → Kd → Prop
  | flat {n m : Nat} {k l : Kd} (h : KdC n k) (g : KdC m l) (hn : n ≤ 60) (hm : m ≤ 60) : Cmp k l
  | tup {ks ls : List Kd} (hl : ks.length ≤ 1000) (r : ks.length = ls.length → CmpL ks ls) : Cmp (.tup ks) (.tup ls)
  | code {m : Nat} {F G : FD} {cs ds : List Kd} (h1 : FldS m F) (h2 : FldS m G) (hl : cs.length ≤ 1000) (r : cs.length = ds.length → CmpL cs ds) : Cmp (.code F cs) (.code G ds)
inductive CmpL : List Kd → List Kd → Prop
  | nil : CmpL [] []
  | cons {k l : Kd} {ks ls : List Kd} (h : Cmp k l) (r : CmpL ks ls) : CmpL (k :: ks) (l :: ls)
end
theorem CmpL.get : ∀ {ks ls : List Kd} {i : Nat} {k l : Kd}, CmpL ks ls → ks[i]? = some k → ls[i]? = some l → Cmp k l
  | _, _, 0, _, _, .cons h r, h1, h2 => by
    cases h1
    cases h2
    exact h
  | _, _, i + 1, k, l, .cons (ks := ks) (ls := ls) h r, h1, h2 => by
    have h1 : ks[i]? = some k := h1
    have h2 : ls[i]? = some l := h2
    exact CmpL.get r h1 h2
mutual
/-- how deep it is looked into -/
def dep : Kd → Nat
  | .tup l => depL l + 1
  | .code _ cs => depL cs + 2
  | .non => 0
  | .bl _ => 0
  | .int _ => 0
  | .str _ => 0
def depL : List Kd → Nat
  | [] => 0
  | k :: ks => max (dep k) (depL ks)
end
theorem dep_mem : ∀ {ks : List Kd} {k : Kd}, k ∈ ks → dep k ≤ depL ks
  | x :: xs, k, h => by
    rw [depL]
    rcases List.mem_cons.mp h with e | h
    · rw [e]
      exact Nat.le_max_left _ _
    · exact Nat.le_trans (dep_mem h) (Nat.le_max_right _ _)
theorem depL_le {b : Nat} : ∀ {ks : List Kd}, (∀ k, k ∈ ks → dep k ≤ b) → depL ks ≤ b
  | [], _ => by
    rw [depL]
    exact Nat.zero_le _
  | k :: ks, h => by
    rw [depL]
    exact Nat.max_le.mpr ⟨h k (List.mem_cons_self ..), depL_le fun x hx => h x (List.mem_cons_of_mem _ hx)⟩
theorem KdC.dep {n : Nat} {k : Kd} (h : KdC n k) : dep k ≤ n := by
  induction h with
  | tup hl h ih =>
    rw [K52.dep]
    exact Nat.succ_le_succ (depL_le ih)
  | _ => rw [K52.dep]; exact Nat.zero_le _
theorem Gk.dep {n m e : Nat} {k : Kd} (h : Gk n m e k) : dep k ≤ n + 2 * e := by
  induction h with
  | flat h => exact Nat.le_trans h.dep (Nat.le_add_right _ _)
  | code h hl hc ih =>
    rw [K52.dep]
    have := depL_le ih
    omega
theorem Cmp.tups {ks ls : List Kd} (hc : ∀ {ks ls : List Kd}, ks.length = ls.length → (∀ (i : Nat) k l, ks[i]? = some k → ls[i]? = some l → Cmp k l) → CmpL ks ls) (h : Cmp (.tup ks) (.tup ls)) : ks.length ≤ 1000 ∧ (ks.length = ls.length → CmpL ks ls) := by
  cases h with
  | tup hl r => exact ⟨hl, r⟩
  | flat h g hn hm =>
    cases h with
    | tup hl h => cases g with
      | tup hl2 g => exact ⟨Nat.le_trans hl (by decide), fun e => hc e fun i k l h1 h2 => .flat (h k (List.mem_of_getElem? h1)) (g l (List.mem_of_getElem? h2)) (by omega) (by omega)⟩
theorem KdC.noCd {n : Nat} {k : Kd} (h : KdC n k) : isCd k = false := by
  cases h <;> rfl
theorem joinP {R G : Prop} (main : R → G) (rest : R) : G := main rest
/-- a good constant beside a good one like it may be compared -/
theorem cmpL_all : ∀ {ks ls : List Kd}, ks.length = ls.length → (∀ (i : Nat) k l, ks[i]? = some k → ls[i]? = some l → Cmp k l) → CmpL ks ls
  | [], [], _, _ => .nil
  | k :: ks, l :: ls, h, q => .cons (q 0 k l rfl rfl) (cmpL_all (by simpa using h) fun i x y h1 h2 => q (i + 1) x y h1 h2)
  | [], l :: ls, h, _ => by cases h
  | k :: ks, [], h, _ => by cases h
theorem Gk.cmp {n m e : Nat} {k : Kd} (hn : n ≤ 60) (h : Gk n m e k) : Cmp k k := by
  induction h with
  | flat h => exact .flat h h hn hn
  | code h hl hc ih =>
    exact .code h h (Nat.le_trans hl (by decide)) fun _ => cmpL_all rfl fun i k l h1 h2 => by
      rw [h1] at h2
      cases h2
      exact ih k (List.mem_of_getElem? h1)
section
variable {X : Cx} {f : Value → Value → Sem Value} {r1 r2 : R2}
theorem op_or (h1 : OpR X f r1) (h2 : OpR X f r2) : OpR X f (fun x y H Q => r1 x y H Q ∨ r2 x y H Q) := by
  intro pins s σ H x y v u Q I rx ry h
  rcases h with h | h
  · exact h1 pins s σ H x y v u Q I rx ry h
  · exact h2 pins s σ H x y v u Q I rx ry h
end
end K52
set_option maxHeartbeats 4000000
namespace K52
open PySem PySem.Spec PyProof.Rows L2 Nd
/-! ### k51: are_same and Code.__eq__ -/
theorem walk_zipT {K : PySem.W.Frag} {a b : Addr} {xs ys : List V} {n : Nat} (hn : n = min xs.length ys.length) : Walk (RZ.ItzT K a b) n (fun H => SqT K H a xs ∧ SqT K H b ys) (YPair (fun i => xs[i]?) (fun i => ys[i]?)) := by
  subst hn
  refine ⟨fun i _ hi q => ?_, fun _ q => ⟨xs, ys, q.1, q.2, by omega⟩, fun i H v H' _ q y => ?_⟩
  · have h1 : i < xs.length := by omega
    have h2 : i < ys.length := by omega
    exact ⟨xs, ys, xs[i], ys[i], q.1, q.2, by simp [h1], by simp [h2]⟩
  · obtain ⟨T, x, z, h1, h2, h3, h4, h5⟩ := y
    exact ⟨T, x, z, h1, h2, h3, h4 xs q.1, h5 ys q.2⟩
structure GlE (mg : Str → Option Value) (K : PySem.W.Frag) (Cc : Addr) : Prop where
  nb : PySem.W.kitOne K (.ref Cc) (.type "bool") = some false
  n_zip : mg "zip" = none
  n_len : mg "len" = none
theorem knb {K : PySem.W.Frag} {t : String} (h : t ∈ ["NoneType", "int", "str", "tuple"]) : PySem.W.kitOne K (.type t) (.type "bool") = some false := by
  simp only [List.mem_cons, List.mem_nil_iff, or_false] at h
  rcases h with rfl | rfl | rfl | rfl <;> exact kit_ty (by decide +kernel)
theorem kbb {K : PySem.W.Frag} : PySem.W.kitOne K (.type "bool") (.type "bool") = some true := kit_ty (by decide +kernel)
theorem nf_odd {K : PySem.W.Frag} {C : Addr} {t : String} (h : t ∈ oddT) : PySem.W.notFirst K C (.type t) = true := by
  unfold oddT at h
  simp only [List.mem_cons, List.mem_nil_iff, or_false] at h
  rcases h with rfl | rfl | rfl | rfl | rfl | rfl | rfl <;> rfl
theorem nf_self {K : PySem.W.Frag} {C : Addr} : PySem.W.notFirst K C (.ref C) = true := by simp [PySem.W.notFirst]
section
variable {P : Program} {w : World} {K : PySem.W.Frag} {mg : Str → Option Value} {base : Heap} {Cc Cn fI : Addr}
theorem KvAt.ty {H : Hp} {v : V} {k : Kd} (G : GlK P K mg Cc Cn fI) (GC : GlC K Cc) (GE : GlE mg K Cc) (h : KvAt Cc H v k) : ∃ t, TyX K H v t ∧ PySem.W.kitOne K t (.type "tuple") = some (isTup k) ∧ PySem.W.kitOne K t (.type "bool") = some (isBl k) := by
  cases h with
  | non => exact ⟨_, .base .non, knt (by simp), knb (by simp)⟩
  | bl b => exact ⟨_, .base (.bl b), knt (by simp), kbb⟩
  | int i => exact ⟨_, .base (.int i), knt (by simp), knb (by simp)⟩
  | str s => exact ⟨_, .base (.str s), knt (by simp), knb (by simp)⟩
  | tup h r => exact ⟨_, .base (.tup h), ktt, knb (by simp)⟩
  | code h r _ _ =>
    obtain ⟨dx, fs, h0, _⟩ := h
    exact ⟨_, .base (.ins h0 G.ins.cl G.ins.ha G.ins.hn G.ins.htk G.ins.hm), GC.nt, GE.nb⟩
def spSame (Cc : Addr) (n : Nat) : Sp := fun vs H Q _ => ∃ (v w : V) (k l : Kd), vs = [v, w] ∧ KvAt Cc H v k ∧ KvAt Cc H w l ∧ Cmp k l ∧ dep k < n ∧ ∀ b H', Same H H' → (b = true ↔ k = l) → Q (.bl b) H'
def spEqM (K : PySem.W.Frag) (Cc : Addr) (n : Nat) : Sp := fun vs H Q _ => ∃ (a : Addr) (y : V) (F : FD) (cs : List Kd), vs = [.ref a, y] ∧ KvAt Cc H (.ref a) (.code F cs) ∧
  ((∃ l, KvAt Cc H y l ∧ isCd l = true ∧ Cmp (.code F cs) l ∧ dep (.code F cs) < n + 1 ∧ ∀ b H', Same H H' → (b = true ↔ .code F cs = l) → Q (.bl b) H') ∨ (Odd K H y ∧ Q (.bl false) H))
abbrev s_are_same : Stmt := top 16
abbrev N_are_same : List Str := ["one", "other", "left", "right"]
theorem sc_are_same : FnScope N_are_same ["one", "other"] (defScope s_are_same) := ⟨rfl, rfl, rfl, by decide +kernel, rfl, by decide +kernel, by decide +kernel⟩
abbrev s_Code_eq : Stmt := metOf (top 17) 3
abbrev N_Code_eq : List Str := ["self", "other"]
theorem sc_Code_eq : FnScope N_Code_eq ["self", "other"] (defScope s_Code_eq) := ⟨rfl, rfl, rfl, by decide +kernel, rfl, by decide +kernel, by decide +kernel⟩
theorem ok_Code_eq {f fF : Addr} {fd fdF : FuncData} (n : Nat) (G : GlK P K mg Cc Cn fI) (MF : Meth K Cc "fields" fF) (FF : FnOk P w K mg base (L2.CX P w) 1 fF fdF ["self"] (spFldM K Cc)) (BF : Binds K fdF ["self"] []) (c_are_same : CalX P w K mg base (2 * n + 1) "are_same" (spSame Cc n))
    (F : MetX K "__eq__" "Code.__eq__" s_Code_eq ["self", "other"] f fd) : FnOk P w K mg base (L2.CX P w) (2 * n + 2) f fd ["self", "other"] (spEqM K Cc n) := by
  refine F.fn.ok sc_Code_eq (fun vs H Q E h => ?_) (fun cdv A outer s H vs Q E hr h => ?_)
  · obtain ⟨a, y, F, cs, rfl, _⟩ := h
    rfl
  · obtain ⟨a, y, F, cs, rfl, hk, h⟩ := h
    have lv1 : 2 * n + 1 ≤ 2 * n + 1 := Nat.le_refl _
    refine ⟨_, PSs.nox (pss_one (ps_ret (pe_and (pe_callB call_isi (by rfl) G.n_isinstance Boot.«isinstance» (pa_cons (pv 1) (pa_cons (C8.pe_gc rfl G.c_Code) pa_nil))) (pe_and (pe_cmpR (op_eqD hr.units) (pe_meth0 (pv 0) G.ins.cl MF FF (hr.mono (by omega)) BF .nil passL) (pe_meth0 (pv 1) G.ins.cl MF FF (hr.mono (by omega)) BF .nil passL) (nomark _)) (pe_one (pe_cx c_are_same hr lv1 rfl (pa_cons (pe_fld (pv 0) rfl) (pa_cons (pe_fld (pv 1) rfl) pa_nil)))))))), ?_⟩
    rcases h with ⟨l, hl, hc, hcmp, hd, k⟩ | ⟨⟨t, ht, ty⟩, k⟩
    rotate_left
    · refine ⟨_, rfl, y, V.ref Cc, .type t, .ref Cc, false, rfl, .own Cc, ty, G.no t ht, _, rfl, ?_⟩
      exact iteF k
    · cases hk with
      | @code _ D m _ hC hcs h0 h1 =>
        cases hl with
        | @code b D2 m2 ds hC2 hds h02 h12 =>
          obtain ⟨mz, hF1, hF2, hlen, hcl⟩ : ∃ m, FldS m D.fd ∧ FldS m D2.fd ∧ cs.length ≤ 1000 ∧ (cs.length = ds.length → CmpL cs ds) := by
            cases hcmp with
            | flat h => cases h
            | code h1 h2 hl r => exact ⟨_, h1, h2, hl, r⟩
          obtain ⟨dx2, fs2, g0, _, _, _, _, _, ⟨u6, gf6, gg6⟩, _, _, _, _, _, _, _, _, g15⟩ := id hC2
          obtain ⟨dx, fs, f0, _, _, _, _, _, ⟨t6, ff6, fg6⟩, _, _, _, _, _, _, _, _, f15⟩ := id hC
          refine ⟨_, rfl, V.ref b, V.ref Cc, .ref Cc, .ref Cc, true, rfl, .own Cc, .base (.ins g0 G.ins.cl G.ins.ha G.ins.hn G.ins.htk G.ins.hm), G.ins.me, _, rfl, iteT ?_⟩
          refine ⟨_, rfl, a, dx, fs, rfl, f0, f15.2, a, D, m, rfl, hC, fun p1 H1 s1 d1 => ?_⟩
          refine ⟨_, rfl, b, dx2, fs2, rfl, s1 _ _ g0, g15.2, b, D2, m2, rfl, hC2.same s1, fun p2 H2 s2 d2 => ?_⟩
          have s12 := s1.trans s2
          refine ⟨fldD D.fd, fldD D2.fd, Dp.same s2 d1, d2, fld_shaped hF1, fld_shaped hF2, _, rfl, ?_⟩
          cases c : PyData.eqv (fldD D.fd) (fldD D2.fd) with
          | false =>
            refine iteF (k false H2 s12 ⟨fun h => (nomatch h), fun h => ?_⟩)
            injection h with h _
            rw [eqv_fld.mpr h] at c
            cases c
          | true =>
            have hFG := eqv_fld.mp c
            refine iteT ?_
            have cl := G.ins.cl
            have na : ∀ f ∈ flds, NoAttr K Cc f := G.na
            refine ⟨_, rfl, a, Cc, dx, fs, _, rfl, s12 _ _ f0, cl, na _ (by decide), ff6, ?_⟩
            refine ⟨_, rfl, b, Cc, dx2, fs2, _, rfl, s12 _ _ g0, cl, na _ (by decide), gf6, ?_⟩
            refine ⟨.ref t6, .ref u6, .tup cs, .tup ds, rfl, .tup (s12 _ _ fg6) (hcs.kp (.same s12)), .tup (s12 _ _ gg6) (hds.kp (.same s12)), .tup hlen hcl, ?_, fun r H3 s3 hr3 => k r H3 (s12.trans s3) (hr3.trans ?_)⟩
            · rw [dep] at hd
              rw [dep]
              omega
            · rw [hFG]
              constructor
              · intro h
                injection h with h
                rw [h]
              · intro h
                injection h with _ h
                rw [h]
        | _ => cases hc
theorem same_step {f fE : Addr} {fd fdE : FuncData} (n : Nat) (T : Gl2 mg) (G : GlK P K mg Cc Cn fI) (GC : GlC K Cc) (GE : GlE mg K Cc) (EC : EqC K Cc fE) (c_are_same : CalX P w K mg base (2 * n + 1) "are_same" (spSame Cc n)) (FE : FnOk P w K mg base (L2.CX P w) (2 * n + 2) fE fdE ["self", "other"] (spEqM K Cc n)) (BE : Binds K fdE ["self", "other"] [])
    (F : DefX K mg "are_same" s_are_same ["one", "other"] f fd) : CalX P w K mg base (2 * (n + 1) + 1) "are_same" (spSame Cc (n + 1)) := by
  refine calx F sc_are_same (fun vs H Q E h => ?_) (fun cdv A outer s H vs Q E hr h => ?_)
  · obtain ⟨v, w, k, l, rfl, _⟩ := h
    rfl
  · obtain ⟨v, w, k, l, rfl, hv, hw, hc, hd, q⟩ := h
    have lv1 : 2 * n + 1 ≤ 2 * n + 2 := by omega
    refine ⟨_, (pss_cons (ps_if (PW.pt (pw_and (pt_val (pe_callB call_isi (by rfl) T.n_isinstance Boot.«isinstance» (pa_cons (pv 0) (pa_cons (pe_bltn (v := .ty "tuple") (by rfl) T.n_tuple Boot.«tuple» rfl) pa_nil)))) (pw_and1 (pt_val (pe_callB call_isi (by rfl) T.n_isinstance Boot.«isinstance» (pa_cons (pv 1) (pa_cons (pe_bltn (v := .ty "tuple") (by rfl) T.n_tuple Boot.«tuple» rfl) pa_nil)))))))
      (pss_one (ps_ret (pe_and (pe_cmpR op_eq (pe_callB call_len_seq (by rfl) GE.n_len Boot.«len» (pa_cons (pv 0) pa_nil)) (pe_callB call_len_seq (by rfl) GE.n_len Boot.«len» (pa_cons (pv 1) pa_nil)) (nomark _)) (pe_one (pe_callB (cr_all rfl) (by rfl) T.n_all Boot.«all» (pa_cons (pe_lc (own := [("left", 2), ("right", 3)]) (g := gTup K 2 (gCons (gName 2) (gCons (gName 3) gNil))) (tt := tYes) rfl sc_are_same.nd (RZ.pi_zipA (by rfl) GE.n_zip (pa_cons (pv 0) (pa_cons (pv 1) pa_nil))) (blkOk_by (own := [("left", 2), ("right", 3)]) (N := N_are_same) (sc := defScope s_are_same) (by decide +kernel)) (fun _ _ _ _ _ => (pg_tup rfl (pgs_cons (pg_name (i := 2) sc_are_same.nd rfl (Or.inl rfl)) (pgs_cons (pg_name (i := 3) sc_are_same.nd rfl (Or.inl rfl)) pgs_nil)))) (fun _ _ _ _ _ => pts_nil) (fun _ _ _ _ _ => (pe_cx c_are_same hr lv1 rfl (pa_cons (pv 2) (pa_cons (pv 3) pa_nil))))) pa_nil))))))
      pss_nil)
      (pss_one (ps_ret (pe_and (pe_cmpR op_eq (pe_callB call_isi (by rfl) T.n_isinstance Boot.«isinstance» (pa_cons (pv 0) (pa_cons (pe_bltn (v := .ty "bool") (by rfl) T.n_bool Boot.«bool» rfl) pa_nil))) (pe_callB call_isi (by rfl) T.n_isinstance Boot.«isinstance» (pa_cons (pv 1) (pa_cons (pe_bltn (v := .ty "bool") (by rfl) T.n_bool Boot.«bool» rfl) pa_nil))) (nomark _)) (pe_one (pe_cmpR (op_or (op_eqD hr.units) (op_anyEq FE (hr.mono (by omega)) EC BE passL)) (pv 0) (pv 1) (nomark _))))))), ?_⟩
    obtain ⟨t1, ty1, e1, e2⟩ := hv.ty G GC GE
    obtain ⟨t2, ty2, e3, e4⟩ := hw.ty G GC GE
    by_cases both : isTup k = true ∧ isTup l = true
    · cases k with
      | tup ks => cases l with
        | tup ls =>
          cases hv with
          | @tup a xs _ hx rks => cases hw with
            | @tup b ys _ hy rls =>
              obtain ⟨hlen, hcl⟩ := hc.tups cmpL_all
              rw [dep] at hd
              refine ⟨_, rfl, V.ref a, V.ty "tuple", t1, .type "tuple", true, rfl, .ty "tuple", ty1, e1, _, rfl, iteT ?_⟩
              refine ⟨_, rfl, V.ref b, V.ty "tuple", t2, .type "tuple", true, rfl, .ty "tuple", ty2, e3, _, rfl, iteT ?_⟩
              refine ⟨_, rfl, a, _, rfl, .inr (SqT.of hx), _, rfl, b, _, rfl, .inr (SqT.of hy), rfl, _, rfl, ?_⟩
              have el : decide (V.int (xs.length : Int) = V.int (ys.length : Int)) = decide (ks.length = ls.length) := by
                rw [rks.len, rls.len]
                by_cases e : ks.length = ls.length
                · rw [decide_eq_true e, decide_eq_true (by rw [e])]
                · rw [decide_eq_false e, decide_eq_false (fun z => e (by injection z with z; omega))]
              rw [el]
              cases c : decide (ks.length = ls.length) with
              | false =>
                refine iteF (q false H (Same.refl _) ⟨fun z => (nomatch z), fun z => ?_⟩)
                injection z with z
                rw [z] at c
                exact absurd rfl (of_decide_eq_false c)
              | true =>
                have hl := of_decide_eq_true c
                have hcl := hcl hl
                refine iteT ?_
                refine ⟨_, rfl, _, rfl, a, b, _, _, rfl, .inr ⟨SqT.of hx, SqT.of hy, fun D nD => lc_it (walk_zipT (xs := xs) (ys := ys) (n := xs.length) (by rw [rks.len, rls.len, hl]; exact (Nat.min_self _).symm)) (fun i H' => Same H H' ∧ ∃ bs : List Bool, H' D = some (.lst (bs.map V.bl)) ∧ bs.length = i ∧ (bs.all id = true ↔ ks.take i = ls.take i)) ⟨Same.new nD, [], by rw [upd_same]; rfl, rfl, by simp⟩ (fun i H' _ p => ⟨SqT.of (p.1 _ _ hx), SqT.of (p.1 _ _ hy)⟩) ?_ ?_⟩⟩
                · rintro i x H' H'' hi ⟨s2, bs, hD, hbl, hbs⟩ ⟨t, u, z, rfl, nt, rfl, ha, hb⟩
                  dsimp only at ha hb
                  obtain ⟨kx, hkx, hux⟩ := rks.get ha
                  obtain ⟨lx, hlx, hzx⟩ := rls.get hb
                  have st := Same.new (o := .tup [u, z]) nt
                  have s3 := s2.trans st
                  refine ⟨t, _, rfl, SqT.of upd_same, rfl, _, _, rfl, _, _, rfl, rfl, ?_⟩
                  refine ⟨rfl, _, rfl, _, rfl, u, z, kx, lx, rfl, hux.kp (.same s3), hzx.kp (.same s3), hcl.get hkx hlx, ?_, fun r J sJ hr => ⟨_, (st.trans sJ) _ _ hD, ?_, Same.mut (s3.trans sJ) nD, bs ++ [r], ?_, ?_, ?_⟩⟩
                  · have := dep_mem (List.mem_of_getElem? hkx)
                    omega
                  · rw [List.length_map, hbl]
                    have := rks.len
                    exact Nat.lt_of_lt_of_le hi (by rw [rks.len]; exact Nat.le_trans hlen (by decide))
                  · rw [upd_same, List.map_append]
                    rfl
                  · rw [List.length_append, hbl]
                    rfl
                  · rw [List.all_append, Bool.and_eq_true, hbs, List.take_add_one, List.take_add_one, hkx, hlx]
                    have e1 : [r].all id = true ↔ kx = lx := by
                      rw [← hr]
                      simp
                    rw [e1]
                    constructor
                    · rintro ⟨h1, h2⟩
                      rw [h1, h2]
                    · intro h
                      obtain ⟨h1, h2⟩ := List.append_inj' h rfl
                      exact ⟨h1, by simpa using h2⟩
                · rintro H' ⟨s2, bs, hD, hbl, hbs⟩
                  refine ⟨D, _, rfl, SqL.of hD, q _ H' s2 ?_⟩
                  rw [List.take_of_length_le (by rw [rks.len]; exact Nat.le_refl _), List.take_of_length_le (by rw [rks.len, hl]; exact Nat.le_refl _)] at hbs
                  rw [hbs]
                  constructor
                  · intro h
                    rw [h]
                  · intro h
                    injection h
        | _ => exact absurd both.2 (by simp [isTup])
      | _ => exact absurd both.1 (by simp [isTup])
    · exact joinP (fun rest => by
        refine ⟨_, rfl, v, V.ty "tuple", t1, .type "tuple", isTup k, rfl, .ty "tuple", ty1, e1, _, rfl, ?_⟩
        cases hk : isTup k with
        | false => exact iteF rest
        | true =>
          have hl : isTup l = false := by
            cases h : isTup l
            · rfl
            · exact absurd ⟨hk, h⟩ both
          rw [hl] at e3
          exact iteT ⟨_, rfl, w, V.ty "tuple", t2, .type "tuple", false, rfl, .ty "tuple", ty2, e3, _, rfl, iteF rest⟩) (by
        refine ⟨_, rfl, v, V.ty "bool", t1, .type "bool", isBl k, rfl, .ty "bool", ty1, e2, _, rfl, w, V.ty "bool", t2, .type "bool", isBl l, rfl, .ty "bool", ty2, e4, rfl, _, rfl, ?_⟩
        by_cases hb : isBl k = isBl l
        · rw [decide_eq_true (by rw [hb])]
          refine iteT ⟨_, rfl, _, rfl, ?_⟩
          cases hc with
          | flat h g hn hm => exact .inl ⟨pd k, pd l, hv.dp h, hw.dp g, h.shaped hn, g.shaped hm, q _ H (Same.refl _) (eqv_flat h.noCd g.noCd both hb)⟩
          | tup hl r => exact absurd ⟨rfl, rfl⟩ both
          | @code m F1 F2 cs ds h1 h2 hl r =>
            cases hv with
            | @code a D _ _ hC hcs h0 h01 =>
              obtain ⟨dx, fs, f0, _⟩ := id hC
              refine .inr ⟨a, dx, fs, .ref Cc, rfl, f0, ?_, nf_self, a, w, D.fd, cs, rfl, .code hC hcs h0 h01, .inl ⟨_, hw, rfl, .code h1 h2 hl r, hd, fun r H' s' hr' => ⟨⟨r, rfl⟩, q r H' s' hr'⟩⟩⟩
              cases hw with
              | code hC2 _ _ _ =>
                obtain ⟨dx2, fs2, g0, _⟩ := id hC2
                exact .base (.ins g0 G.ins.cl G.ins.ha G.ins.hn G.ins.htk G.ins.hm)
        · rw [decide_eq_false (by intro z; injection z with z; exact hb z)]
          exact iteF (q false H (Same.refl _) ⟨fun z => (nomatch z), fun z => absurd (by rw [z]) hb⟩))
theorem ok_are_same {f fE : Addr} {fd fdE : FuncData} (T : Gl2 mg) (G : GlK P K mg Cc Cn fI) (GC : GlC K Cc) (GE : GlE mg K Cc) (EC : EqC K Cc fE) {fF : Addr} {fdF : FuncData} (MF : Meth K Cc "fields" fF) (FF : FnOk P w K mg base (L2.CX P w) 1 fF fdF ["self"] (spFldM K Cc)) (BF : Binds K fdF ["self"] [])
    (FE : MetX K "__eq__" "Code.__eq__" s_Code_eq ["self", "other"] fE fdE) (F : DefX K mg "are_same" s_are_same ["one", "other"] f fd) : ∀ n, CalX P w K mg base (2 * n + 1) "are_same" (spSame Cc n)
  | 0 => by
    refine calx F sc_are_same (fun vs H Q E h => ?_) (fun cdv A outer s H vs Q E hr h => ?_)
    · obtain ⟨v, w, k, l, _, _, _, _, hd, _⟩ := h
      exact absurd hd (Nat.not_lt_zero _)
    · obtain ⟨v, w, k, l, _, _, _, _, hd, _⟩ := h
      exact absurd hd (Nat.not_lt_zero _)
  | n + 1 => by
    have ih := ok_are_same T G GC GE EC MF FF BF FE F n
    exact same_step n T G GC GE EC ih (ok_Code_eq n G MF FF BF ih FE) FE.bi F
end
end K52
set_option maxHeartbeats 4000000
/-! ### a lambda handed to a def that hands it on to another def -/
namespace Nd
open PySem PySem.Spec PyProof.Rows L2 LamX
/-- two stretches, the second with frames of its own that stand above the first's begin -/
theorem un_join {fs fs2 : List Addr} {H H2 H3 : Hp} {h h2 h3 : Heap} (a : Un fs [] H H2 h h2) (b : Un fs2 [] H2 H3 h2 h3) (hf : ∀ c ∈ fs2, c ∈ fs ∨ h.objs.size ≤ c) : Un fs [] H H3 h h3 where
  keep := fun c o e n hc hx => b.keep c o (a.keep c o e n hc hx) (a.free c o e n hx) (fun m => (hf c m).elim hc fun le => absurd (Heap.lt_size e) (Nat.not_lt.mpr le)) hx
  slot := fun c o e n hc hx => by
    obtain ⟨sl, e2⟩ := a.slot c o e n hc hx
    obtain ⟨sl2, e3⟩ := b.any e2 (a.free c o e n hx) (by simp)
    exact ⟨sl2, e3⟩
  free := fun c o e n hx => by
    obtain ⟨o2, e2⟩ := a.there c o e hx
    exact b.free c o2 e2 (a.free c o e n hx) (by simp)
  there := fun c o e hx => by
    obtain ⟨o2, e2⟩ := a.there c o e hx
    exact b.there c o2 e2 hx
  tups := fun c xs e => b.tups c xs (a.tups c xs e)
  frzs := fun c o u e => b.frzs c o u (a.frzs c o u e)
  tbls := fun c ps e => by
    obtain ⟨m1, e1⟩ := a.tbls c ps e
    obtain ⟨m2, e2⟩ := b.tbls c _ e1
    exact ⟨m1 ++ m2, by rw [e2, Array.append_assoc]⟩
section
variable {X : Cx} {pins : List (Addr × Obj)} {σ : L2.St} {H : Hp} {s : Shared}
/-- what the lambda at f does, called in a frame that was entered at s2 with the frames st2 around it -/
def Act (X : Cx) (s : Shared) (H : Hp) (f c' : Addr) (q : Str) (k : Nat) (tl : XK → Hp → VK → Prop) : Prop :=
  ∀ (Ng : List Str) (qg : Str) (sg : Scope) (g : Addr) (cdg : Value) (A2 : Around) (st2 : List Env) (s2 : Shared) (H2 : Hp) (i : Nat) (a : Str) (pn : List (Addr × Obj)) (xe : Value → Shared → Prop) (W : WX) (E : XK) (p1 p2 : Pos),
    Un (frs X.stack) [] H H2 s.heap s2.heap → (∀ b ∈ frs st2, b ∈ frs X.stack ∨ s.heap.objs.size ≤ b) → Room (k + 1) (A2.deeper (envOfC qg sg s2.heap.objs.size g cdg)) → Ng[i]? = some a → Vis sg a → (a == ("__debug__" : Str)) = false → (a == ("__classdict__" : Str)) = false →
    Takes ((cxOf C8.CX0 X.prog X.w X.K X.mg X.base Ng qg sg g cdg A2 st2 s2 H2 C8.E0).tr pn xe) W → (∀ cls d σ' H', E cls d H' → W cls d σ' H') →
    PE ((cxOf C8.CX0 X.prog X.w X.K X.mg X.base Ng qg sg g cdg A2 st2 s2 H2 C8.E0).tr pn xe) (.Call (.Name a p1) [] [] p2) (fun σZ HZ Q => σZ[i]? = some (some (.ref f)) ∧ HZ c' = some (CodeO c' q) ∧ tl E HZ Q)
theorem act_of {f c' : Addr} {pm ctv : Value} {params : Arguments} {body : Expr} {scope : Scope} {k : Nat} {t : XK → TE}
    (I : Inv X pins σ H s) (L : LamS X.env.scope scope) (hf : s.heap.get? f = some (PySem.W.kla_obj "<lambda>" (X.env.qual ++ "<lambda>") params body scope (cloFrom X.env.cells scope.names []) pm c' ctv)) (hfn : H f = none) (hfr : f ∉ frs X.stack)
    (hbind : bindArgs (PySem.W.kla_fn "<lambda>" (X.env.qual ++ "<lambda>") params body scope (cloFrom X.env.cells scope.names []) pm (.ref c') ctv) ⟨[], []⟩ = pure [])
    (hbody : ∀ (A : Around) (outer : List Env) (s : Shared) (H : Hp) (E : XK), Room k (A.deeper (lamEnv X scope s.heap.objs.size f c')) → PE (lamCx X A outer s H E scope f c') body (t E)) :
    Act X s H f c' (X.env.qual ++ "<lambda>") k (fun E H' Q' => t E σ H' Q') := by
  intro Ng qg sg g cdg A2 st2 s2 H2 i a pn xe W E p1 p2 u hst hr hN hv hd hcd tk hW
  refine ⟨fun pinsZ sZ σZ HZ Q IZ h => ?_⟩
  obtain ⟨hs, hc, ht⟩ := h
  have look := (pe_var (pos := p1) (i := i) hN hv hd hcd).run pinsZ sZ σZ HZ (fun v H1 => v = .ref f ∧ H1 = HZ) IZ ⟨.ref f, hs, rfl, rfl⟩
  refine wpAny_Call_Name_kw (thn look fun u1 s1 ⟨v, H1, I1, r1, ev, eH⟩ => ?_)
  subst ev
  rw [eH] at I1
  obtain rfl : u1 = Value.ref f := r1
  have un : Un (frs X.stack) [] H HZ s.heap s1.heap := un_join u (show Un (frs st2) [] H2 HZ s2.heap s1.heap from I1.base) hst
  have lives := un.keep f _ hf hfn hfr (fun z => nomatch (show f ∈ ([] : List Addr) from z))
  refine PySem.W.callWith_F0 ⟨_, _, _, _, lives⟩ ?_
  obtain ⟨⟨oc, vs, tok, hoc, hdc, hvc⟩, _, _⟩ := I1.hok c' _ hc
  have hx : Passes (L2.CX X.prog X.w) ((cxOf C8.CX0 X.prog X.w X.K X.mg X.base Ng qg sg g cdg A2 st2 s2 H2 C8.E0).tr pn xe) E := passes_call tk hW
  have rc : codeAny (model X.prog X.w) (A2.deeper (envOfC qg sg s2.heap.objs.size g cdg)) (.call (.ref f) ⟨[], []⟩) (CR (L2.CX X.prog X.w) (envOfC qg sg s2.heap.objs.size g cdg :: st2) X.prog X.w HZ s1 Q E) s1 := by
    refine PySem.W.kla_callFunE hr.depth lives rfl L.co L.gen rfl ⟨c', oc, vs, tok, rfl, hoc, hdc, hvc⟩ ?_
    rw [hbind]
    refine wpAny_pure (wpAny_newFunctionEnv (fun y hy => (L.own y hy).2) (fun y hy => absurd hy (by simp)) (fun h1 hns hsb => ⟨I1.nolimit.fresh _ hsb, ?_⟩) L.kind)
    have kp : ∀ b o, s1.heap.get? b = some o → h1.get? b = some o := fun b o e => hsb.extBut b o (Nat.ne_of_lt (Heap.lt_size e)) (Heap.get?_push_of_some _ e)
    have J := lam_start2 (E := E) (f := f) (c' := c') (tk := s1.toks + ([] : List (Str × Value)).length) I L I1.env0 hr.hd un hns kp
    show codeAny _ _ (.expr body (lamEnv X scope s1.heap.objs.size f c')) _ _
    refine PySem.W.kla_codeExpr (wpAny_mono ((hbody _ _ s1 HZ E (hr.deeper _)).run [] _ _ HZ Q J ht) (fun v s' hq => ?_) fun e s' hq => hq)
    obtain ⟨w', H', J', rv, q⟩ := hq
    exact ⟨w', H', J'.os, J'.bare, J'.base, J'.hok, rv, q⟩
  refine wpAny_call (codeAny_mono rc fun r s' hq => ?_)
  match r, hq with
  | .error e, hq => exact hx pinsZ σZ HZ s1 e s' I1 hq
  | .ok (.ret u), hq => exact I1.after hq
  | .ok .next, hq => exact False.elim hq
  | .ok .brk, hq => exact False.elim hq
  | .ok .cont, hq => exact False.elim hq
/-- the def that gets the lambda and one thing more -/
def Gives2 (X : Cx) (Ng : List Str) (x : Str) (sg : Scope) (g : Addr) (cdg : Value) (bg : List Stmt) (q : Str) (k : Nat) (TT : (XK → Hp → VK → Prop) → V → Hp → VK → Prop) : Prop :=
  ∀ (f c' : Addr) (s : Shared) (H : Hp) (Q : VK) (v : V) (tl : XK → Hp → VK → Prop), Act X s H f c' q k tl → Room (k + 2) (X.A.deeper (envOfC x sg s.heap.objs.size g cdg)) → H c' = some (CodeO c' q) → TT tl v H Q →
    ∃ t, PSs (cxOf C8.CX0 X.prog X.w X.K X.mg X.base Ng x sg g cdg X.A X.stack s H C8.E0).nox bg t ∧ t { nx := fun _ H' => Q .non H', rt := Q } (L2.start Ng [.ref f, v]) H
def tLam2 (T : List (Addr × Str)) (q : Str) (TT : (XK → Hp → VK → Prop) → V → Hp → VK → Prop) (t : XK → TE) (te : TE) : TE := fun σ H Q => Tabs T H ∧ ∀ H1, ExtN H H1 → Tabs T H1 → te σ H1 fun v H2 => (∀ c', H1 c' = some (CodeO c' q) → H2 c' = some (CodeO c' q)) ∧ TT (fun E H' Q' => t E σ H' Q') v H2 Q
/-- x(lambda: body, e) -/
theorem pe_lam2 {T : List (Addr × Str)} {TT : (XK → Hp → VK → Prop) → V → Hp → VK → Prop} {x a a2 : Str} {g c P : Addr} {k : Nat} {pg : Arguments} {bg : List Stmt} {sg : Scope} {dV kV doc pm cdv ct oc : Value} {an od : Option Addr} {osl : Array (Option Value)} {Ng : List Str}
    {params : Arguments} {body e2 : Expr} {scope : Scope} {t : XK → TE} {te : TE} {p lpos pos : Pos} (hg : Gl X x) (hm : X.mg x = some (.ref g)) (hk : PySem.W.keepIn X.K (.ref g) = true)
    (lk : X.K.lookup g = some ⟨oc, od, .func (PySem.W.fnOf x x pg bg sg dV kV doc pm an cdv ct), osl⟩) (hcg : PySem.W.codeIn X.K cdv x = true) (hb : L2.Binds X.K (PySem.W.fnOf x x pg bg sg dV kV doc pm an cdv ct) [a, a2] []) (Sg : FnScope Ng [a, a2] sg)
    (hG : Gives2 X Ng x sg g cdv bg (X.env.qual ++ "<lambda>") k TT) (TB : TabB X.base X.mg c P) (hcode : X.env.code = .ref c) (hmT : (P, X.env.qual ++ "<lambda>") ∈ T) (hu : ∀ p ∈ T, p.1 = P → p.2 = X.env.qual ++ "<lambda>") (hr : Room (k + 3) X.A)
    (L : LamS X.env.scope scope) (hdef : defaultsOf params X.env = ([], [])) (hbind : ∀ (q : Str) (cl : List (Str × Addr)) (pm cv ctv : Value), bindArgs (PySem.W.kla_fn "<lambda>" q params body scope cl pm cv ctv) ⟨[], []⟩ = pure [])
    (hbody : ∀ (A : Around) (outer : List Env) (s : Shared) (H : Hp) (E : XK) (f c' : Addr), Room k (A.deeper (lamEnv X scope s.heap.objs.size f c')) → PE (lamCx X A outer s H E scope f c') body (t E)) (he : PE X e2 te)
    (hs2 : starEach [e2] X.env = [(false, eval e2 X.env)] := by rfl) (hdb : (x == ("__debug__" : Str)) = false := by decide) :
    PE X (.Call (.Name x p) [.Lambda params body scope lpos, e2] [] pos) (tLam2 T (X.env.qual ++ "<lambda>") TT t te) := by
  refine ⟨fun pins s σ H Q I h => ?_⟩
  obtain ⟨hT, h⟩ := h
  refine wpAny_Call_Name_kw (ld_glob I hg hm ?_ hdb)
  refine PySem.W.callWith_K (h₀ := X.base) I.ok.mod.kin hk ?_ (by rfl) (by rw [hs2]; rfl)
  show wpAny _ _ (spliced ((false, eval (.Lambda params body scope lpos) X.env) :: backTo pos (starEach [e2] X.env))) _ _ s
  rw [hs2]
  refine Calls.spliced_cons (lam_make2 I TB hcode hmT hu hT hdef (L.has I.ok) fun f c' pm' ctv H1 s' I1 eN T1 hf hfn hfr hco => ?_)
  have nl : f ≠ X.env.locals := fun z => by
    obtain ⟨m, ⟨o, es, ep, e, hd, _⟩, _⟩ := I1.loc
    rw [← z, hf] at e
    cases e
    cases hd
  have nf : f ∉ X.fs := fun z => hfr (by
    rcases I1.ok.stk with e | ⟨e, e2⟩
    · rw [e]
      exact z
    · rw [e]
      unfold frs
      rw [List.filterMap_cons, e2]
      exact List.mem_cons_of_mem _ z)
  have I2 : Inv X ((f, PySem.W.kla_obj "<lambda>" (X.env.qual ++ "<lambda>") params body scope (cloFrom X.env.cells scope.names []) pm' c' ctv) :: pins) σ H1 s' := I1.pins_of fun q hq => by
    rcases List.mem_cons.mp hq with z | z
    · subst z
      exact ⟨hf, hfn, nl, nf, fun v z => by cases z⟩
    · exact I1.pin q (List.mem_append_right _ z)
  refine Calls.spliced_cons (thn (he.run _ s' σ H1 _ I2 (h H1 eN T1)) fun u2 s2 ⟨v2, H2, J2, r2, hc2, hq2⟩ => ?_)
  have pf := J2.pin _ (List.mem_append_right _ (List.mem_cons_self (l := pins)))
  have J1 : Inv X pins σ H2 s2 := J2.pins_of fun q hq => J2.pin q (List.mem_append_right _ (List.mem_cons_of_mem _ hq))
  refine Calls.spliced_nil ⟨J1.kIn, ?_⟩
  have act := act_of (t := t) J1 L pf.1 pf.2.1 hfr (hbind _ _ _ _ _) (fun A outer s H E hr2 => hbody A outer s H E f c' hr2)
  have rc : codeAny (model X.prog X.w) X.A (.call (.ref g) ⟨[.ref f, u2], []⟩) (CR C8.CX0 X.stack X.prog X.w H2 s2 Q C8.E0) s2 := by
    refine run_ofS (N := Ng) (ps := [a, a2]) (us := [.ref f, u2]) (vs := [.ref f, v2]) lk hcg Sg hr J1.env0 (hb s2 [.ref f, u2] J1.kIn rfl) (.cons rfl (.cons r2 .nil)) rfl fun hr' => ?_
    obtain ⟨t', ht', hq'⟩ := hG f c' s2 H2 Q v2 _ act hr' (hc2 c' hco) hq2
    exact ⟨t', ht'.nox, hq'⟩
  refine wpAny_call (codeAny_mono rc fun r s3 hq => ?_)
  match r, hq with
  | .error e, hq => exact (show False from hq).elim
  | .ok (.ret u), hq => exact J1.after hq
  | .ok .next, hq => exact False.elim hq
  | .ok .brk, hq => exact False.elim hq
  | .ok .cont, hq => exact False.elim hq
/-- x(e), e being such a lambda, x a def that calls it -/
theorem pe_hand {TT : (XK → Hp → VK → Prop) → Hp → VK → Prop} {x a q : Str} {g : Addr} {k : Nat} {pg : Arguments} {bg : List Stmt} {sg : Scope} {dV kV doc pm cdv ct oc : Value} {an od : Option Addr} {osl : Array (Option Value)} {Ng : List Str}
    {e : Expr} {ta : TA} {p pos : Pos} (hg : Gl X x) (hm : X.mg x = some (.ref g)) (hk : PySem.W.keepIn X.K (.ref g) = true)
    (lk : X.K.lookup g = some ⟨oc, od, .func (PySem.W.fnOf x x pg bg sg dV kV doc pm an cdv ct), osl⟩) (hcg : PySem.W.codeIn X.K cdv x = true) (hb : L2.Binds X.K (PySem.W.fnOf x x pg bg sg dV kV doc pm an cdv ct) [a] []) (Sg : FnScope Ng [a] sg)
    (hG : GivesTo X Ng x sg g cdv bg a q TT) (hr : Room (k + 1) X.A) (ha : PA X [e] ta)
    (hdb : (x == ("__debug__" : Str)) = false := by decide) (he : starEach [e] X.env = [(false, eval e X.env)] := by rfl) :
    PE X (.Call (.Name x p) [e] [] pos) (fun σ H Q => ta σ H fun vs H1 => ∃ (f c' : Addr) (tl : XK → Hp → VK → Prop), vs = [.ref f] ∧ H1 c' = some (CodeO c' q) ∧
      (∀ (s1 : Shared), Un X.fs X.ex X.H_0 H1 X.s_0.heap s1.heap → Room k (X.A.deeper (envOfC x sg s1.heap.objs.size g cdv)) → ∀ (W : WX) (pn : List (Addr × Obj)) (xe : Value → Shared → Prop) (E : XK) (p1 p2 : Pos), Takes ((cxOf C8.CX0 X.prog X.w X.K X.mg X.base Ng x sg g cdv X.A X.stack s1 H1 C8.E0).tr pn xe) W → (∀ cls d σ' H', E cls d H' → W cls d σ' H') →
        PE ((cxOf C8.CX0 X.prog X.w X.K X.mg X.base Ng x sg g cdv X.A X.stack s1 H1 C8.E0).tr pn xe) (.Call (.Name a p1) [] [] p2) (fun σZ HZ Q => σZ[0]? = some (some (.ref f)) ∧ HZ c' = some (CodeO c' q) ∧ tl E HZ Q)) ∧ TT tl H1 Q) := by
  refine ⟨fun pins s σ H Q I h => ?_⟩
  refine wpAny_Call_Name_kw (ld_glob I hg hm ?_ hdb)
  refine PySem.W.callWith_K (h₀ := X.base) I.ok.mod.kin hk (thn (ha.run pos pins s σ H _ I h) fun us s1 ⟨vs, H1, I1, r, f, c', tl, ev, hco, act, hq1⟩ => ⟨I1.kIn, ?_⟩) he (by rfl)
  subst ev
  obtain ⟨u, rfl, ru⟩ : ∃ u, us = [u] ∧ L2.RelV (.ref f) u := by
    cases r with
    | cons r1 rr => cases rr; exact ⟨_, rfl, r1⟩
  obtain rfl : u = Value.ref f := ru
  have rc : codeAny (model X.prog X.w) X.A (.call (.ref g) ⟨[.ref f], []⟩) (CR C8.CX0 X.stack X.prog X.w H1 s1 Q C8.E0) s1 := by
    refine run_ofS (N := Ng) (ps := [a]) (us := [.ref f]) (vs := [.ref f]) lk hcg Sg hr I1.env0 (hb s1 [.ref f] I1.kIn rfl) (.cons rfl .nil) rfl fun hr' => ?_
    obtain ⟨t', ht', hq'⟩ := hG f c' s1 H1 Q tl (fun W pn xe E p1 p2 tk hW => act s1 I1.base hr' W pn xe E p1 p2 tk hW) hco hq1
    exact ⟨t', ht'.nox, hq'⟩
  refine wpAny_call (codeAny_mono rc fun r s3 hq => ?_)
  match r, hq with
  | .error e, hq => exact (show False from hq).elim
  | .ok (.ret u), hq => exact I1.after hq
  | .ok .next, hq => exact False.elim hq
  | .ok .brk, hq => exact False.elim hq
  | .ok .cont, hq => exact False.elim hq
end
end Nd
set_option maxHeartbeats 4000000
/-! ### .get of a dict of the module with text keys -/
namespace Nd
open PySem PySem.Spec PyProof.Rows L2
def tKGet2 (K : PySem.W.Frag) (d : Addr) (td ty tx : TE) : TE := fun σ H Q => td σ H fun x H1 => x = .ref d ∧ ty σ H1 fun y H2 => tx σ H2 fun z H3 => ∃ (k : Str) (r : Option Value), y = .str k ∧ PySem.W.nsIn K d k = some r ∧ (r = none → Q z H3) ∧ (∀ u, r = some u → ∃ v, RelV v u ∧ Q v H3)
theorem pe_kget2 {X : Cx} {o e f : Expr} {apos cpos : Pos} {td ty tx : TE} {d : Addr} {es : Array DictEntry} {n : Nat} (D : KDict X.K X.w d es n) (ho : PE X o td) (he : PE X e ty) (hf : PE X f tx) (m : M2 X o "get" apos e f cpos) : PE X (.Call (.Attribute o "get" apos) [e, f] [] cpos) (tKGet2 X.K d td ty tx) := by
  refine ⟨fun pins s σ H Q I h => ?_⟩
  refine wpAny_Call_method m.base m.few m.line PySem.F.plainAttrs_dict PySem.F.slot_dict_get PySem.F.type_dict_get (thn (ho.run pins s σ H _ I h) fun u s1 ⟨x, H1, I1, rx, ex, q1⟩ => ?_)
  subst ex
  obtain rfl : u = Value.ref d := rx
  refine ⟨kd_type D I1, fun b q => ?_, ?_⟩
  · cases q
    exact ⟨_, I1.kIn _ _ D.at_, rfl⟩
  rw [m.trees]
  refine Calls.callWith_builtin rfl (Calls.evalArgs_plain (Calls.spliced_cons (thn (he.run pins s1 σ H1 _ I1 q1) fun iv s2 ⟨y, H2, I2, ry, q2⟩ =>
    Calls.spliced_cons (thn (hf.run pins s2 σ H2 _ I2 q2) fun fv s3 ⟨z, H3, I3, rz, k, r, ek, er, q3, q4⟩ => Calls.spliced_nil ?_))))
  subst ek
  obtain ⟨t, rfl⟩ := ry
  have mo := PySem.W.mapOf_K (prog := X.prog) (w := X.w) I3.kIn D.at_ D.lit
  refine call_meetsIn PySem.F.slot_dict_get mo.typeIs PySem.F.entry_dict_get (PySem.F.args_dict_get_3 _ _ _) (meets_dict_get_default (PySem.strKind X.prog X.w) d (PySem.strKind_is X.prog X.w k t) D.low fv) ⟨_, mo, ?_⟩
  have ef := PySem.W.find_K D.at_ er
  show EP X pins σ Q ((findBy Value.isStrOf es k).getD fv) { s3 with toks := s3.toks + 1 }
  rw [ef]
  cases r with
  | none => exact ⟨z, H3, I3.tok _, rz, q3 rfl⟩
  | some u =>
    obtain ⟨v, rv, q⟩ := q4 u rfl
    exact ⟨v, H3, I3.tok _, rv, q⟩
end Nd
set_option maxHeartbeats 4000000
/-! ### a dict of the module with keys and values that are numbers or texts -/
namespace Nd
open PySem PySem.Spec PyProof.Rows L2
abbrev Vo : Type := Int ⊕ Str
def voV : Vo → V
  | .inl i => .int i
  | .inr z => .str z
def keyM : Value → Option Key
  | .int i _ => some (.inl i)
  | .str x _ => some (.inr x)
  | _ => none
def valM : Value → Option Vo
  | .int i _ => some (.inl i)
  | .str x _ => some (.inr x)
  | _ => none
def entM (e : DictEntry) : Option (Key × Int × Vo) := match keyM e.key, valM e.val with
  | some k, some v => some (k, e.hash, v)
  | _, _ => none
def dicM (K : PySem.W.Frag) (a : Addr) : Option (List (Option (Key × Int × Vo))) := match K.lookup a with
  | some ⟨.type c, none, .dict es _, sl⟩ => (match decide (c = "dict") && (sl.isEmpty && !(a == sysModules)) with
    | true => some (es.toList.map entM)
    | false => none)
  | _ => none
def hashM (P : Params) : Key → Int
  | .inl i => hashInt i
  | .inr x => PyData.keyHash P x
def exM (P : Params) (l : List (Key × Vo)) : List (Option (Key × Int × Vo)) := l.map fun p => some (p.1, hashM P p.1, p.2)
structure MDict (K : PySem.W.Frag) (w : World) (d : Addr) (kvs : List (Key × V)) : Prop where
  low : (d == sysModules) = false
  z : kvs.length ≤ sizeLine
  at_ : ∃ es n, K.lookup d = some ⟨.type "dict", none, .dict es n, #[]⟩
  ok : ∀ (P : Program) (h : Heap), K.In h → ∃ vs, KV kvs vs ∧ h.DictOf (mixKind P w) d vs
theorem keyM_ok {v : Value} {k : Key} (h : keyM v = some k) : keyIs k v = true := by
  cases v <;> first
    | (cases h; done)
    | skip
  · rename_i i t
    obtain rfl : Sum.inl i = k := Option.some.inj h
    exact keyIs_int i t
  · rename_i x t
    obtain rfl : Sum.inr x = k := Option.some.inj h
    exact keyIs_str x t
theorem valM_ok {v : Value} {o : Vo} (h : valM v = some o) : RelV (voV o) v := by
  cases v <;> first
    | (cases h; done)
    | skip
  · rename_i i t
    obtain rfl : Sum.inl i = o := Option.some.inj h
    exact ⟨t, rfl⟩
  · rename_i x t
    obtain rfl : Sum.inr x = o := Option.some.inj h
    exact ⟨t, rfl⟩
theorem entM_ok {e : DictEntry} {k : Key} {n : Int} {o : Vo} (h : entM e = some (k, n, o)) : keyIs k e.key = true ∧ RelV (voV o) e.val ∧ e.hash = n := by
  unfold entM at h
  split at h
  · rename_i a b h1 h2
    have q := Option.some.inj h
    injection q with q1 q2
    injection q2 with q3 q4
    subst q1 q4
    exact ⟨keyM_ok h1, valM_ok h2, q3⟩
  · cases h
theorem ents_ok {P : Program} {w : World} : ∀ {es : List DictEntry} {l : List (Key × Vo)}, es.map entM = exM w.params l → (∀ e ∈ es, ∃ k, (mixKind P w).is k e.key = true ∧ e.hash = (mixKind P w).hash k) ∧
    KV (l.map fun p => (p.1, voV p.2)) ((l.map (·.1)).zip (es.map (·.val))) ∧ Pairs (mixKind P w) es ((l.map (·.1)).zip (es.map (·.val))) ∧ ((l.map (·.1)).zip (es.map (·.val))).map (·.1) = l.map (·.1)
  | [], [], _ => ⟨(fun e he => by cases he), .nil, .nil, rfl⟩
  | [], _ :: _, h => by cases h
  | _ :: _, [], h => by cases h
  | e :: es, p :: l, h => by
    have h : entM e :: es.map entM = some (p.1, hashM w.params p.1, p.2) :: exM w.params l := h
    injection h with h1 h2
    obtain ⟨i1, i2, i3, i4⟩ := ents_ok (P := P) h2
    obtain ⟨e1, e2, e3⟩ := entM_ok h1
    have eh : e.hash = (mixKind P w).hash p.1 := by
      rw [e3]
      cases p.1 <;> rfl
    refine ⟨fun x hx => ?_, .cons ⟨rfl, e2⟩ i2, .cons e1 rfl i3, congrArg (List.cons p.1) i4⟩
    rcases List.mem_cons.mp hx with z | z
    · subst z
      exact ⟨p.1, e1, eh⟩
    · exact i1 x z
theorem dicM_ok {K : PySem.W.Frag} {w : World} {d : Addr} {l : List (Key × Vo)} (h : dicM K d = some (exM w.params l)) (nd : (l.map (·.1)).Nodup) (z : l.length ≤ 1000) : MDict K w d (l.map fun p => (p.1, voV p.2)) := by
  unfold dicM at h
  split at h
  · rename_i c es n sl hl
    split at h
    · rename_i hb
      have hc := of_decide_eq_true (He.ba hb).1
      subst hc
      have hs : sl = #[] := by
        have := (He.ba (He.ba hb).2).1
        simpa using this
      subst hs
      have lo : (d == sysModules) = false := by
        have := (He.ba (He.ba hb).2).2
        simpa using this
      have q := Option.some.inj h
      refine ⟨lo, by rw [List.length_map]; exact Nat.le_trans z (by decide), ⟨es, n, hl⟩, fun P hp X => ?_⟩
      obtain ⟨i1, i2, i3, i4⟩ := ents_ok (P := P) q
      exact ⟨_, i2, _, es, n, X _ _ hl, ⟨rfl, rfl, rfl⟩, rfl, fun e he => i1 e (Array.mem_toList_iff.mpr he), i3, by rw [i4]; exact nd⟩
    · cases h
  · cases h
section
variable {X : Cx} {d : Addr} {kvs : List (Key × V)}
theorem op_in_m (D : MDict X.K X.w d kvs) : OpR X (compareOp .In) (fun x y H Q => ∃ k, x = kV k ∧ y = .ref d ∧ Q (.bl (valV kvs k).isSome) H) := by
  intro pins s σ H x y v u Q I rx ry h
  obtain ⟨k, rfl, rfl, q⟩ := h
  cases ry
  obtain ⟨vs, rel, dd⟩ := D.ok X.prog s.heap I.kIn
  refine wpAny_in_of (kV_is rx) D.low dd.mapOf ?_
  rw [← (rel.val k).isSome_eq]
  exact ⟨.bl (valV kvs k).isSome, H, I.tok _, rfl, q⟩
theorem op_notIn_m (D : MDict X.K X.w d kvs) : OpR X (compareOp .NotIn) (fun x y H Q => ∃ k, x = kV k ∧ y = .ref d ∧ Q (.bl (!(valV kvs k).isSome)) H) := by
  intro pins s σ H x y v u Q I rx ry h
  obtain ⟨k, rfl, rfl, q⟩ := h
  cases ry
  obtain ⟨vs, rel, dd⟩ := D.ok X.prog s.heap I.kIn
  refine wpAny_notIn_of (kV_is rx) D.low dd.mapOf ?_
  rw [← (rel.val k).isSome_eq]
  exact ⟨.bl (!(valV kvs k).isSome), H, I.tok _, rfl, q⟩
theorem ix_m (D : MDict X.K X.w d kvs) : IxR X (fun x y H Q => ∃ k v, x = .ref d ∧ y = kV k ∧ valV kvs k = some v ∧ Q v H) := by
  intro value slice pins s σ H x y v u Q I rx ry h hs
  obtain ⟨k, r, rfl, rfl, e, q⟩ := h
  obtain rfl : v = Value.ref d := rx
  obtain ⟨vs, rel, dd⟩ := D.ok X.prog s.heap I.kIn
  obtain ⟨w', hw, rw'⟩ := RelO.some_of (v := r) (o := valueAt vs k) (by rw [← e]; exact rel.val k)
  exact tail_any dd.typeIs slot_dict_getitem.lookup (wpAny_getItem_of (kV_is ry) dd.mapOf hw ⟨r, H, I.tok _, rw', q⟩) hs
def tMGet2 (d : Addr) (kvs : List (Key × V)) (td ty tx : TE) : TE := fun σ H Q => td σ H fun x H1 => x = .ref d ∧ ty σ H1 fun y H2 => tx σ H2 fun z H3 => ∃ k, y = kV k ∧ Q ((valV kvs k).getD z) H3
theorem pe_mget2 {o e f : Expr} {apos cpos : Pos} {td ty tx : TE} (D : MDict X.K X.w d kvs) (ho : PE X o td) (he : PE X e ty) (hf : PE X f tx) (m : M2 X o "get" apos e f cpos) : PE X (.Call (.Attribute o "get" apos) [e, f] [] cpos) (tMGet2 d kvs td ty tx) := by
  refine ⟨fun pins s σ H Q I h => ?_⟩
  refine wpAny_Call_method m.base m.few m.line PySem.F.plainAttrs_dict PySem.F.slot_dict_get PySem.F.type_dict_get (thn (ho.run pins s σ H _ I h) fun u s1 ⟨x, H1, I1, rx, ex, q1⟩ => ?_)
  subst ex
  obtain rfl : u = Value.ref d := rx
  obtain ⟨es, n, ha⟩ := D.at_
  obtain ⟨vs, rel, dd⟩ := D.ok X.prog s1.heap I1.kIn
  refine ⟨dd.typeIs, fun b q => ?_, ?_⟩
  · cases q
    exact ⟨_, I1.kIn _ _ ha, rfl⟩
  rw [m.trees]
  refine Calls.callWith_builtin rfl (Calls.evalArgs_plain (Calls.spliced_cons (thn (he.run pins s1 σ H1 _ I1 q1) fun iv s2 ⟨y, H2, I2, ry, q2⟩ =>
    Calls.spliced_cons (thn (hf.run pins s2 σ H2 _ I2 q2) fun fv s3 ⟨z, H3, I3, rz, k, ek, q3⟩ => Calls.spliced_nil ?_))))
  subst ek
  obtain ⟨vs, rel, dd⟩ := D.ok X.prog s3.heap I3.kIn
  exact call_meetsIn PySem.F.slot_dict_get dd.typeIs PySem.F.entry_dict_get (PySem.F.args_dict_get_3 _ _ _) (meets_dict_get_default (mixKind X.prog X.w) d (kV_is ry) D.low fv) ⟨_, dd.mapOf, _, H3, I3.tok _, (rel.val k).getD rz, q3⟩
theorem call_dictM (D : MDict X.K X.w d kvs) : CallR X (.type "dict") (fun xs H Q => xs = [.ref d] ∧ ∀ p, H p = none → Q (.ref p) (upd H p (.dK kvs))) := by
  intro pins s σ H xs us Q I r q
  obtain ⟨ex, q⟩ := q
  subst ex
  obtain ⟨u, eu, rx⟩ := vals1 r
  subst eu
  cases rx
  obtain ⟨vs, rel, dd⟩ := D.ok X.prog s.heap I.kIn
  refine kt_call_dict D.low dd (by rw [← rel.length]; exact D.z) fun h' d' hs => ?_
  have hm : (s.heap.objs.size == sysModules) = false := beq_eq_false_iff_ne.mpr (Nat.ne_of_gt I.big)
  have il := I.laid (t' := s.toks) (a := s.heap.objs.size) (o := .dK kvs) (h' := h') (fun b u e => (hs.2 b (Nat.ne_of_lt (Heap.lt_size e))).trans (Heap.get?_push_of_some _ e)) (Nat.le_refl _) ⟨D.z, hm, vs, rel, d'⟩
  exact ⟨.ref s.heap.objs.size, _, il, rfl, q _ (I.hok.fresh (Nat.le_refl _))⟩
end
end Nd
set_option maxHeartbeats 8000000
namespace K52
open PySem PySem.Spec PyProof.Rows L2 Nd
theorem joinX {α : Type} {c : α → Prop} {R : α → Prop} {G : Prop} (main : (∀ x, c x → R x) → G) (rest : ∀ x, c x → R x) : G := main rest
/-! ### k51, k52: the bytes of a code, plain; four, integer, string, row_of_bytes, joined_row -/
def upW (n : Int) : Int := if 0 ≤ n then n else n + 4294967296
def fourW (n : Int) : List Int := ([0, 8, 16, 24] : List Nat).map fun s => upW n / 2 ^ s % 256
def digW (n : Nat) : List Int := if h : n = 0 then [] else ((n % 256 : Nat) : Int) :: ((n / 256 % 128 : Nat) : Int) :: digW (n / 32768)
termination_by n
decreasing_by omega
def intW (i : Int) : List Int := if -2147483648 ≤ i ∧ i ≤ 2147483647 then 105 :: fourW i else
  108 :: (fourW (if 0 < i then (((digW i.natAbs).length / 2 : Nat) : Int) else -(((digW i.natAbs).length / 2 : Nat) : Int)) ++ digW i.natAbs)
def strW (s : Str) : List Int := 117 :: (fourW s.cps.size ++ s.cps.toList.map fun c : Nat => (c : Int))
def rowW (ns : List Int) : List Int := 115 :: (fourW ns.length ++ ns)
def partsW (ps : List (List Int)) : List Int := 40 :: (fourW ps.length ++ ps.flatten)
mutual
/-- the bytes of a constant -/
def wr : Kd → List Int
  | .non => [78]
  | .bl b => [if b = true then 84 else 70]
  | .int i => intW i
  | .str s => strW s
  | .tup l => partsW (wrL l)
  | .code F cs => 99 :: (fourW F.i1 ++ fourW 0 ++ fourW F.i2 ++ fourW F.i3 ++ fourW F.i4) ++ rowW F.code ++ partsW (wrL cs) ++ partsW (F.names.map strW) ++ partsW (F.slots.map strW) ++ rowW F.kinds ++ (strW "<tree>" ++ strW F.name ++ strW F.path) ++ fourW F.line ++ rowW F.lines ++ rowW F.handlers
def wrL : List Kd → List (List Int)
  | [] => []
  | k :: ks => wr k :: wrL ks
end
theorem wrL_map : ∀ ks : List Kd, wrL ks = ks.map wr
  | [] => by rw [wrL]; rfl
  | k :: ks => by rw [wrL, wrL_map ks]; rfl
theorem fourW_len (n : Int) : (fourW n).length = 4 := rfl
theorem and255i {x : Int} (h : 0 ≤ x) : Builtin.bitAnd x 255 = x % 256 := by
  have h := Bits.bitAnd_mask 8 h
  have e : (2 : Int) ^ 8 - 1 = 255 := by decide
  have e2 : (2 : Int) ^ 8 = 256 := by decide
  rw [e, e2] at h
  exact h
theorem and127i {x : Int} (h : 0 ≤ x) : Builtin.bitAnd x 127 = x % 128 := by
  have h := Bits.bitAnd_mask 7 h
  have e : (2 : Int) ^ 7 - 1 = 127 := by decide
  have e2 : (2 : Int) ^ 7 = 128 := by decide
  rw [e, e2] at h
  exact h
abbrev wLine : Nat := 8000000
def tL : List (Key × Vo) := [(.inr "N", .inl 78), (.inr "T", .inl 84), (.inr "F", .inl 70), (.inr "i", .inl 105), (.inr "l", .inl 108), (.inr "u", .inl 117), (.inr "s", .inl 115), (.inr "(", .inl 40), (.inr "c", .inl 99)]
def kv (l : List (Key × Vo)) : List (Key × V) := l.map fun p => (p.1, voV p.2)
structure Gw (K : PySem.W.Frag) (w : World) (mg : Str → Option Value) (dL : Addr) : Prop where
  c_LEAST : ∃ u, mg "LEAST" = some u ∧ RelV (.int (-2147483648)) u
  c_MOST : ∃ u, mg "MOST" = some u ∧ RelV (.int 2147483647) u
  c_ROUND : ∃ u, mg "ROUND" = some u ∧ RelV (.int 4294967296) u
  c_DIGIT : ∃ u, mg "DIGIT" = some u ∧ RelV (.int 32768) u
  c_PLACE : ∃ u, mg "PLACE" = some u ∧ RelV (.str "<tree>") u
  c_LETTERS : ∃ u, mg "LETTERS" = some u ∧ RelV (.ref dL) u
  L : MDict K w dL (kv tL)
  n_abs : mg "abs" = none
  n_len : mg "len" = none
  n_ord : mg "ord" = none
def spFour : Sp := fun vs H Q _ => ∃ n : Int, vs = [.int n] ∧ -2147483648 ≤ n ∧ n ≤ 2147483647 ∧ ∀ a H', H a = none → Same H H' → H' a = some (.lst ((fourW n).map V.int)) → Q (.ref a) H'
def spInteger : Sp := fun vs H Q _ => ∃ n : Int, vs = [.int n] ∧ (intW n).length ≤ wLine ∧ ∀ a H', H a = none → Same H H' → H' a = some (.lst ((intW n).map V.int)) → Q (.ref a) H'
def spString : Sp := fun vs H Q _ => ∃ s : Str, vs = [.str s] ∧ (strW s).length ≤ wLine ∧ ∀ a H', H a = none → Same H H' → H' a = some (.lst ((strW s).map V.int)) → Q (.ref a) H'
def spRowB : Sp := fun vs H Q _ => ∃ (t : Addr) (ns : List Int), vs = [.ref t] ∧ H t = some (.tup (ns.map V.int)) ∧ (rowW ns).length ≤ wLine ∧ ∀ a H', H a = none → Same H H' → H' a = some (.lst ((rowW ns).map V.int)) → Q (.ref a) H'
inductive PtAll (H : Hp) : List V → List (List Int) → Prop
  | nil : PtAll H [] []
  | cons {a : Addr} {vs : List V} {p : List Int} {ps : List (List Int)} (h : H a = some (.lst (p.map V.int))) (r : PtAll H vs ps) : PtAll H (.ref a :: vs) (p :: ps)
theorem PtAll.same {H H' : Hp} (s : Same H H') : ∀ {vs : List V} {ps : List (List Int)}, PtAll H vs ps → PtAll H' vs ps
  | _, _, .nil => .nil
  | _, _, .cons h r => .cons (s _ _ h) (r.same s)
theorem PtAll.snoc {H : Hp} {a : Addr} {p : List Int} (h : H a = some (.lst (p.map V.int))) : ∀ {vs : List V} {ps : List (List Int)}, PtAll H vs ps → PtAll H (vs ++ [.ref a]) (ps ++ [p])
  | _, _, .nil => .cons h .nil
  | _, _, .cons h1 r => .cons h1 (r.snoc h)
theorem PtAll.len {H : Hp} : ∀ {vs : List V} {ps : List (List Int)}, PtAll H vs ps → vs.length = ps.length
  | _, _, .nil => rfl
  | _, _, .cons h r => by rw [List.length_cons, List.length_cons, r.len]
theorem PtAll.get {H : Hp} : ∀ {vs : List V} {ps : List (List Int)} {i : Nat} {v : V}, PtAll H vs ps → vs[i]? = some v → ∃ a p, v = .ref a ∧ ps[i]? = some p ∧ H a = some (.lst (p.map V.int))
  | _, _, 0, _, .cons h r, e => by
    cases e
    exact ⟨_, _, rfl, rfl, h⟩
  | _, _, i + 1, v, .cons (vs := vs) h r, e => by
    have e : vs[i]? = some v := e
    obtain ⟨a, p, h1, h2, h3⟩ := PtAll.get r e
    exact ⟨a, p, h1, h2, h3⟩
def spJoin : Sp := fun vs H Q _ => ∃ (t : Addr) (xs : List V) (ps : List (List Int)), vs = [.ref t] ∧ H t = some (.lst xs) ∧ PtAll H xs ps ∧ ps.length ≤ wLine ∧ (partsW ps).length ≤ wLine ∧ ∀ a H', H a = none → Same H H' → H' a = some (.lst ((partsW ps).map V.int)) → Q (.ref a) H'
section
variable {P : Program} {w : World} {K : PySem.W.Frag} {mg : Str → Option Value} {base : Heap} {dL : Addr}
abbrev s_four : Stmt := top 32
abbrev s_integer : Stmt := top 33
abbrev s_string : Stmt := top 34
abbrev s_row_of_bytes : Stmt := top 35
abbrev s_joined_row : Stmt := top 36
abbrev N_four : List Str := ["number", "shift"]
theorem sc_four : FnScope N_four ["number"] (defScope s_four) := ⟨rfl, rfl, rfl, by decide +kernel, rfl, by decide +kernel, by decide +kernel⟩
theorem ok_four {f : Addr} {fd : FuncData} (T : Gw K w mg dL) (F : DefX K mg "four" s_four ["number"] f fd) : CalX P w K mg base 1 "four" spFour := by
  refine calx F sc_four (fun vs H Q E h => ?_) (fun cdv A outer s H vs Q E hr h => ?_)
  · obtain ⟨n, rfl, _⟩ := h
    rfl
  · obtain ⟨n, rfl, n0, n1, k⟩ := h
    refine ⟨_, (pss_cons (ps_set (i := 0) sc_four.nd rfl (.inr rfl) (pe_ifExp (pt_cmpR op_ge (pv 0) pe_int (nomark _)) (pv 0) (pe_op op_add (pv 0) (C8.pe_gc rfl T.c_ROUND))))
      (pss_one (ps_ret (pe_lc (own := [("shift", 1)]) (g := gName 1) (tt := tYes) rfl sc_four.nd (pi_tup (pe_tup (pa_cons pe_int (pa_cons pe_int (pa_cons pe_int (pa_cons pe_int pa_nil)))))) (blkOk_by (own := [("shift", 1)]) (N := N_four) (sc := defScope s_four) (by decide +kernel)) (fun _ _ _ _ _ => (pg_name (i := 1) sc_four.nd rfl (Or.inl rfl))) (fun _ _ _ _ _ => pts_nil) (fun _ _ _ _ _ => (pe_op op_and (pe_op op_shr (pv 0) (pv 1)) pe_int)))))), ?_⟩
    exact joinX (c := fun m : Int => m = upW n) (fun rest => by
      obtain ⟨m, hm⟩ : ∃ m, m = upW n := ⟨_, rfl⟩
      refine ⟨_, rfl, _, _, rfl, rfl, _, rfl, ?_⟩
      by_cases h0 : n ≥ 0
      · rw [decide_eq_true h0]
        have e : n = m := by rw [hm, upW, if_pos h0]
        refine iteT ⟨V.int m, by rw [← e]; rfl, rest m hm⟩
      · rw [decide_eq_false h0]
        have e : n + 4294967296 = m := by rw [hm, upW, if_neg h0]
        refine iteF ⟨_, rfl, _, _, rfl, rfl, ?_⟩
        have q := rest m hm
        rw [← e] at q
        exact q) (fun m hm => by
      have m0 : 0 ≤ m := by
        rw [hm, upW]
        split <;> omega
      refine ⟨(by show 4 ≤ sizeLine; decide), ?_⟩
      walk_at "new1"
      refine ⟨p1, rfl, ⟨_, SqT.of h1⟩, fun D nD => lc_tup (K := K) (a := p1) (xs := ([0, 8, 16, 24] : List Nat).map fun s : Nat => V.int (s : Int)) (fun i H' => Same H1 H' ∧ H' D = some (.lst (((fourW n).take i).map V.int))) ⟨Same.new nD, by rw [upd_same]; rfl⟩ (fun i H' _ p => SqT.of (p.1 _ _ h1)) ?_ ?_⟩
      · rintro i x H' hi ⟨s2, hD⟩
        rw [List.getElem?_map] at hi
        obtain ⟨b, hb, rfl⟩ := Option.map_eq_some_iff.mp hi
        refine ⟨rfl, ?_⟩
        unfold tYes
        refine iteT ⟨_, rfl, _, rfl, _, _, rfl, rfl, Int.natCast_nonneg _, _, _, rfl, rfl, _, hD, ?_, Same.mut s2 nD, ?_⟩
        · rw [List.length_map, List.length_take, fourW_len]
          exact Nat.lt_of_le_of_lt (Nat.min_le_right _ _) (by decide)
        · have hb2 : Builtin.bitAnd (m / 2 ^ ((b : Int)).toNat) 255 = upW n / 2 ^ b % 256 := by
            rw [and255i (Int.ediv_nonneg m0 (Int.le_of_lt (Int.pow_pos (by decide)))), hm, Int.toNat_natCast]
          rw [upd_same, List.take_add_one, fourW, List.getElem?_map, hb]
          show some (HO.lst (_ ++ [V.int (Builtin.bitAnd (m / 2 ^ ((b : Int)).toNat) 255)])) = _
          rw [hb2, List.map_append]
          rfl
      · rintro H' ⟨s2, hD⟩
        have hD : H' D = some (.lst ((fourW n).map V.int)) := hD
        exact k D H' (by
          cases hz : H D with
          | none => rfl
          | some o =>
            rw [s1 _ _ hz] at nD
            cases nD) (s1.trans s2) hD)
end
end K52
set_option maxHeartbeats 8000000
namespace K52
open PySem PySem.Spec PyProof.Rows L2 Nd
/-! ### k51, k52: integer, string, row_of_bytes, joined_row -/
theorem same_none {H H' : Hp} {a : Addr} (s : Same H H') (h : H' a = none) : H a = none := by
  cases hz : H a with
  | none => rfl
  | some o =>
    rw [s _ _ hz] at h
    cases h
theorem z_i : valV (kv tL) (.inr "i") = some (.int 105) := by decide +kernel
theorem z_l : valV (kv tL) (.inr "l") = some (.int 108) := by decide +kernel
theorem z_u : valV (kv tL) (.inr "u") = some (.int 117) := by decide +kernel
theorem z_s : valV (kv tL) (.inr "s") = some (.int 115) := by decide +kernel
theorem z_p : valV (kv tL) (.inr "(") = some (.int 40) := by decide +kernel
theorem z_c : valV (kv tL) (.inr "c") = some (.int 99) := by decide +kernel
theorem z_N : valV (kv tL) (.inr "N") = some (.int 78) := by decide +kernel
theorem z_T : valV (kv tL) (.inr "T") = some (.int 84) := by decide +kernel
theorem z_F : valV (kv tL) (.inr "F") = some (.int 70) := by decide +kernel
section
variable {P : Program} {w : World} {K : PySem.W.Frag} {mg : Str → Option Value} {base : Heap} {dL : Addr}
abbrev N_integer : List Str := ["value", "digits", "rest", "many"]
theorem sc_integer : FnScope N_integer ["value"] (defScope s_integer) := ⟨rfl, rfl, rfl, by decide +kernel, rfl, by decide +kernel, by decide +kernel⟩
theorem ok_integer {f : Addr} {fd : FuncData} (T : Gw K w mg dL) (c_four : CalX P w K mg base 1 "four" spFour) (F : DefX K mg "integer" s_integer ["value"] f fd) : CalX P w K mg base 2 "integer" spInteger := by
  refine calx F sc_integer (fun vs H Q E h => ?_) (fun cdv A outer s H vs Q E hr h => ?_)
  · obtain ⟨n, rfl, _⟩ := h
    rfl
  · obtain ⟨n, rfl, hl, k⟩ := h
    have lv1 : 1 ≤ 1 := by decide
    refine ⟨_, (pss_cons (ps_if (pt_chain op_le op_le (C8.pe_gc rfl T.c_LEAST) (pv 0) (C8.pe_gc rfl T.c_MOST))
        (pss_one (ps_ret (pe_lst (pa_cons (pe_ix (ix_m T.L) (C8.pe_gc rfl T.c_LETTERS) pe_str (fun _ _ => rfl)) (StX.pa_star (pe_cx c_four hr lv1 rfl (pa_cons (pv 0) pa_nil)) pa_nil))))) pss_nil)
      (pss_cons (ps_set (i := 1) sc_integer.nd rfl (.inl rfl) (pe_lst pa_nil))
      (pss_cons (ps_set (i := 2) sc_integer.nd rfl (.inl rfl) (pe_callB call_abs (by rfl) T.n_abs Boot.«abs» (pa_cons (pv 0) pa_nil)))
      (pss_cons (ps_while PassesOwn.never (pt_cmpR op_gt (pv 2) pe_int (nomark _))
        (pss_cons (ps_expr (pe_bm PySem.F.plainAttrs_list PySem.F.slot_list_extend PySem.F.type_list_extend mt_extend (pv 1) (pa_cons (pe_lst (pa_cons (pe_op op_and (pv 2) pe_int) (pa_cons (pe_op op_and (pe_op op_shr (pv 2) pe_int) pe_int) pa_nil))) pa_nil)))
        (pss_one (ps_set (i := 2) sc_integer.nd rfl (.inl rfl) (pe_op op_fdivN (pv 2) (C8.pe_gc rfl T.c_DIGIT))))))
      (pss_cons (ps_set (i := 3) sc_integer.nd rfl (.inl rfl) (pe_op op_fdiv (pe_callB call_len_seq (by rfl) T.n_len Boot.«len» (pa_cons (pv 1) pa_nil)) pe_int))
      (pss_one (ps_ret (pe_lst (pa_cons (pe_ix (ix_m T.L) (C8.pe_gc rfl T.c_LETTERS) pe_str (fun _ _ => rfl)) (StX.pa_star (pe_cx c_four hr lv1 rfl (pa_cons (pe_ifExp (pt_cmpR op_gt (pv 0) pe_int (nomark _)) (pv 3) (pe_un un_neg (pv 3))) pa_nil)) (StX.pa_star (pv 1) pa_nil))))))))))), ?_⟩
    have fin : ∀ {J : Hp} {p : Addr} {o : HO}, J p = none → o = .lst ((intW n).map V.int) → Same H J → Q (.ref p) (upd J p o) := fun np e sj => k _ _ (same_none sj np) (sj.trans (Same.new np)) (by rw [upd_same, e])
    by_cases hs : -2147483648 ≤ n ∧ n ≤ 2147483647
    · refine ⟨_, rfl, _, _, rfl, rfl, _, rfl, ?_⟩
      rw [decide_eq_true hs.1]
      refine iteT ⟨_, _, rfl, rfl, _, rfl, ?_⟩
      rw [decide_eq_true hs.2]
      refine iteT ⟨.inr "i", _, rfl, rfl, z_i, _, rfl, n, rfl, hs.1, hs.2, fun p1 H1 n1 s1 h1 => ⟨p1, _, rfl, .inr (SqL.of h1), ?_, fun p np => fin np ?_ s1⟩⟩
      · rw [List.append_nil, List.length_cons, List.length_map, fourW_len]
        decide
      · rw [intW, if_pos hs, List.append_nil]
        rfl
    · rw [intW, if_neg hs] at hl
      have fin : ∀ {J : Hp} {p : Addr} {o : HO}, J p = none → o = .lst ((108 :: (fourW (if 0 < n then (((digW n.natAbs).length / 2 : Nat) : Int) else -(((digW n.natAbs).length / 2 : Nat) : Int)) ++ digW n.natAbs)).map V.int) → Same H J → Q (.ref p) (upd J p o) := fun np e sj => fin np (by rw [e, intW, if_neg hs]) sj
      have hz : (digW n.natAbs).length ≤ 8000000 := by
        have hl : (fourW _ ++ digW n.natAbs).length + 1 ≤ 8000000 := hl
        rw [List.length_append] at hl
        omega
      exact joinP (fun rest => by
        refine ⟨_, rfl, _, _, rfl, rfl, _, rfl, ?_⟩
        by_cases c : -2147483648 ≤ n
        · rw [decide_eq_true c]
          refine iteT ⟨_, _, rfl, rfl, _, rfl, ?_⟩
          rw [decide_eq_false (fun z => hs ⟨c, z⟩)]
          exact iteF rest
        · rw [decide_eq_false c]
          exact iteF ⟨_, rfl, iteF rest⟩) (by
        refine ⟨Nat.zero_le _, ?_⟩
        walk_at "new1"
        refine ⟨_, rfl, n, rfl, ?_⟩
        have eab : (if n < 0 then -n else n) = ((n.natAbs : Nat) : Int) := by
          split <;> omega
        rw [eab]
        refine while_by (fun σ H' => ∃ (acc : List Int) (r : Nat), σ = [some (.int n), some (.ref p1), some (.int (r : Int)), none] ∧ Same H H' ∧ H' p1 = some (.lst (acc.map V.int)) ∧ acc ++ digW r = digW n.natAbs) (fun σ _ => match σ with | _ :: _ :: some (.int m) :: _ => m.toNat | _ => 0)
          ⟨[], n.natAbs, rfl, s1, h1, rfl⟩ ?_ (fun σ H Q Q' h ⟨v, e, i, j, a, b, c, d, q⟩ => ⟨v, e, i, j, a, b, c, d, h _ _ q⟩)
        rintro σ H' ⟨acc, r, rfl, S, hD, e⟩
        refine ⟨_, rfl, _, _, rfl, rfl, _, rfl, ?_⟩
        rcases Nat.eq_zero_or_pos r with hr0 | hr0
        · rw [decide_eq_false (show ¬ (0 : Int) < (r : Int) by omega)]
          refine iteF ?_
          have ed : digW r = [] := by
            rw [digW, dif_pos hr0]
          rw [ed, List.append_nil] at e
          rw [e] at hD
          have elen : (List.map V.int (digW n.natAbs)).length = (digW n.natAbs).length := List.length_map ..
          refine ⟨_, rfl, p1, _, rfl, .inl (SqL.of hD), _, _, rfl, rfl, ⟨by decide, by decide⟩, ?_⟩
          rw [elen, show (fun i j : Int => V.int (i / j)) ((digW n.natAbs).length : Int) 2 = V.int (((digW n.natAbs).length / 2 : Nat) : Int) from congrArg V.int (by omega)]
          generalize hmany : (((digW n.natAbs).length / 2 : Nat) : Int) = many at fin ⊢
          have hm2 : 0 ≤ many ∧ many ≤ 8000000 := by omega
          exact joinX (c := fun m : Int => m = (if 0 < n then many else -many)) (fun rest => by
            obtain ⟨m, hm⟩ : ∃ m, m = (if 0 < n then many else -many) := ⟨_, rfl⟩
            refine ⟨.inr "l", _, rfl, rfl, z_l, _, rfl, _, _, rfl, rfl, _, rfl, ?_⟩
            by_cases h0 : 0 < n
            · rw [decide_eq_true h0]
              rw [if_pos h0] at hm
              exact iteT ⟨V.int m, by rw [hm]; rfl, rest m (by rw [if_pos h0, hm])⟩
            · rw [decide_eq_false h0]
              rw [if_neg h0] at hm
              have q := rest m (by rw [if_neg h0, hm])
              rw [hm] at q
              exact iteF ⟨_, rfl, _, rfl, q⟩) (fun m hm => by
            refine ⟨m, rfl, ?_, ?_, fun p2 H2 n2 s2 h2 => ⟨p2, _, rfl, .inr (SqL.of h2), _, rfl, p1, _, rfl, .inr (SqL.of (s2 _ _ hD)), ?_, fun p np => fin np ?_ (S.trans s2)⟩⟩
            · rw [hm]
              split <;> omega
            · rw [hm]
              split <;> omega
            · rw [List.append_nil, List.length_cons, List.length_append, List.length_map, List.length_map, fourW_len]
              exact Nat.le_trans (show _ ≤ 9000000 by omega) (by decide)
            · rw [List.append_nil, List.map_cons, List.map_append, hm])
        · rw [decide_eq_true (show (0 : Int) < (r : Int) by omega)]
          have ed : digW r = ((r % 256 : Nat) : Int) :: ((r / 256 % 128 : Nat) : Int) :: digW (r / 32768) := by
            rw [digW, dif_neg (by omega)]
          have e8 : ((r : Int) / 2 ^ (8 : Int).toNat) = ((r / 256 : Nat) : Int) := by
            show (r : Int) / 256 = _
            omega
          refine iteT ⟨_, rfl, .inl ⟨rfl, _, SqL.of hD⟩, _, rfl, _, _, rfl, rfl, _, rfl, _, _, rfl, rfl, (by show (0 : Int) ≤ 8; decide), _, _, rfl, rfl, (by show 2 ≤ sizeLine; decide), ?_⟩
          walk_at "new2"
          have el : acc.length + 2 + (digW (r / 32768)).length = (digW n.natAbs).length := by
            rw [← e, ed, List.length_append, List.length_cons, List.length_cons]
            omega
          have e2 : [V.int (Builtin.bitAnd (r : Int) 255), V.int (Builtin.bitAnd ((r : Int) / 2 ^ (8 : Int).toNat) 127)] = ([((r % 256 : Nat) : Int), ((r / 256 % 128 : Nat) : Int)] : List Int).map V.int := by
            rw [e8, and255i (Int.natCast_nonneg _), and127i (Int.natCast_nonneg _)]
            rfl
          have h2 : H2 p2 = some (.lst [V.int (Builtin.bitAnd (r : Int) 255), V.int (Builtin.bitAnd ((r : Int) / 2 ^ (8 : Int).toNat) 127)]) := h2
          rw [e2] at h2
          refine ⟨p1, p2, _, _, rfl, rfl, s2 _ _ hD, h2, ?_, ?_⟩
          · rw [List.length_map, List.length_map]
            exact Nat.le_trans (show acc.length + 2 ≤ 8000000 by omega) (by decide)
          refine ⟨_, rfl, _, _, rfl, rfl, ⟨by decide, by decide⟩, ⟨acc ++ [((r % 256 : Nat) : Int), ((r / 256 % 128 : Nat) : Int)], r / 32768, ?_, ?_, ?_, ?_⟩, ?_⟩
          · show [some (V.int n), some (V.ref p1), some (V.int ((r : Int).fdiv 32768)), none] = _
            rw [Int.fdiv_eq_ediv_of_nonneg _ (by decide), show (r : Int) / 32768 = ((r / 32768 : Nat) : Int) by omega]
          · exact Same.mut (S.trans s2) n1
          · rw [upd_same, List.map_append]
          · rw [← e, ed, List.append_assoc]
            rfl
          · show ((r : Int).fdiv 32768).toNat < (r : Int).toNat
            rw [Int.fdiv_eq_ediv_of_nonneg _ (by decide)]
            omega)
abbrev N_string : List Str := ["value", "sign"]
theorem sc_string : FnScope N_string ["value"] (defScope s_string) := ⟨rfl, rfl, rfl, by decide +kernel, rfl, by decide +kernel, by decide +kernel⟩
theorem ok_string {f : Addr} {fd : FuncData} (T : Gw K w mg dL) (c_four : CalX P w K mg base 1 "four" spFour) (F : DefX K mg "string" s_string ["value"] f fd) : CalX P w K mg base 2 "string" spString := by
  refine calx F sc_string (fun vs H Q E h => ?_) (fun cdv A outer s H vs Q E hr h => ?_)
  · obtain ⟨n, rfl, _⟩ := h
    rfl
  · obtain ⟨x, rfl, hl, k⟩ := h
    have lv1 : 1 ≤ 1 := by decide
    refine ⟨_, (pss_one (ps_ret (pe_lst (pa_cons (pe_ix (ix_m T.L) (C8.pe_gc rfl T.c_LETTERS) pe_str (fun _ _ => rfl)) (StX.pa_star (pe_cx c_four hr lv1 rfl (pa_cons (pe_callB call_len_str (by rfl) T.n_len Boot.«len» (pa_cons (pv 0) pa_nil)) pa_nil)) (StX.pa_star (pe_lc (own := [("sign", 1)]) (g := gName 1) (tt := tYes) rfl sc_string.nd (pi_str (pv 0)) (blkOk_by (own := [("sign", 1)]) (N := N_string) (sc := defScope s_string) (by decide +kernel)) (fun _ _ _ _ _ => (pg_name (i := 1) sc_string.nd rfl (Or.inl rfl))) (fun _ _ _ _ _ => pts_nil) (fun _ _ _ _ _ => (pe_callB call_ord (by rfl) T.n_ord Boot.«ord» (pa_cons (pv 1) pa_nil)))) pa_nil)))))), ?_⟩
    have e9 : (strW x).length = 5 + x.cps.size := by
      show (fourW x.cps.size ++ x.cps.toList.map _).length + 1 = _
      rw [List.length_append, fourW_len, List.length_map, Array.length_toList]
      omega
    have hw : 5 + x.cps.size ≤ 8000000 := by
      rw [← e9]
      exact hl
    refine ⟨.inr "u", _, rfl, rfl, z_u, _, rfl, x, rfl, Nat.le_trans (show x.cps.size ≤ 8000000 by omega) (by decide), _, rfl, ?_, ?_, fun p1 H1 n1 s1 h1 => ⟨p1, _, rfl, .inr (SqL.of h1), _, rfl, x, rfl, fun D nD => lc_it walk_str (fun i H' => Same H1 H' ∧ H' D = some (.lst ((x.cps.toList.take i).map fun c : Nat => V.int (c : Int)))) ⟨Same.new nD, by rw [upd_same]; rfl⟩ (fun _ _ _ _ => trivial) ?_ ?_⟩⟩
    · show -2147483648 ≤ (x.cps.size : Int)
      omega
    · show (x.cps.size : Int) ≤ 2147483647
      omega
    · rintro i v H' H'' hi ⟨s2, hD⟩ ⟨rfl, c, hc, rfl⟩
      refine ⟨rfl, _, rfl, _, rfl, rfl, _, hD, ?_, Same.mut s2 nD, ?_⟩
      · rw [List.length_map, List.length_take, Array.length_toList]
        exact Nat.lt_of_le_of_lt (Nat.le_trans (Nat.min_le_right _ _) (show x.cps.size ≤ 8000000 by omega)) (by decide)
      · rw [← Array.getElem?_toList] at hc
        rw [upd_same, List.take_add_one, hc, List.map_append]
        rfl
    · rintro H' ⟨s2, hD⟩
      rw [List.take_of_length_le (by rw [Array.length_toList]; exact Nat.le_refl _)] at hD
      refine ⟨D, _, rfl, .inr (SqL.of hD), ?_, ?_⟩
      · rw [List.append_nil, List.length_cons, List.length_append, List.length_map, List.length_map, fourW_len, Array.length_toList]
        exact Nat.le_trans (show _ ≤ 8000000 by omega) (by decide)
      · intro p np
        refine k p _ (same_none (s1.trans s2) np) ((s1.trans s2).trans (Same.new np)) ?_
        rw [upd_same, List.append_nil]
        show _ = some (HO.lst ((117 :: (fourW x.cps.size ++ x.cps.toList.map fun c : Nat => (c : Int))).map V.int))
        rw [List.map_cons, List.map_append, List.map_map]
        rfl
abbrev N_row_of_bytes : List Str := ["value"]
theorem sc_row_of_bytes : FnScope N_row_of_bytes ["value"] (defScope s_row_of_bytes) := ⟨rfl, rfl, rfl, by decide +kernel, rfl, by decide +kernel, by decide +kernel⟩
theorem ok_row_of_bytes {f : Addr} {fd : FuncData} (T : Gw K w mg dL) (c_four : CalX P w K mg base 1 "four" spFour) (F : DefX K mg "row_of_bytes" s_row_of_bytes ["value"] f fd) : CalX P w K mg base 2 "row_of_bytes" spRowB := by
  refine calx F sc_row_of_bytes (fun vs H Q E h => ?_) (fun cdv A outer s H vs Q E hr h => ?_)
  · obtain ⟨t, ns, rfl, _⟩ := h
    rfl
  · obtain ⟨t, ns, rfl, ht, hl, k⟩ := h
    have lv1 : 1 ≤ 1 := by decide
    refine ⟨_, (pss_one (ps_ret (pe_lst (pa_cons (pe_ix (ix_m T.L) (C8.pe_gc rfl T.c_LETTERS) pe_str (fun _ _ => rfl)) (StX.pa_star (pe_cx c_four hr lv1 rfl (pa_cons (pe_callB call_len_seq (by rfl) T.n_len Boot.«len» (pa_cons (pv 0) pa_nil)) pa_nil)) (StX.pa_star (pv 0) pa_nil)))))), ?_⟩
    have e9 : (rowW ns).length = 5 + ns.length := by
      show (fourW ns.length ++ ns).length + 1 = _
      rw [List.length_append, fourW_len]
      omega
    have hw : 5 + ns.length ≤ 8000000 := by
      rw [← e9]
      exact hl
    refine ⟨.inr "s", _, rfl, rfl, z_s, _, rfl, t, _, rfl, .inr (SqT.of ht), _, rfl, ?_, ?_, fun p1 H1 n1 s1 h1 => ⟨p1, _, rfl, .inr (SqL.of h1), _, rfl, t, _, rfl, .inl (SqT.of (s1 _ _ ht)), ?_, ?_⟩⟩
    · omega
    · rw [List.length_map]
      omega
    · rw [List.append_nil, List.length_cons, List.length_append, List.length_map, List.length_map, fourW_len]
      exact Nat.le_trans (show _ ≤ 8000000 by omega) (by decide)
    · intro p np
      refine k p _ (same_none s1 np) (s1.trans (Same.new np)) ?_
      rw [upd_same, List.append_nil, List.length_map]
      show _ = some (HO.lst ((115 :: (fourW ns.length ++ ns)).map V.int))
      rw [List.map_cons, List.map_append]
abbrev N_joined_row : List Str := ["parts", "found", "part"]
theorem sc_joined_row : FnScope N_joined_row ["parts"] (defScope s_joined_row) := ⟨rfl, rfl, rfl, by decide +kernel, rfl, by decide +kernel, by decide +kernel⟩
theorem ok_joined_row {f : Addr} {fd : FuncData} (T : Gw K w mg dL) (c_four : CalX P w K mg base 1 "four" spFour) (F : DefX K mg "joined_row" s_joined_row ["parts"] f fd) : CalX P w K mg base 2 "joined_row" spJoin := by
  refine calx F sc_joined_row (fun vs H Q E h => ?_) (fun cdv A outer s H vs Q E hr h => ?_)
  · obtain ⟨t, xs, ps, rfl, _⟩ := h
    rfl
  · obtain ⟨t, xs, ps, rfl, ht, hp, hz, hl, k⟩ := h
    have lv1 : 1 ≤ 1 := by decide
    refine ⟨_, (pss_cons (ps_set (i := 1) sc_joined_row.nd rfl (.inl rfl) (pe_lst (pa_cons (pe_ix (ix_m T.L) (C8.pe_gc rfl T.c_LETTERS) pe_str (fun _ _ => rfl)) (StX.pa_star (pe_cx c_four hr lv1 rfl (pa_cons (pe_callB call_len_seq (by rfl) T.n_len Boot.«len» (pa_cons (pv 0) pa_nil)) pa_nil)) pa_nil))))
      (pss_cons (ps_for PassesOwn.never rfl (pi_list (pv 0)) (pg_name (i := 2) sc_joined_row.nd rfl (Or.inl rfl)) (pss_one (ps_expr (pe_bm PySem.F.plainAttrs_list PySem.F.slot_list_extend PySem.F.type_list_extend mt_extend (pv 1) (pa_cons (pv 2) pa_nil)))))
      (pss_one (ps_ret (pv 1))))), ?_⟩
    have e9 : (partsW ps).length = 5 + ps.flatten.length := by
      show (fourW ps.length ++ ps.flatten).length + 1 = _
      rw [List.length_append, fourW_len]
      omega
    have hw : 5 + ps.flatten.length ≤ 8000000 := by
      rw [← e9]
      exact hl
    refine ⟨.inr "(", _, rfl, rfl, z_p, _, rfl, t, _, rfl, .inl (SqL.of ht), _, rfl, ?_, ?_, fun p1 H1 n1 s1 h1 => ⟨p1, _, rfl, .inr (SqL.of h1), ?_, ?_⟩⟩
    · omega
    · rw [hp.len]
      have hz : ps.length ≤ 8000000 := hz
      omega
    · rw [List.append_nil, List.length_cons, List.length_map, fourW_len]
      decide
    · walk_at "new2"
      have s12 := s1.trans s2
      rw [List.append_nil, hp.len] at h2
      refine ⟨_, rfl, t, rfl, ⟨_, SqL.of (s12 _ _ ht)⟩, for_list (K := K) (a := t) (xs := xs) (fun i σ H' => (∃ v2, σ = [some (.ref t), some (.ref p2), v2]) ∧ Same H1 H' ∧ H' p2 = some (.lst ((40 :: (fourW ps.length ++ (ps.take i).flatten)).map V.int))) ⟨⟨_, rfl⟩, s2, by rw [h2]; simp⟩ (fun i σ H' _ p => SqL.of (p.2.1 _ _ (s1 _ _ ht))) ?_ ?_⟩
      · rintro i x σ H' hi ⟨⟨v2, rfl⟩, S, hD⟩
        obtain ⟨a, p, rfl, hpi, ha⟩ := hp.get hi
        have et : (ps.take (i + 1)).flatten = (ps.take i).flatten ++ p := by
          rw [List.take_add_one, hpi, List.flatten_append]
          simp
        have el : (ps.take (i + 1)).flatten.length ≤ ps.flatten.length := by
          have z : (ps.take (i + 1) ++ ps.drop (i + 1)).flatten.length = ps.flatten.length := by rw [List.take_append_drop]
          rw [List.flatten_append, List.length_append] at z
          omega
        rw [et, List.length_append] at el
        refine ⟨_, rfl, .inl ⟨rfl, _, SqL.of hD⟩, _, rfl, p2, a, _, _, rfl, rfl, hD, S _ _ (s1 _ _ ha), ?_, ⟨_, rfl⟩, Same.mut S n2, ?_⟩
        · rw [List.length_map, List.length_map, List.length_cons, List.length_append, fourW_len]
          exact Nat.le_trans (show _ ≤ 8000000 by omega) (by decide)
        · rw [upd_same, et, ← List.map_append, List.cons_append, List.append_assoc]
      · rintro σ H' ⟨⟨v2, rfl⟩, S, hD⟩
        rw [List.take_of_length_le (by rw [hp.len]; exact Nat.le_refl _)] at hD
        exact ⟨_, rfl, k p2 H' (same_none s1 n2) (s1.trans S) hD⟩
end
end K52
set_option maxHeartbeats 8000000
set_option hygiene false in
local macro_rules | `(tactic| walk_at "ext") => `(tactic| (generalize eu : upd _ p1 (HO.lst _) = Jn; (replace hD := (congrArg (fun z : Hp => z p1 = some _) eu).mp upd_same); (replace S := (congrArg (Same H) eu).mp (Same.mut S n1)); rw [← List.map_append] at hD; clear eu))
namespace K52
open PySem PySem.Spec PyProof.Rows L2 Nd
/-! ### k51, k52: constant, written -/
/-- a heap without one place -/
def hd1 (D : Addr) (H : Hp) : Hp := fun c => if c = D then none else H c
theorem hd1_same {D : Addr} {H H' : Hp} (s : Same H H') : Same (hd1 D H) (hd1 D H') := fun c o h => by
  unfold hd1 at h ⊢
  by_cases e : c = D
  · rw [if_pos e] at h
    cases h
  · rw [if_neg e] at h ⊢
    exact s _ _ h
theorem hd1_upd {D : Addr} {H : Hp} {o : HO} : hd1 D (upd H D o) = hd1 D H := by
  funext c
  unfold hd1
  by_cases e : c = D
  · rw [if_pos e, if_pos e]
  · rw [if_neg e, if_neg e, upd_ne e]
theorem hd1_le {D : Addr} {H : Hp} : Same (hd1 D H) H := fun c o h => by
  unfold hd1 at h
  by_cases e : c = D
  · rw [if_pos e] at h
    cases h
  · rw [if_neg e] at h
    exact h
structure GlW (mg : Str → Option Value) (K : PySem.W.Frag) (Cc : Addr) : Prop where
  ni : PySem.W.kitOne K (.ref Cc) (.type "int") = some false
  ns : PySem.W.kitOne K (.ref Cc) (.type "str") = some false
theorem kni {K : PySem.W.Frag} : PySem.W.kitOne K (.type "NoneType") (.type "int") = some false := kit_ty (by decide +kernel)
theorem kti {K : PySem.W.Frag} : PySem.W.kitOne K (.type "tuple") (.type "int") = some false := kit_ty (by decide +kernel)
theorem kts {K : PySem.W.Frag} : PySem.W.kitOne K (.type "tuple") (.type "str") = some false := kit_ty (by decide +kernel)
def spCon (Cc : Addr) (n : Nat) : Sp := fun vs H Q _ => ∃ (v : V) (k : Kd) (N M e : Nat), vs = [v] ∧ KvAt Cc H v k ∧ Gk N M e k ∧ M ≤ 1000 ∧ dep k < n ∧ (wr k).length ≤ wLine ∧ ∀ a H', H a = none → Same H H' → H' a = some (.lst ((wr k).map V.int)) → Q (.ref a) H'
def spWri (Cc : Addr) (n : Nat) : Sp := fun vs H Q _ => ∃ (v : V) (F : FD) (cs : List Kd) (N M e : Nat), vs = [v] ∧ KvAt Cc H v (.code F cs) ∧ Gk N M e (.code F cs) ∧ M ≤ 1000 ∧ dep (.code F cs) < n + 1 ∧ (wr (.code F cs)).length ≤ wLine ∧ ∀ a H', H a = none → Same H H' → H' a = some (.tup ((wr (.code F cs)).map V.int)) → Q (.ref a) H'
theorem wr_pos (k : Kd) : 1 ≤ (wr k).length := by
  cases k with
  | int i =>
    rw [wr, intW]
    split <;> exact Nat.le_add_left _ _
  | _ =>
    rw [wr]
    first | exact Nat.le_refl _ | exact Nat.le_add_left _ _ | (simp only [List.length_append, List.length_cons]; omega)
theorem flat_len {α : Type} {ps : List (List α)} {p : List α} (h : p ∈ ps) : p.length ≤ ps.flatten.length := by
  induction ps with
  | nil => cases h
  | cons q ps ih =>
    rw [List.flatten_cons, List.length_append]
    rcases List.mem_cons.mp h with e | h
    · rw [e]
      exact Nat.le_add_right _ _
    · have := ih h
      omega
theorem flat_pos {α : Type} : ∀ {ps : List (List α)}, (∀ p, p ∈ ps → 1 ≤ p.length) → ps.length ≤ ps.flatten.length
  | [], _ => Nat.zero_le _
  | p :: ps, h => by
    rw [List.flatten_cons, List.length_append, List.length_cons]
    have h1 := h p (List.mem_cons_self ..)
    have h2 := flat_pos fun q hq => h q (List.mem_cons_of_mem _ hq)
    omega
theorem partsW_len (ps : List (List Int)) : (partsW ps).length = 5 + ps.flatten.length := by
  show (fourW ps.length ++ ps.flatten).length + 1 = _
  rw [List.length_append, fourW_len]
  omega
theorem rowW_len (ns : List Int) : (rowW ns).length = 5 + ns.length := by
  show (fourW ns.length ++ ns).length + 1 = _
  rw [List.length_append, fourW_len]
  omega
section
variable {P : Program} {w : World} {K : PySem.W.Frag} {mg : Str → Option Value} {base : Heap} {dL Cc Cn fI : Addr}
abbrev s_constant : Stmt := top 37
abbrev s_written : Stmt := top 38
abbrev N_constant : List Str := ["value", "one"]
theorem sc_constant : FnScope N_constant ["value"] (defScope s_constant) := ⟨rfl, rfl, rfl, by decide +kernel, rfl, by decide +kernel, by decide +kernel⟩
theorem con_step {f : Addr} {fd : FuncData} (n : Nat) (T2 : Gl2 mg) (T : Gw K w mg dL) (G : GlK P K mg Cc Cn fI) (GC : GlC K Cc) (GE : GlE mg K Cc) (GW : GlW mg K Cc) (c_integer : CalX P w K mg base 2 "integer" spInteger) (c_string : CalX P w K mg base 2 "string" spString) (c_joined_row : CalX P w K mg base 2 "joined_row" spJoin)
    (c_constant : CalX P w K mg base (2 * n + 3) "constant" (spCon Cc n)) (c_written : CalX P w K mg base (2 * n + 4) "written" (spWri Cc n)) (F : DefX K mg "constant" s_constant ["value"] f fd) : CalX P w K mg base (2 * (n + 1) + 3) "constant" (spCon Cc (n + 1)) := by
  refine calx F sc_constant (fun vs H Q E h => ?_) (fun cdv A outer s H vs Q E hr h => ?_)
  · obtain ⟨v, k, N, M, e, rfl, _⟩ := h
    rfl
  · obtain ⟨v, k, N, M, e, rfl, hv, hg, hM, hd, hl, q⟩ := h
    have lv2 : 2 ≤ 2 * n + 4 := by omega
    have lv3 : 2 * n + 3 ≤ 2 * n + 4 := by omega
    have lv4 : 2 * n + 4 ≤ 2 * n + 4 := by omega
    refine ⟨_, (pss_cons (ps_if (pt_cmpR op_isN (pv 0) pe_non (nomark _)) (pss_one (ps_ret (pe_lst (pa_cons (pe_ix (ix_m T.L) (C8.pe_gc rfl T.c_LETTERS) pe_str (fun _ _ => rfl)) pa_nil)))) pss_nil)
      (pss_cons (ps_if (pt_val (pe_callB call_isi (by rfl) T2.n_isinstance Boot.«isinstance» (pa_cons (pv 0) (pa_cons (pe_bltn (v := .ty "bool") (by rfl) T2.n_bool Boot.«bool» rfl) pa_nil)))) (pss_one (ps_ret (pe_lst (pa_cons (pe_ifExp (pt_val (pv 0)) (pe_ix (ix_m T.L) (C8.pe_gc rfl T.c_LETTERS) pe_str (fun _ _ => rfl)) (pe_ix (ix_m T.L) (C8.pe_gc rfl T.c_LETTERS) pe_str (fun _ _ => rfl))) pa_nil)))) pss_nil)
      (pss_cons (ps_if (pt_val (pe_callB call_isi (by rfl) T2.n_isinstance Boot.«isinstance» (pa_cons (pv 0) (pa_cons (pe_bltn (v := .ty "int") (by rfl) T2.n_int Boot.«int» rfl) pa_nil)))) (pss_one (ps_ret (pe_cx c_integer hr lv2 rfl (pa_cons (pv 0) pa_nil)))) pss_nil)
      (pss_cons (ps_if (pt_val (pe_callB call_isi (by rfl) T2.n_isinstance Boot.«isinstance» (pa_cons (pv 0) (pa_cons (pe_bltn (v := .ty "str") (by rfl) T2.n_str Boot.«str» rfl) pa_nil)))) (pss_one (ps_ret (pe_cx c_string hr lv2 rfl (pa_cons (pv 0) pa_nil)))) pss_nil)
      (pss_cons (ps_if (pt_val (pe_callB call_isi (by rfl) T2.n_isinstance Boot.«isinstance» (pa_cons (pv 0) (pa_cons (pe_bltn (v := .ty "tuple") (by rfl) T2.n_tuple Boot.«tuple» rfl) pa_nil)))) (pss_one (ps_ret (pe_cx c_joined_row hr lv2 rfl (pa_cons (pe_lc (own := [("one", 1)]) (g := gName 1) (tt := tYes) rfl sc_constant.nd (pi_tup (pv 0)) (blkOk_by (own := [("one", 1)]) (N := N_constant) (sc := defScope s_constant) (by decide +kernel)) (fun _ _ _ _ _ => (pg_name (i := 1) sc_constant.nd rfl (Or.inl rfl))) (fun _ _ _ _ _ => pts_nil) (fun _ _ _ _ _ => (pe_cx c_constant hr lv3 rfl (pa_cons (pv 1) pa_nil)))) pa_nil)))) pss_nil)
      (pss_one (ps_ret (pe_callTy call_list_of (by rfl) T2.n_list Boot.«list» (pa_cons (pe_cx c_written hr lv4 rfl (pa_cons (pv 0) pa_nil)) pa_nil))))))))), ?_⟩
    have fin : ∀ {J : Hp} {p : Addr} {o : HO}, J p = none → o = .lst ((wr k).map V.int) → Same H J → Q (.ref p) (upd J p o) := fun np e sj => q _ _ (same_none sj np) (sj.trans (Same.new np)) (by rw [upd_same, e])
    cases hv with
    | non =>
      refine ⟨_, rfl, rfl, _, rfl, iteT ⟨.inr "N", _, rfl, rfl, z_N, (by show 1 ≤ sizeLine; decide), fun p np => fin np ?_ (Same.refl _)⟩⟩
      rw [wr]
      rfl
    | bl b =>
      refine ⟨_, rfl, rfl, _, rfl, iteF ?_⟩
      refine ⟨_, rfl, V.bl b, V.ty "bool", .type "bool", .type "bool", true, rfl, .ty "bool", .base (.bl b), kbb, _, rfl, iteT ?_⟩
      cases b with
      | true =>
        refine ⟨_, rfl, _, rfl, iteT ⟨.inr "T", _, rfl, rfl, z_T, (by show 1 ≤ sizeLine; decide), fun p np => fin np ?_ (Same.refl _)⟩⟩
        rw [wr]
        rfl
      | false =>
        refine ⟨_, rfl, _, rfl, iteF ⟨.inr "F", _, rfl, rfl, z_F, (by show 1 ≤ sizeLine; decide), fun p np => fin np ?_ (Same.refl _)⟩⟩
        rw [wr]
        rfl
    | int i =>
      refine ⟨_, rfl, rfl, _, rfl, iteF ?_⟩
      refine ⟨_, rfl, V.int i, V.ty "bool", .type "int", .type "bool", false, rfl, .ty "bool", .base (.int i), knb (by simp), _, rfl, iteF ?_⟩
      refine ⟨_, rfl, V.int i, V.ty "int", .type "int", .type "int", true, rfl, .ty "int", .base (.int i), ii, _, rfl, iteT ?_⟩
      rw [wr] at hl
      exact ⟨_, rfl, i, rfl, hl, fun a H' na s h => q a H' na s (by rw [wr]; exact h)⟩
    | str z =>
      refine ⟨_, rfl, rfl, _, rfl, iteF ?_⟩
      refine ⟨_, rfl, V.str z, V.ty "bool", .type "str", .type "bool", false, rfl, .ty "bool", .base (.str z), knb (by simp), _, rfl, iteF ?_⟩
      refine ⟨_, rfl, V.str z, V.ty "int", .type "str", .type "int", false, rfl, .ty "int", .base (.str z), ksi, _, rfl, iteF ?_⟩
      refine ⟨_, rfl, V.str z, V.ty "str", .type "str", .type "str", true, rfl, .ty "str", .base (.str z), ss, _, rfl, iteT ?_⟩
      rw [wr] at hl
      exact ⟨_, rfl, z, rfl, hl, fun a H' na s h => q a H' na s (by rw [wr]; exact h)⟩
    | @tup a xs ks hx hr0 =>
      have ty : TyX K H (.ref a) (.type "tuple") := .base (.tup hx)
      refine ⟨_, rfl, rfl, _, rfl, iteF ?_⟩
      refine ⟨_, rfl, V.ref a, V.ty "bool", .type "tuple", .type "bool", false, rfl, .ty "bool", ty, knb (by simp), _, rfl, iteF ?_⟩
      refine ⟨_, rfl, V.ref a, V.ty "int", .type "tuple", .type "int", false, rfl, .ty "int", ty, kti, _, rfl, iteF ?_⟩
      refine ⟨_, rfl, V.ref a, V.ty "str", .type "tuple", .type "str", false, rfl, .ty "str", ty, kts, _, rfl, iteF ?_⟩
      refine ⟨_, rfl, V.ref a, V.ty "tuple", .type "tuple", .type "tuple", true, rfl, .ty "tuple", ty, ktt, _, rfl, iteT ?_⟩
      rw [wr, wrL_map] at hl
      rw [wr, wrL_map] at q
      rw [dep] at hd
      have hfl := partsW_len (ks.map wr)
      have hgk : ∀ k, k ∈ ks → Gk N M e k := fun k hk => by
        cases hg with
        | flat h => cases h with
          | tup hl h => exact .flat ((h k hk).mono)
      have hn : ks.length ≤ (ks.map wr).flatten.length := by
        have := flat_pos (ps := ks.map wr) fun p hp => (by
          obtain ⟨k, _, rfl⟩ := List.mem_map.mp hp
          exact wr_pos k)
        rw [List.length_map] at this
        exact this
      refine ⟨_, rfl, a, rfl, ⟨_, SqT.of hx⟩, fun D nD => lc_tup (K := K) (a := a) (xs := xs) (fun i H' => Same H H' ∧ ∃ vs, H' D = some (.lst vs) ∧ PtAll (hd1 D H') vs ((ks.map wr).take i)) ⟨Same.new nD, [], upd_same, .nil⟩ (fun i H' _ p => SqT.of (p.1 _ _ hx)) ?_ ?_⟩
      · rintro i x H' hi ⟨s2, vs, hD, hp⟩
        obtain ⟨k, hk, hkx⟩ := hr0.get hi
        have hkm := List.mem_of_getElem? hk
        have hil : i < ks.length := (List.getElem?_eq_some_iff.mp hk).1
        refine ⟨rfl, ?_⟩
        unfold tYes
        refine iteT ⟨_, rfl, x, k, N, M, e, rfl, hkx.kp (.same s2), hgk k hkm, hM, ?_, ?_, fun b J nb sJ hb => ⟨_, sJ _ _ hD, ?_, Same.mut (s2.trans sJ) nD, _, upd_same, ?_⟩⟩
        · have := dep_mem hkm
          omega
        · have := flat_len (ps := ks.map wr) (List.mem_map.mpr ⟨k, hkm, rfl⟩)
          have hl : (partsW (ks.map wr)).length ≤ 8000000 := hl
          show _ ≤ 8000000
          omega
        · rw [hp.len, List.length_take, List.length_map]
          have hl : (partsW (ks.map wr)).length ≤ 8000000 := hl
          exact Nat.lt_of_le_of_lt (show _ ≤ 8000000 by omega) (by decide)
        · rw [List.take_add_one, List.getElem?_map, hk, hd1_upd]
          have nbD : b ≠ D := fun z => by
            rw [z, hD] at nb
            cases nb
          refine PtAll.snoc (a := b) (p := wr k) ?_ (hp.same (hd1_same sJ))
          unfold hd1
          rw [if_neg nbD]
          exact hb
      · rintro H' ⟨s2, vs, hD, hp⟩
        rw [List.take_of_length_le (by rw [List.length_map, hr0.len]; exact Nat.le_refl _)] at hp
        have hl : (partsW (ks.map wr)).length ≤ 8000000 := hl
        exact ⟨D, vs, _, rfl, hD, hp.same hd1_le, by rw [List.length_map]; show _ ≤ 8000000; omega, hl, fun b J nb sJ hb => q b J (same_none s2 nb) (s2.trans sJ) hb⟩
    | @code a D m cs hC hcs h0 h1 =>
      obtain ⟨dx, fs, f0, _⟩ := id hC
      have ty : TyX K H (.ref a) (.ref Cc) := .base (.ins f0 G.ins.cl G.ins.ha G.ins.hn G.ins.htk G.ins.hm)
      refine ⟨_, rfl, rfl, _, rfl, iteF ?_⟩
      refine ⟨_, rfl, V.ref a, V.ty "bool", .ref Cc, .type "bool", false, rfl, .ty "bool", ty, GE.nb, _, rfl, iteF ?_⟩
      refine ⟨_, rfl, V.ref a, V.ty "int", .ref Cc, .type "int", false, rfl, .ty "int", ty, GW.ni, _, rfl, iteF ?_⟩
      refine ⟨_, rfl, V.ref a, V.ty "str", .ref Cc, .type "str", false, rfl, .ty "str", ty, GW.ns, _, rfl, iteF ?_⟩
      refine ⟨_, rfl, V.ref a, V.ty "tuple", .ref Cc, .type "tuple", false, rfl, .ty "tuple", ty, GC.nt, _, rfl, iteF ?_⟩
      refine ⟨_, rfl, .ref a, D.fd, cs, N, M, e, rfl, .code hC hcs h0 h1, hg, hM, hd, hl, fun b J nb sJ hb => ⟨b, _, rfl, .inr (SqT.of hb), fun p np => fin np rfl sJ⟩⟩
end
end K52
set_option maxHeartbeats 8000000
set_option hygiene false in
local macro_rules | `(tactic| walk_at "ext") => `(tactic| (generalize eu : upd _ p1 (HO.lst _) = Jn; (replace hD := (congrArg (fun z : Hp => z p1 = some _) eu).mp upd_same); (replace S := (congrArg (Same H) eu).mp (Same.mut S n1)); rw [← List.map_append] at hD; clear eu))
namespace K52
open PySem PySem.Spec PyProof.Rows L2 Nd
/-! ### k51, k52: written -/
theorem PtAll.tup {K : PySem.W.Frag} {D a : Addr} {H1 : Hp} {xs : List V} {ps : List (List Int)} {j : Nat} {te : TE} {vs : List Nat} {σ : L2.St} {Qd : Hp → Prop} (nD : H1 D = none) (ha : H1 a = some (.tup xs)) (hl : xs.length = ps.length) (hz : ps.length ≤ wLine) (hw : ∀ v, wipe ((wipe σ vs).set j (some v)) vs = wipe σ vs)
    (hstep : ∀ (i : Nat) (x : V) (p : List Int) (H' : Hp) (R : V → Hp → Prop), xs[i]? = some x → ps[i]? = some p → Same H1 H' → (∀ b J, H' b = none → Same H' J → J b = some (.lst (p.map V.int)) → R (.ref b) J) → te ((wipe σ vs).set j (some x)) H' R)
    (hd : ∀ H' ws, Same H1 H' → H' D = some (.lst ws) → PtAll H' ws ps → Qd H') :
    ∃ W : Nat → Nat → Hp → Prop, (∃ m, W 0 m (upd H1 D (.lst []))) ∧ ∀ i m H, W i m H →
      ((Itt K a).stop i H ∧ Qd H) ∨ ((Itt K a).go i H ∧ ∃ Nx : Hp → Prop, (∀ H', Nx H' → ∃ m', m' < m ∧ W (i + 1) m' H') ∧ ∀ x H', (Itt K a).yld i H x H' → gName j x (wipe σ vs) H' fun σ2 H2 => wipe σ2 vs = wipe σ vs ∧ tYes σ2 H2 fun b H3 =>
        if b = true then te σ2 H3 fun y H4 => ∃ acc, H4 D = some (.lst acc) ∧ acc.length < sizeLine ∧ Nx (upd H4 D (.lst (acc ++ [y]))) else Nx H3) := by
  refine lc_tup (K := K) (a := a) (xs := xs) (fun i H' => Same H1 H' ∧ ∃ ws, H' D = some (.lst ws) ∧ PtAll (hd1 D H') ws (ps.take i)) ⟨Same.new nD, [], upd_same, .nil⟩ (fun i H' _ p => SqT.of (p.1 _ _ ha)) ?_ ?_
  · rintro i x H' hi ⟨s2, ws, hD, hp⟩
    have hil : i < xs.length := (List.getElem?_eq_some_iff.mp hi).1
    have hk : ps[i]? = some (ps[i]'(by omega)) := by simp
    refine ⟨hw _, ?_⟩
    unfold tYes
    refine iteT (hstep i x _ H' _ hi hk s2 fun b J nb sJ hb => ⟨_, sJ _ _ hD, ?_, Same.mut (s2.trans sJ) nD, _, upd_same, ?_⟩)
    · rw [hp.len, List.length_take]
      exact Nat.lt_of_le_of_lt (Nat.le_trans (Nat.min_le_right _ _) hz) (by decide)
    · rw [List.take_add_one, hk, hd1_upd]
      have nbD : b ≠ D := fun z => by
        rw [z, hD] at nb
        cases nb
      refine PtAll.snoc (a := b) ?_ (hp.same (hd1_same sJ))
      unfold hd1
      rw [if_neg nbD]
      exact hb
  · rintro H' ⟨s2, ws, hD, hp⟩
    rw [List.take_of_length_le (by rw [hl]; exact Nat.le_refl _)] at hp
    exact hd H' ws s2 hD (hp.same hd1_le)
theorem strs_flat (xs : List Str) : xs.length ≤ (xs.map strW).flatten.length := by
  have := flat_pos (ps := xs.map strW) fun p hp => (by
    obtain ⟨x, _, rfl⟩ := List.mem_map.mp hp
    exact Nat.le_add_left _ _)
  rw [List.length_map] at this
  exact this
theorem wrs_flat (ks : List Kd) : ks.length ≤ (ks.map wr).flatten.length := by
  have := flat_pos (ps := ks.map wr) fun p hp => (by
    obtain ⟨k, _, rfl⟩ := List.mem_map.mp hp
    exact wr_pos k)
  rw [List.length_map] at this
  exact this
theorem flat5 (l : List Int) : ∀ i, ((l.map fourW).take i).flatten.length ≤ 4 * l.length := by
  intro i
  induction l generalizing i with
  | nil =>
    rw [List.map_nil, List.take_nil]
    exact Nat.zero_le _
  | cons x l ih =>
    cases i with
    | zero =>
      rw [List.take_zero]
      exact Nat.zero_le _
    | succ i =>
      rw [List.map_cons, List.take_succ_cons, List.flatten_cons, List.length_append, fourW_len, List.length_cons]
      have := ih i
      omega
section
variable {P : Program} {w : World} {K : PySem.W.Frag} {mg : Str → Option Value} {base : Heap} {dL Cc Cn fI : Addr}
abbrev N_written : List Str := ["code", "found", "number", "text", "one", "name"]
theorem sc_written : FnScope N_written ["code"] (defScope s_written) := ⟨rfl, rfl, rfl, by decide +kernel, rfl, by decide +kernel, by decide +kernel⟩
theorem wri_step {f : Addr} {fd : FuncData} (n : Nat) (T2 : Gl2 mg) (T : Gw K w mg dL) (G : GlK P K mg Cc Cn fI) (c_want_code : CalX P w K mg base 2 "want_code" (spWant K Cc Cn)) (c_four : CalX P w K mg base 1 "four" spFour) (c_string : CalX P w K mg base 2 "string" spString) (c_row_of_bytes : CalX P w K mg base 2 "row_of_bytes" spRowB) (c_joined_row : CalX P w K mg base 2 "joined_row" spJoin)
    (c_constant : CalX P w K mg base (2 * n + 3) "constant" (spCon Cc n)) (F : DefX K mg "written" s_written ["code"] f fd) : FnOk P w K mg base (L2.CX P w) (2 * n + 4) f fd ["code"] (spWri Cc n) := by
  refine fnx F sc_written (fun vs H Q E h => ?_) (fun cdv A outer s H vs Q E hr h => ?_)
  · obtain ⟨v, F, cs, N, M, e, rfl, _⟩ := h
    rfl
  · obtain ⟨v, F, cs, N, M, e, rfl, hv, hg, hM, hd, hl, q⟩ := h
    have lv1 : 1 ≤ 2 * n + 3 := by omega
    have lv2 : 2 ≤ 2 * n + 3 := by omega
    have lv3 : 2 * n + 3 ≤ 2 * n + 3 := by omega
    have cl := G.ins.cl
    have na : ∀ f ∈ flds, NoAttr K Cc f := G.na
    refine ⟨_, (pss_cons (ps_expr (pe_cx c_want_code hr lv2 rfl (pa_cons (pv 0) pa_nil)))
      (pss_cons (ps_set (i := 1) sc_written.nd rfl (.inl rfl) (pe_lst (pa_cons (pe_ix (ix_m T.L) (C8.pe_gc rfl T.c_LETTERS) pe_str (fun _ _ => rfl)) pa_nil)))
      (pss_cons (ps_for PassesOwn.never rfl (pi_tup (pe_tup (pa_cons (pe_fld (pv 0) rfl) (pa_cons pe_int (pa_cons (pe_fld (pv 0) rfl) (pa_cons (pe_fld (pv 0) rfl) (pa_cons (pe_fld (pv 0) rfl) pa_nil))))))) (pg_name (i := 2) sc_written.nd rfl (Or.inl rfl)) (pss_one (ps_expr (pe_bm PySem.F.plainAttrs_list PySem.F.slot_list_extend PySem.F.type_list_extend mt_extend (pv 1) (pa_cons (pe_cx c_four hr lv1 rfl (pa_cons (pv 2) pa_nil)) pa_nil)))))
      (pss_cons (ps_expr (pe_bm PySem.F.plainAttrs_list PySem.F.slot_list_extend PySem.F.type_list_extend mt_extend (pv 1) (pa_cons (pe_cx c_row_of_bytes hr lv2 rfl (pa_cons (pe_fld (pv 0) rfl) pa_nil)) pa_nil)))
      (pss_cons (ps_expr (pe_bm PySem.F.plainAttrs_list PySem.F.slot_list_extend PySem.F.type_list_extend mt_extend (pv 1) (pa_cons (pe_cx c_joined_row hr lv2 rfl (pa_cons (pe_lc (own := [("one", 4)]) (g := gName 4) (tt := tYes) rfl sc_written.nd (pi_tup (pe_fld (pv 0) rfl)) (blkOk_by (own := [("one", 4)]) (N := N_written) (sc := defScope s_written) (by decide +kernel)) (fun _ _ _ _ _ => (pg_name (i := 4) sc_written.nd rfl (Or.inl rfl))) (fun _ _ _ _ _ => pts_nil) (fun _ _ _ _ _ => (pe_cx c_constant hr lv3 rfl (pa_cons (pv 4) pa_nil)))) pa_nil)) pa_nil)))
      (pss_cons (ps_expr (pe_bm PySem.F.plainAttrs_list PySem.F.slot_list_extend PySem.F.type_list_extend mt_extend (pv 1) (pa_cons (pe_cx c_joined_row hr lv2 rfl (pa_cons (pe_lc (own := [("name", 5)]) (g := gName 5) (tt := tYes) rfl sc_written.nd (pi_tup (pe_fld (pv 0) rfl)) (blkOk_by (own := [("name", 5)]) (N := N_written) (sc := defScope s_written) (by decide +kernel)) (fun _ _ _ _ _ => (pg_name (i := 5) sc_written.nd rfl (Or.inl rfl))) (fun _ _ _ _ _ => pts_nil) (fun _ _ _ _ _ => (pe_cx c_string hr lv2 rfl (pa_cons (pv 5) pa_nil)))) pa_nil)) pa_nil)))
      (pss_cons (ps_expr (pe_bm PySem.F.plainAttrs_list PySem.F.slot_list_extend PySem.F.type_list_extend mt_extend (pv 1) (pa_cons (pe_cx c_joined_row hr lv2 rfl (pa_cons (pe_lc (own := [("name", 5)]) (g := gName 5) (tt := tYes) rfl sc_written.nd (pi_tup (pe_fld (pv 0) rfl)) (blkOk_by (own := [("name", 5)]) (N := N_written) (sc := defScope s_written) (by decide +kernel)) (fun _ _ _ _ _ => (pg_name (i := 5) sc_written.nd rfl (Or.inl rfl))) (fun _ _ _ _ _ => pts_nil) (fun _ _ _ _ _ => (pe_cx c_string hr lv2 rfl (pa_cons (pv 5) pa_nil)))) pa_nil)) pa_nil)))
      (pss_cons (ps_expr (pe_bm PySem.F.plainAttrs_list PySem.F.slot_list_extend PySem.F.type_list_extend mt_extend (pv 1) (pa_cons (pe_cx c_row_of_bytes hr lv2 rfl (pa_cons (pe_fld (pv 0) rfl) pa_nil)) pa_nil)))
      (pss_cons (ps_for PassesOwn.never rfl (pi_tup (pe_tup (pa_cons (C8.pe_gc rfl T.c_PLACE) (pa_cons (pe_fld (pv 0) rfl) (pa_cons (pe_fld (pv 0) rfl) pa_nil))))) (pg_name (i := 3) sc_written.nd rfl (Or.inl rfl)) (pss_one (ps_expr (pe_bm PySem.F.plainAttrs_list PySem.F.slot_list_extend PySem.F.type_list_extend mt_extend (pv 1) (pa_cons (pe_cx c_string hr lv2 rfl (pa_cons (pv 3) pa_nil)) pa_nil)))))
      (pss_one (ps_ret (pe_callTy call_tuple_of (by rfl) T2.n_tuple Boot.«tuple» (pa_cons (pe_op op_cat (pe_op op_cat (pe_op op_cat (pv 1) (pe_cx c_four hr lv1 rfl (pa_cons (pe_fld (pv 0) rfl) pa_nil))) (pe_cx c_row_of_bytes hr lv2 rfl (pa_cons (pe_fld (pv 0) rfl) pa_nil))) (pe_cx c_row_of_bytes hr lv2 rfl (pa_cons (pe_fld (pv 0) rfl) pa_nil))) pa_nil))))))))))))), ?_⟩
    cases hv with
    | @code a D m _ hC hcs h01 h02 =>
      obtain ⟨dx, fs, h0, h1, h2, h3, h4, ⟨t5, h5, g5⟩, ⟨t6, h6, g6⟩, ⟨t7, h7, g7⟩, ⟨t8, h8, g8⟩, ⟨t9, h9, g9⟩, h10, h11, h12, ⟨t13, h13, g13⟩, ⟨t14, h14, g14⟩, h15⟩ := hC
      have hF : FldS M D.fd ∧ ∀ c, c ∈ cs → Gk N M (e - 1) c := by
        cases hg with
        | flat h => cases h
        | code h hl hc => exact ⟨h, fun c hcm => hc c hcm⟩
      refine ⟨_, rfl, .ref a, rfl, .inl ⟨a, dx, fs, rfl, h0, .inr "c", _, rfl, rfl, z_c, (by show 1 ≤ sizeLine; decide), ?_⟩⟩
      intro p1 n1
      have S : Same H (upd H p1 (.lst [.int 99])) := Same.new n1
      have hD : upd H p1 (.lst [.int 99]) p1 = some (.lst (([99] : List Int).map V.int)) := upd_same
      generalize upd H p1 (.lst [.int 99]) = J at S hD ⊢
      rw [dep] at hd
      rw [wr, wrL_map] at hl q
      -- the lengths
      obtain ⟨L, hL⟩ : ∃ L, (partsW (cs.map wr)).length + (partsW (D.fd.names.map strW)).length + (partsW (D.fd.slots.map strW)).length + (strW "<tree>").length + (strW D.fd.name).length + (strW D.fd.path).length = L := ⟨_, rfl⟩
      have hW : 25 + L + (rowW D.fd.code).length + (rowW D.fd.kinds).length + (rowW D.fd.lines).length + (rowW D.fd.handlers).length ≤ 8000000 := by
        have hl : (_ : List Int).length ≤ 8000000 := hl
        simp only [List.length_append, List.length_cons, fourW_len] at hl
        omega
      have fl5 := flat5 [D.fd.i1, 0, D.fd.i2, D.fd.i3, D.fd.i4]
      have pl1 := partsW_len (cs.map wr)
      have pl2 := partsW_len (D.fd.names.map strW)
      have pl3 := partsW_len (D.fd.slots.map strW)
      have pf1 := wrs_flat cs
      have pf2 := strs_flat D.fd.names
      have pf3 := strs_flat D.fd.slots
      have F := hF.1
      -- numbers
      refine ⟨_, rfl, a, Cc, dx, fs, _, rfl, S _ _ h0, cl, na _ (by decide), h1, ?_⟩
      refine ⟨_, rfl, a, Cc, dx, fs, _, rfl, S _ _ h0, cl, na _ (by decide), h2, ?_⟩
      refine ⟨_, rfl, a, Cc, dx, fs, _, rfl, S _ _ h0, cl, na _ (by decide), h3, ?_⟩
      refine ⟨_, rfl, a, Cc, dx, fs, _, rfl, S _ _ h0, cl, na _ (by decide), h4, ?_⟩
      refine ⟨(by show 5 ≤ sizeLine; decide), ?_⟩
      intro p2 n2
      have s2 : Same J (upd J p2 (.tup (([D.fd.i1, 0, D.fd.i2, D.fd.i3, D.fd.i4] : List Int).map V.int))) := Same.new n2
      have hp2 : upd J p2 (.tup (([D.fd.i1, 0, D.fd.i2, D.fd.i3, D.fd.i4] : List Int).map V.int)) p2 = some (.tup (([D.fd.i1, 0, D.fd.i2, D.fd.i3, D.fd.i4] : List Int).map V.int)) := upd_same
      change ∃ a, _ ∧ _
      refine ⟨p2, rfl, ⟨_, SqT.of hp2⟩, for_tup (K := K) (a := p2) (xs := ([D.fd.i1, 0, D.fd.i2, D.fd.i3, D.fd.i4] : List Int).map V.int) (fun i σ H' => (∃ v2, σ = [some (.ref a), some (.ref p1), v2, none, none, none]) ∧ Same H H' ∧ H' p2 = some (.tup (([D.fd.i1, 0, D.fd.i2, D.fd.i3, D.fd.i4] : List Int).map V.int)) ∧ H' p1 = some (.lst ((99 :: ((([D.fd.i1, 0, D.fd.i2, D.fd.i3, D.fd.i4] : List Int).map fourW).take i).flatten).map V.int))) ⟨⟨_, rfl⟩, S.trans s2, hp2, s2 _ _ hD⟩ (fun i σ H' _ p => SqT.of p.2.2.1) ?_ ?_⟩
      · rintro i x σ H' hi ⟨⟨v2, rfl⟩, S', hp, hD'⟩
        rw [List.getElem?_map] at hi
        obtain ⟨b, hb, rfl⟩ := Option.map_eq_some_iff.mp hi
        have hbm := List.mem_of_getElem? hb
        have hb2 : -2147483648 ≤ b ∧ b ≤ 2147483647 := by
          simp only [List.mem_cons, List.mem_nil_iff, or_false] at hbm
          have := F.n1
          have := F.n2
          have := F.n3
          have := F.n4
          rcases hbm with rfl | rfl | rfl | rfl | rfl <;> omega
        have ne12 : p2 ≠ p1 := fun z => by
          rw [z, hD'] at hp
          cases hp
        refine ⟨_, rfl, .inl ⟨rfl, _, SqL.of hD'⟩, _, rfl, b, rfl, hb2.1, hb2.2, fun c J3 nc s3 hc => ⟨p1, c, _, _, rfl, rfl, s3 _ _ hD', hc, ?_, ⟨_, rfl⟩, Same.mut (S'.trans s3) n1, (upd_ne ne12).trans (s3 _ _ hp), ?_⟩⟩
        · rw [List.length_map, List.length_map, List.length_cons, fourW_len]
          have z : _ ≤ 20 := fl5 i
          exact Nat.le_trans (show _ ≤ 100 by omega) (by decide)
        · rw [upd_same, List.take_add_one, List.getElem?_map, hb, List.flatten_append, ← List.map_append]
          simp
      rintro σ J2 ⟨⟨v2, rfl⟩, S, _, hD⟩
      replace hD : J2 p1 = some (.lst ((99 :: (fourW D.fd.i1 ++ fourW 0 ++ fourW D.fd.i2 ++ fourW D.fd.i3 ++ fourW D.fd.i4)).map V.int)) := by
        rw [hD]
        simp
      -- code
      refine ⟨_, rfl, .inl ⟨rfl, _, SqL.of hD⟩, _, rfl, a, Cc, dx, fs, _, rfl, S _ _ h0, cl, na _ (by decide), h5, t5, D.fd.code, rfl, S _ _ g5, ?_, fun c J3 nc s3 hc => ⟨p1, c, _, _, rfl, rfl, s3 _ _ hD, hc, ?_, ?_⟩⟩
      · show _ ≤ 8000000
        omega
      · simp only [List.length_map, List.length_append, List.length_cons, fourW_len]
        exact Nat.le_trans (show _ ≤ 8000000 by omega) (by decide)
      replace S := S.trans s3
      walk_at "ext"
      -- constants
      refine ⟨_, rfl, .inl ⟨rfl, _, SqL.of hD⟩, _, rfl, a, Cc, dx, fs, _, rfl, S _ _ h0, cl, na _ (by decide), h6, t6, rfl, ⟨_, SqT.of (S _ _ g6)⟩, fun Dl nl => PtAll.tup (K := K) (ps := cs.map wr) nl (S _ _ g6) (by rw [hcs.len, List.length_map]) (by rw [List.length_map]; show _ ≤ 8000000; omega) (fun _ => rfl) (fun i x p H' R hx hp s4 hR => ?_) fun H4 ws s4 hl4 hp4 => ?_⟩
      · obtain ⟨k, hk, hkx⟩ := hcs.get hx
        rw [List.getElem?_map, hk] at hp
        cases hp
        have hkm := List.mem_of_getElem? hk
        refine ⟨_, rfl, x, k, N, M, e - 1, rfl, hkx.kp (.same (S.trans s4)), hF.2 k hkm, hM, ?_, ?_, hR⟩
        · have := dep_mem hkm
          omega
        · have := flat_len (ps := cs.map wr) (List.mem_map.mpr ⟨k, hkm, rfl⟩)
          show _ ≤ 8000000
          omega
      refine ⟨Dl, ws, _, rfl, hl4, hp4, by rw [List.length_map]; show _ ≤ 8000000; omega, by show _ ≤ 8000000; omega, fun c J3 nc s3 hc => ⟨p1, c, _, _, rfl, rfl, s3 _ _ (s4 _ _ hD), hc, ?_, ?_⟩⟩
      · simp only [List.length_map, List.length_append, List.length_cons, fourW_len]
        exact Nat.le_trans (show _ ≤ 8000000 by omega) (by decide)
      replace S := (S.trans s4).trans s3
      walk_at "ext"
      -- names
      refine ⟨_, rfl, .inl ⟨rfl, _, SqL.of hD⟩, _, rfl, a, Cc, dx, fs, _, rfl, S _ _ h0, cl, na _ (by decide), h7, t7, rfl, ⟨_, SqT.of (S _ _ g7)⟩, fun Dl nl => PtAll.tup (K := K) (ps := D.fd.names.map strW) nl (S _ _ g7) (by rw [List.length_map, List.length_map]; rfl) (by rw [List.length_map]; show _ ≤ 8000000; omega) (fun _ => rfl) (fun i x p H' R hx hp s4 hR => ?_) fun H4 ws s4 hl4 hp4 => ?_⟩
      · rw [List.getElem?_map] at hx hp
        obtain ⟨z, hz, rfl⟩ := Option.map_eq_some_iff.mp hx
        have hz : D.fd.names[i]? = some z := hz
        rw [hz] at hp
        cases hp
        have := flat_len (ps := D.fd.names.map strW) (List.mem_map.mpr ⟨z, List.mem_of_getElem? hz, rfl⟩)
        exact ⟨_, rfl, z, rfl, by show _ ≤ 8000000; omega, hR⟩
      refine ⟨Dl, ws, _, rfl, hl4, hp4, by rw [List.length_map]; show _ ≤ 8000000; omega, by show _ ≤ 8000000; omega, fun c J3 nc s3 hc => ⟨p1, c, _, _, rfl, rfl, s3 _ _ (s4 _ _ hD), hc, ?_, ?_⟩⟩
      · simp only [List.length_map, List.length_append, List.length_cons, fourW_len]
        exact Nat.le_trans (show _ ≤ 8000000 by omega) (by decide)
      replace S := (S.trans s4).trans s3
      walk_at "ext"
      -- slots
      refine ⟨_, rfl, .inl ⟨rfl, _, SqL.of hD⟩, _, rfl, a, Cc, dx, fs, _, rfl, S _ _ h0, cl, na _ (by decide), h8, t8, rfl, ⟨_, SqT.of (S _ _ g8)⟩, fun Dl nl => PtAll.tup (K := K) (ps := D.fd.slots.map strW) nl (S _ _ g8) (by rw [List.length_map, List.length_map]; rfl) (by rw [List.length_map]; show _ ≤ 8000000; omega) (fun _ => rfl) (fun i x p H' R hx hp s4 hR => ?_) fun H4 ws s4 hl4 hp4 => ?_⟩
      · rw [List.getElem?_map] at hx hp
        obtain ⟨z, hz, rfl⟩ := Option.map_eq_some_iff.mp hx
        have hz : D.fd.slots[i]? = some z := hz
        rw [hz] at hp
        cases hp
        have := flat_len (ps := D.fd.slots.map strW) (List.mem_map.mpr ⟨z, List.mem_of_getElem? hz, rfl⟩)
        exact ⟨_, rfl, z, rfl, by show _ ≤ 8000000; omega, hR⟩
      refine ⟨Dl, ws, _, rfl, hl4, hp4, by rw [List.length_map]; show _ ≤ 8000000; omega, by show _ ≤ 8000000; omega, fun c J3 nc s3 hc => ⟨p1, c, _, _, rfl, rfl, s3 _ _ (s4 _ _ hD), hc, ?_, ?_⟩⟩
      · simp only [List.length_map, List.length_append, List.length_cons, fourW_len]
        exact Nat.le_trans (show _ ≤ 8000000 by omega) (by decide)
      replace S := (S.trans s4).trans s3
      walk_at "ext"
      -- kinds
      refine ⟨_, rfl, .inl ⟨rfl, _, SqL.of hD⟩, _, rfl, a, Cc, dx, fs, _, rfl, S _ _ h0, cl, na _ (by decide), h9, t9, D.fd.kinds, rfl, S _ _ g9, ?_, fun c J3 nc s3 hc => ⟨p1, c, _, _, rfl, rfl, s3 _ _ hD, hc, ?_, ?_⟩⟩
      · show _ ≤ 8000000
        omega
      · simp only [List.length_map, List.length_append, List.length_cons, fourW_len]
        exact Nat.le_trans (show _ ≤ 8000000 by omega) (by decide)
      replace S := S.trans s3
      walk_at "ext"
      -- texts
      refine ⟨_, rfl, a, Cc, dx, fs, _, rfl, S _ _ h0, cl, na _ (by decide), h10, ?_⟩
      refine ⟨_, rfl, a, Cc, dx, fs, _, rfl, S _ _ h0, cl, na _ (by decide), h11, ?_⟩
      refine ⟨(by show 3 ≤ sizeLine; decide), ?_⟩
      obtain ⟨acc, eacc, hD⟩ : ∃ acc, acc = 99 :: (fourW D.fd.i1 ++ fourW 0 ++ fourW D.fd.i2 ++ fourW D.fd.i3 ++ fourW D.fd.i4) ++ rowW D.fd.code ++ partsW (cs.map wr) ++ partsW (D.fd.names.map strW) ++ partsW (D.fd.slots.map strW) ++ rowW D.fd.kinds ∧ Jn p1 = some (.lst (acc.map V.int)) := ⟨_, rfl, hD⟩
      rw [← eacc] at q
      have lacc : acc.length + (strW "<tree>").length + (strW D.fd.name).length + (strW D.fd.path).length + 4 + (rowW D.fd.lines).length + (rowW D.fd.handlers).length ≤ 8000000 := by
        rw [eacc]
        simp only [List.length_append, List.length_cons, fourW_len]
        omega
      clear eacc
      intro p3 n3
      have s3 : Same Jn (upd Jn p3 (.tup ((["<tree>", D.fd.name, D.fd.path] : List Str).map V.str))) := Same.new n3
      have hp3 : upd Jn p3 (.tup ((["<tree>", D.fd.name, D.fd.path] : List Str).map V.str)) p3 = some (.tup ((["<tree>", D.fd.name, D.fd.path] : List Str).map V.str)) := upd_same
      change ∃ a, _ ∧ _
      refine ⟨p3, rfl, ⟨_, SqT.of hp3⟩, for_tup (K := K) (a := p3) (xs := (["<tree>", D.fd.name, D.fd.path] : List Str).map V.str) (fun i σ H' => (∃ v2 v3, σ = [some (.ref a), some (.ref p1), v2, v3, none, none]) ∧ Same H H' ∧ H' p3 = some (.tup ((["<tree>", D.fd.name, D.fd.path] : List Str).map V.str)) ∧ H' p1 = some (.lst ((acc ++ (((["<tree>", D.fd.name, D.fd.path] : List Str).map strW).take i).flatten).map V.int))) ⟨⟨_, _, rfl⟩, S.trans s3, hp3, (s3 _ _ hD).trans (by simp)⟩ (fun i σ H' _ p => SqT.of p.2.2.1) ?_ ?_⟩
      · rintro i x σ H' hi ⟨⟨v2, v3, rfl⟩, S', hp, hD'⟩
        rw [List.getElem?_map] at hi
        obtain ⟨b, hb, rfl⟩ := Option.map_eq_some_iff.mp hi
        have et : (((["<tree>", D.fd.name, D.fd.path] : List Str).map strW).take (i + 1)).flatten = (((["<tree>", D.fd.name, D.fd.path] : List Str).map strW).take i).flatten ++ strW b := by
          rw [List.take_add_one, List.getElem?_map, hb, List.flatten_append]
          simp
        have el : (((["<tree>", D.fd.name, D.fd.path] : List Str).map strW).take (i + 1)).flatten.length ≤ (strW "<tree>").length + ((strW D.fd.name).length + ((strW D.fd.path).length + 0)) := by
          have z : (((["<tree>", D.fd.name, D.fd.path] : List Str).map strW).take (i + 1) ++ ((["<tree>", D.fd.name, D.fd.path] : List Str).map strW).drop (i + 1)).flatten.length = (((["<tree>", D.fd.name, D.fd.path] : List Str).map strW)).flatten.length := by rw [List.take_append_drop]
          rw [List.flatten_append, List.length_append] at z
          refine Nat.le_trans (Nat.le_add_right _ _) (Nat.le_of_eq (z.trans ?_))
          simp only [List.map_cons, List.map_nil, List.flatten_cons, List.flatten_nil, List.length_append, List.length_nil]
        rw [et, List.length_append] at el
        have ne13 : p3 ≠ p1 := fun z => by
          rw [z, hD'] at hp
          cases hp
        refine ⟨_, rfl, .inl ⟨rfl, _, SqL.of hD'⟩, _, rfl, b, rfl, ?_, fun c J3 nc s3 hc => ⟨p1, c, _, _, rfl, rfl, s3 _ _ hD', hc, ?_, ⟨_, _, rfl⟩, Same.mut (S'.trans s3) n1, (upd_ne ne13).trans (s3 _ _ hp), ?_⟩⟩
        · show _ ≤ 8000000
          omega
        · rw [List.length_map, List.length_map, List.length_append]
          exact Nat.le_trans (show _ ≤ 8000000 by omega) (by decide)
        · rw [upd_same, et, ← List.map_append, List.append_assoc]
      rintro σ J2 ⟨⟨v2', v3, rfl⟩, S, _, hD⟩
      replace hD : J2 p1 = some (.lst ((acc ++ (strW "<tree>" ++ strW D.fd.name ++ strW D.fd.path)).map V.int)) := by
        rw [hD]
        simp
      -- the end
      have hl2 := F.line
      refine ⟨_, rfl, _, rfl, a, Cc, dx, fs, _, rfl, S _ _ h0, cl, na _ (by decide), h12, D.line, rfl, Int.le_trans (by decide) hl2.1, hl2.2, fun c J3 nc s3 hc => ⟨p1, c, _, _, rfl, rfl, s3 _ _ hD, hc, ?_, fun u1 nu1 => ?_⟩⟩
      · simp only [List.length_map, List.length_append, fourW_len]
        exact Nat.le_trans (show _ ≤ 8000000 by omega) (by decide)
      rw [← List.map_append]
      have s4 := Same.new (o := .lst ((acc ++ (strW "<tree>" ++ strW D.fd.name ++ strW D.fd.path) ++ fourW D.line).map V.int)) nu1
      have hu1 : upd J3 u1 (.lst ((acc ++ (strW "<tree>" ++ strW D.fd.name ++ strW D.fd.path) ++ fourW D.line).map V.int)) u1 = some (.lst ((acc ++ (strW "<tree>" ++ strW D.fd.name ++ strW D.fd.path) ++ fourW D.line).map V.int)) := upd_same
      generalize upd J3 u1 (.lst ((acc ++ (strW "<tree>" ++ strW D.fd.name ++ strW D.fd.path) ++ fourW D.line).map V.int)) = J4 at s4 hu1 ⊢
      replace S := (S.trans s3).trans s4
      refine ⟨_, rfl, a, Cc, dx, fs, _, rfl, S _ _ h0, cl, na _ (by decide), h13, t13, D.fd.lines, rfl, S _ _ g13, ?_, fun c J5 nc s5 hc => ⟨u1, c, _, _, rfl, rfl, s5 _ _ hu1, hc, ?_, fun u2 nu2 => ?_⟩⟩
      · show _ ≤ 8000000
        omega
      · simp only [List.length_map, List.length_append, fourW_len]
        exact Nat.le_trans (show _ ≤ 8000000 by omega) (by decide)
      rw [← List.map_append]
      have s6 := Same.new (o := .lst ((acc ++ (strW "<tree>" ++ strW D.fd.name ++ strW D.fd.path) ++ fourW D.line ++ rowW D.fd.lines).map V.int)) nu2
      have hu2 : upd J5 u2 (.lst ((acc ++ (strW "<tree>" ++ strW D.fd.name ++ strW D.fd.path) ++ fourW D.line ++ rowW D.fd.lines).map V.int)) u2 = some (.lst ((acc ++ (strW "<tree>" ++ strW D.fd.name ++ strW D.fd.path) ++ fourW D.line ++ rowW D.fd.lines).map V.int)) := upd_same
      generalize upd J5 u2 (.lst ((acc ++ (strW "<tree>" ++ strW D.fd.name ++ strW D.fd.path) ++ fourW D.line ++ rowW D.fd.lines).map V.int)) = J6 at s6 hu2 ⊢
      replace S := (S.trans s5).trans s6
      refine ⟨_, rfl, a, Cc, dx, fs, _, rfl, S _ _ h0, cl, na _ (by decide), h14, t14, D.fd.handlers, rfl, S _ _ g14, ?_, fun c J7 nc s7 hc => ⟨u2, c, _, _, rfl, rfl, s7 _ _ hu2, hc, ?_, fun u3 nu3 => ?_⟩⟩
      · show _ ≤ 8000000
        omega
      · simp only [List.length_map, List.length_append, fourW_len]
        exact Nat.le_trans (show _ ≤ 8000000 by omega) (by decide)
      rw [← List.map_append]
      have s8 := Same.new (o := .lst ((acc ++ (strW "<tree>" ++ strW D.fd.name ++ strW D.fd.path) ++ fourW D.line ++ rowW D.fd.lines ++ rowW D.fd.handlers).map V.int)) nu3
      refine ⟨u3, _, rfl, .inl ⟨SqL.of upd_same, fun p np => ?_⟩⟩
      have S9 := (S.trans s7).trans s8
      exact q p _ (same_none S9 np) (S9.trans (Same.new np)) upd_same
theorem ok_constant {f fW : Addr} {fd fdW : FuncData} (T2 : Gl2 mg) (T : Gw K w mg dL) (G : GlK P K mg Cc Cn fI) (GC : GlC K Cc) (GE : GlE mg K Cc) (GW : GlW mg K Cc) (c_want_code : CalX P w K mg base 2 "want_code" (spWant K Cc Cn)) (c_four : CalX P w K mg base 1 "four" spFour) (c_integer : CalX P w K mg base 2 "integer" spInteger) (c_string : CalX P w K mg base 2 "string" spString) (c_row_of_bytes : CalX P w K mg base 2 "row_of_bytes" spRowB) (c_joined_row : CalX P w K mg base 2 "joined_row" spJoin)
    (FW : DefX K mg "written" s_written ["code"] fW fdW) (F : DefX K mg "constant" s_constant ["value"] f fd) : ∀ n, CalX P w K mg base (2 * n + 3) "constant" (spCon Cc n)
  | 0 => by
    refine calx F sc_constant (fun vs H Q E h => ?_) (fun cdv A outer s H vs Q E hr h => ?_)
    · obtain ⟨v, k, _, _, _, _, _, _, _, hd, _⟩ := h
      exact absurd hd (Nat.not_lt_zero _)
    · obtain ⟨v, k, _, _, _, _, _, _, _, hd, _⟩ := h
      exact absurd hd (Nat.not_lt_zero _)
  | n + 1 => by
    have ih := ok_constant T2 T G GC GE GW c_want_code c_four c_integer c_string c_row_of_bytes c_joined_row FW F n
    exact con_step n T2 T G GC GE GW c_integer c_string c_joined_row ih (FW.cal (wri_step n T2 T G c_want_code c_four c_string c_row_of_bytes c_joined_row ih FW)) F
end
end K52
set_option maxHeartbeats 4000000
/-! ### enumerate of a list or a tuple -/
namespace Nd
open PySem PySem.Spec PyProof.Rows L2
theorem meets_enumB {v : Value} {o : Obj} {G : Heap → Prop} (B : Begins v o G) :
    Meets (Builtin.«enumerate.__new__» ⟨[.type "enumerate", v], []⟩) (fun _ R s => G s.heap ∧
      R (.ok (.ret (.ref (s.heap.push o).objs.size))) { s with heap := (s.heap.push o).push { cls := .type "enumerate", data := .fields #[.none, .bool false, .ref s.heap.objs.size, rawInt 0, .none, .none] } }) :=
  .of_wp fun prog w A R s h => by
    obtain ⟨hp, g, d, tk, os⟩ := s
    obtain ⟨h1, h⟩ := h
    have hsub := sub_enumerate
    have q1 : ∀ {A' : Around} {E : Value → Shared → Prop} {Q : Value → Shared → Prop}, Q (.ref hp.objs.size) ⟨hp.push o, g, d, tk, os⟩ → wpAny (model prog w) A' (pyIter v) Q E ⟨hp, g, d, tk, os⟩ :=
      fun q => B.iter prog w _ _ ⟨hp, g, d, tk, os⟩ _ h1 q
    wp_walk using q1
    refine wpAny_stack_any fun st => wpAny_pure ?_
    split
    · rename_i c _ _ _ _ _
      cases (c == Value.type "enumerate")
      · wp_walk using q1
        exact ⟨_, rfl, h⟩
      · wp_walk using q1
        exact ⟨_, rfl, h⟩
    · wp_walk using q1
      exact ⟨_, rfl, h⟩
theorem enumB {prog : Program} {w : World} {A : Around} {E : Value → Shared → Prop} {s : Shared} {v : Value} {o : Obj} {G : Heap → Prop} {Q : Value → Shared → Prop} (B : Begins v o G) (h1 : G s.heap)
    (h : ∀ h', IsEnum h' (s.heap.objs.size + 1) s.heap.objs.size 0 .none → h'.get? s.heap.objs.size = some o → h'.objs.size = s.heap.objs.size + 2 →
      (∀ b o, s.heap.get? b = some o → h'.get? b = some o) → Q (.ref (s.heap.objs.size + 1)) { s with heap := h' }) :
    wpAny (model prog w) A (call (.type "enumerate") [v]) Q E s := by
  refine callType_new F.called_enumerate (by decide) (F.typeCall_enumerate_1 _) (F.newCall_enumerate_1 _) (fun obj => F.args_object_init_2 obj _) F.entry_enumerate_new
    (meets_enumB B) ⟨h1, ?_⟩
  have hz : (s.heap.push o).objs.size = s.heap.objs.size + 1 := Heap.size_push ..
  show _ ∧ _
  rw [hz]
  have he : IsEnum ((s.heap.push o).push { cls := .type "enumerate", data := .fields #[.none, .bool false, .ref s.heap.objs.size, rawInt 0, .none, .none] }) (s.heap.objs.size + 1) s.heap.objs.size 0 .none := by
    have := Heap.get?_push_size (s.heap.push o) (o := { cls := .type "enumerate", data := .fields #[.none, .bool false, .ref s.heap.objs.size, rawInt 0, .none, .none] }) rfl
    rw [hz] at this; exact this
  exact ⟨⟨_, he, rfl⟩, h _ he (Heap.get?_push_of_some _ (Heap.get?_push_size _ B.free)) (by rw [Heap.size_push, hz]) fun b o x => Heap.get?_push_of_some _ (Heap.get?_push_of_some _ x)⟩
/-- the tuple at a, each item in a new pair -/
def Itet (K : PySem.W.Frag) (a : Addr) : It :=
  ⟨fun i H => ∃ (xs : List V) (x : V), SqT K H a xs ∧ xs[i]? = some x, fun i H v H' => ∃ T x, v = .ref T ∧ H T = none ∧ H' = upd H T (.tup [.int (i : Nat), x]) ∧ ∀ xs, SqT K H a xs → xs[i]? = some x, fun i H => ∃ xs : List V, SqT K H a xs ∧ xs.length = i⟩
theorem turn_enumt {P : Program} {w : World} {K : PySem.W.Frag} {elts : List Expr} {kk : Nat} {tpos : Pos} (a e it : Addr) (nai : a ≠ it) (nae : e ≠ a) :
    Turn P w K (.Tuple elts kk tpos) (Itet K a) [e, it] e (fun i h => (∃ old, IsEnum h e it ((i : Nat) : Int) old) ∧ h.IsTupleIter it a i ∧ e ≠ it) where
  mem := by simp
  obj := fun i h st b hb => by
    obtain ⟨⟨old, he⟩, ⟨o, ho, hc, hd⟩, _⟩ := st
    have e' : b = e ∨ b = it := by simpa using hb
    rcases e' with z | z
    · rw [z]; exact ⟨_, he, fun v q => nomatch q⟩
    · rw [z]; exact ⟨o, ho, fun v q => by rw [hd] at q; cases q⟩
  keep := fun i h h' st k => let ⟨⟨old, he⟩, hi, hne⟩ := st; ⟨⟨old, k e (by simp) _ he⟩, hi.at fun o q => k it (by simp) o q, hne⟩
  item := by
    intro X hP hw hK hc i pins s σ H E I hf st hg
    subst hP hw hK
    obtain ⟨⟨old, he⟩, hit, hne⟩ := st
    obtain ⟨xs, x, hq, hx⟩ := hg
    obtain ⟨its, rv, p, hz⟩ := I.tuple hq
    obtain ⟨u, hu, ru⟩ := rv.get hx
    have hel : e < s.heap.objs.size := Heap.lt_size he
    have hil : it < s.heap.objs.size := by obtain ⟨_, q, _⟩ := hit; exact Heap.lt_size q
    have hi : i < its.toArray.size := by
      rw [List.size_toArray]
      exact (List.getElem?_eq_some_iff.mp hu).1
    have D : Draws X.prog X.w X.A.in1 it [it, a] its.toArray.size (fun i v => its.toArray[i]? = some v) (fun i h => h.IsTupleIter it a i ∧ h.IsTuple a its.toArray) := Draws.tuple (A := X.A.in1) (show X.A.in1.handled = none from I.ok.hd hc) it a nai its.toArray
    refine wpAny_pyNext_enum_itemD D he ⟨hit, p⟩ hi hne (by simp [hne, nae]) fun u' h' tk hu' ho hit' hT hsz hk => ?_
    obtain rfl : u' = u := by
      have z : its[i]? = some u' := by simpa using hu'
      exact Option.some.inj (z.symm.trans hu)
    refine ⟨_, rfl, wpAny_letOwnedTupleGo_enum (s := { s with heap := h', toks := tk + 1 }) ho fun h'' he' sb => ?_⟩
    have hT2 : h''.get? s.heap.objs.size = some { cls := .type "tuple", data := .seq #[.int i tk, u'] } := (sb.2 _ (Nat.ne_of_gt hel)).trans hT
    have new : ObjOk X.prog X.w (upd H s.heap.objs.size (.tup [.int (i : Nat), x])) h'' s.heap.objs.size (.tup [.int (i : Nat), x]) :=
      ⟨by show 2 ≤ sizeLine; decide, [.int i tk, u'], .cons ⟨_, rfl⟩ (.cons ru .nil), ⟨_, hT2, rfl, _, rfl⟩⟩
    have I1 : Inv X pins σ (upd H s.heap.objs.size (.tup [.int (i : Nat), x])) { s with heap := h'', toks := tk + 1 } :=
      I.turnedNew (ch := [e, it]) (fun b ob hb q => (sb.2 b (fun z => hb (by simp [z]))).trans (hk b ob (fun z => hb (by simp [z])) (fun z => hb (by simp [z])) q)) hf (Nat.le_refl _) new
    refine ⟨.ref s.heap.objs.size, _, I1, rfl, ⟨_, x, rfl, I.hok.fresh (Nat.le_refl _), rfl, fun ys hy => by rw [I.tuple_inj hy hq]; exact hx⟩, ⟨⟨u', ?_⟩, hit'.1.at fun o q => (sb.2 it (Ne.symm hne)).trans q, hne⟩, fun b hb => ?_⟩
    · have e1 : ((i + 1 : Nat) : Int) = (i : Int) + 1 := by omega
      rw [e1]; exact he'
    · have hb' : b < s.heap.objs.size := by
        have e' : b = e ∨ b = it := by simpa using hb
        rcases e' with z | z
        · rw [z]; exact hel
        · rw [z]; exact hil
      rw [upd_ne (Nat.ne_of_lt hb')]
      exact (hf b hb).1
  done := by
    intro X hP hw hK hc i pins s σ H E I hf st hg
    subst hP hw hK
    obtain ⟨⟨old, he⟩, hit, hne⟩ := st
    obtain ⟨xs, hq, hx⟩ := hg
    obtain ⟨its, rv, p, hz⟩ := I.tuple hq
    obtain ⟨f0, f1, f2, f3, f4, f5⟩ := hf it (by simp)
    have hl := rv.length
    have D : Draws X.prog X.w X.A.in1 it [it, a] its.toArray.size (fun i v => its.toArray[i]? = some v) (fun i h => h.IsTupleIter it a i ∧ h.IsTuple a its.toArray) := Draws.tuple (A := X.A.in1) (show X.A.in1.handled = none from I.ok.hd hc) it a nai its.toArray
    have e : i = its.toArray.size := by rw [List.size_toArray, ← hl, hx]
    rw [e] at he hit
    exact wpAny_pyNext_enum_endD D he ⟨hit, p⟩ fun h' eb => ⟨rfl, I.turned (t' := s.toks) (fun b o hb q => eb b o hb q) f0 f1 f3 f4 f5⟩
  self := fun A i s Q E st h => let ⟨⟨_, he⟩, _⟩ := st; wpAny_pyIter_enum he h
def iEnumB (K : PySem.W.Frag) (ta : TA) : TI := fun σ H R => ta σ H fun vs H1 => ∃ a, vs = [.ref a] ∧ ((∃ xs, SqL K H1 a xs) ∧ R (Ite K a) H1 ∨ (∃ xs, SqT K H1 a xs) ∧ R (Itet K a) H1)
theorem pi_enumB {X : Cx} {e : Expr} {ta : TA} {p pos tpos : Pos} {elts : List Expr} {kk : Nat} (hg : Gl X "enumerate") (hm : X.mg "enumerate" = none) (ha : PA X [e] ta) (hs : starEach [e] X.env = [(false, eval e X.env)] := by rfl) :
    PI X (.Tuple elts kk tpos) (.Call (.Name "enumerate" p) [e] [] pos) (iEnumB X.K ta) := by
  refine ⟨fun pins s σ H R I h => ?_⟩
  refine Call_ (ld_blt I hg hm boot_enumerate (PyProof.Rows.callWith_type1 (thn (ha.run pos pins s σ H _ I h) fun us s1 ⟨vs, H1, I1, r1, q1⟩ => ?_) hs rfl))
  obtain ⟨a, ex, q⟩ := q1
  subst ex
  cases r1 with
  | cons r rr =>
    cases rr
    cases r
    have ff : ∀ b ∈ [s1.heap.objs.size + 1, s1.heap.objs.size], s1.heap.objs.size ≤ b := fun b hb => by
      have e' : b = s1.heap.objs.size + 1 ∨ b = s1.heap.objs.size := by simpa using hb
      rcases e' with z | z
      · rw [z]; exact Nat.le_add_right _ _
      · rw [z]; exact Nat.le_refl _
    rcases q with ⟨⟨xs, hq⟩, q⟩ | ⟨⟨xs, hq⟩, q⟩
    · obtain ⟨its, rv, p', hz⟩ := I1.list hq
      refine call_enumerate_list p'.isList fun h' he hit hsz hk => wpAny_pyIter_enum he ?_
      have I2 : Inv X pins σ H1 { s1 with heap := h' } := I1.kept (t' := s1.toks) hk
      exact ⟨s1.heap.objs.size + 1, [s1.heap.objs.size + 1, s1.heap.objs.size], _, _, H1, rfl, I2, turn_enum a (s1.heap.objs.size + 1) s1.heap.objs.size, ⟨⟨.none, he⟩, hit, Nat.succ_ne_self _⟩, fun b hb => I1.fpOk (ff b hb) (I1.hok.fresh (ff b hb)), q⟩
    · obtain ⟨its, rv, p', hz⟩ := I1.tuple hq
      have hal : a < s1.heap.objs.size := by
        obtain ⟨o, ho, _⟩ := id p'
        exact Heap.lt_size ho
      refine enumB (begins_tuple a its.toArray) (show s1.heap.IsTuple a its.toArray from p') fun h' he hit hsz hk => wpAny_pyIter_enum he ?_
      have I2 : Inv X pins σ H1 { s1 with heap := h' } := I1.kept (t' := s1.toks) hk
      exact ⟨s1.heap.objs.size + 1, [s1.heap.objs.size + 1, s1.heap.objs.size], _, _, H1, rfl, I2, turn_enumt a (s1.heap.objs.size + 1) s1.heap.objs.size (Nat.ne_of_lt hal) (Nat.ne_of_gt (Nat.lt_succ_of_lt hal)), ⟨⟨.none, he⟩, ⟨_, hit, rfl, rfl⟩, Nat.succ_ne_self _⟩, fun b hb => I1.fpOk (ff b hb) (I1.hok.fresh (ff b hb)), q⟩
theorem walk_enumt {K : PySem.W.Frag} {a : Addr} {xs : List V} : Walk (Itet K a) xs.length (fun H => SqT K H a xs) (YPair (fun i => some (.int (i : Nat))) (fun i => xs[i]?)) := by
  refine ⟨fun i _ hi q => ⟨xs, xs[i], q, by simp [hi]⟩, fun _ q => ⟨xs, q, rfl⟩, fun i H v H' _ q y => ?_⟩
  obtain ⟨T, x, h1, h2, h3, h4⟩ := y
  exact ⟨T, .int (i : Nat), x, h1, h2, h3, rfl, h4 xs q⟩
theorem for_enumB {K : PySem.W.Frag} {a : Addr} {xs : List V} {g : TG} {tb : TS} {D : Ends} {σ : L2.St} {H0 H : Hp} (hq : SqB K H0 a xs) (Pv : Nat → L2.St → Hp → Prop) (h0 : Pv 0 σ H) (hl : ∀ i σ H', i ≤ xs.length → Pv i σ H' → Same H0 H')
    (hs : ∀ i x σ H T, xs[i]? = some x → Pv i σ H → H T = none → g (.ref T) σ (upd H T (.tup [.int (i : Nat), x])) fun σ2 H2 => tb { D with nx := Pv (i + 1), ct := Pv (i + 1), bk := D.nx } σ2 H2) (hd : ∀ σ H, Pv xs.length σ H → D.nx σ H) :
    (∃ xs, SqL K H a xs) ∧ (∃ W : Nat → Nat → L2.St → Hp → Prop, (∃ m, W 0 m σ H) ∧ ∀ i m σ H, W i m σ H →
      ((Ite K a).stop i H ∧ D.nx σ H) ∨ ((Ite K a).go i H ∧ ∃ N : L2.St → Hp → Prop, (∀ σ' H', N σ' H' → ∃ m', m' < m ∧ W (i + 1) m' σ' H') ∧ ∀ x H', (Ite K a).yld i H x H' → g x σ H' fun σ2 H2 => tb { D with nx := N, ct := N, bk := D.nx } σ2 H2)) ∨
    (∃ xs, SqT K H a xs) ∧ (∃ W : Nat → Nat → L2.St → Hp → Prop, (∃ m, W 0 m σ H) ∧ ∀ i m σ H, W i m σ H →
      ((Itet K a).stop i H ∧ D.nx σ H) ∨ ((Itet K a).go i H ∧ ∃ N : L2.St → Hp → Prop, (∀ σ' H', N σ' H' → ∃ m', m' < m ∧ W (i + 1) m' σ' H') ∧ ∀ x H', (Itet K a).yld i H x H' → g x σ H' fun σ2 H2 => tb { D with nx := N, ct := N, bk := D.nx } σ2 H2)) := by
  have step : ∀ i x σ H H', i < xs.length → Pv i σ H → YPair (fun i => some (.int (i : Nat))) (fun i => xs[i]?) i H x H' → g x σ H' fun σ2 H2 => tb { D with nx := Pv (i + 1), ct := Pv (i + 1), bk := D.nx } σ2 H2 := by
    rintro i x σ H H' hi p ⟨T, u, v, rfl, h2, rfl, h4, h5⟩
    cases h4
    exact hs i v σ H T h5 p h2
  rcases hq with h | h
  · exact .inl ⟨⟨_, (hl 0 σ H (Nat.zero_le _) h0).seq h⟩, for_it walk_enum Pv h0 (fun i σ H' l p => (hl i σ H' l p).seq h) step hd⟩
  · exact .inr ⟨⟨_, seqT (hl 0 σ H (Nat.zero_le _) h0) h⟩, for_it walk_enumt Pv h0 (fun i σ H' l p => seqT (hl i σ H' l p) h) step hd⟩
end Nd
set_option maxHeartbeats 4000000
namespace K52
open PySem PySem.Spec PyProof.Rows L2 Nd
/-! ### k52: the reader: some, read_four, read_count, read_letter, read_length, read_zero, read_bytes -/
abbrev s_Reader_init : Stmt := metOf (top 39) 0
abbrev s_Reader_some : Stmt := metOf (top 39) 1
abbrev s_Reader_read_four : Stmt := metOf (top 39) 2
abbrev s_Reader_read_count : Stmt := metOf (top 39) 3
abbrev s_Reader_read_letter : Stmt := metOf (top 39) 4
abbrev s_Reader_read_length : Stmt := metOf (top 39) 5
abbrev s_Reader_read_bytes : Stmt := metOf (top 39) 6
abbrev s_Reader_read_string : Stmt := metOf (top 39) 7
abbrev s_Reader_read_strings : Stmt := metOf (top 39) 8
abbrev s_Reader_read_digits : Stmt := metOf (top 39) 9
abbrev s_Reader_read_constant : Stmt := metOf (top 39) 10
abbrev s_Reader_read_constants : Stmt := metOf (top 39) 11
abbrev s_Reader_read_zero : Stmt := metOf (top 39) 12
abbrev s_Reader_read_code : Stmt := metOf (top 39) 13
/-- a method of a class as a constant -/
structure CalM (P : Program) (w : World) (K : PySem.W.Frag) (mg : Str → Option Value) (base : Heap) (C : Addr) (m : Str) (k : Nat) (sp : Sp) : Prop where
  ex : ∃ (f : Addr) (fd : FuncData) (ps : List Str), FnOk P w K mg base (L2.CX P w) k f fd ps sp ∧ Meth K C m f ∧ Binds K fd ps []
theorem pe_cm {X : Cx} {C : Addr} {m : Str} {k j : Nat} {sp : Sp} {o e : Expr} {es : List Expr} {apos pos : Pos} {ta : TE} {t : TA} {E : XK} {pl : Sem Bool} (M : CalM X.prog X.w X.K X.mg X.base C m k sp) (he : PE X o ta) (c : Cls X.K C) (hr : Room j X.A) (hk : k ≤ j) (hx : Passes (L2.CX X.prog X.w) X E) (ha : PA X (e :: es) t)
    (hst : starEach (e :: es) X.env = (false, eval e X.env) :: starEach es X.env := by rfl) (hpl : (backTo pos (starEach es X.env)).any (·.1) = false := by rfl)
    (ht : eval (.Call (.Attribute o m apos) (e :: es) [] pos) X.env = (do
      let ov ← eval o X.env
      standAt apos.atName
      let (f, first) ← holding [ov] (getMethod ov m pl)
      callWith pos f first (backTo pos (starEach (e :: es) X.env)) (backToKw pos (keywordEach [] X.env))) := by rfl) :
    PE X (.Call (.Attribute o m apos) (e :: es) [] pos) (tMeth C m sp [] E ta t) := by
  obtain ⟨f, fd, ps, F, M, b⟩ := M.ex
  exact pe_meth (pl := pl) he c M F (hr.mono hk) b .nil hx ha hst hpl ht
theorem pe_cm0 {X : Cx} {C : Addr} {m : Str} {k j : Nat} {sp : Sp} {o : Expr} {apos pos : Pos} {ta : TE} {E : XK} {pl : Sem Bool} (M : CalM X.prog X.w X.K X.mg X.base C m k sp) (he : PE X o ta) (c : Cls X.K C) (hr : Room j X.A) (hk : k ≤ j) (hx : Passes (L2.CX X.prog X.w) X E)
    (ht : eval (.Call (.Attribute o m apos) [] [] pos) X.env = (do
      let ov ← eval o X.env
      standAt apos.atName
      let (f, first) ← holding [ov] (getMethod ov m pl)
      callWith pos f first (backTo pos (starEach [] X.env)) (backToKw pos (keywordEach [] X.env))) := by rfl) :
    PE X (.Call (.Attribute o m apos) [] [] pos) (tMeth C m sp [] E ta tNil) := by
  obtain ⟨f, fd, ps, F, M, b⟩ := M.ex
  exact pe_meth0 (pl := pl) he c M F (hr.mono hk) b .nil hx ht
theorem cut_any {K : PySem.W.Frag} {H : Hp} {a : Addr} {xs : List V} {lo hi : Option Int} {Q : VK} (ha : H a = some (.tup xs)) (k : ∀ z H', Same H H' → H' z = some (.tup (cutV xs lo hi)) → Q (.ref z) H') : rSlA K (.ref a) lo hi H Q := by
  refine ⟨a, xs, rfl, SqT.of ha, fun ⟨h1, h2⟩ => k a H (Same.refl _) ?_, fun _ z nz => k z _ (Same.new nz) upd_same⟩
  rw [ha]
  have e : cutV xs lo hi = xs := by
    unfold cutV
    rw [h1, h2]
    simp
  rw [e]
/-- a reader of the bytes bs, i of them read -/
structure Rd (Cr : Addr) (H : Hp) (r t : Addr) (bs : List Int) (i : Nat) : Prop where
  le : i ≤ bs.length
  ins : ∃ dx, H r = some (.ins Cr dx [("whole", .ref t), ("at", .int (i : Int))])
  tup : H t = some (.tup (bs.map V.int))
  ne : t ≠ r
theorem Rd.same {Cr : Addr} {H H' : Hp} {r t : Addr} {bs : List Int} {i : Nat} (s : Same H H') (h : Rd Cr H r t bs i) : Rd Cr H' r t bs i := by
  obtain ⟨h0, ⟨dx, h1⟩, h2, h3⟩ := h
  exact ⟨h0, ⟨dx, s _ _ h1⟩, s _ _ h2, h3⟩
/-- a method that reads the bytes wf x -/
def spRd (Cr : Addr) {α : Type} (ar : List V → α → Prop) (wf : α → List Int) (ok : α → Prop) (res : α → V → Hp → Prop) : Sp := fun vs H Q _ => ∃ (r t : Addr) (bs : List Int) (i : Nat) (x : α) (post : List Int) (as : List V), vs = .ref r :: as ∧ ar as x ∧ Rd Cr H r t bs i ∧ bs.drop i = wf x ++ post ∧ ok x ∧
  ∀ v H', But r H H' → Rd Cr H' r t bs (i + (wf x).length) → res x v H' → Q v H'
def noA {α : Type} : List V → α → Prop := fun as _ => as = []
def rowR : List Int → V → Hp → Prop := fun w v H => ∃ z, v = .ref z ∧ H z = some (.tup (w.map V.int))
def spSomeR (Cr : Addr) : Sp := spRd Cr (fun as w => as = [.int ((w : List Int).length : Int)]) id (fun _ => True) rowR
def R32 (n : Int) : Prop := -2147483648 ≤ n ∧ n ≤ 2147483647
def intR : Int → V → Hp → Prop := fun n v _ => v = .int n
def spFourR (Cr : Addr) : Sp := spRd Cr noA fourW R32 intR
def spCount (Cr : Addr) : Sp := spRd Cr noA fourW (fun n => 0 ≤ n ∧ n ≤ 2147483647) intR
def spLength (Cr : Addr) : Sp := spRd Cr (fun as _ => ∃ b : Int, as = [.int b]) fourW (fun n => 0 ≤ n ∧ n ≤ 2147483647) intR
def spZero (Cr : Addr) : Sp := spRd Cr noA fourW (fun n => n = 0) (fun _ v _ => v = .non)
def lets : List Nat := [78, 84, 70, 105, 108, 117, 115, 40, 99]
def spLetter (Cr : Addr) : Sp := spRd Cr (fun as (p : Str × Nat) => as = [.str p.1]) (fun p => [(p.2 : Int)]) (fun p => (∀ c, c ∈ p.1.cps.toList → c ∈ lets) ∧ p.2 ∈ p.1.cps.toList ∧ p.1.cps.size ≤ 1000) (fun p v _ => v = .str ⟨#[p.2]⟩)
def spBytesR (Cr : Addr) : Sp := spRd Cr noA rowW (fun w => w.length ≤ 2147483647) rowR
structure GlR (mg : Str → Option Value) (K : PySem.W.Frag) (w : World) (Cr dL : Addr) : Prop where
  cl : Cls K Cr
  na1 : NoAttr K Cr "whole"
  na2 : NoAttr K Cr "at"
  n_len : mg "len" = none
  n_sum : mg "sum" = none
  n_enumerate : mg "enumerate" = none
  n_tuple : mg "tuple" = none
  n_range : mg "range" = none
  n_abs : mg "abs" = none
  n_max : mg "max" = none
  c_MOST : ∃ u, mg "MOST" = some u ∧ RelV (.int 2147483647) u
  c_LEAST : ∃ u, mg "LEAST" = some u ∧ RelV (.int (-2147483648)) u
  c_ROUND : ∃ u, mg "ROUND" = some u ∧ RelV (.int 4294967296) u
  c_DIGIT : ∃ u, mg "DIGIT" = some u ∧ RelV (.int 32768) u
  c_MOST_NESTED : ∃ u, mg "MOST_NESTED" = some u ∧ RelV (.int 100) u
  c_PLAIN : ∃ u, mg "PLAIN" = some u ∧ RelV (.str "NTFilu(") u
  c_PLACE : ∃ u, mg "PLACE" = some u ∧ RelV (.str "<tree>") u
  c_LOW_SIGNS : ∃ u, mg "LOW_SIGNS" = some u ∧ RelV (.str " !\"#$") u
  c_HIGH_SIGNS : ∃ u, mg "HIGH_SIGNS" = some u ∧ RelV (.str "&'()*+,-./0123456789:;<=>?@ABCDEFGHIJKLMNOPQRSTUVWXYZ[\\]^_`abcdefghijklmnopqrstuvwxyz{|}~") u
  c_LOW_NUMBER : ∃ u, mg "LOW_NUMBER" = some u ∧ RelV (.int 32) u
  c_HIGH_NUMBER : ∃ u, mg "HIGH_NUMBER" = some u ∧ RelV (.int 38) u
  c_LETTERS : ∃ u, mg "LETTERS" = some u ∧ RelV (.ref dL) u
  L : MDict K w dL (kv tL)
theorem shaped_list {ds : List PyData} (h : PyData.canLayAll0 ds = true) (hd : PyData.depthAll ds ≤ 0) : SeqAt.shaped (.list ds) = true := by
  unfold SeqAt.shaped
  rw [PyData.canLay0, h, PyData.depth, decide_eq_true (Nat.le_trans (Nat.succ_le_succ hd) (by decide))]
  rfl
theorem eqvNil {ds : List PyData} (h : ds ≠ []) : PyData.eqv (.list ds) (.list []) = false := by
  cases ds with
  | nil => exact absurd rfl h
  | cons d ds => simp [PyData.eqv, PyData.eqvAll]
theorem lets_ok {c : Nat} (h : c ∈ lets) : PyData.strOk ⟨#[c]⟩ = true := by
  simp only [lets, List.mem_cons, List.mem_nil_iff, or_false] at h
  rcases h with rfl | rfl | rfl | rfl | rfl | rfl | rfl | rfl | rfl <;> decide +kernel
theorem strW_len (s : Str) : (strW s).length = 5 + s.cps.size := by
  show (fourW s.cps.size ++ s.cps.toList.map _).length + 1 = _
  rw [List.length_append, fourW_len, List.length_map, Array.length_toList]
  omega
theorem cutI {bs w post : List Int} {i : Nat} (hl : i + w.length + post.length = bs.length) (h : bs.drop i = w ++ post) : cutV (bs.map V.int) (some (i : Int)) (some ((i + w.length : Nat) : Int)) = w.map V.int := by
  unfold cutV
  rw [HT.sIx_nat, HT.sIx_nat, List.length_map, Nat.min_eq_left (by omega), Nat.min_eq_left (by omega), ← List.map_drop, ← List.map_take, h, show i + w.length - i = w.length by omega, List.take_left]
theorem drop_len {bs w post : List Int} {i : Nat} (le : i ≤ bs.length) (h : bs.drop i = w ++ post) : i + w.length + post.length = bs.length := by
  have e := congrArg List.length h
  rw [List.length_drop, List.length_append] at e
  omega
/-- behind the bytes that were read -/
theorem drop_next {bs w post : List Int} {i : Nat} (h : bs.drop i = w ++ post) : bs.drop (i + w.length) = post := by
  rw [← List.drop_drop, h, List.drop_left]
theorem Rd.uniq {Cr : Addr} {H H' : Hp} {r t : Addr} {bs : List Int} {i : Nat} (h : Rd Cr H r t bs i) (b : But r H H') : H' t = some (.tup (bs.map V.int)) := b _ _ h.ne h.tup
section
variable {P : Program} {w : World} {K : PySem.W.Frag} {mg : Str → Option Value} {base : Heap} {Cr dL : Addr}
abbrev N_Reader_some : List Str := ["self", "many"]
theorem sc_Reader_some : FnScope N_Reader_some ["self", "many"] (defScope s_Reader_some) := ⟨rfl, rfl, rfl, by decide +kernel, rfl, by decide +kernel, by decide +kernel⟩
theorem ok_Reader_some {f : Addr} {fd : FuncData} (T : GlR mg K w Cr dL) (F : MetX K "some" "Reader.some" s_Reader_some ["self", "many"] f fd) : FnOk P w K mg base (L2.CX P w) 1 f fd ["self", "many"] (spSomeR Cr) := by
  refine F.fn.ok sc_Reader_some (fun vs H Q E h => ?_) (fun cdv A outer s H vs Q E hr h => ?_)
  · obtain ⟨r, t, bs, i, w, post, as, rfl, rfl, _⟩ := h
    rfl
  · obtain ⟨r, t, bs, i, w, post, as, rfl, rfl, R, hd, _, k⟩ := h
    refine ⟨_, PSs.nox (pss_cons (ps_if (pt_cmpR op_lt (pe_op op_sub (pe_callB call_len_seq (by rfl) T.n_len Boot.«len» (pa_cons (pe_fld (pv 0) rfl) pa_nil)) (pe_fld (pv 0) rfl)) (pv 1) (nomark _))
      (pss_one ps_never)
      pss_nil)
    (pss_cons (ps_fld (pv 0) (pe_op op_add (pe_fld (pv 0) rfl) (pv 1)) rfl)
    (pss_one (ps_ret (pe_slice sl_tupA (pe_fld (pv 0) rfl) (po_some (pe_op op_sub (pe_fld (pv 0) rfl) (pv 1))) (po_some (pe_fld (pv 0) rfl))))))), ?_⟩
    obtain ⟨le, ⟨dx, h1⟩, h2, ne⟩ := id R
    have hd : bs.drop i = w ++ post := hd
    have hl := drop_len le hd
    refine ⟨_, rfl, r, Cr, dx, _, _, rfl, h1, T.cl, T.na1, rfl, t, _, rfl, .inr (SqT.of h2), ?_⟩
    refine ⟨_, rfl, r, Cr, dx, _, _, rfl, h1, T.cl, T.na2, rfl, _, _, rfl, rfl, _, rfl, _, _, rfl, rfl, _, rfl, ?_⟩
    rw [List.length_map, decide_eq_false (show ¬ ((bs.length : Int) - (i : Int) < (w.length : Int)) by omega)]
    refine iteF ?_
    refine ⟨_, rfl, r, Cr, dx, _, _, rfl, h1, T.cl, T.na2, rfl, _, rfl, _, _, rfl, rfl, _, rfl, r, Cr, dx, _, rfl, h1, T.cl, T.na2, (by show 2 < 1000; decide), ?_⟩
    generalize eu : upd H r (HO.ins Cr dx _) = H1
    have b1 : But r H H1 := by
      rw [← eu]
      exact But.refl.upd
    have h3 : H1 r = some (.ins Cr dx [("whole", .ref t), ("at", .int ((i : Int) + (w.length : Int)))]) := by
      rw [← eu]
      exact upd_same
    clear eu
    refine ⟨_, rfl, r, Cr, dx, _, _, rfl, h3, T.cl, T.na1, rfl, ?_⟩
    refine ⟨_, rfl, r, Cr, dx, _, _, rfl, h3, T.cl, T.na2, rfl, _, rfl, _, _, rfl, rfl, _, rfl, ?_⟩
    refine ⟨_, rfl, r, Cr, dx, _, _, rfl, h3, T.cl, T.na2, rfl, _, rfl, ?_⟩
    rw [show (i : Int) + (w.length : Int) - (w.length : Int) = (i : Int) by omega, show (i : Int) + (w.length : Int) = ((i + w.length : Nat) : Int) by omega]
    have h2' := b1 _ _ ne h2
    refine cut_any h2' fun z H2 s2 hz => ?_
    rw [cutI hl hd] at hz
    exact k _ H2 (b1.trans (But.of s2)) ⟨by show i + w.length ≤ bs.length; omega, ⟨dx, by
      have e := s2 _ _ h3
      rw [e]
      rfl⟩, s2 _ _ h2', ne⟩ ⟨z, rfl, hz⟩
/-- the sum of the four -/
def fourP (n : Int) : List Int := [upW n % 256, upW n / 256 % 256 * 256, upW n / 65536 % 256 * 65536, upW n / 16777216 % 256 * 16777216]
theorem four_sum {n : Int} (h : R32 n) : (fourP n).sum = upW n := by
  have e : (fourP n).sum = upW n % 256 + (upW n / 256 % 256 * 256 + (upW n / 65536 % 256 * 65536 + (upW n / 16777216 % 256 * 16777216 + 0))) := rfl
  rw [e]
  have : 0 ≤ upW n ∧ upW n < 4294967296 := by
    unfold upW R32 at *
    split <;> omega
  omega
abbrev N_Reader_read_four : List Str := ["self", "number", "place", "byte"]
theorem sc_Reader_read_four : FnScope N_Reader_read_four ["self"] (defScope s_Reader_read_four) := ⟨rfl, rfl, rfl, by decide +kernel, rfl, by decide +kernel, by decide +kernel⟩
theorem ok_Reader_read_four {f : Addr} {fd : FuncData} (T : GlR mg K w Cr dL) (m_some : CalM P w K mg base Cr "some" 1 (spSomeR Cr)) (F : MetX K "read_four" "Reader.read_four" s_Reader_read_four ["self"] f fd) : FnOk P w K mg base (L2.CX P w) 2 f fd ["self"] (spFourR Cr) := by
  refine F.fn.ok sc_Reader_read_four (fun vs H Q E h => ?_) (fun cdv A outer s H vs Q E hr h => ?_)
  · obtain ⟨r, t, bs, i, n, post, as, rfl, rfl, _⟩ := h
    rfl
  · obtain ⟨r, t, bs, i, n, post, as, rfl, rfl, R, hd, hn, k⟩ := h
    have lv1 : 1 ≤ 1 := Nat.le_refl _
    refine ⟨_, PSs.nox (pss_cons (ps_set (i := 1) sc_Reader_read_four.nd rfl (.inl rfl) (pe_callB (cr_sum rfl) (by rfl) T.n_sum Boot.«sum» (pa_cons (pe_lc (own := [("place", 2), ("byte", 3)]) (g := gTup K 2 (gCons (gName 2) (gCons (gName 3) gNil))) (tt := tYes) rfl sc_Reader_read_four.nd (pi_enumB (by rfl) T.n_enumerate (pa_cons (pe_cm m_some (pv 0) T.cl hr lv1 passL (pa_cons pe_int pa_nil)) pa_nil)) (blkOk_by (own := [("place", 2), ("byte", 3)]) (N := N_Reader_read_four) (sc := defScope s_Reader_read_four) (by decide +kernel)) (fun _ _ _ _ _ => (pg_tup rfl (pgs_cons (pg_name (i := 2) sc_Reader_read_four.nd rfl (Or.inl rfl)) (pgs_cons (pg_name (i := 3) sc_Reader_read_four.nd rfl (Or.inl rfl)) pgs_nil)))) (fun _ _ _ _ _ => pts_nil) (fun _ _ _ _ _ => (pe_op op_shl (pv 3) (pe_op op_mul pe_int (pv 2))))) pa_nil)))
    (pss_one (ps_ret (pe_ifExp (pt_cmpR op_le (pv 1) (C8.pe_gc rfl T.c_MOST) (nomark _)) (pv 1) (pe_op op_sub (pv 1) (C8.pe_gc rfl T.c_ROUND)))))), ?_⟩
    obtain ⟨le, ⟨dx, h1⟩, h2, ne⟩ := id R
    refine ⟨_, rfl, r, dx, _, rfl, h1, rfl, r, t, bs, i, fourW n, post, _, rfl, rfl, R, hd, trivial, fun v H1 b1 R1 hv => ?_⟩
    obtain ⟨z, rfl, hz⟩ := hv
    have ef : (fourW n).map V.int = [V.int (upW n % 256), V.int (upW n / 256 % 256), V.int (upW n / 65536 % 256), V.int (upW n / 16777216 % 256)] := by
      show [V.int (upW n / 2 ^ 0 % 256), _, _, _] = _
      rw [show (2 : Int) ^ 0 = 1 from rfl, Int.ediv_one]
      rfl
    rw [ef] at hz
    have rg : ∀ y : Int, 0 ≤ y % 256 ∧ (y % 256).natAbs < 2 ^ 64 := fun y => ⟨by omega, Nat.lt_of_le_of_lt (show _ ≤ 255 by omega) (by decide)⟩
    refine ⟨z, rfl, .inr ⟨⟨_, SqT.of hz⟩, fun D nD => lc_it (walk_enumt (xs := [V.int (upW n % 256), V.int (upW n / 256 % 256), V.int (upW n / 65536 % 256), V.int (upW n / 16777216 % 256)])) (fun j H' => Same H1 H' ∧ H' D = some (.lst (((fourP n).take j).map V.int))) ⟨Same.new nD, by rw [upd_same]; rfl⟩ (fun j H' _ p => SqT.of (p.1 _ _ hz)) ?_ ?_⟩⟩
    · rintro j x H' H'' hj ⟨s2, hD⟩ ⟨u, y1, y2, rfl, nu, rfl, hy1, hy2⟩
      cases hy1
      have su := Same.new (o := .tup [.int (j : Nat), y2]) nu
      obtain ⟨c, e, rfl, hc, he, hce⟩ : ∃ c e : Int, y2 = .int c ∧ (0 ≤ c ∧ c.natAbs < 2 ^ 64) ∧ (fourP n)[j]? = some e ∧ c * 2 ^ (8 * (j : Int)).toNat = e := by
        have hj4 : j = 0 ∨ j = 1 ∨ j = 2 ∨ j = 3 := by
          have : j < 4 := hj
          omega
        rcases hj4 with rfl | rfl | rfl | rfl <;> cases hy2
        · exact ⟨_, _, rfl, rg _, rfl, Int.mul_one _⟩
        · exact ⟨_, _, rfl, rg _, rfl, rfl⟩
        · exact ⟨_, _, rfl, rg _, rfl, rfl⟩
        · exact ⟨_, _, rfl, rg _, rfl, rfl⟩
      have hj4 : j < 4 := hj
      refine ⟨u, _, rfl, SqT.of upd_same, rfl, _, _, rfl, _, _, rfl, rfl, ?_⟩
      refine ⟨rfl, _, rfl, _, rfl, _, _, rfl, rfl, .inl ⟨by decide, by decide⟩, _, _, rfl, rfl, ⟨by omega, by omega, hc.2⟩, _, su _ _ hD, ?_, Same.mut (s2.trans su) nD, ?_⟩
      · rw [List.length_map, List.length_take]
        exact Nat.lt_of_le_of_lt (Nat.min_le_left _ _) (Nat.lt_trans hj4 (by decide))
      · rw [upd_same, List.take_add_one, he, List.map_append]
        show some (HO.lst (_ ++ [V.int (c * 2 ^ (8 * (j : Int)).toNat)])) = _
        rw [hce]
        rfl
    · rintro H' ⟨s2, hD⟩
      have hD : H' D = some (.lst ((fourP n).map V.int)) := hD
      refine ⟨D, fourP n, rfl, SqL.of hD, ?_⟩
      rw [four_sum hn]
      refine ⟨_, rfl, _, _, rfl, rfl, _, rfl, ?_⟩
      have hn : -2147483648 ≤ n ∧ n ≤ 2147483647 := hn
      by_cases h0 : 0 ≤ n
      · have e : upW n = n := if_pos h0
        rw [e, decide_eq_true hn.2]
        exact iteT ⟨_, rfl, k _ H' (b1.trans (But.of s2)) (R1.same s2) rfl⟩
      · have e : upW n = n + 4294967296 := if_neg h0
        rw [e, decide_eq_false (show ¬ (n + 4294967296 ≤ 2147483647) by omega)]
        refine iteF ⟨_, rfl, _, _, rfl, rfl, k _ H' (b1.trans (But.of s2)) (R1.same s2) ?_⟩
        show V.int (n + 4294967296 - 4294967296) = V.int n
        rw [Int.add_sub_cancel]
abbrev N_Reader_read_count : List Str := ["self", "begin", "number"]
theorem sc_Reader_read_count : FnScope N_Reader_read_count ["self"] (defScope s_Reader_read_count) := ⟨rfl, rfl, rfl, by decide +kernel, rfl, by decide +kernel, by decide +kernel⟩
theorem ok_Reader_read_count {f : Addr} {fd : FuncData} (T : GlR mg K w Cr dL) (m_read_four : CalM P w K mg base Cr "read_four" 2 (spFourR Cr)) (F : MetX K "read_count" "Reader.read_count" s_Reader_read_count ["self"] f fd) : FnOk P w K mg base (L2.CX P w) 3 f fd ["self"] (spCount Cr) := by
  refine F.fn.ok sc_Reader_read_count (fun vs H Q E h => ?_) (fun cdv A outer s H vs Q E hr h => ?_)
  · obtain ⟨r, t, bs, i, n, post, as, rfl, rfl, _⟩ := h
    rfl
  · obtain ⟨r, t, bs, i, n, post, as, rfl, rfl, R, hd, hn, k⟩ := h
    have lv2 : 2 ≤ 2 := Nat.le_refl _
    refine ⟨_, PSs.nox (pss_cons (ps_set (i := 1) sc_Reader_read_count.nd rfl (.inl rfl) (pe_fld (pv 0) rfl))
    (pss_cons (ps_set (i := 2) sc_Reader_read_count.nd rfl (.inl rfl) (pe_cm0 m_read_four (pv 0) T.cl hr lv2 passL))
    (pss_cons (ps_if (pt_cmpR op_lt (pv 2) pe_int (nomark _))
      (pss_one ps_never)
      pss_nil)
    (pss_one (ps_ret (pv 2)))))), ?_⟩
    obtain ⟨le, ⟨dx, h1⟩, h2, ne⟩ := id R
    refine ⟨_, rfl, r, Cr, dx, _, _, rfl, h1, T.cl, T.na2, rfl, ?_⟩
    refine ⟨_, rfl, r, dx, _, rfl, h1, rfl, r, t, bs, i, n, post, _, rfl, rfl, R, hd, ⟨by omega, hn.2⟩, fun v H1 b1 R1 hv => ?_⟩
    have hv : v = .int n := hv
    subst hv
    refine ⟨_, rfl, _, _, rfl, rfl, _, rfl, ?_⟩
    rw [decide_eq_false (show ¬ n < 0 by omega)]
    exact iteF ⟨_, rfl, k _ H1 b1 R1 rfl⟩
abbrev N_Reader_read_length : List Str := ["self", "begin", "number"]
theorem sc_Reader_read_length : FnScope N_Reader_read_length ["self", "begin"] (defScope s_Reader_read_length) := ⟨rfl, rfl, rfl, by decide +kernel, rfl, by decide +kernel, by decide +kernel⟩
theorem ok_Reader_read_length {f : Addr} {fd : FuncData} (T : GlR mg K w Cr dL) (m_read_four : CalM P w K mg base Cr "read_four" 2 (spFourR Cr)) (F : MetX K "read_length" "Reader.read_length" s_Reader_read_length ["self", "begin"] f fd) : FnOk P w K mg base (L2.CX P w) 3 f fd ["self", "begin"] (spLength Cr) := by
  refine F.fn.ok sc_Reader_read_length (fun vs H Q E h => ?_) (fun cdv A outer s H vs Q E hr h => ?_)
  · obtain ⟨r, t, bs, i, n, post, as, rfl, ⟨b, rfl⟩, _⟩ := h
    rfl
  · obtain ⟨r, t, bs, i, n, post, as, rfl, ⟨b, rfl⟩, R, hd, hn, k⟩ := h
    have lv2 : 2 ≤ 2 := Nat.le_refl _
    refine ⟨_, PSs.nox (pss_cons (ps_set (i := 2) sc_Reader_read_length.nd rfl (.inl rfl) (pe_cm0 m_read_four (pv 0) T.cl hr lv2 passL))
    (pss_cons (ps_if (pt_cmpR op_lt (pv 2) pe_int (nomark _))
      (pss_one ps_never)
      pss_nil)
    (pss_one (ps_ret (pv 2))))), ?_⟩
    obtain ⟨le, ⟨dx, h1⟩, h2, ne⟩ := id R
    refine ⟨_, rfl, r, dx, _, rfl, h1, rfl, r, t, bs, i, n, post, _, rfl, rfl, R, hd, ⟨by omega, hn.2⟩, fun v H1 b1 R1 hv => ?_⟩
    have hv : v = .int n := hv
    subst hv
    refine ⟨_, rfl, _, _, rfl, rfl, _, rfl, ?_⟩
    rw [decide_eq_false (show ¬ n < 0 by omega)]
    exact iteF ⟨_, rfl, k _ H1 b1 R1 rfl⟩
abbrev N_Reader_read_zero : List Str := ["self", "begin"]
theorem sc_Reader_read_zero : FnScope N_Reader_read_zero ["self"] (defScope s_Reader_read_zero) := ⟨rfl, rfl, rfl, by decide +kernel, rfl, by decide +kernel, by decide +kernel⟩
theorem ok_Reader_read_zero {f : Addr} {fd : FuncData} (T : GlR mg K w Cr dL) (m_read_four : CalM P w K mg base Cr "read_four" 2 (spFourR Cr)) (F : MetX K "read_zero" "Reader.read_zero" s_Reader_read_zero ["self"] f fd) : FnOk P w K mg base (L2.CX P w) 3 f fd ["self"] (spZero Cr) := by
  refine F.fn.ok sc_Reader_read_zero (fun vs H Q E h => ?_) (fun cdv A outer s H vs Q E hr h => ?_)
  · obtain ⟨r, t, bs, i, n, post, as, rfl, rfl, _⟩ := h
    rfl
  · obtain ⟨r, t, bs, i, n, post, as, rfl, rfl, R, hd, hn, k⟩ := h
    have lv2 : 2 ≤ 2 := Nat.le_refl _
    refine ⟨_, PSs.nox (pss_cons (ps_set (i := 1) sc_Reader_read_zero.nd rfl (.inl rfl) (pe_fld (pv 0) rfl))
    (pss_one (ps_if (pt_cmpR op_ne (pe_cm0 m_read_four (pv 0) T.cl hr lv2 passL) pe_int (nomark _))
      (pss_one ps_never)
      pss_nil))), ?_⟩
    obtain ⟨le, ⟨dx, h1⟩, h2, ne⟩ := id R
    have hn : n = 0 := hn
    subst hn
    refine ⟨_, rfl, r, Cr, dx, _, _, rfl, h1, T.cl, T.na2, rfl, ?_⟩
    refine ⟨_, rfl, r, dx, _, rfl, h1, rfl, r, t, bs, i, 0, post, _, rfl, rfl, R, hd, ⟨by decide, by decide⟩, fun v H1 b1 R1 hv => ?_⟩
    have hv : v = .int 0 := hv
    subst hv
    refine ⟨rfl, _, rfl, ?_⟩
    exact iteF (k _ H1 b1 R1 rfl)
abbrev N_Reader_read_letter : List Str := ["self", "letters", "begin", "byte", "found", "letter"]
theorem sc_Reader_read_letter : FnScope N_Reader_read_letter ["self", "letters"] (defScope s_Reader_read_letter) := ⟨rfl, rfl, rfl, by decide +kernel, rfl, by decide +kernel, by decide +kernel⟩
theorem lets_get {c : Nat} (h : c ∈ lets) : valV (kv tL) (.inr ⟨#[c]⟩) = some (.int (c : Int)) := by
  simp only [lets, List.mem_cons, List.mem_nil_iff, or_false] at h
  rcases h with rfl | rfl | rfl | rfl | rfl | rfl | rfl | rfl | rfl <;> rfl
theorem ok_Reader_read_letter {f : Addr} {fd : FuncData} (T : GlR mg K w Cr dL) (m_some : CalM P w K mg base Cr "some" 1 (spSomeR Cr)) (F : MetX K "read_letter" "Reader.read_letter" s_Reader_read_letter ["self", "letters"] f fd) : FnOk P w K mg base (L2.CX P w) 2 f fd ["self", "letters"] (spLetter Cr) := by
  refine F.fn.ok sc_Reader_read_letter (fun vs H Q E h => ?_) (fun cdv A outer s H vs Q E hr h => ?_)
  · obtain ⟨r, t, bs, i, p, post, as, rfl, rfl, _⟩ := h
    rfl
  · obtain ⟨r, t, bs, i, ⟨z, b⟩, post, as, rfl, rfl, R, hd, ⟨hz, hb, hlen⟩, k⟩ := h
    dsimp only at hz hb hlen
    have lv1 : 1 ≤ 1 := Nat.le_refl _
    refine ⟨_, PSs.nox (pss_cons (ps_set (i := 2) sc_Reader_read_letter.nd rfl (.inl rfl) (pe_fld (pv 0) rfl))
    (pss_cons (ps_set (i := 3) sc_Reader_read_letter.nd rfl (.inr rfl) (pe_ix ix_tup (pe_cm m_some (pv 0) T.cl hr lv1 passL (pa_cons pe_int pa_nil)) pe_int (fun _ _ => rfl)))
    (pss_cons (ps_setLc (i := 4) (y := "found") (own := [("letter", 5)]) (g := gName 5) rfl sc_Reader_read_letter.nd rfl rfl (sw_true rfl rfl rfl (by decide +kernel)) (pi_str (pv 1)) (blkOk_by (own := [("letter", 5)]) (N := N_Reader_read_letter) (sc := defScope s_Reader_read_letter) (by decide +kernel)) (fun _ _ _ _ _ => (pg_name (i := 5) sc_Reader_read_letter.nd rfl (Or.inl rfl))) (fun _ _ _ _ _ => (pts_one (pt_cmpR op_eq (pe_ix (ix_m T.L) (C8.pe_gc rfl T.c_LETTERS) (pv 5) (fun _ _ => rfl)) (pv 3) (nomark _)))) (fun _ _ _ _ _ => (pv 5)))
    (pss_cons (ps_if (pt_cmpR (op_eqD hr.units) (pv 4) (pe_lst pa_nil) (nomark _))
      (pss_one ps_never)
      pss_nil)
    (pss_one (ps_ret (pe_ix ix_list (pv 4) pe_int (fun _ _ => rfl)))))))), ?_⟩
    obtain ⟨le, ⟨dx, h1⟩, h2, ne⟩ := id R
    refine ⟨_, rfl, r, Cr, dx, _, _, rfl, h1, T.cl, T.na2, rfl, ?_⟩
    refine ⟨_, rfl, r, dx, _, rfl, h1, rfl, r, t, bs, i, [(b : Int)], post, _, rfl, rfl, R, hd, trivial, fun v H1 b1 R1 hv => ?_⟩
    obtain ⟨y, rfl, hy⟩ := hv
    refine ⟨y, _, 0, _, rfl, rfl, SqT.of hy, atI_nat (j := 0) rfl, ?_⟩
    refine ⟨_, rfl, z, rfl, fun D nD => lc_it walk_str (fun j H' => Same H1 H' ∧ ∃ m, H' D = some (.lst (List.replicate m (.str ⟨#[b]⟩))) ∧ m ≤ j ∧ (b ∈ z.cps.toList.take j → 1 ≤ m)) ⟨Same.new nD, 0, by rw [upd_same]; rfl, Nat.le_refl _, by simp⟩ (fun _ _ _ _ => trivial) ?_ ?_⟩
    · rintro j v H' H'' hj ⟨s2, m, hD, hm, hmb⟩ ⟨rfl, c, hc, rfl⟩
      have hcm : c ∈ z.cps.toList := by
        rw [← Array.getElem?_toList] at hc
        exact List.mem_of_getElem? hc
      refine ⟨rfl, _, rfl, .inr ⟨#[c]⟩, _, rfl, rfl, lets_get (hz c hcm), _, rfl, rfl, _, rfl, ?_⟩
      rw [← Array.getElem?_toList] at hc
      by_cases e : c = b
      · subst e
        rw [decide_eq_true rfl]
        refine iteT ⟨_, rfl, _, hD, ?_, Same.mut s2 nD, m + 1, by rw [upd_same, List.replicate_succ'], Nat.succ_le_succ hm, fun _ => Nat.succ_le_succ (Nat.zero_le _)⟩
        rw [List.length_replicate]
        exact Nat.lt_of_le_of_lt (show m ≤ 1000 by omega) (by decide)
      · rw [decide_eq_false (fun q => e (by injection q with q; omega))]
        refine iteF ⟨s2, m, hD, Nat.le_succ_of_le hm, fun q => hmb ?_⟩
        rw [List.take_add_one, hc] at q
        rcases List.mem_append.mp q with q | q
        · exact q
        · simp only [Option.toList_some, List.mem_singleton] at q
          exact absurd q.symm e
    · rintro H' ⟨s2, m, hD, hm, hmb⟩
      have hm1 : 1 ≤ m := hmb (by rw [List.take_of_length_le (by rw [Array.length_toList]; exact Nat.le_refl _)]; exact hb)
      obtain ⟨q, rfl⟩ : ∃ q, m = q + 1 := ⟨m - 1, by omega⟩
      refine ⟨_, rfl, (by show 0 ≤ sizeLine; decide), fun y2 n2 => ?_⟩
      have s3 := Same.new (o := .lst []) n2
      have h4 : upd H' y2 (.lst []) y2 = some (.lst []) := upd_same
      generalize upd H' y2 (.lst []) = H2 at s3 h4 ⊢
      have hD2 := s3 _ _ hD
      have hbl : b ∈ lets := hz b hb
      have e1 : List.replicate (q + 1) (V.str ⟨#[b]⟩) = (List.replicate (q + 1) (⟨#[b]⟩ : Str)).map V.str := by rw [List.map_replicate]
      refine ⟨.list ((List.replicate (q + 1) (⟨#[b]⟩ : Str)).map PyData.str), .list [], .lst (SqL.of hD2) ?_, .lst (SqL.of h4) .nil, shaped_list (canl_all fun d hd => ?_) (str_dep _), by decide, _, rfl, ?_⟩
      · rw [e1]
        exact dpa_strs _
      · obtain ⟨x, hx, rfl⟩ := List.mem_map.mp hd
        rw [(List.mem_replicate.mp hx).2, PyData.canLay0]
        exact lets_ok hbl
      · rw [eqvNil (by simp)]
        refine iteF ?_
        refine ⟨_, rfl, D, _, 0, _, rfl, rfl, SqL.of hD2, atI_nat (j := 0) rfl, ?_⟩
        exact k _ H2 (b1.trans (But.of (s2.trans s3))) (R1.same (s2.trans s3)) rfl
abbrev N_Reader_read_bytes : List Str := ["self", "begin"]
theorem sc_Reader_read_bytes : FnScope N_Reader_read_bytes ["self"] (defScope s_Reader_read_bytes) := ⟨rfl, rfl, rfl, by decide +kernel, rfl, by decide +kernel, by decide +kernel⟩
theorem ok_Reader_read_bytes {f : Addr} {fd : FuncData} (T : GlR mg K w Cr dL) (m_some : CalM P w K mg base Cr "some" 1 (spSomeR Cr)) (m_read_letter : CalM P w K mg base Cr "read_letter" 2 (spLetter Cr)) (m_read_length : CalM P w K mg base Cr "read_length" 3 (spLength Cr)) (F : MetX K "read_bytes" "Reader.read_bytes" s_Reader_read_bytes ["self"] f fd) : FnOk P w K mg base (L2.CX P w) 4 f fd ["self"] (spBytesR Cr) := by
  refine F.fn.ok sc_Reader_read_bytes (fun vs H Q E h => ?_) (fun cdv A outer s H vs Q E hr h => ?_)
  · obtain ⟨r, t, bs, i, p, post, as, rfl, rfl, _⟩ := h
    rfl
  · obtain ⟨r, t, bs, i, ws, post, as, rfl, rfl, R, hd, hw, k⟩ := h
    have lv1 : 1 ≤ 3 := by decide
    have lv2 : 2 ≤ 3 := by decide
    have lv3 : 3 ≤ 3 := by decide
    refine ⟨_, PSs.nox (pss_cons (ps_set (i := 1) sc_Reader_read_bytes.nd rfl (.inl rfl) (pe_fld (pv 0) rfl))
    (pss_cons (ps_expr (pe_cm m_read_letter (pv 0) T.cl hr lv2 passL (pa_cons pe_str pa_nil)))
    (pss_one (ps_ret (pe_cm m_some (pv 0) T.cl hr lv1 passL (pa_cons (pe_cm m_read_length (pv 0) T.cl hr lv3 passL (pa_cons (pv 1) pa_nil)) pa_nil)))))), ?_⟩
    obtain ⟨le, ⟨dx, h1⟩, h2, ne⟩ := id R
    have hd : bs.drop i = 115 :: (fourW ws.length ++ ws) ++ post := hd
    refine ⟨_, rfl, r, Cr, dx, _, _, rfl, h1, T.cl, T.na2, rfl, ?_⟩
    refine ⟨_, rfl, r, dx, _, rfl, h1, rfl, r, t, bs, i, ("s", 115), _, _, rfl, rfl, R, hd, ⟨by decide, by decide, by decide⟩, fun v H1 b1 R1 hv => ?_⟩
    have d1 : bs.drop (i + 1) = fourW ws.length ++ (ws ++ post) := by
      have e : bs.drop (i + 1) = (fourW ws.length ++ ws) ++ post := drop_next (w := [115]) hd
      rw [e, List.append_assoc]
    obtain ⟨le1, ⟨dx1, h11⟩, _, _⟩ := id R1
    refine ⟨_, rfl, r, dx1, _, rfl, h11, rfl, ?_⟩
    refine ⟨_, rfl, r, dx1, _, rfl, h11, rfl, _, rfl, r, t, bs, i + 1, ws.length, _, _, rfl, ⟨_, rfl⟩, R1, d1, ⟨by omega, by have hw : ws.length ≤ 2147483647 := hw; omega⟩, fun v2 H2 b2 R2 hv2 => ?_⟩
    have hv2 : v2 = .int (ws.length : Int) := hv2
    subst hv2
    have d2 : bs.drop (i + 1 + 4) = ws ++ post := drop_next (w := fourW ws.length) d1
    refine ⟨r, t, bs, i + 1 + 4, ws, post, _, rfl, rfl, R2, d2, trivial, fun v3 H3 b3 R3 hv3 => ?_⟩
    refine k _ H3 ((b1.trans b2).trans b3) ?_ hv3
    have e : i + (rowW ws).length = i + 1 + 4 + (id ws).length := by
      rw [rowW_len]
      simp only [id]
      omega
    rw [e]
    exact R3
end
end K52
set_option maxHeartbeats 4000000
namespace K52
open PySem PySem.Spec PyProof.Rows L2 Nd
/-! ### k52: the reader: sign_of, read_string, read_strings -/
def okC (c : Nat) : Prop := 32 ≤ c ∧ c ≤ 126 ∧ c ≠ 37
theorem oks_c {s : Str} (h : OkS s) {c : Nat} (hc : c ∈ s.cps.toList) : okC c := by
  obtain ⟨i, hi⟩ := List.mem_iff_getElem?.mp hc
  rw [Array.getElem?_toList] at hi
  obtain ⟨h1, h2⟩ := oks_lt h hi
  exact ⟨h1, h2, fun e => by
    have h3 := (h i c hi).2.2
    rw [e] at h3
    exact h3 rfl⟩
abbrev lowS : Str := " !\"#$"
abbrev highS : Str := "&'()*+,-./0123456789:;<=>?@ABCDEFGHIJKLMNOPQRSTUVWXYZ[\\]^_`abcdefghijklmnopqrstuvwxyz{|}~"
theorem low_all : ∀ j : Nat, j < 5 → lowS.cps.toList[j]? = some (j + 32) := by decide +kernel
theorem high_all : ∀ j : Nat, j < 89 → highS.cps.toList[j]? = some (j + 38) := by decide +kernel
theorem low_len : lowS.length = 5 := by decide +kernel
theorem high_len : highS.length = 89 := by decide +kernel
def spSign : Sp := fun vs H Q _ => ∃ c : Nat, vs = [.int (c : Int)] ∧ okC c ∧ Q (.str ⟨#[c]⟩) H
def okT (s : Str) : Prop := OkS s ∧ s.cps.size ≤ 1000
def strR : Str → V → Hp → Prop := fun s v _ => v = .str s
def spStringR (Cr : Addr) : Sp := spRd Cr noA strW okT strR
def strsR : List Str → V → Hp → Prop := fun xs v H => ∃ z, v = .ref z ∧ H z = some (.tup (xs.map V.str))
def spStringsR (Cr : Addr) : Sp := spRd Cr noA (fun xs : List Str => partsW (xs.map strW)) (fun xs => xs.length ≤ 1000 ∧ ∀ x ∈ xs, okT x) strsR
theorem join_signs (s : Str) : Txt.join "" (s.cps.toList.map fun c => (⟨#[c]⟩ : Str)) = s := by
  have e : TL.tl (Txt.join "" (s.cps.toList.map fun c => (⟨#[c]⟩ : Str))) = TL.tl s := by
    rw [TL.join_eq, TL.tl_join, show TL.tl "" = ([] : List Nat) from rfl, joinL_flat, List.map_map]
    show (s.cps.toList.map fun c => [c]).flatten = s.cps.toList
    induction s.cps.toList with
    | nil => rfl
    | cons c l ih => rw [List.map_cons, List.flatten_cons, ih]; rfl
  have h6 : (Txt.join "" (s.cps.toList.map fun c => (⟨#[c]⟩ : Str))).cps = s.cps := Array.toList_inj.mp e
  generalize Txt.join "" (s.cps.toList.map fun c => (⟨#[c]⟩ : Str)) = t at h6 ⊢
  cases s
  cases t
  exact congrArg _ h6
theorem no_empty (l : List Nat) : inV (.str "") (l.map fun c => V.str ⟨#[c]⟩) = false := by
  unfold inV
  rw [List.any_eq_false]
  intro y hy
  obtain ⟨c, _, rfl⟩ := List.mem_map.mp hy
  show ¬ _ = true
  intro h
  have h1 : ((⟨#[c]⟩ : Str) == "") = true := h
  have h2 : (1 : Nat) = 0 := congrArg (fun s : Str => s.cps.size) (beq_iff_eq.mp h1)
  cases h2
theorem flat_all (l : List Nat) : (l.map fun c => V.str ⟨#[c]⟩).all flatV = true := by
  rw [List.all_eq_true]
  intro y hy
  obtain ⟨c, _, rfl⟩ := List.mem_map.mp hy
  rfl
section
variable {P : Program} {w : World} {K : PySem.W.Frag} {mg : Str → Option Value} {base : Heap} {Cr dL : Addr}
abbrev s_sign_of : Stmt := top 31
abbrev N_sign_of : List Str := ["number"]
theorem sc_sign_of : FnScope N_sign_of ["number"] (defScope s_sign_of) := ⟨rfl, rfl, rfl, by decide +kernel, rfl, by decide +kernel, by decide +kernel⟩
theorem ok_sign_of {f : Addr} {fd : FuncData} (T : GlR mg K w Cr dL) (F : DefX K mg "sign_of" s_sign_of ["number"] f fd) : CalX P w K mg base 1 "sign_of" spSign := by
  refine calx F sc_sign_of (fun vs H Q E h => ?_) (fun cdv A outer s H vs Q E hr h => ?_)
  · obtain ⟨c, rfl, _⟩ := h
    rfl
  · obtain ⟨c, rfl, ⟨h1, h2, h3⟩, k⟩ := h
    refine ⟨_, (pss_cons (ps_if (pt_chain op_le op_lt (C8.pe_gc rfl T.c_LOW_NUMBER) (pv 0) (pe_op op_add (C8.pe_gc rfl T.c_LOW_NUMBER) (pe_callB call_len_str (by rfl) T.n_len Boot.«len» (pa_cons (C8.pe_gc rfl T.c_LOW_SIGNS) pa_nil))))
      (pss_one (ps_ret (pe_ix ix_str (C8.pe_gc rfl T.c_LOW_SIGNS) (pe_op op_sub (pv 0) (C8.pe_gc rfl T.c_LOW_NUMBER)) (fun _ _ => rfl))))
      pss_nil)
    (pss_one (ps_ret (pe_ifExp (pt_chain op_le op_lt (C8.pe_gc rfl T.c_HIGH_NUMBER) (pv 0) (pe_op op_add (C8.pe_gc rfl T.c_HIGH_NUMBER) (pe_callB call_len_str (by rfl) T.n_len Boot.«len» (pa_cons (C8.pe_gc rfl T.c_HIGH_SIGNS) pa_nil)))) (pe_ix ix_str (C8.pe_gc rfl T.c_HIGH_SIGNS) (pe_op op_sub (pv 0) (C8.pe_gc rfl T.c_HIGH_NUMBER)) (fun _ _ => rfl)) pe_str)))), ?_⟩
    refine ⟨_, rfl, _, _, rfl, rfl, _, rfl, ?_⟩
    rw [decide_eq_true (show (32 : Int) ≤ (c : Int) by omega)]
    refine iteT ⟨lowS, rfl, (by rw [low_len]; decide), _, _, rfl, rfl, _, _, rfl, rfl, _, rfl, ?_⟩
    rw [low_len]
    by_cases c1 : c < 37
    · rw [decide_eq_true (show (c : Int) < 32 + ((5 : Nat) : Int) by omega)]
      refine iteT ⟨_, rfl, _, _, rfl, rfl, lowS, _, c, rfl, rfl, (by rw [low_len]; decide), ?_, k⟩
      obtain ⟨j, rfl⟩ : ∃ j, c = j + 32 := ⟨c - 32, by omega⟩
      rw [show ((j + 32 : Nat) : Int) - 32 = (j : Int) by omega]
      exact atI_nat (low_all j (by omega))
    · rw [decide_eq_false (show ¬ (c : Int) < 32 + ((5 : Nat) : Int) by omega)]
      refine iteF ?_
      refine ⟨_, rfl, _, _, rfl, rfl, _, rfl, ?_⟩
      rw [decide_eq_true (show (38 : Int) ≤ (c : Int) by omega)]
      refine iteT ⟨highS, rfl, (by rw [high_len]; decide), _, _, rfl, rfl, _, _, rfl, rfl, _, rfl, ?_⟩
      rw [high_len, decide_eq_true (show (c : Int) < 38 + ((89 : Nat) : Int) by omega)]
      refine iteT ⟨_, rfl, _, _, rfl, rfl, highS, _, c, rfl, rfl, (by rw [high_len]; decide), ?_, k⟩
      obtain ⟨j, rfl⟩ : ∃ j, c = j + 38 := ⟨c - 38, by omega⟩
      rw [show ((j + 38 : Nat) : Int) - 38 = (j : Int) by omega]
      exact atI_nat (high_all j (by omega))
abbrev N_Reader_read_string : List Str := ["self", "begin", "found", "byte"]
theorem sc_Reader_read_string : FnScope N_Reader_read_string ["self"] (defScope s_Reader_read_string) := ⟨rfl, rfl, rfl, by decide +kernel, rfl, by decide +kernel, by decide +kernel⟩
theorem ok_Reader_read_string {f : Addr} {fd : FuncData} (T : GlR mg K w Cr dL) (c_sign_of : CalX P w K mg base 1 "sign_of" spSign) (m_some : CalM P w K mg base Cr "some" 1 (spSomeR Cr)) (m_read_letter : CalM P w K mg base Cr "read_letter" 2 (spLetter Cr)) (m_read_length : CalM P w K mg base Cr "read_length" 3 (spLength Cr)) (F : MetX K "read_string" "Reader.read_string" s_Reader_read_string ["self"] f fd) : FnOk P w K mg base (L2.CX P w) 4 f fd ["self"] (spStringR Cr) := by
  refine F.fn.ok sc_Reader_read_string (fun vs H Q E h => ?_) (fun cdv A outer s H vs Q E hr h => ?_)
  · obtain ⟨r, t, bs, i, p, post, as, rfl, rfl, _⟩ := h
    rfl
  · obtain ⟨r, t, bs, i, x, post, as, rfl, rfl, R, hd, ⟨hx, hsz⟩, k⟩ := h
    have lv1 : 1 ≤ 3 := by decide
    have lv2 : 2 ≤ 3 := by decide
    have lv3 : 3 ≤ 3 := by decide
    refine ⟨_, PSs.nox (pss_cons (ps_set (i := 1) sc_Reader_read_string.nd rfl (.inl rfl) (pe_fld (pv 0) rfl))
    (pss_cons (ps_expr (pe_cm m_read_letter (pv 0) T.cl hr lv2 passL (pa_cons pe_str pa_nil)))
    (pss_cons (ps_setLc (i := 2) (y := "found") (own := [("byte", 3)]) (g := gName 3) (tt := tYes) rfl sc_Reader_read_string.nd rfl rfl (sw_true rfl rfl rfl (by decide +kernel)) (pi_tup (pe_cm m_some (pv 0) T.cl hr lv1 passL (pa_cons (pe_cm m_read_length (pv 0) T.cl hr lv3 passL (pa_cons (pv 1) pa_nil)) pa_nil))) (blkOk_by (own := [("byte", 3)]) (N := N_Reader_read_string) (sc := defScope s_Reader_read_string) (by decide +kernel)) (fun _ _ _ _ _ => (pg_name (i := 3) sc_Reader_read_string.nd rfl (Or.inl rfl))) (fun _ _ _ _ _ => pts_nil) (fun _ _ _ _ _ => (pe_cx c_sign_of hr lv1 rfl (pa_cons (pv 3) pa_nil))))
    (pss_cons (ps_if (pt_cmpR op_in_seq pe_str (pv 2) (by rfl))
      (pss_one ps_never)
      pss_nil)
    (pss_one (ps_ret (pe_join pe_str (pv 2)))))))), ?_⟩
    obtain ⟨le, ⟨dx, h1⟩, h2, ne⟩ := id R
    obtain ⟨cs, hcs⟩ : ∃ cs : List Int, cs = x.cps.toList.map fun c : Nat => (c : Int) := ⟨_, rfl⟩
    have hcl : cs.length = x.cps.size := by rw [hcs, List.length_map, Array.length_toList]
    have hd : bs.drop i = 117 :: (fourW x.cps.size ++ cs) ++ post := by
      rw [hcs]
      exact hd
    refine ⟨_, rfl, r, Cr, dx, _, _, rfl, h1, T.cl, T.na2, rfl, ?_⟩
    refine ⟨_, rfl, r, dx, _, rfl, h1, rfl, r, t, bs, i, ("u", 117), _, _, rfl, rfl, R, hd, ⟨by decide, by decide, by decide⟩, fun v H1 b1 R1 hv => ?_⟩
    have d1 : bs.drop (i + 1) = fourW x.cps.size ++ (cs ++ post) := by
      have e : bs.drop (i + 1) = (fourW x.cps.size ++ cs) ++ post := drop_next (w := [117]) hd
      rw [e, List.append_assoc]
    obtain ⟨le1, ⟨dx1, h11⟩, _, _⟩ := id R1
    refine ⟨_, rfl, r, dx1, _, rfl, h11, rfl, ?_⟩
    refine ⟨_, rfl, r, dx1, _, rfl, h11, rfl, _, rfl, r, t, bs, i + 1, x.cps.size, _, _, rfl, ⟨_, rfl⟩, R1, d1, ⟨by omega, by omega⟩, fun v2 H2 b2 R2 hv2 => ?_⟩
    have hv2 : v2 = .int (x.cps.size : Int) := hv2
    subst hv2
    have d2 : bs.drop (i + 1 + 4) = cs ++ post := drop_next (w := fourW x.cps.size) d1
    refine ⟨r, t, bs, i + 1 + 4, cs, post, _, rfl, (by
      show [V.int (x.cps.size : Int)] = [V.int (cs.length : Int)]
      rw [hcl]), R2, d2, trivial, fun v3 H3 b3 R3 hv3 => ?_⟩
    obtain ⟨z, rfl, hz⟩ := hv3
    refine ⟨z, rfl, ⟨_, SqT.of hz⟩, fun D nD => lc_tup (K := K) (a := z) (xs := cs.map V.int) (fun j H' => Same H3 H' ∧ H' D = some (.lst ((x.cps.toList.take j).map fun c => V.str ⟨#[c]⟩))) ⟨Same.new nD, by rw [upd_same]; rfl⟩ (fun j H' _ p => SqT.of (p.1 _ _ hz)) ?_ ?_⟩
    · rintro j y H' hj ⟨s2, hD⟩
      rw [hcs, List.map_map, List.getElem?_map] at hj
      obtain ⟨c, hc, rfl⟩ := Option.map_eq_some_iff.mp hj
      refine ⟨rfl, ?_⟩
      unfold tYes
      refine iteT ⟨_, rfl, c, rfl, oks_c hx (List.mem_of_getElem? hc), _, hD, ?_, Same.mut s2 nD, ?_⟩
      · rw [List.length_map, List.length_take, Array.length_toList]
        exact Nat.lt_of_le_of_lt (Nat.le_trans (Nat.min_le_right _ _) hsz) (by decide)
      · rw [upd_same, List.take_add_one, hc, List.map_append]
        rfl
    · rintro H' ⟨s2, hD⟩
      rw [List.take_of_length_le (by rw [List.length_map, hcl, Array.length_toList]; exact Nat.le_refl _)] at hD
      refine ⟨_, rfl, D, _, rfl, .inl (SqL.of hD), rfl, flat_all _, _, rfl, ?_⟩
      rw [no_empty]
      refine iteF ?_
      have e1 : (x.cps.toList.map fun c => V.str ⟨#[c]⟩) = (x.cps.toList.map fun c => (⟨#[c]⟩ : Str)).map V.str := by rw [List.map_map]; rfl
      rw [e1] at hD
      refine ⟨⟨_, rfl⟩, _, rfl, "", D, _, rfl, rfl, .inl (SqL.of hD), ?_, ?_⟩
      · have e2 : ((x.cps.toList.map fun c => (⟨#[c]⟩ : Str)).map (·.length)).sum = x.cps.size := by
          rw [List.map_map, ← Array.length_toList]
          induction x.cps.toList with
          | nil => rfl
          | cons c l ih =>
            rw [List.map_cons, List.sum_cons, ih, List.length_cons]
            show 1 + l.length = _
            omega
        rw [e2]
        show x.cps.size + _ * 0 ≤ _
        omega
      · rw [join_signs]
        refine k _ H' (((b1.trans b2).trans b3).trans (But.of s2)) ?_ rfl
        have e : i + (strW x).length = i + 1 + 4 + (id cs).length := by
          rw [strW_len]
          simp only [id]
          omega
        rw [e]
        exact R3.same s2
abbrev N_Reader_read_strings : List Str := ["self", "begin", "turn"]
theorem sc_Reader_read_strings : FnScope N_Reader_read_strings ["self"] (defScope s_Reader_read_strings) := ⟨rfl, rfl, rfl, by decide +kernel, rfl, by decide +kernel, by decide +kernel⟩
/-- the rest from the j-th part on -/
theorem parts_at {ps : List (List Int)} {bs post : List Int} {i j : Nat} {p : List Int} (h : bs.drop i = ps.flatten ++ post) (hp : ps[j]? = some p) : bs.drop (i + (ps.take j).flatten.length) = p ++ ((ps.drop (j + 1)).flatten ++ post) := by
  have hj : j < ps.length := (List.getElem?_eq_some_iff.mp hp).1
  have e : ps.flatten = (ps.take j).flatten ++ (p ++ (ps.drop (j + 1)).flatten) := by
    have e1 : ps = ps.take j ++ ps.drop j := (List.take_append_drop j ps).symm
    have e2 : ps.drop j = p :: ps.drop (j + 1) := by
      rw [List.drop_eq_getElem_cons hj, (List.getElem?_eq_some_iff.mp hp).2]
    rw [e2] at e1
    calc ps.flatten = (ps.take j ++ p :: ps.drop (j + 1)).flatten := by rw [← e1]
      _ = _ := by rw [List.flatten_append, List.flatten_cons]
  rw [e, List.append_assoc] at h
  rw [drop_next h, List.append_assoc]
theorem parts_next {ps : List (List Int)} {j : Nat} {p : List Int} (hp : ps[j]? = some p) : (ps.take (j + 1)).flatten.length = (ps.take j).flatten.length + p.length := by
  rw [List.take_add_one, hp, List.flatten_append, List.length_append]
  simp
theorem ok_Reader_read_strings {f : Addr} {fd : FuncData} (T : GlR mg K w Cr dL) (m_read_string : CalM P w K mg base Cr "read_string" 4 (spStringR Cr)) (m_read_letter : CalM P w K mg base Cr "read_letter" 2 (spLetter Cr)) (m_read_length : CalM P w K mg base Cr "read_length" 3 (spLength Cr)) (F : MetX K "read_strings" "Reader.read_strings" s_Reader_read_strings ["self"] f fd) : FnOk P w K mg base (L2.CX P w) 5 f fd ["self"] (spStringsR Cr) := by
  refine F.fn.ok sc_Reader_read_strings (fun vs H Q E h => ?_) (fun cdv A outer s H vs Q E hr h => ?_)
  · obtain ⟨r, t, bs, i, p, post, as, rfl, rfl, _⟩ := h
    rfl
  · obtain ⟨r, t, bs, i, xs, post, as, rfl, rfl, R, hd, ⟨hl, hx⟩, k⟩ := h
    have lv2 : 2 ≤ 4 := by decide
    have lv3 : 3 ≤ 4 := by decide
    have lv4 : 4 ≤ 4 := by decide
    refine ⟨_, PSs.nox (pss_cons (ps_set (i := 1) sc_Reader_read_strings.nd rfl (.inl rfl) (pe_fld (pv 0) rfl))
    (pss_cons (ps_expr (pe_cm m_read_letter (pv 0) T.cl hr lv2 passL (pa_cons pe_str pa_nil)))
    (pss_one (ps_ret (pe_callTy call_tuple_of (by rfl) T.n_tuple Boot.«tuple» (pa_cons (pe_lc (own := [("turn", 2)]) (g := gName 2) (tt := tYes) rfl sc_Reader_read_strings.nd (pi_range1 (by rfl) T.n_range (pa_cons (pe_cm m_read_length (pv 0) T.cl hr lv3 passL (pa_cons (pv 1) pa_nil)) pa_nil)) (blkOk_by (own := [("turn", 2)]) (N := N_Reader_read_strings) (sc := defScope s_Reader_read_strings) (by decide +kernel)) (fun _ _ _ _ _ => (pg_name (i := 2) sc_Reader_read_strings.nd rfl (Or.inl rfl))) (fun _ _ _ _ _ => pts_nil) (fun _ _ _ _ _ => (pe_cm0 m_read_string (pv 0) T.cl hr lv4 passL))) pa_nil)))))), ?_⟩
    obtain ⟨le, ⟨dx, h1⟩, h2, ne⟩ := id R
    obtain ⟨ps, hps⟩ : ∃ ps, ps = xs.map strW := ⟨_, rfl⟩
    have hpl : ps.length = xs.length := by rw [hps, List.length_map]
    have hd : bs.drop i = 40 :: (fourW xs.length ++ ps.flatten) ++ post := by
      rw [← hpl, hps]
      exact hd
    refine ⟨_, rfl, r, Cr, dx, _, _, rfl, h1, T.cl, T.na2, rfl, ?_⟩
    refine ⟨_, rfl, r, dx, _, rfl, h1, rfl, r, t, bs, i, ("(", 40), _, _, rfl, rfl, R, hd, ⟨by decide, by decide, by decide⟩, fun v H1 b1 R1 hv => ?_⟩
    have d1 : bs.drop (i + 1) = fourW xs.length ++ (ps.flatten ++ post) := by
      have e : bs.drop (i + 1) = (fourW xs.length ++ ps.flatten) ++ post := drop_next (w := [40]) hd
      rw [e, List.append_assoc]
    obtain ⟨le1, ⟨dx1, h11⟩, _, _⟩ := id R1
    refine ⟨_, rfl, r, dx1, _, rfl, h11, rfl, _, rfl, r, t, bs, i + 1, xs.length, _, _, rfl, ⟨_, rfl⟩, R1, d1, ⟨by omega, by omega⟩, fun v2 H2 b2 R2 hv2 => ?_⟩
    have hv2 : v2 = .int (xs.length : Int) := hv2
    subst hv2
    have d2 : bs.drop (i + 1 + 4) = ps.flatten ++ post := drop_next (w := fourW xs.length) d1
    refine ⟨_, rfl, by omega, by omega, fun D nD => ?_⟩
    have hlen : ((xs.length : Int)).toNat = xs.length := Int.toNat_natCast _
    refine lc_range (lo := 0) (n := xs.length) (fun j H' => But r H2 H' ∧ Rd Cr H' r t bs (i + 1 + 4 + (ps.take j).flatten.length) ∧ H' D = some (.lst ((xs.take j).map V.str))) ⟨But.of (Same.new nD), R2.same (Same.new nD), by rw [upd_same]; rfl⟩ ?_ ?_
    · rintro j H' hj ⟨b3, R3, hD⟩
      have hxj : xs[j]? = some (xs[j]'hj) := by simp [hj]
      have hpj : ps[j]? = some (strW (xs[j]'hj)) := by rw [hps, List.getElem?_map, hxj]; rfl
      have neD : D ≠ r := fun e => by
        obtain ⟨_, ⟨dx2, h22⟩, _, _⟩ := id R2
        rw [e, h22] at nD
        cases nD
      refine ⟨rfl, ?_⟩
      unfold tYes
      obtain ⟨le3, ⟨dx3, h33⟩, _, _⟩ := id R3
      refine iteT ⟨_, rfl, r, dx3, _, rfl, h33, rfl, r, t, bs, _, xs[j]'hj, _, _, rfl, rfl, R3, parts_at d2 hpj, hx _ (List.getElem_mem hj), fun v4 H4 b4 R4 hv4 => ?_⟩
      have hv4 : v4 = .str (xs[j]'hj) := hv4
      subst hv4
      have hD4 := b4 _ _ neD hD
      refine ⟨_, hD4, ?_, fun b o n e => ?_, ?_, ?_⟩
      · rw [List.length_map, List.length_take]
        exact Nat.lt_of_le_of_lt (Nat.le_trans (Nat.min_le_right _ _) hl) (by decide)
      · rw [upd_ne (ne_of_none e nD)]
        exact b4 _ _ n (b3 _ _ n e)
      · rw [parts_next hpj, ← Nat.add_assoc]
        obtain ⟨le4, ⟨dx4, h44⟩, h45, ne4⟩ := R4
        refine ⟨le4, ⟨dx4, by rw [upd_ne (Ne.symm neD)]; exact h44⟩, ?_, ne4⟩
        rw [upd_ne (fun e => by rw [e, hD4] at h45; cases h45)]
        exact h45
      · rw [upd_same, List.take_add_one, hxj, List.map_append]
        rfl
    · rintro H' ⟨b3, R3, hD⟩
      rw [List.take_of_length_le (Nat.le_refl _)] at hD
      rw [List.take_of_length_le (by rw [hpl]; exact Nat.le_refl _)] at R3
      refine ⟨D, _, rfl, .inl ⟨SqL.of hD, fun p np => ?_⟩⟩
      have sn := Same.new (o := .tup (xs.map V.str)) np
      refine k _ _ (((b1.trans b2).trans b3).trans (But.of sn)) ?_ ⟨p, rfl, upd_same⟩
      have e : i + (partsW (xs.map strW)).length = i + 1 + 4 + ps.flatten.length := by
        rw [partsW_len, ← hps]
        omega
      rw [e]
      exact R3.same sn
end
end K52
set_option maxHeartbeats 4000000
namespace K52
open PySem PySem.Spec PyProof.Rows L2 Nd
/-! ### k52: the reader: read_digits -/
def dgs (n : Nat) : List Nat := if h : n = 0 then [] else n % 32768 :: dgs (n / 32768)
termination_by n
decreasing_by omega
def valG : List Nat → Nat
  | [] => 0
  | d :: l => valG l * 32768 + d
theorem dgs_z : dgs 0 = [] := by rw [dgs, dif_pos rfl]
theorem dgs_s {n : Nat} (h : n ≠ 0) : dgs n = n % 32768 :: dgs (n / 32768) := by rw [dgs, dif_neg h]
theorem val_dgs (n : Nat) : valG (dgs n) = n := by
  induction n using Nat.strongRecOn with
  | _ n ih =>
    by_cases h : n = 0
    · rw [h, dgs_z]
      rfl
    · rw [dgs_s h, valG, ih (n / 32768) (by omega)]
      omega
theorem dgs_lt (n : Nat) : ∀ d, d ∈ dgs n → d < 32768 := by
  induction n using Nat.strongRecOn with
  | _ n ih =>
    intro d hd
    by_cases h : n = 0
    · rw [h, dgs_z] at hd
      cases hd
    · rw [dgs_s h] at hd
      rcases List.mem_cons.mp hd with e | hd
      · rw [e]
        exact Nat.mod_lt _ (by decide)
      · exact ih (n / 32768) (by omega) d hd
theorem dgs_last (n : Nat) (h : n ≠ 0) : ∃ l d, dgs n = l ++ [d] ∧ d ≠ 0 := by
  induction n using Nat.strongRecOn with
  | _ n ih =>
    rw [dgs_s h]
    by_cases h2 : n / 32768 = 0
    · rw [h2, dgs_z]
      exact ⟨[], _, rfl, by omega⟩
    · obtain ⟨l, d, e, hd⟩ := ih (n / 32768) (by omega) h2
      rw [e]
      exact ⟨_ :: l, d, rfl, hd⟩
/-- the two bytes of a digit -/
def two (d : Nat) : List Int := [((d % 256 : Nat) : Int), ((d / 256 : Nat) : Int)]
theorem digW_two (n : Nat) : digW n = ((dgs n).map two).flatten := by
  induction n using Nat.strongRecOn with
  | _ n ih =>
    by_cases h : n = 0
    · rw [h, dgs_z, digW, dif_pos rfl]
      rfl
    · rw [dgs_s h, digW, dif_neg h, ih (n / 32768) (by omega), List.map_cons, List.flatten_cons]
      show _ = [_, _] ++ _
      have e1 : n % 32768 % 256 = n % 256 := by omega
      have e2 : n % 32768 / 256 = n / 256 % 128 := by omega
      rw [e1, e2]
      rfl
theorem two_len (l : List Nat) : ((l.map two).flatten).length = 2 * l.length := by
  induction l with
  | nil => rfl
  | cons d l ih =>
    rw [List.map_cons, List.flatten_cons, List.length_append, ih, List.length_cons]
    show 2 + _ = _
    omega
theorem two_get : ∀ {l : List Nat} {j d : Nat}, l[j]? = some d → ((l.map two).flatten)[2 * j]? = some ((d % 256 : Nat) : Int) ∧ ((l.map two).flatten)[2 * j + 1]? = some ((d / 256 : Nat) : Int)
  | [], j, d, h => by cases h
  | e :: l, 0, d, h => by
    cases h
    exact ⟨rfl, rfl⟩
  | e :: l, j + 1, d, h => by
    have h : l[j]? = some d := h
    obtain ⟨h1, h2⟩ := two_get h
    rw [List.map_cons, List.flatten_cons]
    rw [show 2 * (j + 1) = 2 * j + 2 by omega, show 2 * j + 2 + 1 = (2 * j + 1) + 2 by omega]
    exact ⟨h1, h2⟩
theorem val_drop : ∀ (l : List Nat) (k : Nat), valG (l.drop k) ≤ valG l
  | l, 0 => Nat.le_refl _
  | [], _ + 1 => Nat.le_refl _
  | d :: l, k + 1 => by
    have := val_drop l k
    show valG (l.drop k) ≤ valG l * 32768 + d
    omega
theorem val_step {l : List Nat} {k d : Nat} (h : l[k]? = some d) : valG (l.drop k) = valG (l.drop (k + 1)) * 32768 + d := by
  have hk : k < l.length := (List.getElem?_eq_some_iff.mp h).1
  rw [List.drop_eq_getElem_cons hk, (List.getElem?_eq_some_iff.mp h).2]
  rfl
theorem rgG {b a : Int} {t : Nat} (h0 : 0 ≤ b) (h1 : b ≤ 100000) (ht : t ≤ 100000) (e : a = b + 2 * (t : Int)) : RgC b a 2 t := by
  subst e
  have hs : Builtin.Range.rangeSize b (b + 2 * (t : Int)) 2 = t := by
    unfold Builtin.Range.rangeSize
    rw [if_pos (by decide)]
    split <;> omega
  refine ⟨by decide, by decide, ?_, hs⟩
  unfold Builtin.Range.small
  rw [hs]
  simp only [Builtin.Range.rangeFitsLong, beq_iff_eq, Bool.or_eq_true, decide_eq_true_eq, Bool.and_eq_true, show (2 : Int) > 0 from by decide, if_true]
  omega
theorem rgD {a : Int} {n : Nat} (h1 : n ≤ 100000) (e : a = 2 * (n : Int)) : RgC 0 a 2 n := rgG (by decide) (by decide) h1 (by omega)
def mny (n : Int) : Int := if 0 < n then (((digW n.natAbs).length / 2 : Nat) : Int) else -(((digW n.natAbs).length / 2 : Nat) : Int)
def bigI (n : Int) : Prop := ¬ (-2147483648 ≤ n ∧ n ≤ 2147483647) ∧ n.natAbs < 2 ^ 3500
def spDigits (Cr : Addr) : Sp := spRd Cr (fun as _ => ∃ b : Int, as = [.int b]) (fun n : Int => fourW (mny n) ++ digW n.natAbs) bigI intR
theorem dgs_len {n k : Nat} (h : n < 32768 ^ k) : (dgs n).length ≤ k := by
  induction k generalizing n with
  | zero =>
    have : n = 0 := by omega
    rw [this, dgs_z]
    exact Nat.le_refl _
  | succ k ih =>
    by_cases hn : n = 0
    · rw [hn, dgs_z]
      exact Nat.zero_le _
    · rw [dgs_s hn, List.length_cons]
      rw [Nat.pow_succ] at h
      exact Nat.succ_le_succ (ih (by omega))
section
variable {P : Program} {w : World} {K : PySem.W.Frag} {mg : Str → Option Value} {base : Heap} {Cr dL : Addr}
abbrev N_Reader_read_digits : List Str := ["self", "begin", "many", "data", "found", "number", "digit", "k"]
theorem sc_Reader_read_digits : FnScope N_Reader_read_digits ["self", "begin"] (defScope s_Reader_read_digits) := ⟨rfl, rfl, rfl, by decide +kernel, rfl, by decide +kernel, by decide +kernel⟩
theorem ok_Reader_read_digits {f : Addr} {fd : FuncData} (T : GlR mg K w Cr dL) (m_some : CalM P w K mg base Cr "some" 1 (spSomeR Cr)) (m_read_four : CalM P w K mg base Cr "read_four" 2 (spFourR Cr)) (F : MetX K "read_digits" "Reader.read_digits" s_Reader_read_digits ["self", "begin"] f fd) : FnOk P w K mg base (L2.CX P w) 3 f fd ["self", "begin"] (spDigits Cr) := by
  refine F.fn.ok sc_Reader_read_digits (fun vs H Q E h => ?_) (fun cdv A outer s H vs Q E hr h => ?_)
  · obtain ⟨r, t, bs, i, p, post, as, rfl, ⟨b, rfl⟩, _⟩ := h
    rfl
  · obtain ⟨r, t, bs, i, n, post, as, rfl, ⟨b, rfl⟩, R, hd, ⟨hs, hn⟩, k⟩ := h
    have lv1 : 1 ≤ 2 := by decide
    have lv2 : 2 ≤ 2 := by decide
    refine ⟨_, PSs.nox (pss_cons (ps_set (i := 2) sc_Reader_read_digits.nd rfl (.inl rfl) (pe_cm0 m_read_four (pv 0) T.cl hr lv2 passL))
    (pss_cons (ps_set (i := 3) sc_Reader_read_digits.nd rfl (.inr rfl) (pe_cm m_some (pv 0) T.cl hr lv1 passL (pa_cons (pe_op op_mul pe_int (pe_callB call_abs (by rfl) T.n_abs Boot.«abs» (pa_cons (pv 2) pa_nil))) pa_nil)))
    (pss_cons (ps_setLc (i := 4) (y := "found") (own := [("k", 7)]) (g := gName 7) (tt := tYes) rfl sc_Reader_read_digits.nd rfl rfl (sw_true rfl rfl rfl (by decide +kernel)) (pi_range3 (by rfl) T.n_range (pa_cons pe_int (pa_cons (pe_callB call_len_seq (by rfl) T.n_len Boot.«len» (pa_cons (pv 3) pa_nil)) (pa_cons pe_int pa_nil)))) (blkOk_by (own := [("k", 7)]) (N := N_Reader_read_digits) (sc := defScope s_Reader_read_digits) (by decide +kernel)) (fun _ _ _ _ _ => (pg_name (i := 7) sc_Reader_read_digits.nd rfl (Or.inl rfl))) (fun _ _ _ _ _ => pts_nil) (fun _ _ _ _ _ => (pe_op op_add (pe_ix (show IxR _ (rIxT K) from ix_tup) (pv 3) (pv 7) (fun _ _ => rfl)) (pe_op op_mul pe_int (pe_ix (show IxR _ (rIxT K) from ix_tup) (pv 3) (pe_op op_add (pv 7) pe_int) (fun _ _ => rfl))))))
    (pss_cons (ps_if (PW.pt (pw_or (pt_cmpR (op_eqD hr.units) (pv 4) (pe_lst pa_nil) (nomark _)) (pw_or (pt_cmpR op_eq (pe_ix ix_list (pv 4) (pe_un un_neg pe_int) (fun _ _ => rfl)) pe_int (nomark _)) (pw_or1 (pt_cmpR op_ge (pe_callB (cr_max rfl) (by rfl) T.n_max Boot.«max» (pa_cons (pv 4) pa_nil)) (C8.pe_gc rfl T.c_DIGIT) (nomark _))))))
      (pss_one ps_never)
      pss_nil)
    (pss_cons (ps_set (i := 5) sc_Reader_read_digits.nd rfl (.inl rfl) pe_int)
    (pss_cons (ps_for PassesOwn.never rfl (pi_list (pe_revL (pv 4))) (pg_name (i := 6) sc_Reader_read_digits.nd rfl (.inl rfl))
      (pss_one (ps_set (i := 5) sc_Reader_read_digits.nd rfl (.inl rfl) (pe_op op_add (pe_op op_mulW (pv 5) (C8.pe_gc rfl T.c_DIGIT)) (pv 6)))))
    (pss_cons (ps_set (i := 5) sc_Reader_read_digits.nd rfl (.inl rfl) (pe_ifExp (pt_cmpR op_gt (pv 2) pe_int (nomark _)) (pv 5) (pe_un un_neg (pv 5))))
    (pss_cons (ps_if (pt_chain op_le op_le (C8.pe_gc rfl T.c_LEAST) (pv 5) (C8.pe_gc rfl T.c_MOST))
      (pss_one ps_never)
      pss_nil)
    (pss_one (ps_ret (pv 5))))))))))), ?_⟩
    obtain ⟨le, ⟨dx, h1⟩, h2, ne⟩ := id R
    have hnz : n.natAbs ≠ 0 := by omega
    obtain ⟨G, hG⟩ : ∃ G, G = dgs n.natAbs := ⟨_, rfl⟩
    have hGl : G.length ≤ 234 := by
      rw [hG]
      exact dgs_len (Nat.lt_of_lt_of_le hn (by decide +kernel))
    have hdW : digW n.natAbs = (G.map two).flatten := by rw [hG]; exact digW_two _
    have hdl : (digW n.natAbs).length = 2 * G.length := by rw [hdW, two_len]
    have hm0 : mny n = if 0 < n then (G.length : Int) else -(G.length : Int) := by
      unfold mny
      rw [hdl, show 2 * G.length / 2 = G.length by omega]
    have hd : bs.drop i = fourW (mny n) ++ (digW n.natAbs ++ post) := by
      rw [← List.append_assoc]
      exact hd
    have hmR : R32 (mny n) := by
      rw [hm0]
      unfold R32
      split <;> omega
    refine ⟨_, rfl, r, dx, _, rfl, h1, rfl, r, t, bs, i, mny n, _, _, rfl, rfl, R, hd, hmR, fun v H1 b1 R1 hv => ?_⟩
    have hv : v = .int (mny n) := hv
    subst hv
    have d1 : bs.drop (i + 4) = digW n.natAbs ++ post := drop_next (w := fourW (mny n)) hd
    obtain ⟨le1, ⟨dx1, h11⟩, _, _⟩ := id R1
    have ab : (if mny n < 0 then -(mny n) else mny n) = (G.length : Int) := by
      rw [hm0]
      split <;> split <;> omega
    refine ⟨_, rfl, r, dx1, _, rfl, h11, rfl, _, rfl, _, rfl, ?_⟩
    rw [ab]
    refine ⟨_, _, rfl, rfl, .inl ⟨by decide, by decide⟩, r, t, bs, i + 4, digW n.natAbs, post, _, rfl, (by
      show [V.int (2 * (G.length : Int))] = [V.int ((digW n.natAbs).length : Int)]
      rw [hdl]
      congr 2), R1, d1, trivial, fun v2 H2 b2 R2 hv2 => ?_⟩
    obtain ⟨z, rfl, hz⟩ := hv2
    refine ⟨_, rfl, z, _, rfl, .inr (SqT.of hz), 0, _, 2, G.length, rfl, rgD (by omega) (by rw [List.length_map, hdl]; rfl), fun D nD => ?_⟩
    refine lc_it walk_rangeC (fun j H' => Same H2 H' ∧ H' D = some (.lst ((G.take j).map fun d : Nat => V.int (d : Int)))) ⟨Same.new nD, by rw [upd_same]; rfl⟩ (fun _ _ _ _ => trivial) ?_ ?_
    · rintro j v H' H'' hj ⟨s2, hD⟩ ⟨rfl, rfl⟩
      have hg : G[j]? = some (G[j]'hj) := by simp [hj]
      generalize G[j]'hj = d at hg
      obtain ⟨g1, g2⟩ := two_get hg
      rw [← hdW] at g1 g2
      have hz' := s2 _ _ hz
      refine ⟨rfl, _, rfl, _, rfl, z, _, _, .int ((d % 256 : Nat) : Int), rfl, rfl, SqT.of hz', ?_, ?_⟩
      · rw [show (0 : Int) + ((j : Nat) : Int) * 2 = ((2 * j : Nat) : Int) by omega]
        exact atI_nat (by rw [List.getElem?_map, g1]; rfl)
      refine ⟨_, rfl, _, rfl, _, _, rfl, rfl, z, _, _, .int ((d / 256 : Nat) : Int), rfl, rfl, SqT.of hz', ?_, ?_⟩
      · rw [show (0 : Int) + ((j : Nat) : Int) * 2 + 1 = ((2 * j + 1 : Nat) : Int) by omega]
        exact atI_nat (by rw [List.getElem?_map, g2]; rfl)
      refine ⟨_, _, rfl, rfl, .inl ⟨by decide, by decide⟩, _, _, rfl, rfl, _, hD, ?_, Same.mut s2 nD, ?_⟩
      · rw [List.length_map, List.length_take]
        exact Nat.lt_of_le_of_lt (Nat.le_trans (Nat.min_le_right _ _) hGl) (by decide)
      · rw [upd_same, List.take_add_one, hg, List.map_append]
        show some (HO.lst (_ ++ [V.int (((d % 256 : Nat) : Int) + 256 * ((d / 256 : Nat) : Int))])) = _
        rw [show ((d % 256 : Nat) : Int) + 256 * ((d / 256 : Nat) : Int) = (d : Int) by omega]
        rfl
    rintro H' ⟨s2, hD⟩
    rw [List.take_of_length_le (Nat.le_refl _)] at hD
    have eG : (G.map fun d : Nat => V.int (d : Int)) = (G.map fun d : Nat => (d : Int)).map V.int := by rw [List.map_map]; rfl
    have hGp : G ≠ [] := by
      obtain ⟨l, d, e, _⟩ := dgs_last _ hnz
      rw [hG, e]
      simp
    refine ⟨_, rfl, (by show 0 ≤ sizeLine; decide), ?_⟩
    walk_at "new3"
    have hD3 := s3 _ _ hD
    refine ⟨.list ((G.map fun d : Nat => (d : Int)).map PyData.int), .list [], .lst (SqL.of hD3) ?_, .lst (SqL.of h3) .nil, shaped_list (int_can _) (int_dep _), by decide, _, rfl, ?_⟩
    · rw [eG]
      exact dpa_ints _
    rw [eqvNil (by simpa using hGp)]
    refine iteF ?_
    obtain ⟨gl, gd, eg, hgd⟩ := dgs_last _ hnz
    rw [← hG] at eg
    refine ⟨_, rfl, _, rfl, D, _, -1, .int (gd : Int), rfl, rfl, SqL.of hD3, ?_, rfl, _, rfl, ?_⟩
    · rw [eg, List.map_append]
      exact atI_last _ _
    rw [decide_eq_false (fun q => by injection q with q; omega)]
    refine iteF ?_
    rw [eG] at hD3
    refine ⟨_, rfl, D, _, rfl, SqL.of hD3, ?_, fun m hm _ => ?_⟩
    · rw [List.length_map]
      exact List.length_pos_iff.mpr hGp
    obtain ⟨gm, hgm, rfl⟩ := List.mem_map.mp hm
    have hgm2 := dgs_lt n.natAbs gm (hG ▸ hgm)
    refine ⟨_, _, rfl, rfl, _, rfl, ?_⟩
    rw [decide_eq_false (show ¬ (gm : Int) ≥ 32768 by omega)]
    refine iteF ?_
    refine ⟨_, rfl, D, _, rfl, SqL.of hD3, ?_⟩
    walk_at "new4"
    refine ⟨p4, rfl, ⟨_, SqL.of h4⟩, for_list (K := K) (a := p4) (xs := ((G.map fun d : Nat => (d : Int)).map V.int).reverse) (fun j σ H5 => (∃ v6, σ = [some (.ref r), some (.int b), some (.int (mny n)), some (.ref z), some (.ref D), some (.int ((valG (G.drop (G.length - j)) : Nat) : Int)), v6, none]) ∧ H5 = H4) ⟨⟨_, by
        rw [Nat.sub_zero, List.drop_length]
        rfl⟩, rfl⟩ (fun j σ H5 _ p => by rw [p.2]; exact SqL.of h4) ?_ ?_⟩
    · rintro j y σ H5 hj ⟨⟨v6, rfl⟩, rfl⟩
      have hj2 : j < G.length := by
        have := (List.getElem?_eq_some_iff.mp hj).1
        rw [List.length_reverse, List.length_map, List.length_map] at this
        exact this
      obtain ⟨q, hq⟩ : ∃ q, G.length - j = q + 1 := ⟨G.length - j - 1, by omega⟩
      have hgq : G[q]? = some (G[q]'(by omega)) := by simp
      generalize G[q]'(by omega) = d at hgq
      obtain rfl : y = .int (d : Int) := by
        rw [List.getElem?_reverse (by rw [List.length_map, List.length_map]; exact hj2), List.length_map, List.length_map, show G.length - 1 - j = q by omega, List.getElem?_map, List.getElem?_map, hgq] at hj
        cases hj
        rfl
      rw [hq]
      have hv := val_step hgq
      have hvl : valG (G.drop (q + 1)) < 2 ^ 3500 := Nat.lt_of_le_of_lt (val_drop G (q + 1)) (by rw [hG, val_dgs]; exact hn)
      refine ⟨_, rfl, _, _, rfl, rfl, wide_mul (a := 3500) (b := 16) (by rw [Int.natAbs_natCast]; exact hvl) (by decide) (by decide) (by decide) (by decide), ?_⟩
      refine ⟨_, rfl, _, _, rfl, rfl, ⟨some (.int (d : Int)), ?_⟩, rfl⟩
      · rw [show G.length - (j + 1) = q by omega, hv]
        rw [show (((valG (G.drop (q + 1)) * 32768 + d : Nat)) : Int) = ((valG (G.drop (q + 1)) : Nat) : Int) * 32768 + (d : Int) by omega]
        rfl
    · rintro σ H5 ⟨⟨v6, rfl⟩, rfl⟩
      have ev : valG (G.drop (G.length - ((G.map fun d : Nat => (d : Int)).map V.int).reverse.length)) = n.natAbs := by
        rw [List.length_reverse, List.length_map, List.length_map, Nat.sub_self, List.drop_zero, hG, val_dgs]
      rw [ev]
      have S : Same H2 H5 := (s2.trans s3).trans s4
      have fin : Q (.int n) H5 := by
        refine k _ H5 ((b1.trans b2).trans (But.of S)) ?_ rfl
        have e : i + (fourW (mny n) ++ digW n.natAbs).length = i + 4 + (id (digW n.natAbs)).length := by
          rw [List.length_append, fourW_len]
          simp only [id]
          omega
        rw [e]
        exact R2.same S
      have hGp2 := List.length_pos_iff.mpr hGp
      have hpos : 0 < n → mny n > 0 := fun h0 => by
        rw [hm0, if_pos h0]
        omega
      have hneg : ¬ 0 < n → ¬ mny n > 0 := fun h0 => by
        rw [hm0, if_neg h0]
        omega
      obtain ⟨a, ha⟩ : ∃ a : Int, a = ((n.natAbs : Nat) : Int) := ⟨_, rfl⟩
      rw [← ha]
      have a1 : 0 < n → a = n := fun h0 => by omega
      have a2 : ¬ 0 < n → -a = n := fun h0 => by omega
      exact joinX (c := fun x : Int => x = n) (fun rest => by
        refine ⟨_, rfl, _, _, rfl, rfl, _, rfl, ?_⟩
        by_cases h0 : 0 < n
        · rw [decide_eq_true (hpos h0)]
          refine iteT ⟨_, rfl, ?_⟩
          obtain ⟨x, hx⟩ : ∃ x : Int, x = a := ⟨_, rfl⟩
          rw [← hx]
          exact rest x (hx.trans (a1 h0))
        · rw [decide_eq_false (hneg h0)]
          exact iteF ⟨_, rfl, _, rfl, rest (-a) (a2 h0)⟩) (fun x hx => by
        subst hx
        refine ⟨_, rfl, _, _, rfl, rfl, _, rfl, ?_⟩
        by_cases hl : -2147483648 ≤ x
        · rw [decide_eq_true hl]
          refine iteT ⟨_, _, rfl, rfl, _, rfl, ?_⟩
          rw [decide_eq_false (fun q => hs ⟨hl, q⟩)]
          exact iteF ⟨_, rfl, fin⟩
        · rw [decide_eq_false hl]
          exact iteF ⟨_, rfl, iteF ⟨_, rfl, fin⟩⟩)
end
end K52
set_option maxHeartbeats 4000000
namespace K52
open PySem PySem.Spec PyProof.Rows L2 Nd
/-! ### k52: the reader: read_constant, read_constants, read_code -/
/-- all but lists and the readers stays -/
def KpR (Cr : Addr) (H H' : Hp) : Prop := ∀ b o, H b = some o → (∀ xs, o ≠ HO.lst xs) → (∀ dx fs, o ≠ HO.ins Cr dx fs) → H' b = some o
theorem KpR.but {Cr r dx : Addr} {fs : List (Str × V)} {H H' : Hp} (hs : H r = some (.ins Cr dx fs)) (b : But r H H') : KpR Cr H H' := fun c o e _ n => b c o (fun z => by
  rw [z, hs] at e
  cases e
  exact n _ _ rfl) e
theorem KpR.kp {Cr : Addr} {H H' : Hp} (s : Kp H H') : KpR Cr H H' := fun c o e n _ => s c o e n
theorem KpR.trans {Cr : Addr} {H H1 H2 : Hp} (a : KpR Cr H H1) (b : KpR Cr H1 H2) : KpR Cr H H2 := fun c o e n m => b c o (a c o e n m) n m
theorem Rd.kpr {Cr : Addr} {H H' : Hp} {r t : Addr} {bs : List Int} {i : Nat} (h : Rd Cr H r t bs i) (b : But r H H') : KpR Cr H H' := by
  obtain ⟨_, ⟨dx, h1⟩, _, _⟩ := h
  exact .but h1 b
theorem KpR.tup {Cr : Addr} {H H' : Hp} {a : Addr} {xs : List V} (s : KpR Cr H H') (h : H a = some (.tup xs)) : H' a = some (.tup xs) := s _ _ h (fun _ z => by cases z) (fun _ _ z => by cases z)
section
variable {Cc Cr : Addr} {H H' : Hp}
theorem CodeAt.kpr (nc : Cc ≠ Cr) {c : Addr} {D : CD} {m : Int} (s : KpR Cr H H') (h : CodeAt Cc H c D m) : CodeAt Cc H' c D m := by
  have st : ∀ {t xs}, H t = some (.tup xs) → H' t = some (.tup xs) := fun h => s.tup h
  obtain ⟨dx, fs, h0, h1, h2, h3, h4, ⟨t5, h5, g5⟩, ⟨t6, h6, g6⟩, ⟨t7, h7, g7⟩, ⟨t8, h8, g8⟩, ⟨t9, h9, g9⟩, h10, h11, h12, ⟨t13, h13, g13⟩, ⟨t14, h14, g14⟩, h15⟩ := h
  exact ⟨dx, fs, s _ _ h0 (fun _ z => by cases z) (fun _ _ z => by
    cases z
    exact nc rfl), h1, h2, h3, h4, ⟨t5, h5, st g5⟩, ⟨t6, h6, st g6⟩, ⟨t7, h7, st g7⟩, ⟨t8, h8, st g8⟩, ⟨t9, h9, st g9⟩, h10, h11, h12, ⟨t13, h13, st g13⟩, ⟨t14, h14, st g14⟩, h15⟩
mutual
theorem KvAt.kpr (nc : Cc ≠ Cr) (s : KpR Cr H H') : ∀ {v : V} {k : Kd}, KvAt Cc H v k → KvAt Cc H' v k
  | _, _, .non => .non
  | _, _, .bl b => .bl b
  | _, _, .int i => .int i
  | _, _, .str x => .str x
  | _, _, .tup h r => .tup (s.tup h) (KvAll.kpr nc s r)
  | _, _, .code h r h0 h1 => .code (h.kpr nc s) (KvAll.kpr nc s r) h0 h1
theorem KvAll.kpr (nc : Cc ≠ Cr) (s : KpR Cr H H') : ∀ {vs : List V} {ks : List Kd}, KvAll Cc H vs ks → KvAll Cc H' vs ks
  | _, _, .nil => .nil
  | _, _, .cons h r => .cons (KvAt.kpr nc s h) (KvAll.kpr nc s r)
end
end
def plainL : Str := "NTFilu("
def plainC : Str := "NTFilu(c"
/-- a constant that can be read -/
def okK (n : Nat) (k : Kd) : Prop := ∃ M e, Gk 3 M e k ∧ M ≤ 1000 ∧ dep k < n ∧ e ≤ 60
def spRC (Cc Cr : Addr) (n : Nat) : Sp := spRd Cr (fun as k => ∃ (z : Str) (nd cd : Nat), as = [.str z, .int nd, .int cd] ∧ (z = plainC ∨ z = plainL ∧ isCd k = false) ∧ nd + dep k ≤ 90 ∧ cd + dep k ≤ 90) wr (okK n) (fun k v H => KvAt Cc H v k)
def spRK (Cc Cr : Addr) (n : Nat) : Sp := spRd Cr (fun as (ks : List Kd) => ∃ cd : Nat, as = [.int cd] ∧ cd + 1 + depL ks ≤ 90 ∧ depL ks ≤ 90) (fun ks => partsW (ks.map wr)) (fun ks => ks.length ≤ 1000 ∧ ∀ k ∈ ks, okK n k) (fun ks v H => ∃ a vs, v = .ref a ∧ H a = some (.tup vs) ∧ KvAll Cc H vs ks)
def spRD (Cc Cr : Addr) (n : Nat) : Sp := spRd Cr (fun as k => ∃ cd : Nat, as = [.int cd] ∧ cd + dep k ≤ 90) wr (fun k => okK (n + 1) k ∧ isCd k = true) (fun k v H => KvAt Cc H v k)
theorem okK.int {n : Nat} {i : Int} (h : okK n (.int i)) : i.natAbs < 2 ^ 3500 := by
  obtain ⟨M, e, g, _⟩ := h
  cases g with
  | flat g => cases g with
    | int _ h => exact Nat.lt_of_lt_of_le h (by decide +kernel)
theorem okK.str {n : Nat} {s : Str} (h : okK n (.str s)) : okT s := by
  obtain ⟨M, e, g, _⟩ := h
  cases g with
  | flat g => cases g with
    | str _ h1 h2 => exact ⟨h2, Nat.le_trans h1 (by decide)⟩
theorem okK.tup {n : Nat} {l : List Kd} (h : okK (n + 1) (.tup l)) : l.length ≤ 3 ∧ (∀ k ∈ l, okK n k ∧ isCd k = false) := by
  obtain ⟨M, e, g, hM, hd, he⟩ := h
  rw [dep] at hd
  cases g with
  | flat g => cases g with
    | tup hl h => exact ⟨hl, fun k hk => ⟨⟨M, e, .flat ((h k hk).mono), hM, Nat.lt_of_le_of_lt (dep_mem hk) (Nat.lt_of_succ_lt_succ hd), he⟩, (h k hk).noCd⟩⟩
theorem pl_in {z : Str} {p : Prop} (h : z = plainC ∨ z = plainL ∧ p) : ∀ c, c ∈ z.cps.toList → c ∈ lets := by
  rcases h with e | ⟨e, _⟩
  · rw [e]
    decide +kernel
  · rw [e]
    decide +kernel
theorem pl_sz {z : Str} {p : Prop} (h : z = plainC ∨ z = plainL ∧ p) : z.cps.size ≤ 1000 := by
  rcases h with e | ⟨e, _⟩
  · rw [e]
    decide +kernel
  · rw [e]
    decide +kernel
theorem pl_has {z : Str} {p : Prop} {c : Nat} (h : z = plainC ∨ z = plainL ∧ p) (hc : c ∈ plainL.cps.toList) : c ∈ z.cps.toList := by
  rcases h with e | ⟨e, _⟩
  · rw [e]
    have : ∀ c, c ∈ plainL.cps.toList → c ∈ plainC.cps.toList := by decide +kernel
    exact this c hc
  · rw [e]
    exact hc
section
variable {P : Program} {w : World} {K : PySem.W.Frag} {mg : Str → Option Value} {base : Heap} {Cc Cr dL Cn fI : Addr}
abbrev N_Reader_read_constant : List Str := ["self", "letters", "nested", "codes", "begin", "letter", "many", "turn"]
theorem sc_Reader_read_constant : FnScope N_Reader_read_constant ["self", "letters", "nested", "codes"] (defScope s_Reader_read_constant) := ⟨rfl, rfl, rfl, by decide +kernel, rfl, by decide +kernel, by decide +kernel⟩
theorem rc_step {f : Addr} {fd : FuncData} (n : Nat) (nc : Cc ≠ Cr) (T : GlR mg K w Cr dL) (m_read_letter : CalM P w K mg base Cr "read_letter" 2 (spLetter Cr)) (m_read_length : CalM P w K mg base Cr "read_length" 3 (spLength Cr)) (m_read_four : CalM P w K mg base Cr "read_four" 2 (spFourR Cr)) (m_read_digits : CalM P w K mg base Cr "read_digits" 3 (spDigits Cr)) (m_read_string : CalM P w K mg base Cr "read_string" 4 (spStringR Cr))
    (m_read_constant : CalM P w K mg base Cr "read_constant" (3 * n + 10) (spRC Cc Cr n)) (m_read_code : CalM P w K mg base Cr "read_code" (3 * n + 12) (spRD Cc Cr n)) (F : MetX K "read_constant" "Reader.read_constant" s_Reader_read_constant ["self", "letters", "nested", "codes"] f fd) : FnOk P w K mg base (L2.CX P w) (3 * (n + 1) + 10) f fd ["self", "letters", "nested", "codes"] (spRC Cc Cr (n + 1)) := by
  refine F.fn.ok sc_Reader_read_constant (fun vs H Q E h => ?_) (fun cdv A outer s H vs Q E hr h => ?_)
  · obtain ⟨r, t, bs, i, x, post, as, rfl, ⟨z, nd, cd, rfl, _⟩, _⟩ := h
    rfl
  · obtain ⟨r, t, bs, i, k, post, as, rfl, ⟨z, nd, cd, rfl, hz, hnd, hcd⟩, R, hd, hok, q⟩ := h
    have lv2 : 2 ≤ 3 * n + 12 := by omega
    have lv3 : 3 ≤ 3 * n + 12 := by omega
    have lv4 : 4 ≤ 3 * n + 12 := by omega
    have lv5 : 3 * n + 10 ≤ 3 * n + 12 := by omega
    have lv6 : 3 * n + 12 ≤ 3 * n + 12 := by omega
    refine ⟨_, PSs.nox (pss_cons (ps_set (i := 4) sc_Reader_read_constant.nd rfl (.inl rfl) (pe_fld (pv 0) rfl))
    (pss_cons (ps_set (i := 5) sc_Reader_read_constant.nd rfl (.inl rfl) (pe_cm m_read_letter (pv 0) T.cl hr lv2 passL (pa_cons (pv 1) pa_nil)))
    (pss_cons (ps_if (pt_cmpR op_in_sign (pv 5) pe_str (by rfl))
      (pss_one (ps_ret (pe_ifExp (pt_cmpR op_eq (pv 5) pe_str (nomark _)) pe_non (pe_cmpR op_eq (pv 5) pe_str (nomark _)))))
      pss_nil)
    (pss_cons (ps_if (pt_cmpR op_eq (pv 5) pe_str (nomark _))
      (pss_one (ps_ret (pe_cm0 m_read_four (pv 0) T.cl hr lv2 passL)))
      pss_nil)
    (pss_cons (ps_if (pt_cmpR op_eq (pv 5) pe_str (nomark _))
      (pss_one (ps_ret (pe_cm m_read_digits (pv 0) T.cl hr lv3 passL (pa_cons (pv 4) pa_nil))))
      pss_nil)
    (pss_cons (ps_if (PW.pt (pw_or (PW.pt (pw_and (pt_cmpR op_eq (pv 5) pe_str (nomark _)) (pw_and1 (pt_cmpR op_eq (pv 3) (C8.pe_gc rfl T.c_MOST_NESTED) (nomark _))))) (pw_or1 (PW.pt (pw_and (pt_cmpR op_eq (pv 5) pe_str (nomark _)) (pw_and1 (pt_cmpR op_eq (pv 2) (C8.pe_gc rfl T.c_MOST_NESTED) (nomark _))))))))
      (pss_one ps_never)
      pss_nil)
    (pss_cons (ps_if (pt_cmpR op_eq (pv 5) pe_str (nomark _))
      (pss_cons (ps_set (i := 6) sc_Reader_read_constant.nd rfl (.inl rfl) (pe_cm m_read_length (pv 0) T.cl hr lv3 passL (pa_cons (pv 4) pa_nil)))
    (pss_one (ps_ret (pe_callTy call_tuple_of (by rfl) T.n_tuple Boot.«tuple» (pa_cons (pe_lc (own := [("turn", 7)]) (g := gName 7) (tt := tYes) rfl sc_Reader_read_constant.nd (pi_range1 (by rfl) T.n_range (pa_cons (pv 6) pa_nil)) (blkOk_by (own := [("turn", 7)]) (N := N_Reader_read_constant) (sc := defScope s_Reader_read_constant) (by decide +kernel)) (fun _ _ _ _ _ => (pg_name (i := 7) sc_Reader_read_constant.nd rfl (Or.inl rfl))) (fun _ _ _ _ _ => pts_nil) (fun _ _ _ _ _ => (pe_cm m_read_constant (pv 0) T.cl hr lv5 passL (pa_cons (C8.pe_gc rfl T.c_PLAIN) (pa_cons (pe_op op_add (pv 2) pe_int) (pa_cons (pv 3) pa_nil)))))) pa_nil)))))
      pss_nil)
    (pss_cons (ps_fld (pv 0) (pv 4) rfl)
    (pss_one (ps_ret (pe_ifExp (pt_cmpR op_eq (pv 5) pe_str (nomark _)) (pe_cm0 m_read_string (pv 0) T.cl hr lv4 passL) (pe_cm m_read_code (pv 0) T.cl hr lv6 passL (pa_cons (pv 3) pa_nil))))))))))))), ?_⟩
    obtain ⟨le, ⟨dx, h1⟩, h2, ne⟩ := id R
    refine ⟨_, rfl, r, Cr, dx, _, _, rfl, h1, T.cl, T.na2, rfl, ?_⟩
    have let1 : ∀ (c : Nat) (tl : List Int), wr k = (c : Int) :: tl → bs.drop i = [(c : Int)] ++ (tl ++ post) := fun c tl e => by
      rw [hd, e]
      rfl
    have nx : ∀ {H1 : Hp} {j : Nat}, Rd Cr H1 r t bs (i + 1 + j) → 1 + j = (wr k).length → Rd Cr H1 r t bs (i + (wr k).length) := fun {H1 j} h e => by
      rw [← e, ← Nat.add_assoc]
      exact h
    cases k with
    | non =>
      refine ⟨_, rfl, r, dx, _, rfl, h1, rfl, _, rfl, r, t, bs, i, (z, 78), _, _, rfl, rfl, R, let1 78 [] (by rw [wr]; rfl), ⟨pl_in hz, pl_has (c := 78) hz (by decide +kernel), pl_sz hz⟩, fun v H1 b1 R1 hv => ?_⟩
      have hv : v = .str ⟨#[78]⟩ := hv
      subst hv
      have R1 : Rd Cr H1 r t bs (i + 1) := R1
      refine ⟨_, rfl, 78, _, rfl, rfl, _, rfl, ?_⟩
      rw [show decide (78 ∈ ("NTF" : Str).cps.toList) = true from by decide +kernel]
      refine iteT ?_
      refine ⟨_, rfl, rfl, _, rfl, ?_⟩
      rw [show decide (V.str ⟨#[78]⟩ = V.str "N") = true from by decide +kernel]
      refine iteT ?_
      exact q _ H1 b1 R1 .non
    | bl b =>
      cases b with
      | true =>
        refine ⟨_, rfl, r, dx, _, rfl, h1, rfl, _, rfl, r, t, bs, i, (z, 84), _, _, rfl, rfl, R, let1 84 [] (by rw [wr]; rfl), ⟨pl_in hz, pl_has (c := 84) hz (by decide +kernel), pl_sz hz⟩, fun v H1 b1 R1 hv => ?_⟩
        have hv : v = .str ⟨#[84]⟩ := hv
        subst hv
        have R1 : Rd Cr H1 r t bs (i + 1) := R1
        refine ⟨_, rfl, 84, _, rfl, rfl, _, rfl, ?_⟩
        rw [show decide (84 ∈ ("NTF" : Str).cps.toList) = true from by decide +kernel]
        refine iteT ?_
        refine ⟨_, rfl, rfl, _, rfl, ?_⟩
        rw [show decide (V.str ⟨#[84]⟩ = V.str "N") = false from by decide +kernel]
        refine iteF ?_
        refine ⟨_, rfl, rfl, ?_⟩
        rw [show decide (V.str ⟨#[84]⟩ = V.str "T") = true from by decide +kernel]
        exact q _ H1 b1 R1 (.bl _)
      | false =>
        refine ⟨_, rfl, r, dx, _, rfl, h1, rfl, _, rfl, r, t, bs, i, (z, 70), _, _, rfl, rfl, R, let1 70 [] (by rw [wr]; rfl), ⟨pl_in hz, pl_has (c := 70) hz (by decide +kernel), pl_sz hz⟩, fun v H1 b1 R1 hv => ?_⟩
        have hv : v = .str ⟨#[70]⟩ := hv
        subst hv
        have R1 : Rd Cr H1 r t bs (i + 1) := R1
        refine ⟨_, rfl, 70, _, rfl, rfl, _, rfl, ?_⟩
        rw [show decide (70 ∈ ("NTF" : Str).cps.toList) = true from by decide +kernel]
        refine iteT ?_
        refine ⟨_, rfl, rfl, _, rfl, ?_⟩
        rw [show decide (V.str ⟨#[70]⟩ = V.str "N") = false from by decide +kernel]
        refine iteF ?_
        refine ⟨_, rfl, rfl, ?_⟩
        rw [show decide (V.str ⟨#[70]⟩ = V.str "T") = false from by decide +kernel]
        exact q _ H1 b1 R1 (.bl _)
    | int n =>
      by_cases hs : -2147483648 ≤ n ∧ n ≤ 2147483647
      · have ew : wr (.int n) = ((105 : Nat) : Int) :: fourW n := by
          rw [wr, intW, if_pos hs]
          rfl
        refine ⟨_, rfl, r, dx, _, rfl, h1, rfl, _, rfl, r, t, bs, i, (z, 105), _, _, rfl, rfl, R, let1 105 (fourW n) ew, ⟨pl_in hz, pl_has (c := 105) hz (by decide +kernel), pl_sz hz⟩, fun v H1 b1 R1 hv => ?_⟩
        have hv : v = .str ⟨#[105]⟩ := hv
        subst hv
        have R1 : Rd Cr H1 r t bs (i + 1) := R1
        refine ⟨_, rfl, 105, _, rfl, rfl, _, rfl, ?_⟩
        rw [show decide (105 ∈ ("NTF" : Str).cps.toList) = false from by decide +kernel]
        refine iteF ?_
        refine ⟨_, rfl, rfl, _, rfl, ?_⟩
        rw [show decide (V.str ⟨#[105]⟩ = V.str "i") = true from by decide +kernel]
        refine iteT ?_
        have d1 : bs.drop (i + 1) = fourW n ++ post := drop_next (w := [105]) (let1 105 _ ew)
        obtain ⟨le1, ⟨dx1, h11⟩, _, _⟩ := id R1
        refine ⟨_, rfl, r, dx1, _, rfl, h11, rfl, r, t, bs, i + 1, n, post, _, rfl, rfl, R1, d1, hs, fun v2 H2 b2 R2 hv2 => ?_⟩
        have hv2 : v2 = .int n := hv2
        subst hv2
        exact q _ H2 (b1.trans b2) (nx R2 (by rw [ew]; rfl)) (.int n)
      · have ew : wr (.int n) = ((108 : Nat) : Int) :: (fourW (mny n) ++ digW n.natAbs) := by
          rw [wr, intW, if_neg hs]
          rfl
        refine ⟨_, rfl, r, dx, _, rfl, h1, rfl, _, rfl, r, t, bs, i, (z, 108), _, _, rfl, rfl, R, let1 108 (fourW (mny n) ++ digW n.natAbs) ew, ⟨pl_in hz, pl_has (c := 108) hz (by decide +kernel), pl_sz hz⟩, fun v H1 b1 R1 hv => ?_⟩
        have hv : v = .str ⟨#[108]⟩ := hv
        subst hv
        have R1 : Rd Cr H1 r t bs (i + 1) := R1
        refine ⟨_, rfl, 108, _, rfl, rfl, _, rfl, ?_⟩
        rw [show decide (108 ∈ ("NTF" : Str).cps.toList) = false from by decide +kernel]
        refine iteF ?_
        refine ⟨_, rfl, rfl, _, rfl, ?_⟩
        rw [show decide (V.str ⟨#[108]⟩ = V.str "i") = false from by decide +kernel]
        refine iteF ?_
        refine ⟨_, rfl, rfl, _, rfl, ?_⟩
        rw [show decide (V.str ⟨#[108]⟩ = V.str "l") = true from by decide +kernel]
        refine iteT ?_
        have d1 : bs.drop (i + 1) = (fourW (mny n) ++ digW n.natAbs) ++ post := drop_next (w := [108]) (let1 108 _ ew)
        obtain ⟨le1, ⟨dx1, h11⟩, _, _⟩ := id R1
        refine ⟨_, rfl, r, dx1, _, rfl, h11, rfl, _, rfl, r, t, bs, i + 1, n, post, _, rfl, ⟨_, rfl⟩, R1, d1, ⟨hs, hok.int⟩, fun v2 H2 b2 R2 hv2 => ?_⟩
        have hv2 : v2 = .int n := hv2
        subst hv2
        exact q _ H2 (b1.trans b2) (nx R2 (by rw [ew, List.length_cons]; exact Nat.add_comm _ _)) (.int n)
    | str x =>
      refine ⟨_, rfl, r, dx, _, rfl, h1, rfl, _, rfl, r, t, bs, i, (z, 117), _, _, rfl, rfl, R, let1 117 (fourW x.cps.size ++ x.cps.toList.map fun c : Nat => (c : Int)) (by rw [wr]; rfl), ⟨pl_in hz, pl_has (c := 117) hz (by decide +kernel), pl_sz hz⟩, fun v H1 b1 R1 hv => ?_⟩
      have hv : v = .str ⟨#[117]⟩ := hv
      subst hv
      have R1 : Rd Cr H1 r t bs (i + 1) := R1
      refine ⟨_, rfl, 117, _, rfl, rfl, _, rfl, ?_⟩
      rw [show decide (117 ∈ ("NTF" : Str).cps.toList) = false from by decide +kernel]
      refine iteF ?_
      refine ⟨_, rfl, rfl, _, rfl, ?_⟩
      rw [show decide (V.str ⟨#[117]⟩ = V.str "i") = false from by decide +kernel]
      refine iteF ?_
      refine ⟨_, rfl, rfl, _, rfl, ?_⟩
      rw [show decide (V.str ⟨#[117]⟩ = V.str "l") = false from by decide +kernel]
      refine iteF ?_
      refine ⟨_, rfl, rfl, _, rfl, ?_⟩
      rw [show decide (V.str ⟨#[117]⟩ = V.str "c") = false from by decide +kernel]
      refine iteF (iteF ?_)
      refine ⟨_, rfl, rfl, _, rfl, ?_⟩
      rw [show decide (V.str ⟨#[117]⟩ = V.str "(") = false from by decide +kernel]
      refine iteF (iteF ?_)
      refine ⟨_, rfl, rfl, _, rfl, ?_⟩
      rw [show decide (V.str ⟨#[117]⟩ = V.str "(") = false from by decide +kernel]
      refine iteF ?_
      obtain ⟨le1, ⟨dx1, h11⟩, h12, _⟩ := id R1
      refine ⟨_, rfl, _, rfl, r, Cr, dx1, _, rfl, h11, T.cl, T.na2, (by show 2 < 1000; decide), ?_⟩
      generalize eu : upd H1 r (HO.ins Cr dx1 _) = H2
      have b2 : But r H1 H2 := by
        rw [← eu]
        exact But.refl.upd
      have h23 : H2 r = some (.ins Cr dx1 [("whole", .ref t), ("at", .int (i : Int))]) := by
        rw [← eu]
        exact upd_same
      clear eu
      have R2 : Rd Cr H2 r t bs i := ⟨le, ⟨dx1, h23⟩, b2 _ _ ne h12, ne⟩
      refine ⟨_, rfl, rfl, _, rfl, ?_⟩
      rw [show decide (V.str ⟨#[117]⟩ = V.str "u") = true from by decide +kernel]
      refine iteT ?_
      have hd2 : bs.drop i = strW x ++ post := by
        rw [hd, wr]
      refine ⟨_, rfl, r, dx1, _, rfl, h23, rfl, r, t, bs, i, x, post, _, rfl, rfl, R2, hd2, hok.str, fun v2 H3 b3 R3 hv2 => ?_⟩
      have hv2 : v2 = .str x := hv2
      subst hv2
      exact q _ H3 ((b1.trans b2).trans b3) (by rw [wr]; exact R3) (.str x)
    | tup ks =>
      have ew : wr (.tup ks) = ((40 : Nat) : Int) :: (fourW ks.length ++ (ks.map wr).flatten) := by
        rw [wr, wrL_map, partsW, List.length_map]
        rfl
      obtain ⟨hl, hks⟩ := hok.tup
      rw [dep] at hnd hcd
      refine ⟨_, rfl, r, dx, _, rfl, h1, rfl, _, rfl, r, t, bs, i, (z, 40), _, _, rfl, rfl, R, let1 40 (fourW ks.length ++ (ks.map wr).flatten) ew, ⟨pl_in hz, pl_has (c := 40) hz (by decide +kernel), pl_sz hz⟩, fun v H1 b1 R1 hv => ?_⟩
      have hv : v = .str ⟨#[40]⟩ := hv
      subst hv
      have R1 : Rd Cr H1 r t bs (i + 1) := R1
      refine ⟨_, rfl, 40, _, rfl, rfl, _, rfl, ?_⟩
      rw [show decide (40 ∈ ("NTF" : Str).cps.toList) = false from by decide +kernel]
      refine iteF ?_
      refine ⟨_, rfl, rfl, _, rfl, ?_⟩
      rw [show decide (V.str ⟨#[40]⟩ = V.str "i") = false from by decide +kernel]
      refine iteF ?_
      refine ⟨_, rfl, rfl, _, rfl, ?_⟩
      rw [show decide (V.str ⟨#[40]⟩ = V.str "l") = false from by decide +kernel]
      refine iteF ?_
      refine ⟨_, rfl, rfl, _, rfl, ?_⟩
      rw [show decide (V.str ⟨#[40]⟩ = V.str "c") = false from by decide +kernel]
      refine iteF (iteF ?_)
      refine ⟨_, rfl, rfl, _, rfl, ?_⟩
      rw [show decide (V.str ⟨#[40]⟩ = V.str "(") = true from by decide +kernel]
      refine iteT ⟨_, rfl, rfl, _, rfl, ?_⟩
      rw [decide_eq_false (show ¬ V.int (nd : Int) = V.int 100 from fun e => by injection e with e; omega)]
      refine iteF ?_
      refine ⟨_, rfl, rfl, _, rfl, ?_⟩
      rw [show decide (V.str ⟨#[40]⟩ = V.str "(") = true from by decide +kernel]
      refine iteT ?_
      obtain ⟨ps, hps⟩ : ∃ ps, ps = ks.map wr := ⟨_, rfl⟩
      have hpl : ps.length = ks.length := by rw [hps, List.length_map]
      have d1 : bs.drop (i + 1) = fourW ks.length ++ (ps.flatten ++ post) := by
        have e : bs.drop (i + 1) = (fourW ks.length ++ ps.flatten) ++ post := by
          rw [hps]
          exact drop_next (w := [40]) (let1 40 _ ew)
        rw [e, List.append_assoc]
      obtain ⟨le1, ⟨dx1, h11⟩, _, _⟩ := id R1
      refine ⟨_, rfl, r, dx1, _, rfl, h11, rfl, _, rfl, r, t, bs, i + 1, ks.length, _, _, rfl, ⟨_, rfl⟩, R1, d1, ⟨by omega, by omega⟩, fun v2 H2 b2 R2 hv2 => ?_⟩
      have hv2 : v2 = .int (ks.length : Int) := hv2
      subst hv2
      have d2 : bs.drop (i + 1 + 4) = ps.flatten ++ post := drop_next (w := fourW ks.length) d1
      refine ⟨_, rfl, _, rfl, by omega, by omega, fun D nD => ?_⟩
      have neD : D ≠ r := fun e => by
        obtain ⟨_, ⟨dx2, h22⟩, _, _⟩ := id R2
        rw [e, h22] at nD
        cases nD
      refine lc_range (lo := 0) (n := ks.length) (fun j H' => But r H2 H' ∧ Rd Cr H' r t bs (i + 1 + 4 + (ps.take j).flatten.length) ∧ ∃ vs, H' D = some (.lst vs) ∧ KvAll Cc H' vs (ks.take j)) ⟨But.of (Same.new nD), R2.same (Same.new nD), [], upd_same, .nil⟩ ?_ ?_
      · rintro j H' hj ⟨b3, R3, vs, hD, hvs⟩
        have hxj : ks[j]? = some (ks[j]'hj) := by simp [hj]
        have hxm := List.getElem_mem hj
        generalize ks[j]'hj = x at hxj hxm
        have hpj : ps[j]? = some (wr x) := by rw [hps, List.getElem?_map, hxj]; rfl
        have hdx := dep_mem hxm
        refine ⟨rfl, ?_⟩
        unfold tYes
        obtain ⟨le3, ⟨dx3, h33⟩, _, _⟩ := id R3
        refine iteT ⟨_, rfl, r, dx3, _, rfl, h33, rfl, _, rfl, _, _, rfl, rfl, _, rfl, r, t, bs, _, x, _, _, rfl, ⟨plainL, nd + 1, cd, rfl, .inr ⟨rfl, (hks x hxm).2⟩, by omega, by omega⟩, R3, parts_at d2 hpj, (hks x hxm).1, fun v4 H4 b4 R4 hv4 => ?_⟩
        have hD4 := b4 _ _ neD hD
        refine ⟨_, hD4, ?_, fun b o n e => ?_, ?_, vs ++ [v4], upd_same, ?_⟩
        · rw [hvs.len, List.length_take]
          exact Nat.lt_of_le_of_lt (Nat.le_trans (Nat.min_le_right _ _) hl) (by decide)
        · rw [upd_ne (ne_of_none e nD)]
          exact b4 _ _ n (b3 _ _ n e)
        · rw [parts_next hpj, ← Nat.add_assoc]
          obtain ⟨le4, ⟨dx4, h44⟩, h45, ne4⟩ := R4
          refine ⟨le4, ⟨dx4, by rw [upd_ne (Ne.symm neD)]; exact h44⟩, ?_, ne4⟩
          rw [upd_ne (fun e => by rw [e, hD4] at h45; cases h45)]
          exact h45
        · rw [List.take_add_one, hxj]
          exact ((hvs.kpr nc (R3.kpr b4)).snoc hv4).kp (Kp.mut hD4)
      · rintro H' ⟨b3, R3, vs, hD, hvs⟩
        rw [List.take_of_length_le (Nat.le_refl _)] at hvs
        rw [List.take_of_length_le (by rw [hpl]; exact Nat.le_refl _)] at R3
        refine ⟨D, _, rfl, .inl ⟨SqL.of hD, fun p np => ?_⟩⟩
        have sn := Same.new (o := .tup vs) np
        refine q _ _ (((b1.trans b2).trans b3).trans (But.of sn)) ?_ (.tup upd_same (hvs.kp (.same sn)))
        have R4 := R3.same sn
        rw [Nat.add_assoc (i + 1)] at R4
        refine nx R4 ?_
        rw [ew, List.length_cons, List.length_append, fourW_len, ← hps]
        omega
    | code F cs =>
      obtain rfl : z = plainC := by
        rcases hz with e | ⟨_, e⟩
        · exact e
        · cases e
      have ew : ∃ tl, wr (.code F cs) = ((99 : Nat) : Int) :: tl := ⟨_, by
        rw [wr]
        rfl⟩
      obtain ⟨tl, ew⟩ := ew
      refine ⟨_, rfl, r, dx, _, rfl, h1, rfl, _, rfl, r, t, bs, i, (plainC, 99), _, _, rfl, rfl, R, let1 99 tl ew, ⟨pl_in hz, (by decide +kernel), pl_sz hz⟩, fun v H1 b1 R1 hv => ?_⟩
      have hv : v = .str ⟨#[99]⟩ := hv
      subst hv
      have R1 : Rd Cr H1 r t bs (i + 1) := R1
      refine ⟨_, rfl, 99, _, rfl, rfl, _, rfl, ?_⟩
      rw [show decide (99 ∈ ("NTF" : Str).cps.toList) = false from by decide +kernel]
      refine iteF ?_
      refine ⟨_, rfl, rfl, _, rfl, ?_⟩
      rw [show decide (V.str ⟨#[99]⟩ = V.str "i") = false from by decide +kernel]
      refine iteF ?_
      refine ⟨_, rfl, rfl, _, rfl, ?_⟩
      rw [show decide (V.str ⟨#[99]⟩ = V.str "l") = false from by decide +kernel]
      refine iteF ?_
      refine ⟨_, rfl, rfl, _, rfl, ?_⟩
      rw [show decide (V.str ⟨#[99]⟩ = V.str "c") = true from by decide +kernel]
      refine iteT ⟨_, rfl, rfl, _, rfl, ?_⟩
      rw [decide_eq_false (show ¬ V.int (cd : Int) = V.int 100 from fun e => by injection e with e; omega)]
      refine iteF ?_
      refine ⟨_, rfl, rfl, _, rfl, ?_⟩
      rw [show decide (V.str ⟨#[99]⟩ = V.str "(") = false from by decide +kernel]
      refine iteF (iteF ?_)
      refine ⟨_, rfl, rfl, _, rfl, ?_⟩
      rw [show decide (V.str ⟨#[99]⟩ = V.str "(") = false from by decide +kernel]
      refine iteF ?_
      obtain ⟨le1, ⟨dx1, h11⟩, h12, _⟩ := id R1
      refine ⟨_, rfl, _, rfl, r, Cr, dx1, _, rfl, h11, T.cl, T.na2, (by show 2 < 1000; decide), ?_⟩
      generalize eu : upd H1 r (HO.ins Cr dx1 _) = H2
      have b2 : But r H1 H2 := by
        rw [← eu]
        exact But.refl.upd
      have h23 : H2 r = some (.ins Cr dx1 [("whole", .ref t), ("at", .int (i : Int))]) := by
        rw [← eu]
        exact upd_same
      clear eu
      have R2 : Rd Cr H2 r t bs i := ⟨le, ⟨dx1, h23⟩, b2 _ _ ne h12, ne⟩
      refine ⟨_, rfl, rfl, _, rfl, ?_⟩
      rw [show decide (V.str ⟨#[99]⟩ = V.str "u") = false from by decide +kernel]
      refine iteF ?_
      refine ⟨_, rfl, r, dx1, _, rfl, h23, rfl, _, rfl, r, t, bs, i, .code F cs, post, _, rfl, ⟨cd, rfl, hcd⟩, R2, hd, ⟨hok, rfl⟩, fun v2 H3 b3 R3 hv2 => ?_⟩
      exact q _ H3 ((b1.trans b2).trans b3) R3 hv2
end
end K52
set_option maxHeartbeats 4000000
namespace K52
open PySem PySem.Spec PyProof.Rows L2 Nd
/-! ### k52: the reader: read_constants, read_code -/
theorem plus_c : plainL ++ ("c" : Str) = plainC := by decide +kernel
theorem nes {v : V} : (!decide (v = v)) = false := by rw [decide_eq_true rfl]; rfl
theorem Rd.at {Cr : Addr} {H : Hp} {r t : Addr} {bs : List Int} {i j : Nat} (h : Rd Cr H r t bs i) (e : i = j) : Rd Cr H r t bs j := e ▸ h
theorem okK.code {n : Nat} {F : FD} {cs : List Kd} (h : okK (n + 1) (.code F cs)) : ∃ M e, Gk 3 M (e + 1) (.code F cs) ∧ FldS M F ∧ M ≤ 1000 ∧ e ≤ 90 ∧ cs.length ≤ 1000 ∧ ∀ k ∈ cs, okK n k := by
  obtain ⟨M, e, g, hM, hd, he⟩ := h
  rw [dep] at hd
  cases g with
  | flat g => cases g
  | @code e _ _ hF hl hc => exact ⟨M, e, .code hF hl hc, hF, hM, by omega, Nat.le_trans hl (by decide), fun k hk => ⟨M, e, hc k hk, hM, Nat.lt_of_le_of_lt (dep_mem hk) (by omega), by omega⟩⟩
section
variable {P : Program} {w : World} {K : PySem.W.Frag} {mg : Str → Option Value} {base : Heap} {Cc Cr dL Cn fI : Addr}
abbrev N_Reader_read_constants : List Str := ["self", "codes", "begin", "turn"]
theorem sc_Reader_read_constants : FnScope N_Reader_read_constants ["self", "codes"] (defScope s_Reader_read_constants) := ⟨rfl, rfl, rfl, by decide +kernel, rfl, by decide +kernel, by decide +kernel⟩
theorem ok_Reader_read_constants {f : Addr} {fd : FuncData} (n : Nat) (nc : Cc ≠ Cr) (T : GlR mg K w Cr dL) (m_read_letter : CalM P w K mg base Cr "read_letter" 2 (spLetter Cr)) (m_read_length : CalM P w K mg base Cr "read_length" 3 (spLength Cr))
    (m_read_constant : CalM P w K mg base Cr "read_constant" (3 * n + 10) (spRC Cc Cr n)) (F : MetX K "read_constants" "Reader.read_constants" s_Reader_read_constants ["self", "codes"] f fd) : FnOk P w K mg base (L2.CX P w) (3 * n + 11) f fd ["self", "codes"] (spRK Cc Cr n) := by
  refine F.fn.ok sc_Reader_read_constants (fun vs H Q E h => ?_) (fun cdv A outer s H vs Q E hr h => ?_)
  · obtain ⟨r, t, bs, i, x, post, as, rfl, ⟨cd, rfl, _⟩, _⟩ := h
    rfl
  · obtain ⟨r, t, bs, i, ks, post, as, rfl, ⟨cd, rfl, hcd, hdp⟩, R, hd, ⟨hl, hks⟩, q⟩ := h
    have lv2 : 2 ≤ 3 * n + 10 := by omega
    have lv3 : 3 ≤ 3 * n + 10 := by omega
    have lv5 : 3 * n + 10 ≤ 3 * n + 10 := by omega
    refine ⟨_, PSs.nox (pss_cons (ps_set (i := 2) sc_Reader_read_constants.nd rfl (.inl rfl) (pe_fld (pv 0) rfl))
    (pss_cons (ps_expr (pe_cm m_read_letter (pv 0) T.cl hr lv2 passL (pa_cons pe_str pa_nil)))
    (pss_one (ps_ret (pe_callTy call_tuple_of (by rfl) T.n_tuple Boot.«tuple» (pa_cons (pe_lc (own := [("turn", 3)]) (g := gName 3) (tt := tYes) rfl sc_Reader_read_constants.nd (pi_range1 (by rfl) T.n_range (pa_cons (pe_cm m_read_length (pv 0) T.cl hr lv3 passL (pa_cons (pv 2) pa_nil)) pa_nil)) (blkOk_by (own := [("turn", 3)]) (N := N_Reader_read_constants) (sc := defScope s_Reader_read_constants) (by decide +kernel)) (fun _ _ _ _ _ => (pg_name (i := 3) sc_Reader_read_constants.nd rfl (Or.inl rfl))) (fun _ _ _ _ _ => pts_nil) (fun _ _ _ _ _ => (pe_cm m_read_constant (pv 0) T.cl hr lv5 passL (pa_cons (pe_op op_add_str (C8.pe_gc rfl T.c_PLAIN) pe_str) (pa_cons pe_int (pa_cons (pe_op op_add (pv 1) pe_int) pa_nil)))))) pa_nil)))))), ?_⟩
    obtain ⟨le, ⟨dx, h1⟩, h2, ne⟩ := id R
    obtain ⟨ps, hps⟩ : ∃ ps, ps = ks.map wr := ⟨_, rfl⟩
    have hpl : ps.length = ks.length := by rw [hps, List.length_map]
    have hd : bs.drop i = 40 :: (fourW ks.length ++ ps.flatten) ++ post := by
      rw [← hpl, hps]
      exact hd
    refine ⟨_, rfl, r, Cr, dx, _, _, rfl, h1, T.cl, T.na2, rfl, ?_⟩
    refine ⟨_, rfl, r, dx, _, rfl, h1, rfl, r, t, bs, i, ("(", 40), _, _, rfl, rfl, R, hd, ⟨by decide, by decide, by decide⟩, fun v H1 b1 R1 hv => ?_⟩
    have d1 : bs.drop (i + 1) = fourW ks.length ++ (ps.flatten ++ post) := by
      have e : bs.drop (i + 1) = (fourW ks.length ++ ps.flatten) ++ post := drop_next (w := [40]) hd
      rw [e, List.append_assoc]
    obtain ⟨le1, ⟨dx1, h11⟩, _, _⟩ := id R1
    refine ⟨_, rfl, r, dx1, _, rfl, h11, rfl, _, rfl, r, t, bs, i + 1, ks.length, _, _, rfl, ⟨_, rfl⟩, R1, d1, ⟨by omega, by omega⟩, fun v2 H2 b2 R2 hv2 => ?_⟩
    have hv2 : v2 = .int (ks.length : Int) := hv2
    subst hv2
    have d2 : bs.drop (i + 1 + 4) = ps.flatten ++ post := drop_next (w := fourW ks.length) d1
    refine ⟨_, rfl, by omega, by omega, fun D nD => ?_⟩
    have neD : D ≠ r := fun e => by
      obtain ⟨_, ⟨dx2, h22⟩, _, _⟩ := id R2
      rw [e, h22] at nD
      cases nD
    refine lc_range (lo := 0) (n := ks.length) (fun j H' => But r H2 H' ∧ Rd Cr H' r t bs (i + 1 + 4 + (ps.take j).flatten.length) ∧ ∃ vs, H' D = some (.lst vs) ∧ KvAll Cc H' vs (ks.take j)) ⟨But.of (Same.new nD), R2.same (Same.new nD), [], upd_same, .nil⟩ ?_ ?_
    · rintro j H' hj ⟨b3, R3, vs, hD, hvs⟩
      have hxj : ks[j]? = some (ks[j]'hj) := by simp [hj]
      have hxm := List.getElem_mem hj
      generalize ks[j]'hj = x at hxj hxm
      have hpj : ps[j]? = some (wr x) := by rw [hps, List.getElem?_map, hxj]; rfl
      have hdx := dep_mem hxm
      refine ⟨rfl, ?_⟩
      unfold tYes
      obtain ⟨le3, ⟨dx3, h33⟩, _, _⟩ := id R3
      refine iteT ⟨_, rfl, r, dx3, _, rfl, h33, rfl, _, _, rfl, rfl, (by decide +kernel), _, rfl, _, _, rfl, rfl, r, t, bs, _, x, _, _, rfl, ⟨plainC, 0, cd + 1, (by rw [← plus_c]; rfl), .inl rfl, by omega, by omega⟩, R3, parts_at d2 hpj, hks x hxm, fun v4 H4 b4 R4 hv4 => ?_⟩
      have hD4 := b4 _ _ neD hD
      refine ⟨_, hD4, ?_, fun b o n e => ?_, ?_, vs ++ [v4], upd_same, ?_⟩
      · rw [hvs.len, List.length_take]
        exact Nat.lt_of_le_of_lt (Nat.le_trans (Nat.min_le_right _ _) hl) (by decide)
      · rw [upd_ne (ne_of_none e nD)]
        exact b4 _ _ n (b3 _ _ n e)
      · rw [parts_next hpj, ← Nat.add_assoc]
        obtain ⟨le4, ⟨dx4, h44⟩, h45, ne4⟩ := R4
        refine ⟨le4, ⟨dx4, by rw [upd_ne (Ne.symm neD)]; exact h44⟩, ?_, ne4⟩
        rw [upd_ne (fun e => by rw [e, hD4] at h45; cases h45)]
        exact h45
      · rw [List.take_add_one, hxj]
        exact ((hvs.kpr nc (R3.kpr b4)).snoc hv4).kp (Kp.mut hD4)
    · rintro H' ⟨b3, R3, vs, hD, hvs⟩
      rw [List.take_of_length_le (Nat.le_refl _)] at hvs
      rw [List.take_of_length_le (by rw [hpl]; exact Nat.le_refl _)] at R3
      refine ⟨D, _, rfl, .inl ⟨SqL.of hD, fun p np => ?_⟩⟩
      have sn := Same.new (o := .tup vs) np
      refine q _ _ (((b1.trans b2).trans b3).trans (But.of sn)) ?_ ⟨p, vs, rfl, upd_same, hvs.kp (.same sn)⟩
      have e : i + (partsW (ks.map wr)).length = i + 1 + 4 + ps.flatten.length := by
        rw [partsW_len, ← hps]
        omega
      rw [e]
      exact R3.same sn
abbrev N_Reader_read_code : List Str := ["self", "codes", "argcount", "onlycount", "stacksize", "flags", "code", "constants", "names", "slots", "begin", "kinds", "name", "path", "line", "lines", "handlers"]
theorem sc_Reader_read_code : FnScope N_Reader_read_code ["self", "codes"] (defScope s_Reader_read_code) := ⟨rfl, rfl, rfl, by decide +kernel, rfl, by decide +kernel, by decide +kernel⟩
theorem rd_step {f fN : Addr} {fd fdN : FuncData} {ps : List Str} (n : Nat) (nc : Cc ≠ Cr) (T : GlR mg K w Cr dL) (G : GlK P K mg Cc Cn fI) (M : Mk K Cc fN) (FN : FnOk P w K mg base (L2.CX P w) 8 fN fdN ps (spInit Cc 3)) (BN : Binds K fdN ps [])
    (m_read_letter : CalM P w K mg base Cr "read_letter" 2 (spLetter Cr)) (m_read_count : CalM P w K mg base Cr "read_count" 3 (spCount Cr)) (m_read_zero : CalM P w K mg base Cr "read_zero" 3 (spZero Cr)) (m_read_bytes : CalM P w K mg base Cr "read_bytes" 4 (spBytesR Cr)) (m_read_string : CalM P w K mg base Cr "read_string" 4 (spStringR Cr)) (m_read_strings : CalM P w K mg base Cr "read_strings" 5 (spStringsR Cr))
    (m_read_constants : CalM P w K mg base Cr "read_constants" (3 * n + 11) (spRK Cc Cr n)) (F : MetX K "read_code" "Reader.read_code" s_Reader_read_code ["self", "codes"] f fd) : FnOk P w K mg base (L2.CX P w) (3 * n + 12) f fd ["self", "codes"] (spRD Cc Cr n) := by
  refine F.fn.ok sc_Reader_read_code (fun vs H Q E h => ?_) (fun cdv A outer s H vs Q E hr h => ?_)
  · obtain ⟨r, t, bs, i, x, post, as, rfl, ⟨cd, rfl, _⟩, _⟩ := h
    rfl
  · obtain ⟨r, t, bs, i, k, post, as, rfl, ⟨cd, rfl, hcd⟩, R, hd, ⟨hok, hck⟩, q⟩ := h
    have lv2 : 2 ≤ 3 * n + 11 := by omega
    have lv3 : 3 ≤ 3 * n + 11 := by omega
    have lv4 : 4 ≤ 3 * n + 11 := by omega
    have lv5 : 5 ≤ 3 * n + 11 := by omega
    have lv6 : 3 * n + 11 ≤ 3 * n + 11 := by omega
    have lv9 : 9 ≤ 3 * n + 11 := by omega
    refine ⟨_, PSs.nox (pss_cons (ps_expr (pe_cm m_read_letter (pv 0) T.cl hr lv2 passL (pa_cons pe_str pa_nil)))
    (pss_cons (ps_set (i := 2) sc_Reader_read_code.nd rfl (.inl rfl) (pe_cm0 m_read_count (pv 0) T.cl hr lv3 passL))
    (pss_cons (ps_expr (pe_cm0 m_read_zero (pv 0) T.cl hr lv3 passL))
    (pss_cons (ps_par3 (i := 3) (j := 4) (l := 5) (by rfl) sc_Reader_read_code.nd rfl rfl rfl (by decide) (by decide) (by decide) rfl rfl rfl (pa_cons (pe_cm0 m_read_count (pv 0) T.cl hr lv3 passL) (pa_cons (pe_cm0 m_read_count (pv 0) T.cl hr lv3 passL) (pa_cons (pe_cm0 m_read_count (pv 0) T.cl hr lv3 passL) pa_nil))) (by rfl))
    (pss_cons (ps_par (i := 6) (j := 7) (by rfl) sc_Reader_read_code.nd rfl rfl (by decide) rfl rfl (pa_cons (pe_cm0 m_read_bytes (pv 0) T.cl hr lv4 passL) (pa_cons (pe_cm m_read_constants (pv 0) T.cl hr lv6 passL (pa_cons (pv 1) pa_nil)) pa_nil)) (by rfl))
    (pss_cons (ps_par (i := 8) (j := 9) (by rfl) sc_Reader_read_code.nd rfl rfl (by decide) rfl rfl (pa_cons (pe_cm0 m_read_strings (pv 0) T.cl hr lv5 passL) (pa_cons (pe_cm0 m_read_strings (pv 0) T.cl hr lv5 passL) pa_nil)) (by rfl))
    (pss_cons (ps_set (i := 10) sc_Reader_read_code.nd rfl (.inl rfl) (pe_fld (pv 0) rfl))
    (pss_cons (ps_set (i := 11) sc_Reader_read_code.nd rfl (.inl rfl) (pe_cm0 m_read_bytes (pv 0) T.cl hr lv4 passL))
    (pss_cons (ps_if (pt_cmpR op_ne (pe_callB call_len_seq (by rfl) T.n_len Boot.«len» (pa_cons (pv 11) pa_nil)) (pe_callB call_len_seq (by rfl) T.n_len Boot.«len» (pa_cons (pv 9) pa_nil)) (nomark _))
      (pss_one ps_never)
      pss_nil)
    (pss_cons (ps_set (i := 10) sc_Reader_read_code.nd rfl (.inl rfl) (pe_fld (pv 0) rfl))
    (pss_cons (ps_if (pt_cmpR op_ne (pe_cm0 m_read_string (pv 0) T.cl hr lv4 passL) (C8.pe_gc rfl T.c_PLACE) (nomark _))
      (pss_one ps_never)
      pss_nil)
    (pss_cons (ps_par3 (i := 12) (j := 13) (l := 14) (by rfl) sc_Reader_read_code.nd rfl rfl rfl (by decide) (by decide) (by decide) rfl rfl rfl (pa_cons (pe_cm0 m_read_string (pv 0) T.cl hr lv4 passL) (pa_cons (pe_cm0 m_read_string (pv 0) T.cl hr lv4 passL) (pa_cons (pe_cm0 m_read_count (pv 0) T.cl hr lv3 passL) pa_nil))) (by rfl))
    (pss_cons (ps_par (i := 15) (j := 16) (by rfl) sc_Reader_read_code.nd rfl rfl (by decide) rfl rfl (pa_cons (pe_cm0 m_read_bytes (pv 0) T.cl hr lv4 passL) (pa_cons (pe_cm0 m_read_bytes (pv 0) T.cl hr lv4 passL) pa_nil)) (by rfl))
    (pss_one (ps_ret (pe_make M FN (hr.mono lv9) rfl (GlK.gC G) BN .nil passL (pa_cons (pv 2) (pa_cons (pv 3) (pa_cons (pv 4) (pa_cons (pv 5) (pa_cons (pv 6) (pa_cons (pv 7) (pa_cons (pv 8) (pa_cons (pv 9) (pa_cons (pv 11) (pa_cons (pv 12) (pa_cons (pv 13) (pa_cons (pv 14) (pa_cons (pv 15) (pa_cons (pv 16) pa_nil)))))))))))))))))))))))))))))), ?_⟩
    cases k with
    | code F cs =>
      obtain ⟨M, e, hg, hF, hM, he, hcl, hcs⟩ := hok.code
      rw [dep] at hcd
      have i32 : ∀ {m : Nat}, m ≤ 1000 → m ≤ 2147483647 := fun h => by omega
      have tx : ∀ {xs : List Str}, (∀ x ∈ xs, x.cps.size ≤ M ∧ OkS x) → ∀ x ∈ xs, okT x := fun h x hx => ⟨(h x hx).2, Nat.le_trans (h x hx).1 hM⟩
      have d0 : bs.drop i = [99] ++ (fourW F.i1 ++ (fourW 0 ++ (fourW F.i2 ++ (fourW F.i3 ++ (fourW F.i4 ++ (rowW F.code ++ (partsW (cs.map wr) ++ (partsW (F.names.map strW) ++ (partsW (F.slots.map strW) ++ (rowW F.kinds ++ (strW "<tree>" ++ (strW F.name ++ (strW F.path ++ (fourW F.line ++ (rowW F.lines ++ (rowW F.handlers ++ post)))))))))))))))) := by
        rw [hd, wr, wrL_map]
        simp only [List.append_assoc, List.cons_append, List.nil_append]
      have lenW : (wr (.code F cs)).length = 1 + (4 + (4 + (4 + (4 + (4 + ((rowW F.code).length + ((partsW (cs.map wr)).length + ((partsW (F.names.map strW)).length + ((partsW (F.slots.map strW)).length + ((rowW F.kinds).length + ((strW "<tree>").length + ((strW F.name).length + ((strW F.path).length + (4 + ((rowW F.lines).length + (rowW F.handlers).length))))))))))))))) := by
        rw [wr, wrL_map]
        simp only [List.length_append, List.length_cons, fourW_len]
        omega
      rw [lenW] at q
      clear hd lenW
      generalize i = i0 at R d0 q
      obtain ⟨le0, ⟨dx0, z0⟩, _, _⟩ := id R
      refine ⟨_, rfl, r, dx0, _, rfl, z0, rfl, r, t, bs, i0, ("c", 99), _, _, rfl, rfl, R, d0, ⟨by decide, by decide, by decide⟩, fun v0 H1 b0 R1 hv0 => ?_⟩
      have d1 := drop_next d0
      have kp0 := R.kpr b0
      obtain ⟨i1, hi0⟩ : ∃ j, j = i0 + ([(99 : Int)]).length := ⟨_, rfl⟩
      have R1 : Rd Cr H1 r t bs i1 := by
        rw [hi0]
        exact R1
      rw [← hi0] at d1
      obtain ⟨le1, ⟨dx1, z1⟩, _, _⟩ := id R1
      refine ⟨_, rfl, r, dx1, _, rfl, z1, rfl, r, t, bs, i1, F.i1, _, _, rfl, rfl, R1, d1, hF.n1, fun v1 H2 b1 R2 hv1 => ?_⟩
      have d2 := drop_next d1
      have kp1 := R1.kpr b1
      have hv1 : v1 = .int (F.i1) := hv1
      subst hv1
      obtain ⟨i2, hi1⟩ : ∃ j, j = i1 + (fourW F.i1).length := ⟨_, rfl⟩
      have R2 : Rd Cr H2 r t bs i2 := by
        rw [hi1]
        exact R2
      rw [← hi1] at d2
      obtain ⟨le2, ⟨dx2, z2⟩, _, _⟩ := id R2
      refine ⟨_, rfl, r, dx2, _, rfl, z2, rfl, r, t, bs, i2, (0 : Int), _, _, rfl, rfl, R2, d2, rfl, fun v2 H3 b2 R3 hv2 => ?_⟩
      have d3 := drop_next d2
      have kp2 := R2.kpr b2
      obtain ⟨i3, hi2⟩ : ∃ j, j = i2 + (fourW 0).length := ⟨_, rfl⟩
      have R3 : Rd Cr H3 r t bs i3 := by
        rw [hi2]
        exact R3
      rw [← hi2] at d3
      obtain ⟨le3, ⟨dx3, z3⟩, _, _⟩ := id R3
      refine ⟨_, rfl, r, dx3, _, rfl, z3, rfl, r, t, bs, i3, F.i2, _, _, rfl, rfl, R3, d3, hF.n2, fun v3 H4 b3 R4 hv3 => ?_⟩
      have d4 := drop_next d3
      have kp3 := R3.kpr b3
      have hv3 : v3 = .int (F.i2) := hv3
      subst hv3
      obtain ⟨i4, hi3⟩ : ∃ j, j = i3 + (fourW F.i2).length := ⟨_, rfl⟩
      have R4 : Rd Cr H4 r t bs i4 := by
        rw [hi3]
        exact R4
      rw [← hi3] at d4
      obtain ⟨le4, ⟨dx4, z4⟩, _, _⟩ := id R4
      refine ⟨_, rfl, r, dx4, _, rfl, z4, rfl, r, t, bs, i4, F.i3, _, _, rfl, rfl, R4, d4, hF.n3, fun v4 H5 b4 R5 hv4 => ?_⟩
      have d5 := drop_next d4
      have kp4 := R4.kpr b4
      have hv4 : v4 = .int (F.i3) := hv4
      subst hv4
      obtain ⟨i5, hi4⟩ : ∃ j, j = i4 + (fourW F.i3).length := ⟨_, rfl⟩
      have R5 : Rd Cr H5 r t bs i5 := by
        rw [hi4]
        exact R5
      rw [← hi4] at d5
      obtain ⟨le5, ⟨dx5, z5⟩, _, _⟩ := id R5
      refine ⟨_, rfl, r, dx5, _, rfl, z5, rfl, r, t, bs, i5, F.i4, _, _, rfl, rfl, R5, d5, hF.n4, fun v5 H6 b5 R6 hv5 => ?_⟩
      have d6 := drop_next d5
      have kp5 := R5.kpr b5
      have hv5 : v5 = .int (F.i4) := hv5
      subst hv5
      obtain ⟨i6, hi5⟩ : ∃ j, j = i5 + (fourW F.i4).length := ⟨_, rfl⟩
      have R6 : Rd Cr H6 r t bs i6 := by
        rw [hi5]
        exact R6
      rw [← hi5] at d6
      refine ⟨_, _, _, rfl, ?_⟩
      obtain ⟨le6, ⟨dx6, z6⟩, _, _⟩ := id R6
      refine ⟨_, rfl, r, dx6, _, rfl, z6, rfl, r, t, bs, i6, F.code, _, _, rfl, rfl, R6, d6, i32 (Nat.le_trans hF.code.2 hM), fun v6 H7 b6 R7 hv6 => ?_⟩
      have d7 := drop_next d6
      have kp6 := R6.kpr b6
      obtain ⟨tc, rfl, gc⟩ := hv6
      obtain ⟨i7, hi6⟩ : ∃ j, j = i6 + (rowW F.code).length := ⟨_, rfl⟩
      have R7 : Rd Cr H7 r t bs i7 := by
        rw [hi6]
        exact R7
      rw [← hi6] at d7
      obtain ⟨le7, ⟨dx7, z7⟩, _, _⟩ := id R7
      refine ⟨_, rfl, r, dx7, _, rfl, z7, rfl, _, rfl, r, t, bs, i7, cs, _, _, rfl, ⟨cd, rfl, by omega, by omega⟩, R7, d7, ⟨hcl, hcs⟩, fun v7 H8 b7 R8 hv7 => ?_⟩
      have d8 := drop_next d7
      have kp7 := R7.kpr b7
      replace gc := kp7.tup gc
      obtain ⟨tk, vs, rfl, gk, gv⟩ := hv7
      obtain ⟨i8, hi7⟩ : ∃ j, j = i7 + (partsW (cs.map wr)).length := ⟨_, rfl⟩
      have R8 : Rd Cr H8 r t bs i8 := by
        rw [hi7]
        exact R8
      rw [← hi7] at d8
      refine ⟨_, _, rfl, ?_⟩
      obtain ⟨le8, ⟨dx8, z8⟩, _, _⟩ := id R8
      refine ⟨_, rfl, r, dx8, _, rfl, z8, rfl, r, t, bs, i8, F.names, _, _, rfl, rfl, R8, d8, ⟨Nat.le_trans hF.names.2 hM, tx hF.names.1⟩, fun v8 H9 b8 R9 hv8 => ?_⟩
      have d9 := drop_next d8
      have kp8 := R8.kpr b8
      replace gc := kp8.tup gc
      replace gk := kp8.tup gk
      replace gv := gv.kpr nc kp8
      obtain ⟨tn, rfl, gn⟩ := hv8
      obtain ⟨i9, hi8⟩ : ∃ j, j = i8 + (partsW (F.names.map strW)).length := ⟨_, rfl⟩
      have R9 : Rd Cr H9 r t bs i9 := by
        rw [hi8]
        exact R9
      rw [← hi8] at d9
      obtain ⟨le9, ⟨dx9, z9⟩, _, _⟩ := id R9
      refine ⟨_, rfl, r, dx9, _, rfl, z9, rfl, r, t, bs, i9, F.slots, _, _, rfl, rfl, R9, d9, ⟨Nat.le_trans hF.slots.2 hM, tx hF.slots.1⟩, fun v9 H10 b9 R10 hv9 => ?_⟩
      have d10 := drop_next d9
      have kp9 := R9.kpr b9
      replace gc := kp9.tup gc
      replace gk := kp9.tup gk
      replace gv := gv.kpr nc kp9
      replace gn := kp9.tup gn
      obtain ⟨ts, rfl, gs⟩ := hv9
      obtain ⟨i10, hi9⟩ : ∃ j, j = i9 + (partsW (F.slots.map strW)).length := ⟨_, rfl⟩
      have R10 : Rd Cr H10 r t bs i10 := by
        rw [hi9]
        exact R10
      rw [← hi9] at d10
      refine ⟨_, _, rfl, ?_⟩
      exact joinS (c := fun σ J => (σ = [some (.ref r), some (.int cd), some (.int F.i1), some (.int F.i2), some (.int F.i3), some (.int F.i4), some (.ref tc), some (.ref tk), some (.ref tn), some (.ref ts), none, none, none, none, none, none, none]) ∧ H10 = J) (fun rest => by
        refine rest H10 _ ⟨?_, rfl⟩
        kernel_rfl) (fun J σ hJ => by
        obtain ⟨rfl, hJ⟩ := hJ
        subst hJ
        obtain ⟨_, ⟨dy10, y10⟩, _, _⟩ := id R10
        refine ⟨_, rfl, r, Cr, dy10, _, _, rfl, y10, T.cl, T.na2, rfl, ?_⟩
        obtain ⟨le10, ⟨dx10, z10⟩, _, _⟩ := id R10
        refine ⟨_, rfl, r, dx10, _, rfl, z10, rfl, r, t, bs, i10, F.kinds, _, _, rfl, rfl, R10, d10, i32 (Nat.le_trans hF.kinds.2 hM), fun v10 H11 b10 R11 hv10 => ?_⟩
        have d11 := drop_next d10
        have kp10 := R10.kpr b10
        replace gc := kp10.tup gc
        replace gk := kp10.tup gk
        replace gv := gv.kpr nc kp10
        replace gn := kp10.tup gn
        replace gs := kp10.tup gs
        obtain ⟨tq, rfl, gq⟩ := hv10
        obtain ⟨i11, hi10⟩ : ∃ j, j = i10 + (rowW F.kinds).length := ⟨_, rfl⟩
        have R11 : Rd Cr H11 r t bs i11 := by
          rw [hi10]
          exact R11
        rw [← hi10] at d11
        refine ⟨_, rfl, tq, _, rfl, .inr (SqT.of gq), _, rfl, ts, _, rfl, .inr (SqT.of gs), rfl, _, rfl, ?_⟩
        rw [List.length_map, List.length_map, hF.klen, nes]
        refine iteF ?_
        obtain ⟨_, ⟨dy11, y11⟩, _, _⟩ := id R11
        refine ⟨_, rfl, r, Cr, dy11, _, _, rfl, y11, T.cl, T.na2, rfl, ?_⟩
        obtain ⟨le11, ⟨dx11, z11⟩, _, _⟩ := id R11
        refine ⟨_, rfl, r, dx11, _, rfl, z11, rfl, r, t, bs, i11, ("<tree>" : Str), _, _, rfl, rfl, R11, d11, ⟨oks_by (by decide +kernel), by decide +kernel⟩, fun v11 H12 b11 R12 hv11 => ?_⟩
        have d12 := drop_next d11
        have kp11 := R11.kpr b11
        replace gc := kp11.tup gc
        replace gk := kp11.tup gk
        replace gv := gv.kpr nc kp11
        replace gn := kp11.tup gn
        replace gs := kp11.tup gs
        replace gq := kp11.tup gq
        have hv11 : v11 = .str "<tree>" := hv11
        subst hv11
        obtain ⟨i12, hi11⟩ : ∃ j, j = i11 + (strW "<tree>").length := ⟨_, rfl⟩
        have R12 : Rd Cr H12 r t bs i12 := by
          rw [hi11]
          exact R12
        rw [← hi11] at d12
        refine ⟨rfl, _, rfl, ?_⟩
        rw [nes]
        refine iteF ?_
        obtain ⟨le12, ⟨dx12, z12⟩, _, _⟩ := id R12
        refine ⟨_, rfl, r, dx12, _, rfl, z12, rfl, r, t, bs, i12, F.name, _, _, rfl, rfl, R12, d12, ⟨hF.name.2, Nat.le_trans hF.name.1 hM⟩, fun v12 H13 b12 R13 hv12 => ?_⟩
        have d13 := drop_next d12
        have kp12 := R12.kpr b12
        replace gc := kp12.tup gc
        replace gk := kp12.tup gk
        replace gv := gv.kpr nc kp12
        replace gn := kp12.tup gn
        replace gs := kp12.tup gs
        replace gq := kp12.tup gq
        have hv12 : v12 = .str F.name := hv12
        subst hv12
        obtain ⟨i13, hi12⟩ : ∃ j, j = i12 + (strW F.name).length := ⟨_, rfl⟩
        have R13 : Rd Cr H13 r t bs i13 := by
          rw [hi12]
          exact R13
        rw [← hi12] at d13
        obtain ⟨le13, ⟨dx13, z13⟩, _, _⟩ := id R13
        refine ⟨_, rfl, r, dx13, _, rfl, z13, rfl, r, t, bs, i13, F.path, _, _, rfl, rfl, R13, d13, ⟨hF.path.2, Nat.le_trans hF.path.1 hM⟩, fun v13 H14 b13 R14 hv13 => ?_⟩
        have d14 := drop_next d13
        have kp13 := R13.kpr b13
        replace gc := kp13.tup gc
        replace gk := kp13.tup gk
        replace gv := gv.kpr nc kp13
        replace gn := kp13.tup gn
        replace gs := kp13.tup gs
        replace gq := kp13.tup gq
        have hv13 : v13 = .str F.path := hv13
        subst hv13
        obtain ⟨i14, hi13⟩ : ∃ j, j = i13 + (strW F.path).length := ⟨_, rfl⟩
        have R14 : Rd Cr H14 r t bs i14 := by
          rw [hi13]
          exact R14
        rw [← hi13] at d14
        obtain ⟨le14, ⟨dx14, z14⟩, _, _⟩ := id R14
        refine ⟨_, rfl, r, dx14, _, rfl, z14, rfl, r, t, bs, i14, F.line, _, _, rfl, rfl, R14, d14, hF.line, fun v14 H15 b14 R15 hv14 => ?_⟩
        have d15 := drop_next d14
        have kp14 := R14.kpr b14
        replace gc := kp14.tup gc
        replace gk := kp14.tup gk
        replace gv := gv.kpr nc kp14
        replace gn := kp14.tup gn
        replace gs := kp14.tup gs
        replace gq := kp14.tup gq
        have hv14 : v14 = .int (F.line) := hv14
        subst hv14
        obtain ⟨i15, hi14⟩ : ∃ j, j = i14 + (fourW F.line).length := ⟨_, rfl⟩
        have R15 : Rd Cr H15 r t bs i15 := by
          rw [hi14]
          exact R15
        rw [← hi14] at d15
        refine ⟨_, _, _, rfl, ?_⟩
        obtain ⟨le15, ⟨dx15, z15⟩, _, _⟩ := id R15
        refine ⟨_, rfl, r, dx15, _, rfl, z15, rfl, r, t, bs, i15, F.lines, _, _, rfl, rfl, R15, d15, i32 (Nat.le_trans hF.lines.2 hM), fun v15 H16 b15 R16 hv15 => ?_⟩
        have d16 := drop_next d15
        have kp15 := R15.kpr b15
        replace gc := kp15.tup gc
        replace gk := kp15.tup gk
        replace gv := gv.kpr nc kp15
        replace gn := kp15.tup gn
        replace gs := kp15.tup gs
        replace gq := kp15.tup gq
        obtain ⟨tl, rfl, gl⟩ := hv15
        obtain ⟨i16, hi15⟩ : ∃ j, j = i15 + (rowW F.lines).length := ⟨_, rfl⟩
        have R16 : Rd Cr H16 r t bs i16 := by
          rw [hi15]
          exact R16
        rw [← hi15] at d16
        obtain ⟨le16, ⟨dx16, z16⟩, _, _⟩ := id R16
        refine ⟨_, rfl, r, dx16, _, rfl, z16, rfl, r, t, bs, i16, F.handlers, _, _, rfl, rfl, R16, d16, i32 (Nat.le_trans hF.handlers.2 hM), fun v16 H17 b16 R17 hv16 => ?_⟩
        have d17 := drop_next d16
        have kp16 := R16.kpr b16
        replace gc := kp16.tup gc
        replace gk := kp16.tup gk
        replace gv := gv.kpr nc kp16
        replace gn := kp16.tup gn
        replace gs := kp16.tup gs
        replace gq := kp16.tup gq
        replace gl := kp16.tup gl
        obtain ⟨th, rfl, gh⟩ := hv16
        obtain ⟨i17, hi16⟩ : ∃ j, j = i16 + (rowW F.handlers).length := ⟨_, rfl⟩
        have R17 : Rd Cr H17 r t bs i17 := by
          rw [hi16]
          exact R17
        rw [← hi16] at d17
        refine ⟨_, _, rfl, ?_⟩
        exact joinS (c := fun σ J => (∃ y : Option V, σ = [some (.ref r), some (.int cd), some (.int F.i1), some (.int F.i2), some (.int F.i3), some (.int F.i4), some (.ref tc), some (.ref tk), some (.ref tn), some (.ref ts), y, some (.ref tq), some (.str F.name), some (.str F.path), some (.int F.line), some (.ref tl), some (.ref th)]) ∧ H17 = J) (fun rest => by
          refine rest H17 _ ⟨⟨some (.int (i11 : Int)), ?_⟩, rfl⟩
          kernel_rfl) (fun J σ hJ => by
          obtain ⟨⟨y, rfl⟩, hJ⟩ := hJ
          subst hJ
          refine ⟨_, rfl, _, rfl, _, rfl, _, rfl, _, rfl, _, rfl, _, rfl, _, rfl, _, rfl, _, rfl, _, rfl, _, rfl, _, rfl, _, rfl, ?_⟩
          intro x dx nx nd ne
          have hsx : upd (upd H17 dx (.own x)) x (.ins Cc dx []) x = some (.ins Cc dx []) := upd_same
          have S8 : Same H17 (upd (upd H17 dx (.own x)) x (.ins Cc dx [])) := fun b o e => by
            rw [upd_ne (ne_of_none e nx), upd_ne (ne_of_none e nd)]
            exact e
          generalize upd (upd H17 dx (.own x)) x (.ins Cc dx []) = Hz at hsx S8
          have hcd : CdOk Cc 3 H17 (F.cd vs) := cdok_of he hM hg gv
          refine ⟨x, dx, tc, tk, tn, ts, tq, tl, th, F.cd vs, rfl, hsx, hcd.same' S8, .inr (S8 _ _ gc), .inr (S8 _ _ gk), .inr (S8 _ _ gn), .inr (S8 _ _ gs), .inr (S8 _ _ gq), .inr (S8 _ _ gl), .inr (S8 _ _ gh), fun H' m B hN hC => ⟨rfl, ?_⟩⟩
          have Sn : Same H17 H' := fun b o e => B b o (ne_of_none e nx) (S8 _ _ e)
          refine q _ H' (((((((((((((((((b0.trans b1).trans b2).trans b3).trans b4).trans b5).trans b6).trans b7).trans b8).trans b9).trans b10).trans b11).trans b12).trans b13).trans b14).trans b15).trans b16).trans (But.of Sn)) ?_ ?_
          · refine (R17.same Sn).at ?_
            rw [hi16, hi15, hi14, hi13, hi12, hi11, hi10, hi9, hi8, hi7, hi6, hi5, hi4, hi3, hi2, hi1, hi0]
            simp only [fourW_len, List.length_cons, List.length_nil]
            omega
          · exact KvAt.mk (D := F.cd vs) (Kp.same Sn) gv ⟨fun y hy j hj => hN.1 y hy j (hj.same S8), hN.2.imp (fun e => e) fun ⟨y, hy, j, hj, e⟩ => (by
              rcases hcd.consts y hy with h1 | ⟨j', h1⟩
              · exact absurd hj (KIn.noCode (h1.same S8))
              · obtain rfl : j' = j := KCode.one (fun a o e _ => S8 a o e) h1 hj
                exact ⟨y, hy, _, h1, e⟩)⟩ hC))
    | _ => cases hck
end
end K52
set_option maxHeartbeats 4000000
namespace K52
open PySem PySem.Spec PyProof.Rows L2 Nd
/-! ### k52: the reader by the fuel; read; written of what is no code -/
def spRInit (Cr : Addr) : Sp := fun vs H Q _ => ∃ (r dx t : Addr), vs = [.ref r, .ref t] ∧ H r = some (.ins Cr dx []) ∧ ∀ H', But r H H' → H' r = some (.ins Cr dx [("whole", .ref t), ("at", .int 0)]) → Q .non H'
def spRead (Cc : Addr) (n : Nat) : Sp := fun vs H Q _ => ∃ (a : Addr) (k : Kd), vs = [.ref a] ∧ LorT H a ((wr k).map V.int) ∧ okK (n + 1) k ∧ isCd k = true ∧ dep k ≤ 90 ∧ (∀ b ∈ wr k, 0 ≤ b ∧ b ≤ 255) ∧ ∀ v H', Same H H' → KvAt Cc H' v k → Q v H'
def spWrB (K : PySem.W.Frag) (Cn : Addr) : Sp := fun vs H Q E => ∃ x, vs = [x] ∧ Odd K H x ∧ errCode Cn H E
section
variable {P : Program} {w : World} {K : PySem.W.Frag} {mg : Str → Option Value} {base : Heap} {Cc Cr dL Cn fI : Addr}
abbrev N_Reader_init : List Str := ["self", "data"]
theorem sc_Reader_init : FnScope N_Reader_init ["self", "data"] (defScope s_Reader_init) := ⟨rfl, rfl, rfl, by decide +kernel, rfl, by decide +kernel, by decide +kernel⟩
theorem ok_Reader_init {f : Addr} {fd : FuncData} (T : GlR mg K w Cr dL) (F : MetX K "__init__" "Reader.__init__" s_Reader_init ["self", "data"] f fd) : FnOk P w K mg base (L2.CX P w) 1 f fd ["self", "data"] (spRInit Cr) := by
  refine F.fn.ok sc_Reader_init (fun vs H Q E h => ?_) (fun cdv A outer s H vs Q E hr h => ?_)
  · obtain ⟨r, dx, t, rfl, _⟩ := h
    rfl
  · obtain ⟨r, dx, t, rfl, h1, k⟩ := h
    refine ⟨_, PSs.nox (pss_cons (ps_fld (pv 0) (pv 1) rfl) (pss_one (ps_fld (pv 0) pe_int rfl))), ?_⟩
    refine ⟨_, rfl, _, rfl, r, Cr, dx, _, rfl, h1, T.cl, T.na1, (by show 0 < 1000; decide), ?_⟩
    generalize eu : upd H r (HO.ins Cr dx _) = H1
    have b1 : But r H H1 := by
      rw [← eu]
      exact But.refl.upd
    have h2 : H1 r = some (.ins Cr dx [("whole", .ref t)]) := by
      rw [← eu]
      exact upd_same
    clear eu
    refine ⟨_, rfl, r, Cr, dx, _, rfl, h2, T.cl, T.na2, (by show 1 < 1000; decide), ?_⟩
    exact k _ b1.upd upd_same
theorem rdr_all {fN f1 f2 f3 : Addr} {fdN fd1 fd2 fd3 : FuncData} {ps : List Str} (nc : Cc ≠ Cr) (T : GlR mg K w Cr dL) (G : GlK P K mg Cc Cn fI) (M : Mk K Cc fN) (FN : FnOk P w K mg base (L2.CX P w) 8 fN fdN ps (spInit Cc 3)) (BN : Binds K fdN ps [])
    (m_read_letter : CalM P w K mg base Cr "read_letter" 2 (spLetter Cr)) (m_read_length : CalM P w K mg base Cr "read_length" 3 (spLength Cr)) (m_read_count : CalM P w K mg base Cr "read_count" 3 (spCount Cr)) (m_read_four : CalM P w K mg base Cr "read_four" 2 (spFourR Cr)) (m_read_zero : CalM P w K mg base Cr "read_zero" 3 (spZero Cr)) (m_read_digits : CalM P w K mg base Cr "read_digits" 3 (spDigits Cr))
    (m_read_bytes : CalM P w K mg base Cr "read_bytes" 4 (spBytesR Cr)) (m_read_string : CalM P w K mg base Cr "read_string" 4 (spStringR Cr)) (m_read_strings : CalM P w K mg base Cr "read_strings" 5 (spStringsR Cr))
    (F1 : MetX K "read_constant" "Reader.read_constant" s_Reader_read_constant ["self", "letters", "nested", "codes"] f1 fd1) (M1 : Meth K Cr "read_constant" f1) (F2 : MetX K "read_constants" "Reader.read_constants" s_Reader_read_constants ["self", "codes"] f2 fd2) (M2 : Meth K Cr "read_constants" f2) (F3 : MetX K "read_code" "Reader.read_code" s_Reader_read_code ["self", "codes"] f3 fd3) (M3 : Meth K Cr "read_code" f3) :
    ∀ n, CalM P w K mg base Cr "read_constant" (3 * n + 10) (spRC Cc Cr n) ∧ CalM P w K mg base Cr "read_code" (3 * n + 12) (spRD Cc Cr n) := by
  have code : ∀ n, CalM P w K mg base Cr "read_constant" (3 * n + 10) (spRC Cc Cr n) → CalM P w K mg base Cr "read_code" (3 * n + 12) (spRD Cc Cr n) := fun n c =>
    ⟨_, _, _, rd_step n nc T G M FN BN m_read_letter m_read_count m_read_zero m_read_bytes m_read_string m_read_strings ⟨_, _, _, ok_Reader_read_constants n nc T m_read_letter m_read_length c F2, M2, F2.bi⟩ F3, M3, F3.bi⟩
  intro n
  induction n with
  | zero =>
    have c : CalM P w K mg base Cr "read_constant" (3 * 0 + 10) (spRC Cc Cr 0) := ⟨_, _, _, F1.fn.ok sc_Reader_read_constant (fun vs H Q E h => by
        obtain ⟨r, t, bs, i, k, post, as, rfl, ⟨z, nd, cd, rfl, _⟩, _⟩ := h
        rfl) (fun cdv A outer s H vs Q E hr h => by
        obtain ⟨r, t, bs, i, k, post, as, rfl, _, _, _, ⟨_, _, _, _, hd, _⟩, _⟩ := h
        exact absurd hd (Nat.not_lt_zero _)), M1, F1.bi⟩
    exact ⟨c, code 0 c⟩
  | succ n ih =>
    have c : CalM P w K mg base Cr "read_constant" (3 * (n + 1) + 10) (spRC Cc Cr (n + 1)) := ⟨_, _, _, rc_step n nc T m_read_letter m_read_length m_read_four m_read_digits m_read_string ih.1 ih.2 F1, M1, F1.bi⟩
    exact ⟨c, code (n + 1) c⟩
abbrev s_read : Stmt := top 40
abbrev N_read : List Str := ["data", "at", "byte", "reader", "code"]
theorem sc_read : FnScope N_read ["data"] (defScope s_read) := ⟨rfl, rfl, rfl, by decide +kernel, rfl, by decide +kernel, by decide +kernel⟩
theorem ok_read {f fR : Addr} {fd fdR : FuncData} {n : Nat} (T2 : Gl2 mg) (T : GlR mg K w Cr dL) (gR : mg "Reader" = some (.ref Cr)) (MR : Mk K Cr fR) (FR : FnOk P w K mg base (L2.CX P w) 1 fR fdR ["self", "data"] (spRInit Cr)) (BR : Binds K fdR ["self", "data"] []) (c_is_byte : CalX P w K mg base 1 "is_byte" spByte) (m_read_code : CalM P w K mg base Cr "read_code" (3 * n + 12) (spRD Cc Cr n))
    (F : DefX K mg "read" s_read ["data"] f fd) : FnOk P w K mg base (L2.CX P w) (3 * n + 13) f fd ["data"] (spRead Cc n) := by
  refine fnx F sc_read (fun vs H Q E h => ?_) (fun cdv A outer s H vs Q E hr h => ?_)
  · obtain ⟨a, k, rfl, _⟩ := h
    rfl
  · obtain ⟨a, k, rfl, ha, hk, hck, hd, hb, q⟩ := h
    have lv1 : 1 ≤ 3 * n + 12 := by omega
    have lv2 : 2 ≤ 3 * n + 12 := by omega
    have lv3 : 3 * n + 12 ≤ 3 * n + 12 := by omega
    refine ⟨_, (pss_cons (ps_if (pt_not (pt_val (pe_callB call_isiT (by rfl) T2.n_isinstance Boot.«isinstance» (pa_cons (pv 0) (pa_cons (pe_tup (pa_cons (pe_bltn (v := .ty "list") (by rfl) T2.n_list Boot.«list» rfl) (pa_cons (pe_bltn (v := .ty "tuple") (by rfl) T2.n_tuple Boot.«tuple» rfl) pa_nil))) pa_nil)))))
      (pss_one ps_never)
      pss_nil)
    (pss_cons (ps_for PassesOwn.never rfl (pi_enumB (by rfl) T.n_enumerate (pa_cons (pv 0) pa_nil)) (pg_tup (by rfl) (pgs_cons (pg_name (i := 1) sc_read.nd rfl (.inl rfl)) (pgs_cons (pg_name (i := 2) sc_read.nd rfl (.inl rfl)) pgs_nil)))
      (pss_one (ps_if (pt_not (pt_val (pe_cx c_is_byte hr lv1 rfl (pa_cons (pv 2) pa_nil))))
      (pss_one ps_never)
      pss_nil)))
    (pss_cons (ps_set (i := 3) sc_read.nd rfl (.inl rfl) (pe_make MR FR (hr.mono lv2) rfl gR BR .nil passL (pa_cons (pe_callTy call_tupleB (by rfl) T.n_tuple Boot.«tuple» (pa_cons (pv 0) pa_nil)) pa_nil)))
    (pss_cons (ps_set (i := 4) sc_read.nd rfl (.inl rfl) (pe_cm m_read_code (pv 3) T.cl hr lv3 passL (pa_cons pe_int pa_nil)))
    (pss_cons (ps_if (pt_cmpR op_lt (pe_fld (pv 3) rfl) (pe_callB call_len_seq (by rfl) T.n_len Boot.«len» (pa_cons (pv 0) pa_nil)) (nomark _))
      (pss_one ps_never)
      pss_nil)
    (pss_one (ps_ret (pv 4)))))))), ?_⟩
    refine ⟨_, rfl, (by show 2 ≤ sizeLine; decide), ?_⟩
    walk_at "new1"
    have ha1 := ha.same s1
    obtain ⟨t, ty, kt⟩ := ha1.ty (K := K)
    refine ⟨V.ref a, p1, _, .type t, _, true, rfl, h1, two_cls, ty, kt, _, rfl, iteF ?_⟩
    refine ⟨_, rfl, a, rfl, for_enumB (K := K) (a := a) (xs := (wr k).map V.int) ha1.sq (fun i σ H' => (∃ v1 v2, σ = [some (.ref a), v1, v2, none, none]) ∧ Same H1 H') ⟨⟨_, _, rfl⟩, Same.refl _⟩ (fun i σ H' _ p => p.2) ?_ ?_⟩
    · rintro i x σ H' t hi ⟨⟨v1, v2, rfl⟩, S⟩ nt
      rw [List.getElem?_map] at hi
      obtain ⟨z, hz, rfl⟩ := Option.map_eq_some_iff.mp hi
      obtain ⟨z0, z1⟩ := hb z (List.mem_of_getElem? hz)
      have st := Same.new (o := .tup [.int (i : Nat), .int z]) nt
      refine ⟨t, _, rfl, SqT.of upd_same, rfl, _, _, rfl, _, _, rfl, rfl, ?_⟩
      exact ⟨_, rfl, z, rfl, z0, z1, _, rfl, iteF ⟨⟨_, _, rfl⟩, S.trans st⟩⟩
    · rintro σ H2 ⟨⟨v1, v2, rfl⟩, S⟩
      have s2 := s1.trans S
      have ha2 := ha.same s2
      refine ⟨_, rfl, a, _, rfl, ha2, fun tp H3 s3 htp _ => ?_⟩
      intro r dx nr nd ne
      have hsx : upd (upd H3 dx (.own r)) r (.ins Cr dx []) r = some (.ins Cr dx []) := upd_same
      have S4 : Same H3 (upd (upd H3 dx (.own r)) r (.ins Cr dx [])) := fun b o e => by
        rw [upd_ne (ne_of_none e nr), upd_ne (ne_of_none e nd)]
        exact e
      generalize upd (upd H3 dx (.own r)) r (.ins Cr dx []) = H4 at hsx S4
      refine ⟨r, dx, tp, rfl, hsx, fun H5 b5 h5 => ⟨rfl, ?_⟩⟩
      have S5 : Same H3 H5 := fun b o e => b5 b o (ne_of_none e nr) (S4 _ _ e)
      have R : Rd Cr H5 r tp (wr k) 0 := ⟨Nat.zero_le _, ⟨dx, h5⟩, S5 _ _ htp, ne_of_none htp nr⟩
      refine ⟨_, rfl, r, dx, _, rfl, h5, rfl, r, tp, wr k, 0, k, [], _, rfl, ⟨0, rfl, by omega⟩, R, by rw [List.drop_zero, List.append_nil], ⟨hk, hck⟩, fun v H6 b6 R6 hv => ?_⟩
      obtain ⟨le6, ⟨dx6, h66⟩, _, _⟩ := id R6
      have S6 : Same H H6 := fun b o e => by
        have e3 := s3 _ _ (s2 _ _ e)
        exact b6 b o (ne_of_none e3 nr) (S5 _ _ e3)
      refine ⟨_, rfl, r, Cr, dx6, _, _, rfl, h66, T.cl, T.na2, rfl, ?_⟩
      rcases ha.same S6 with e6 | e6
      · refine ⟨_, rfl, a, _, rfl, .inl (SqL.of e6), _, _, rfl, rfl, _, rfl, ?_⟩
        rw [List.length_map, decide_eq_false (show ¬ (((0 + (wr k).length : Nat)) : Int) < ((wr k).length : Int) by omega)]
        exact iteF ⟨_, rfl, q v H6 S6 hv⟩
      · refine ⟨_, rfl, a, _, rfl, .inr (SqT.of e6), _, _, rfl, rfl, _, rfl, ?_⟩
        rw [List.length_map, decide_eq_false (show ¬ (((0 + (wr k).length : Nat)) : Int) < ((wr k).length : Int) by omega)]
        exact iteF ⟨_, rfl, q v H6 S6 hv⟩
theorem ok_written_odd {f : Addr} {fd : FuncData} (c_want_code : CalX P w K mg base 2 "want_code" (spWant K Cc Cn)) (F : DefX K mg "written" s_written ["code"] f fd) : CalX P w K mg base 3 "written" (spWrB K Cn) := by
  refine calr F sc_written (fun vs H Q E h => ?_) (fun cdv A outer s H vs Q E hr h => ?_)
  · obtain ⟨x, rfl, _⟩ := h
    rfl
  · obtain ⟨x, rfl, ho, he⟩ := h
    exact ⟨_, (pss_cons (ps_expr (pe_cr c_want_code hr (by decide) rfl (passE (E := E) (takes_of rfl rfl rfl rfl)) (pa_cons (pv 0) pa_nil))) pss_never), _, rfl, x, rfl, .inr ⟨ho, he⟩⟩
end
end K52
set_option maxHeartbeats 4000000
namespace K52
open PySem PySem.Spec PyProof.Rows L2 Nd
/-! ### k52: the law's own bytes: four, letter, integer, signs, row_of -/
def spLet : Sp := fun vs H Q _ => ∃ c : Nat, vs = [.str ⟨#[c]⟩] ∧ c ∈ lets ∧ ∀ H', Same H H' → Q (.int (c : Int)) H'
def spLInt : Sp := fun vs H Q _ => ∃ n : Int, vs = [.int n] ∧ n.natAbs < 2 ^ 3500 ∧ ∀ a H', H a = none → Same H H' → H' a = some (.lst ((intW n).map V.int)) → Q (.ref a) H'
def spLSigns : Sp := fun vs H Q _ => ∃ x : Str, vs = [.str x] ∧ x.cps.size ≤ wLine ∧ ∀ a H', H a = none → Same H H' → H' a = some (.lst ((x.cps.toList.map fun c : Nat => (c : Int)).map V.int)) → Q (.ref a) H'
theorem let_made : mergeK [] [(.inr "N", .int 78), (.inr "T", .int 84), (.inr "F", .int 70), (.inr "i", .int 105), (.inr "l", .int 108), (.inr "u", .int 117), (.inr "s", .int 115), (.inr "(", .int 40), (.inr "c", .int 99)] = kv tL := by kernel_rfl
structure GlL (mg : Str → Option Value) : Prop where
  n_int : mg "int" = none
  n_len : mg "len" = none
  n_range : mg "range" = none
  n_ord : mg "ord" = none
  n_list : mg "list" = none
section
variable {P : Program} {w : World} {K : PySem.W.Frag} {mg : Str → Option Value} {base : Heap}
abbrev s_law_four : Stmt := top 52
abbrev s_law_letter : Stmt := top 53
abbrev s_law_integer : Stmt := top 54
abbrev s_law_signs : Stmt := top 55
abbrev s_law_row_of : Stmt := top 57
abbrev N_law_four : List Str := ["number"]
theorem sc_law_four : FnScope N_law_four ["number"] (defScope s_law_four) := ⟨rfl, rfl, rfl, by decide +kernel, rfl, by decide +kernel, by decide +kernel⟩
theorem ok_law_four {f : Addr} {fd : FuncData} (T : GlL mg) (F : DefX K mg "_law_four" s_law_four ["number"] f fd) : CalX P w K mg base 1 "_law_four" spFour := by
  refine calx F sc_law_four (fun vs H Q E h => ?_) (fun cdv A outer s H vs Q E hr h => ?_)
  · obtain ⟨n, rfl, _⟩ := h
    rfl
  · obtain ⟨n, rfl, n0, n1, k⟩ := h
    refine ⟨_, (pss_cons (ps_set (i := 0) sc_law_four.nd rfl (.inl rfl) (pe_ifExp (pt_cmpR op_ge (pv 0) pe_int (nomark _)) (pv 0) (pe_op op_add (pv 0) pe_int)))
    (pss_one (ps_ret (pe_lst (pa_cons (pe_op op_mod (pe_callTy call_int1 (by rfl) T.n_int Boot.«int» (pa_cons (pv 0) pa_nil)) pe_int) (pa_cons (pe_op op_mod (pe_callTy call_int1 (by rfl) T.n_int Boot.«int» (pa_cons (pe_op op_fdiv (pv 0) pe_int) pa_nil)) pe_int) (pa_cons (pe_op op_mod (pe_callTy call_int1 (by rfl) T.n_int Boot.«int» (pa_cons (pe_op op_fdiv (pv 0) pe_int) pa_nil)) pe_int) (pa_cons (pe_op op_mod (pe_callTy call_int1 (by rfl) T.n_int Boot.«int» (pa_cons (pe_op op_fdiv (pv 0) pe_int) pa_nil)) pe_int) pa_nil)))))))), ?_⟩
    have c256 : (0 : Int) < 256 := by decide
    exact joinX (c := fun u : Int => u = upW n) (fun rest => by
      refine ⟨_, rfl, _, _, rfl, rfl, _, rfl, ?_⟩
      by_cases h0 : 0 ≤ n
      · rw [decide_eq_true (show n ≥ 0 from h0)]
        have e : n = upW n := (if_pos h0).symm
        refine iteT ⟨_, rfl, ?_⟩
        obtain ⟨x, hx⟩ : ∃ x : Int, x = n := ⟨_, rfl⟩
        rw [← hx]
        exact rest x (hx.trans e)
      · rw [decide_eq_false (show ¬ n ≥ 0 from h0)]
        have e : n + 4294967296 = upW n := (if_neg h0).symm
        exact iteF ⟨_, rfl, _, _, rfl, rfl, rest (n + 4294967296) e⟩) (fun u hu => by
      refine ⟨_, rfl, .inl ⟨_, rfl, _, _, rfl, rfl, c256, ?_⟩⟩
      refine ⟨_, rfl, _, _, rfl, rfl, ⟨by decide, by decide⟩, .inl ⟨_, rfl, _, _, rfl, rfl, c256, ?_⟩⟩
      refine ⟨_, rfl, _, _, rfl, rfl, ⟨by decide, by decide⟩, .inl ⟨_, rfl, _, _, rfl, rfl, c256, ?_⟩⟩
      refine ⟨_, rfl, _, _, rfl, rfl, ⟨by decide, by decide⟩, .inl ⟨_, rfl, _, _, rfl, rfl, c256, ?_⟩⟩
      refine ⟨by show 4 ≤ sizeLine; decide, fun p np => ?_⟩
      refine k p _ np (Same.new np) ?_
      rw [upd_same]
      show some (HO.lst [V.int (u % 256), V.int (u / 256 % 256), V.int (u / 65536 % 256), V.int (u / 16777216 % 256)]) = some (HO.lst [V.int (upW n / 2 ^ 0 % 256), _, _, _])
      rw [show (2 : Int) ^ 0 = 1 from rfl, Int.ediv_one, hu]
      rfl)
abbrev N_law_letter : List Str := ["word"]
theorem sc_law_letter : FnScope N_law_letter ["word"] (defScope s_law_letter) := ⟨rfl, rfl, rfl, by decide +kernel, rfl, by decide +kernel, by decide +kernel⟩
theorem ok_law_letter {f : Addr} {fd : FuncData} (F : DefX K mg "_law_letter" s_law_letter ["word"] f fd) : CalX P w K mg base 1 "_law_letter" spLet := by
  refine calx F sc_law_letter (fun vs H Q E h => ?_) (fun cdv A outer s H vs Q E hr h => ?_)
  · obtain ⟨n, rfl, _⟩ := h
    rfl
  · obtain ⟨c, rfl, hc, k⟩ := h
    refine ⟨_, (pss_one (ps_ret (pe_dget (hu_of hr) (pe_disp (pps_cons pe_str pe_int (pps_cons pe_str pe_int (pps_cons pe_str pe_int (pps_cons pe_str pe_int (pps_cons pe_str pe_int (pps_cons pe_str pe_int (pps_cons pe_str pe_int (pps_cons pe_str pe_int (pps_cons pe_str pe_int pps_nil))))))))) (by rfl) (by rfl) (fun z => by cases z) (by decide)) (pv 0) (fun _ _ => rfl)))), ?_⟩
    intro p np
    refine ⟨upd_same, [(.inr "N", .int 78), (.inr "T", .int 84), (.inr "F", .int 70), (.inr "i", .int 105), (.inr "l", .int 108), (.inr "u", .int 117), (.inr "s", .int 115), (.inr "(", .int 40), (.inr "c", .int 99)], rfl, by decide, ?_⟩
    rw [let_made]
    have s1 : Same H (upd (upd H p (.dK [])) p (.dK (kv tL))) := fun b o e => by
      have nb : b ≠ p := ne_of_none e np
      rw [upd_ne nb, upd_ne nb]
      exact e
    have h1 : upd (upd H p (.dK [])) p (.dK (kv tL)) p = some (.dK (kv tL)) := upd_same
    generalize upd (upd H p (.dK [])) p (.dK (kv tL)) = H1 at s1 h1 ⊢
    refine ⟨_, rfl, p, _, rfl, ?_, k H1 s1⟩
    have g := DGet.k (k := Sum.inr (⟨#[c]⟩ : Str)) h1
    rw [lets_get hc] at g
    exact g
abbrev N_law_signs : List Str := ["text", "sign"]
theorem sc_law_signs : FnScope N_law_signs ["text"] (defScope s_law_signs) := ⟨rfl, rfl, rfl, by decide +kernel, rfl, by decide +kernel, by decide +kernel⟩
theorem ok_law_signs {f : Addr} {fd : FuncData} (T : GlL mg) (F : DefX K mg "_law_signs" s_law_signs ["text"] f fd) : CalX P w K mg base 1 "_law_signs" spLSigns := by
  refine calx F sc_law_signs (fun vs H Q E h => ?_) (fun cdv A outer s H vs Q E hr h => ?_)
  · obtain ⟨n, rfl, _⟩ := h
    rfl
  · obtain ⟨x, rfl, hl, k⟩ := h
    refine ⟨_, (pss_one (ps_ret (pe_lc (own := [("sign", 1)]) (g := gName 1) (tt := tYes) rfl sc_law_signs.nd (pi_str (pv 0)) (blkOk_by (own := [("sign", 1)]) (N := N_law_signs) (sc := defScope s_law_signs) (by decide +kernel)) (fun _ _ _ _ _ => (pg_name (i := 1) sc_law_signs.nd rfl (Or.inl rfl))) (fun _ _ _ _ _ => pts_nil) (fun _ _ _ _ _ => (pe_callB call_ord (by rfl) T.n_ord Boot.«ord» (pa_cons (pv 1) pa_nil)))))), ?_⟩
    have hl : x.cps.size ≤ 8000000 := hl
    refine ⟨_, rfl, x, rfl, fun D nD => lc_it walk_str (fun i H' => Same H H' ∧ H' D = some (.lst ((x.cps.toList.take i).map fun c : Nat => V.int (c : Int)))) ⟨Same.new nD, by rw [upd_same]; rfl⟩ (fun _ _ _ _ => trivial) ?_ ?_⟩
    · rintro i v H' H'' hi ⟨s2, hD⟩ ⟨rfl, c, hc, rfl⟩
      refine ⟨rfl, _, rfl, _, rfl, rfl, _, hD, ?_, Same.mut s2 nD, ?_⟩
      · rw [List.length_map, List.length_take, Array.length_toList]
        exact Nat.lt_of_le_of_lt (Nat.le_trans (Nat.min_le_right _ _) hl) (by decide)
      · rw [← Array.getElem?_toList] at hc
        rw [upd_same, List.take_add_one, hc, List.map_append]
        rfl
    · rintro H' ⟨s2, hD⟩
      rw [List.take_of_length_le (by rw [Array.length_toList]; exact Nat.le_refl _)] at hD
      refine k D H' nD s2 ?_
      rw [hD, List.map_map]
      rfl
abbrev N_law_row_of : List Str := ["some"]
theorem sc_law_row_of : FnScope N_law_row_of ["some"] (defScope s_law_row_of) := ⟨rfl, rfl, rfl, by decide +kernel, rfl, by decide +kernel, by decide +kernel⟩
theorem ok_law_row_of {f : Addr} {fd : FuncData} (T : GlL mg) (c_law_letter : CalX P w K mg base 1 "_law_letter" spLet) (c_law_four : CalX P w K mg base 1 "_law_four" spFour) (F : DefX K mg "_law_row_of" s_law_row_of ["some"] f fd) : CalX P w K mg base 2 "_law_row_of" spRowB := by
  refine calx F sc_law_row_of (fun vs H Q E h => ?_) (fun cdv A outer s H vs Q E hr h => ?_)
  · obtain ⟨t, ns, rfl, _⟩ := h
    rfl
  · obtain ⟨t, ns, rfl, ht, hl, k⟩ := h
    have lv1 : 1 ≤ 1 := by decide
    refine ⟨_, (pss_one (ps_ret (pe_op op_cat (pe_op op_cat (pe_lst (pa_cons (pe_cx c_law_letter hr lv1 rfl (pa_cons pe_str pa_nil)) pa_nil)) (pe_cx c_law_four hr lv1 rfl (pa_cons (pe_callB call_len_seq (by rfl) T.n_len Boot.«len» (pa_cons (pv 0) pa_nil)) pa_nil))) (pe_callTy call_list_of (by rfl) T.n_list Boot.«list» (pa_cons (pv 0) pa_nil))))), ?_⟩
    rw [rowW_len] at hl
    have hl : 5 + ns.length ≤ 8000000 := hl
    refine ⟨115, rfl, by decide, fun H1 s1 => ⟨(by show 1 ≤ sizeLine; decide), ?_⟩⟩
    walk_at "new2"
    have s12 := s1.trans s2
    refine ⟨_, rfl, t, _, rfl, .inr (SqT.of (s12 _ _ ht)), _, rfl, by omega, by rw [List.length_map]; omega, fun p3 H3 n3 s3 h3 => ?_⟩
    refine ⟨p2, p3, _, _, rfl, rfl, s3 _ _ h2, h3, (by rw [List.length_map]; show 1 + 4 ≤ sizeLine; decide), ?_⟩
    walk_at "new4"
    have s14 := (s12.trans s3).trans s4
    refine ⟨_, rfl, t, _, rfl, .inr (SqT.of (s14 _ _ ht)), ?_⟩
    walk_at "new5"
    refine ⟨p4, p5, _, _, rfl, rfl, s5 _ _ h4, h5, ?_, fun p np => ?_⟩
    · rw [List.length_append, List.length_map, List.length_map, fourW_len]
      exact Nat.le_trans (show 1 + 4 + ns.length ≤ 8000000 by omega) (by decide)
    · have S := s14.trans s5
      refine k p _ (same_none S np) (S.trans (Same.new np)) ?_
      rw [upd_same, List.length_map]
      show _ = some (HO.lst ((115 :: (fourW ns.length ++ ns)).map V.int))
      rw [List.map_cons, List.map_append]
      rfl
end
end K52
set_option maxHeartbeats 4000000
namespace K52
open PySem PySem.Spec PyProof.Rows L2 Nd
/-! ### k52: the law's own bytes of an integer -/
section
variable {P : Program} {w : World} {K : PySem.W.Frag} {mg : Str → Option Value} {base : Heap}
abbrev N_law_integer : List Str := ["value", "digits", "rest", "k", "found", "digit"]
theorem sc_law_integer : FnScope N_law_integer ["value"] (defScope s_law_integer) := ⟨rfl, rfl, rfl, by decide +kernel, rfl, by decide +kernel, by decide +kernel⟩
theorem ok_law_integer {f : Addr} {fd : FuncData} (T : GlL mg) (c_law_letter : CalX P w K mg base 1 "_law_letter" spLet) (c_law_four : CalX P w K mg base 1 "_law_four" spFour) (F : DefX K mg "_law_integer" s_law_integer ["value"] f fd) : CalX P w K mg base 2 "_law_integer" spLInt := by
  refine calx F sc_law_integer (fun vs H Q E h => ?_) (fun cdv A outer s H vs Q E hr h => ?_)
  · obtain ⟨n, rfl, _⟩ := h
    rfl
  · obtain ⟨n, rfl, hn, k⟩ := h
    have lv1 : 1 ≤ 1 := by decide
    refine ⟨_, (pss_cons (ps_if (pt_chain op_le op_le (pe_op op_sub pe_int pe_int) (pv 0) pe_int)
      (pss_one (ps_ret (pe_op op_cat (pe_lst (pa_cons (pe_cx c_law_letter hr lv1 rfl (pa_cons pe_str pa_nil)) pa_nil)) (pe_cx c_law_four hr lv1 rfl (pa_cons (pv 0) pa_nil)))))
      pss_nil)
    (pss_cons (ps_par (i := 1) (j := 2) (by rfl) sc_law_integer.nd rfl rfl (by decide) rfl rfl (pa_cons (pe_lst pa_nil) (pa_cons (pe_ifExp (pt_cmpR op_gt (pv 0) pe_int (nomark _)) (pv 0) (pe_op op_sub pe_int (pv 0))) pa_nil)) (by rfl))
    (pss_cons (ps_for PassesOwn.never rfl (pi_range1 (by rfl) T.n_range (pa_cons pe_int pa_nil)) (pg_name (i := 3) sc_law_integer.nd rfl (.inl rfl))
      (pss_one (ps_if (pt_cmpR op_gt (pv 2) pe_int (nomark _))
      (pss_cons (ps_expr (pe_bm PySem.F.plainAttrs_list PySem.F.slot_list_append PySem.F.type_list_append mt_append (pv 1) (pa_cons (pe_op op_mod (pe_callTy call_int1 (by rfl) T.n_int Boot.«int» (pa_cons (pv 2) pa_nil)) pe_int) pa_nil)))
    (pss_one (ps_set (i := 2) sc_law_integer.nd rfl (.inl rfl) (pe_op op_fdiv (pv 2) pe_int))))
      pss_nil)))
    (pss_cons (ps_set (i := 4) sc_law_integer.nd rfl (.inl rfl) (pe_op op_cat (pe_lst (pa_cons (pe_cx c_law_letter hr lv1 rfl (pa_cons pe_str pa_nil)) pa_nil)) (pe_cx c_law_four hr lv1 rfl (pa_cons (pe_ifExp (pt_cmpR op_gt (pv 0) pe_int (nomark _)) (pe_callB call_len_seq (by rfl) T.n_len Boot.«len» (pa_cons (pv 1) pa_nil)) (pe_op op_sub pe_int (pe_callB call_len_seq (by rfl) T.n_len Boot.«len» (pa_cons (pv 1) pa_nil)))) pa_nil))))
    (pss_cons (ps_for PassesOwn.never rfl (pi_list (pv 1)) (pg_name (i := 5) sc_law_integer.nd rfl (.inl rfl))
      (pss_one (ps_expr (pe_bm PySem.F.plainAttrs_list PySem.F.slot_list_extend PySem.F.type_list_extend mt_extend (pv 4) (pa_cons (pe_lst (pa_cons (pe_op op_mod (pe_callTy call_int1 (by rfl) T.n_int Boot.«int» (pa_cons (pv 5) pa_nil)) pe_int) (pa_cons (pe_op op_fdiv (pv 5) pe_int) pa_nil))) pa_nil)))))
    (pss_one (ps_ret (pv 4)))))))), ?_⟩
    have z0 : (0 : Int) - 2147483648 = -2147483648 := by decide
    refine ⟨_, _, rfl, rfl, _, rfl, _, _, rfl, rfl, _, rfl, ?_⟩
    rw [z0]
    by_cases hs : -2147483648 ≤ n ∧ n ≤ 2147483647
    · rw [decide_eq_true hs.1]
      refine iteT ⟨_, _, rfl, rfl, _, rfl, ?_⟩
      rw [decide_eq_true hs.2]
      refine iteT ⟨105, rfl, by decide, fun H1 s1 => ⟨(by show 1 ≤ sizeLine; decide), ?_⟩⟩
      walk_at "new2"
      refine ⟨_, rfl, n, rfl, hs.1, hs.2, fun p3 H3 n3 s3 h3 => ?_⟩
      refine ⟨p2, p3, _, _, rfl, rfl, s3 _ _ h2, h3, (by rw [List.length_map]; show 1 + 4 ≤ sizeLine; decide), fun p np => ?_⟩
      have S := (s1.trans s2).trans s3
      refine k p _ (same_none S np) (S.trans (Same.new np)) ?_
      rw [upd_same, intW, if_pos hs]
      rfl
    · exact joinP (fun rest => by
        by_cases c : -2147483648 ≤ n
        · rw [decide_eq_true c]
          refine iteT ⟨_, _, rfl, rfl, _, rfl, ?_⟩
          rw [decide_eq_false (fun z => hs ⟨c, z⟩)]
          exact iteF rest
        · rw [decide_eq_false c]
          exact iteF ⟨_, rfl, iteF rest⟩) (by
        have hnz : n.natAbs ≠ 0 := by omega
        refine ⟨Nat.zero_le _, ?_⟩
        walk_at "new1"
        obtain ⟨G, hG⟩ : ∃ G, G = dgs n.natAbs := ⟨_, rfl⟩
        have hGl : G.length ≤ 234 := by
          rw [hG]
          exact dgs_len (Nat.lt_of_lt_of_le hn (by decide +kernel))
        have hdW : digW n.natAbs = (G.map two).flatten := by rw [hG]; exact digW_two _
        have hm0 : mny n = if 0 < n then (G.length : Int) else -(G.length : Int) := by
          unfold mny
          rw [hdW, two_len, show 2 * G.length / 2 = G.length by omega]
        have ew : intW n = 108 :: (fourW (mny n) ++ (G.map two).flatten) := by
          rw [intW, if_neg hs, ← hdW]
          rfl
        have ea1 : 0 < n → n = ((n.natAbs : Nat) : Int) := fun h => by omega
        have ea2 : ¬ 0 < n → 0 - n = ((n.natAbs : Nat) : Int) := fun h => by omega
        exact joinS (c := fun σ J => σ = [some (V.int n), some (.ref p1), some (.int ((n.natAbs : Nat) : Int)), none, none, none] ∧ H1 = J) (fun rest => by
          refine ⟨_, rfl, _, _, rfl, rfl, _, rfl, ?_⟩
          by_cases h0 : 0 < n
          · rw [decide_eq_true (show n > 0 from h0)]
            refine iteT ⟨_, rfl, _, _, rfl, ?_⟩
            refine rest H1 _ ⟨?_, rfl⟩
            rw [← ea1 h0]
            rfl
          · rw [decide_eq_false (show ¬ n > 0 from h0)]
            refine iteF ⟨_, rfl, _, _, rfl, rfl, _, _, rfl, ?_⟩
            refine rest H1 _ ⟨?_, rfl⟩
            rw [← ea2 h0]
            rfl) (fun J σ hJ => by
          obtain ⟨rfl, hJ⟩ := hJ
          subst hJ
          refine ⟨240, rfl, by decide, by decide, for_range (lo := 0) (n := 240) (fun j σ H' => ∃ (acc : List Nat) (r : Nat) (v3 : Option V), σ = [some (.int n), some (.ref p1), some (.int (r : Int)), v3, none, none] ∧ Same H H' ∧ H' p1 = some (.lst (acc.map fun d : Nat => V.int (d : Int))) ∧ acc ++ dgs r = G ∧ r < 32768 ^ (240 - j)) ⟨[], n.natAbs, none, rfl, s1, h1, by rw [hG]; rfl, Nat.lt_of_lt_of_le hn (by decide +kernel)⟩ ?_ ?_⟩
          · rintro j σ H' hj ⟨acc, r, v3, rfl, S, hD, hacc, hr2⟩
            refine ⟨_, rfl, _, _, rfl, rfl, _, rfl, ?_⟩
            rcases Nat.eq_zero_or_pos r with hr0 | hr0
            · subst hr0
              rw [decide_eq_false (show ¬ ((0 : Nat) : Int) > 0 by decide)]
              exact iteF ⟨acc, 0, _, rfl, S, hD, hacc, Nat.pow_pos (by decide)⟩
            · rw [decide_eq_true (show (r : Int) > 0 by omega)]
              have hal : acc.length ≤ 234 := by
                have := congrArg List.length hacc
                rw [List.length_append] at this
                omega
              refine iteT ⟨_, rfl, .inl ⟨rfl, _, SqL.of hD⟩, _, rfl, .inl ⟨_, rfl, _, _, rfl, rfl, (by show (0 : Int) < 32768; decide), p1, _, _, rfl, rfl, hD, ?_, ?_⟩⟩
              · rw [List.length_map]
                exact Nat.lt_of_le_of_lt hal (by decide)
              refine ⟨_, rfl, _, _, rfl, rfl, ⟨by decide, by decide⟩, acc ++ [r % 32768], r / 32768, some (.int (0 + (j : Int))), ?_, Same.mut S n1, ?_, ?_, ?_⟩
              · show [some (V.int n), some (V.ref p1), some (V.int ((r : Int) / 32768)), _, _, _] = _
                rw [show (r : Int) / 32768 = ((r / 32768 : Nat) : Int) by omega] <;> rfl
              · rw [upd_same, List.map_append]
                show some (HO.lst (_ ++ [V.int ((r : Int) % 32768)])) = _
                rw [show (r : Int) % 32768 = ((r % 32768 : Nat) : Int) by omega] <;> rfl
              · have e : dgs r = r % 32768 :: dgs (r / 32768) := dgs_s (Nat.ne_of_gt hr0)
                rw [← hacc, e, List.append_assoc] <;> rfl
              · have e : 240 - j = (240 - (j + 1)) + 1 := by omega
                rw [e, Nat.pow_succ] at hr2
                exact Nat.div_lt_of_lt_mul (by rw [Nat.mul_comm]; exact hr2)
          · rintro σ H2 ⟨acc, r, v3, rfl, S, hD, hacc, hr2⟩
            have hr0 : r = 0 := by
              rw [Nat.sub_self, Nat.pow_zero] at hr2
              omega
            rw [hr0, dgs_z, List.append_nil] at hacc
            rw [hacc] at hD
            clear hacc hr2 hr0
            have hlen : (G.map fun d : Nat => V.int (d : Int)).length = G.length := List.length_map ..
            refine ⟨108, rfl, by decide, fun H3 s3 => ⟨(by show 1 ≤ sizeLine; decide), ?_⟩⟩
            walk_at "new4"
            have s34 := s3.trans s4
            have hD4 := s34 _ _ hD
            exact joinX (c := fun x : Int => x = mny n) (fun rest => by
              refine ⟨_, rfl, _, _, rfl, rfl, _, rfl, ?_⟩
              by_cases h0 : 0 < n
              · have e : ((G.map fun d : Nat => V.int (d : Int)).length : Int) = mny n := by rw [hlen, hm0, if_pos h0]
                rw [decide_eq_true (show n > 0 from h0)]
                refine iteT ⟨_, rfl, p1, _, rfl, .inl (SqL.of hD4), ?_⟩
                obtain ⟨x, hx⟩ : ∃ x : Int, x = ((G.map fun d : Nat => V.int (d : Int)).length : Int) := ⟨_, rfl⟩
                rw [← hx]
                exact rest x (hx.trans e)
              · have e : 0 - ((G.map fun d : Nat => V.int (d : Int)).length : Int) = mny n := by rw [hlen, hm0, if_neg h0, Int.zero_sub]
                rw [decide_eq_false (show ¬ n > 0 from h0)]
                exact iteF ⟨_, rfl, p1, _, rfl, .inl (SqL.of hD4), _, _, rfl, rfl, rest _ e⟩) (fun m hm => by
              have hmR : R32 m := by
                rw [hm, hm0]
                unfold R32
                split <;> omega
              refine ⟨m, rfl, hmR.1, hmR.2, fun p5 H5 n5 s5 h5 => ⟨p4, p5, _, _, rfl, rfl, s5 _ _ h4, h5, (by rw [List.length_map]; show 1 + 4 ≤ sizeLine; decide), ?_⟩⟩
              walk_at "new6"
              have s36 := (s34.trans s5).trans s6
              have hD6 := s36 _ _ hD
              have n16 : p1 ≠ p6 := ne_of_none (s5 _ _ hD4) n6
              have e6 : H6 p6 = some (.lst ((108 :: fourW m).map V.int)) := by
                rw [h6]
                rfl
              refine ⟨_, rfl, p1, rfl, ⟨_, SqL.of hD6⟩, for_list (K := K) (a := p1) (xs := G.map fun d : Nat => V.int (d : Int)) (fun j σ H' => (∃ v3 v5, σ = [some (.int n), some (.ref p1), some (.int (r : Int)), v3, some (.ref p6), v5]) ∧ But p6 H6 H' ∧ H' p6 = some (.lst ((108 :: fourW m ++ ((G.take j).map two).flatten).map V.int))) ⟨⟨_, _, rfl⟩, But.refl, by rw [e6]; simp⟩ (fun j σ H' _ p => SqL.of (p.2.1 _ _ n16 hD6)) ?_ ?_⟩
              · rintro j y σ H' hj ⟨⟨v3, v5, rfl⟩, b7, h7⟩
                rw [List.getElem?_map] at hj
                obtain ⟨d, hd, rfl⟩ := Option.map_eq_some_iff.mp hj
                have hjl : j < G.length := (List.getElem?_eq_some_iff.mp hd).1
                refine ⟨_, rfl, .inl ⟨rfl, _, SqL.of h7⟩, _, rfl, .inl ⟨_, rfl, _, _, rfl, rfl, (by show (0 : Int) < 256; decide), _, rfl, _, _, rfl, rfl, ⟨by decide, by decide⟩, (by show 2 ≤ sizeLine; decide), ?_⟩⟩
                walk_at "new8"
                have e8 : H8 p8 = some (.lst ((two d).map V.int)) := by
                  rw [h8]
                  show some (HO.lst [V.int ((d : Int) % 256), V.int ((d : Int) / 256)]) = _
                  rw [show (d : Int) % 256 = ((d % 256 : Nat) : Int) by omega, show (d : Int) / 256 = ((d / 256 : Nat) : Int) by omega]
                  rfl
                refine ⟨p6, p8, _, _, rfl, rfl, s8 _ _ h7, e8, ?_, ⟨_, _, rfl⟩, (b7.trans (But.of s8)).upd, ?_⟩
                · rw [List.length_map, List.length_map, List.length_append, two_len, List.length_take, List.length_cons, fourW_len]
                  show _ + 2 ≤ sizeLine
                  exact Nat.le_trans (show _ ≤ 5 + 2 * 234 + 2 by omega) (by decide)
                · rw [upd_same, List.take_add_one, hd]
                  simp
              · rintro σ H' ⟨⟨v3, v5, rfl⟩, b7, h7⟩
                rw [List.take_of_length_le (by rw [hlen]; exact Nat.le_refl _)] at h7
                have S7 : Same H H' := fun b o e => by
                  have e5 := s5 _ _ (s34 _ _ (S _ _ e))
                  exact b7 b o (ne_of_none e5 n6) (s6 _ _ e5)
                refine ⟨_, rfl, k p6 H' (same_none ((S.trans s34).trans s5) n6) S7 ?_⟩
                rw [h7, ew, hm]
                rfl)))
end
end K52
set_option maxHeartbeats 4000000
namespace K52
open PySem PySem.Spec PyProof.Rows L2 Nd
/-! ### k52: the law's own bytes of a constant and of a code -/
/-- constants whose bytes can be told -/
inductive Wk : Kd → Prop
  | non : Wk .non
  | bl (b : Bool) : Wk (.bl b)
  | int (i : Int) (h : i.natAbs < 2 ^ 3500) : Wk (.int i)
  | str (s : Str) : Wk (.str s)
  | tup {l : List Kd} (h : ∀ k, k ∈ l → Wk k) : Wk (.tup l)
  | code {m : Nat} {F : FD} {cs : List Kd} (h : FldS m F) (hc : ∀ c, c ∈ cs → Wk c) : Wk (.code F cs)
theorem KdC.wk {n : Nat} {k : Kd} (h : KdC n k) : n ≤ 1000 → Wk k := by
  induction h with
  | non => exact fun _ => .non
  | bl b => exact fun _ => .bl b
  | @int n i h => exact fun hn => .int i (Nat.lt_of_lt_of_le (show i.natAbs < 2 ^ 3400 + 1000 by omega) (by decide +kernel))
  | str s _ _ => exact fun _ => .str s
  | tup hl h ih => exact fun hn => .tup fun k hk => ih k hk (by omega)
theorem Gk.wk {n m e : Nat} {k : Kd} (hn : n ≤ 1000) (h : Gk n m e k) : Wk k := by
  induction h with
  | flat h => exact h.wk hn
  | code h hl hc ih => exact .code h ih
def strsK (xs : List Str) : Kd := .tup (xs.map Kd.str)
theorem strsK_wr (xs : List Str) : wr (strsK xs) = partsW (xs.map strW) := by
  have e : (xs.map Kd.str).map wr = xs.map strW := by
    rw [List.map_map]
    exact List.map_congr_left fun x _ => (by
      show wr (.str x) = _
      rw [wr])
  rw [strsK, wr, wrL_map, e]
theorem strsK_dep (xs : List Str) : dep (strsK xs) ≤ 1 := by
  rw [strsK, dep]
  refine Nat.succ_le_succ (depL_le fun k hk => ?_)
  obtain ⟨x, _, rfl⟩ := List.mem_map.mp hk
  rw [dep]
  exact Nat.le_refl _
theorem strsK_wk (xs : List Str) : Wk (strsK xs) := .tup fun k hk => by
  obtain ⟨x, _, rfl⟩ := List.mem_map.mp hk
  exact .str x
theorem kv_strs {Cc : Addr} {H : Hp} : ∀ xs : List Str, KvAll Cc H (xs.map V.str) (xs.map Kd.str)
  | [] => .nil
  | x :: xs => .cons (.str x) (kv_strs xs)
theorem Kp.lst {H H' : Hp} {D : Addr} {ys : List V} (hD : H D = some (.lst ys)) (b : But D H H') : Kp H H' := fun c o e n => b c o (fun z => by
  rw [z, hD] at e
  cases e
  exact n _ rfl) e
theorem take_len {ps : List (List Int)} {j : Nat} : (ps.take j).flatten.length ≤ ps.flatten.length := by
  have z : (ps.take j ++ ps.drop j).flatten.length = ps.flatten.length := by rw [List.take_append_drop]
  rw [List.flatten_append, List.length_append] at z
  omega
def spLEl (Cc : Addr) (n : Nat) : Sp := fun vs H Q _ => ∃ (v : V) (k : Kd), vs = [v] ∧ KvAt Cc H v k ∧ Wk k ∧ dep k < n ∧ (wr k).length ≤ wLine ∧ ∀ a H', H a = none → Same H H' → H' a = some (.lst ((wr k).map V.int)) → Q (.ref a) H'
def spLWr (Cc : Addr) (n : Nat) : Sp := fun vs H Q _ => ∃ (a : Addr) (xs : List V) (D : CD) (cs : List Kd), vs = [.ref a] ∧ H a = some (.lst xs) ∧ RowT H xs D ∧ KvAll Cc H D.consts cs ∧ Wk (.code D.fd cs) ∧ dep (.code D.fd cs) < n + 1 ∧ (wr (.code D.fd cs)).length ≤ wLine ∧ ∀ a H', H a = none → Same H H' → H' a = some (.lst ((wr (.code D.fd cs)).map V.int)) → Q (.ref a) H'
section
variable {P : Program} {w : World} {K : PySem.W.Frag} {mg : Str → Option Value} {base : Heap} {Cc Cn fI : Addr}
abbrev s_law_element : Stmt := top 56
abbrev s_law_written : Stmt := top 58
abbrev N_law_element : List Str := ["value", "found", "one"]
theorem sc_law_element : FnScope N_law_element ["value"] (defScope s_law_element) := ⟨rfl, rfl, rfl, by decide +kernel, rfl, by decide +kernel, by decide +kernel⟩
theorem lel_step {f : Addr} {fd : FuncData} (n : Nat) (T : GlL mg) (T2 : Gl2 mg) (G : GlK P K mg Cc Cn fI) (GC : GlC K Cc) (GE : GlE mg K Cc) (GW : GlW mg K Cc) (c_law_letter : CalX P w K mg base 1 "_law_letter" spLet) (c_law_four : CalX P w K mg base 1 "_law_four" spFour) (c_law_integer : CalX P w K mg base 2 "_law_integer" spLInt) (c_law_signs : CalX P w K mg base 1 "_law_signs" spLSigns) (c_law_fields : CalX P w K mg base 1 "_law_fields" (spFields Cc))
    (c_law_element : CalX P w K mg base (2 * n + 3) "_law_element" (spLEl Cc n)) (c_law_written : CalX P w K mg base (2 * n + 4) "_law_written" (spLWr Cc n)) (F : DefX K mg "_law_element" s_law_element ["value"] f fd) : CalX P w K mg base (2 * (n + 1) + 3) "_law_element" (spLEl Cc (n + 1)) := by
  refine calx F sc_law_element (fun vs H Q E h => ?_) (fun cdv A outer s H vs Q E hr h => ?_)
  · obtain ⟨v, k, rfl, _⟩ := h
    rfl
  · obtain ⟨v, k, rfl, hv, hw, hd, hl, q⟩ := h
    have lv1 : 1 ≤ 2 * n + 4 := by omega
    have lv2 : 2 ≤ 2 * n + 4 := by omega
    have lv3 : 2 * n + 3 ≤ 2 * n + 4 := by omega
    have lv4 : 2 * n + 4 ≤ 2 * n + 4 := by omega
    refine ⟨_, (pss_cons (ps_if (PW.pt (pw_or (pt_cmpR op_isN (pv 0) pe_non (nomark _)) (pw_or1 (pt_val (pe_callB call_isi (by rfl) T2.n_isinstance Boot.«isinstance» (pa_cons (pv 0) (pa_cons (pe_bltn (v := .ty "bool") (by rfl) T2.n_bool Boot.«bool» rfl) pa_nil)))))))
      (pss_one (ps_ret (pe_lst (pa_cons (pe_cx c_law_letter hr lv1 rfl (pa_cons (pe_ifExp (pt_cmpR op_isN (pv 0) pe_non (nomark _)) pe_str (pe_ifExp (pt_val (pv 0)) pe_str pe_str)) pa_nil)) pa_nil))))
      pss_nil)
    (pss_cons (ps_if (pt_val (pe_callB call_isi (by rfl) T2.n_isinstance Boot.«isinstance» (pa_cons (pv 0) (pa_cons (pe_bltn (v := .ty "int") (by rfl) T2.n_int Boot.«int» rfl) pa_nil))))
      (pss_one (ps_ret (pe_cx c_law_integer hr lv2 rfl (pa_cons (pv 0) pa_nil))))
      pss_nil)
    (pss_cons (ps_if (pt_val (pe_callB call_isi (by rfl) T2.n_isinstance Boot.«isinstance» (pa_cons (pv 0) (pa_cons (pe_bltn (v := .ty "str") (by rfl) T2.n_str Boot.«str» rfl) pa_nil))))
      (pss_one (ps_ret (pe_op op_cat (pe_op op_cat (pe_lst (pa_cons (pe_cx c_law_letter hr lv1 rfl (pa_cons pe_str pa_nil)) pa_nil)) (pe_cx c_law_four hr lv1 rfl (pa_cons (pe_callB call_len_str (by rfl) T.n_len Boot.«len» (pa_cons (pv 0) pa_nil)) pa_nil))) (pe_cx c_law_signs hr lv1 rfl (pa_cons (pv 0) pa_nil)))))
      pss_nil)
    (pss_cons (ps_if (pt_val (pe_callB call_isi (by rfl) T2.n_isinstance Boot.«isinstance» (pa_cons (pv 0) (pa_cons (pe_bltn (v := .ty "tuple") (by rfl) T2.n_tuple Boot.«tuple» rfl) pa_nil))))
      (pss_cons (ps_set (i := 1) sc_law_element.nd rfl (.inl rfl) (pe_op op_cat (pe_lst (pa_cons (pe_cx c_law_letter hr lv1 rfl (pa_cons pe_str pa_nil)) pa_nil)) (pe_cx c_law_four hr lv1 rfl (pa_cons (pe_callB call_len_seq (by rfl) T.n_len Boot.«len» (pa_cons (pv 0) pa_nil)) pa_nil))))
    (pss_cons (ps_for PassesOwn.never rfl (pi_tup (pv 0)) (pg_name (i := 2) sc_law_element.nd rfl (.inl rfl))
      (pss_one (ps_expr (pe_bm PySem.F.plainAttrs_list PySem.F.slot_list_extend PySem.F.type_list_extend mt_extend (pv 1) (pa_cons (pe_cx c_law_element hr lv3 rfl (pa_cons (pv 2) pa_nil)) pa_nil)))))
    (pss_one (ps_ret (pv 1)))))
      pss_nil)
    (pss_one (ps_ret (pe_cx c_law_written hr lv4 rfl (pa_cons (pe_cx c_law_fields hr lv1 rfl (pa_cons (pv 0) pa_nil)) pa_nil)))))))), ?_⟩
    cases hv with
    | non =>
      refine ⟨_, rfl, rfl, _, rfl, iteT ?_⟩
      refine ⟨_, rfl, rfl, _, rfl, iteT ⟨78, rfl, by decide, fun H1 s1 => ⟨(by show 1 ≤ sizeLine; decide), fun p np => ?_⟩⟩⟩
      refine q p _ (same_none s1 np) (s1.trans (Same.new np)) ?_
      rw [upd_same, wr]
      rfl
    | bl b =>
      refine ⟨_, rfl, rfl, _, rfl, iteF ?_⟩
      refine ⟨_, rfl, V.bl b, V.ty "bool", .type "bool", .type "bool", true, rfl, .ty "bool", .base (.bl b), kbb, _, rfl, iteT ?_⟩
      refine ⟨_, rfl, rfl, _, rfl, iteF ?_⟩
      cases b with
      | true =>
        refine ⟨_, rfl, _, rfl, iteT ⟨84, rfl, by decide, fun H1 s1 => ⟨(by show 1 ≤ sizeLine; decide), fun p np => ?_⟩⟩⟩
        refine q p _ (same_none s1 np) (s1.trans (Same.new np)) ?_
        rw [upd_same, wr]
        rfl
      | false =>
        refine ⟨_, rfl, _, rfl, iteF ⟨70, rfl, by decide, fun H1 s1 => ⟨(by show 1 ≤ sizeLine; decide), fun p np => ?_⟩⟩⟩
        refine q p _ (same_none s1 np) (s1.trans (Same.new np)) ?_
        rw [upd_same, wr]
        rfl
    | int i =>
      refine ⟨_, rfl, rfl, _, rfl, iteF ?_⟩
      refine ⟨_, rfl, V.int i, V.ty "bool", .type "int", .type "bool", false, rfl, .ty "bool", .base (.int i), knb (by simp), _, rfl, iteF ?_⟩
      refine ⟨_, rfl, V.int i, V.ty "int", .type "int", .type "int", true, rfl, .ty "int", .base (.int i), ii, _, rfl, iteT ?_⟩
      have hi : i.natAbs < 2 ^ 3500 := by
        cases hw with
        | int _ h => exact h
      exact ⟨_, rfl, i, rfl, hi, fun a H' na s h => q a H' na s (by rw [wr]; exact h)⟩
    | str z =>
      refine ⟨_, rfl, rfl, _, rfl, iteF ?_⟩
      refine ⟨_, rfl, V.str z, V.ty "bool", .type "str", .type "bool", false, rfl, .ty "bool", .base (.str z), knb (by simp), _, rfl, iteF ?_⟩
      refine ⟨_, rfl, V.str z, V.ty "int", .type "str", .type "int", false, rfl, .ty "int", .base (.str z), ksi, _, rfl, iteF ?_⟩
      refine ⟨_, rfl, V.str z, V.ty "str", .type "str", .type "str", true, rfl, .ty "str", .base (.str z), ss, _, rfl, iteT ?_⟩
      rw [wr, strW_len] at hl
      have hl : 5 + z.cps.size ≤ 8000000 := hl
      refine ⟨117, rfl, by decide, fun H1 s1 => ⟨(by show 1 ≤ sizeLine; decide), ?_⟩⟩
      walk_at "new2"
      refine ⟨_, rfl, z, rfl, Nat.le_trans (show z.cps.size ≤ 8000000 by omega) (by decide), _, rfl, ?_, ?_, fun p3 H3 n3 s3 h3 => ?_⟩
      · show -2147483648 ≤ (z.cps.size : Int)
        omega
      · show (z.cps.size : Int) ≤ 2147483647
        omega
      refine ⟨p2, p3, _, _, rfl, rfl, s3 _ _ h2, h3, (by rw [List.length_map]; show 1 + 4 ≤ sizeLine; decide), ?_⟩
      walk_at "new4"
      refine ⟨_, rfl, z, rfl, (by show z.cps.size ≤ 8000000; omega), fun p5 H5 n5 s5 h5 => ?_⟩
      refine ⟨p4, p5, _, _, rfl, rfl, s5 _ _ h4, h5, ?_, fun p np => ?_⟩
      · rw [List.length_append, List.length_map, List.length_map, fourW_len, List.length_map, Array.length_toList]
        exact Nat.le_trans (show 1 + 4 + z.cps.size ≤ 8000000 by omega) (by decide)
      · have S := (((s1.trans s2).trans s3).trans s4).trans s5
        refine q p _ (same_none S np) (S.trans (Same.new np)) ?_
        rw [upd_same, wr]
        show _ = some (HO.lst ((117 :: (fourW z.cps.size ++ z.cps.toList.map fun c : Nat => (c : Int))).map V.int))
        rw [List.map_cons, List.map_append]
        rfl
    | @tup a xs ks hx hr0 =>
      have ty : TyX K H (.ref a) (.type "tuple") := .base (.tup hx)
      refine ⟨_, rfl, rfl, _, rfl, iteF ?_⟩
      refine ⟨_, rfl, V.ref a, V.ty "bool", .type "tuple", .type "bool", false, rfl, .ty "bool", ty, knb (by simp), _, rfl, iteF ?_⟩
      refine ⟨_, rfl, V.ref a, V.ty "int", .type "tuple", .type "int", false, rfl, .ty "int", ty, kti, _, rfl, iteF ?_⟩
      refine ⟨_, rfl, V.ref a, V.ty "str", .type "tuple", .type "str", false, rfl, .ty "str", ty, kts, _, rfl, iteF ?_⟩
      refine ⟨_, rfl, V.ref a, V.ty "tuple", .type "tuple", .type "tuple", true, rfl, .ty "tuple", ty, ktt, _, rfl, iteT ?_⟩
      rw [wr, wrL_map] at hl
      rw [wr, wrL_map] at q
      rw [dep] at hd
      obtain ⟨ps, hps⟩ : ∃ ps, ps = ks.map wr := ⟨_, rfl⟩
      rw [← hps] at hl q
      have hpl : ps.length = ks.length := by rw [hps, List.length_map]
      have hfl := partsW_len ps
      have hl : (partsW ps).length ≤ 8000000 := hl
      have hwk : ∀ k, k ∈ ks → Wk k := by
        cases hw with
        | tup h => exact h
      have hn : ks.length ≤ ps.flatten.length := by
        have := flat_pos (ps := ps) fun p hp => (by
          rw [hps] at hp
          obtain ⟨k, _, rfl⟩ := List.mem_map.mp hp
          exact wr_pos k)
        omega
      refine ⟨40, rfl, by decide, fun H1 s1 => ⟨(by show 1 ≤ sizeLine; decide), ?_⟩⟩
      walk_at "new2"
      refine ⟨_, rfl, a, _, rfl, .inr (SqT.of ((s1.trans s2) _ _ hx)), _, rfl, by omega, by rw [hr0.len]; omega, fun p3 H3 n3 s3 h3 => ?_⟩
      refine ⟨p2, p3, _, _, rfl, rfl, s3 _ _ h2, h3, (by rw [List.length_map]; show 1 + 4 ≤ sizeLine; decide), ?_⟩
      walk_at "new4"
      have S4 := ((s1.trans s2).trans s3).trans s4
      have S3 := (s1.trans s2).trans s3
      rw [hr0.len] at h4
      have e4 : H4 p4 = some (.lst ((40 :: fourW ks.length).map V.int)) := by
        rw [h4]
        rfl
      have hx4 := S4 _ _ hx
      have n4a : a ≠ p4 := ne_of_none (S3 _ _ hx) n4
      refine ⟨_, rfl, a, rfl, ⟨_, SqT.of hx4⟩, for_tup (K := K) (a := a) (xs := xs) (fun j σ H' => (∃ v2, σ = [some (.ref a), some (.ref p4), v2]) ∧ But p4 H4 H' ∧ H' p4 = some (.lst ((40 :: fourW ks.length ++ (ps.take j).flatten).map V.int))) ⟨⟨_, rfl⟩, But.refl, by rw [e4]; simp⟩ (fun j σ H' _ p => SqT.of (p.2.1 _ _ n4a hx4)) ?_ ?_⟩
      · rintro j x σ H' hj ⟨⟨v2, rfl⟩, b5, h5⟩
        obtain ⟨k, hk, hkx⟩ := hr0.get hj
        have hkm := List.mem_of_getElem? hk
        have hpj : ps[j]? = some (wr k) := by rw [hps, List.getElem?_map, hk]; rfl
        have hk5 := (hkx.kp (.same S4)).kp (Kp.lst e4 b5)
        have hdk := dep_mem hkm
        have hle := flat_len (ps := ps) (List.mem_of_getElem? hpj)
        have hnx := parts_next hpj
        have htl := take_len (ps := ps) (j := j + 1)
        refine ⟨_, rfl, .inl ⟨rfl, _, SqL.of h5⟩, _, rfl, x, k, rfl, hk5, hwk k hkm, by omega, (by show _ ≤ 8000000; omega), fun b H6 nb s6 h6 => ?_⟩
        refine ⟨p4, b, _, _, rfl, rfl, s6 _ _ h5, h6, ?_, ⟨_, rfl⟩, (b5.trans (But.of s6)).upd, ?_⟩
        · rw [List.length_map, List.length_map, List.length_append, List.length_cons, fourW_len]
          exact Nat.le_trans (show _ ≤ 8000000 by omega) (by decide)
        · rw [upd_same, List.take_add_one, hpj]
          simp
      · rintro σ H' ⟨⟨v2, rfl⟩, b5, h5⟩
        rw [List.take_of_length_le (by rw [hpl, hr0.len]; exact Nat.le_refl _)] at h5
        have S5 : Same H H' := fun b o e => by
          have e3 := S3 _ _ e
          exact b5 b o (ne_of_none e3 n4) (s4 _ _ e3)
        refine ⟨_, rfl, q p4 H' (same_none S3 n4) S5 ?_⟩
        rw [h5, partsW, hpl]
        rfl
    | @code a D m cs hC hcs h0 h1 =>
      obtain ⟨dx, fs, f0, _⟩ := id hC
      have ty : TyX K H (.ref a) (.ref Cc) := .base (.ins f0 G.ins.cl G.ins.ha G.ins.hn G.ins.htk G.ins.hm)
      refine ⟨_, rfl, rfl, _, rfl, iteF ?_⟩
      refine ⟨_, rfl, V.ref a, V.ty "bool", .ref Cc, .type "bool", false, rfl, .ty "bool", ty, GE.nb, _, rfl, iteF ?_⟩
      refine ⟨_, rfl, V.ref a, V.ty "int", .ref Cc, .type "int", false, rfl, .ty "int", ty, GW.ni, _, rfl, iteF ?_⟩
      refine ⟨_, rfl, V.ref a, V.ty "str", .ref Cc, .type "str", false, rfl, .ty "str", ty, GW.ns, _, rfl, iteF ?_⟩
      refine ⟨_, rfl, V.ref a, V.ty "tuple", .ref Cc, .type "tuple", false, rfl, .ty "tuple", ty, GC.nt, _, rfl, iteF ?_⟩
      refine ⟨_, rfl, a, D, m, rfl, hC, fun p1 H1 xs n1 s1 h1' hrow => ?_⟩
      exact ⟨p1, xs, D, cs, rfl, h1', hrow, hcs.kp (.same s1), hw, hd, hl, fun b H2 nb s2 hb => q b H2 (same_none s1 nb) (s1.trans s2) hb⟩
abbrev N_law_written : List Str := ["some", "found", "number", "one"]
theorem sc_law_written : FnScope N_law_written ["some"] (defScope s_law_written) := ⟨rfl, rfl, rfl, by decide +kernel, rfl, by decide +kernel, by decide +kernel⟩
theorem lwr_step {f : Addr} {fd : FuncData} (n : Nat) (T2 : Gl2 mg) (c_law_letter : CalX P w K mg base 1 "_law_letter" spLet) (c_law_four : CalX P w K mg base 1 "_law_four" spFour) (c_law_row_of : CalX P w K mg base 2 "_law_row_of" spRowB) (c_law_element : CalX P w K mg base (2 * n + 3) "_law_element" (spLEl Cc n))
    (F : DefX K mg "_law_written" s_law_written ["some"] f fd) : CalX P w K mg base (2 * n + 4) "_law_written" (spLWr Cc n) := by
  refine calx F sc_law_written (fun vs H Q E h => ?_) (fun cdv A outer s H vs Q E hr h => ?_)
  · obtain ⟨a, xs, D, cs, rfl, _⟩ := h
    rfl
  · obtain ⟨a, xs, D, cs, rfl, ha, hrow, hcs, hw, hd, hl, q⟩ := h
    have lv1 : 1 ≤ 2 * n + 3 := by omega
    have lv2 : 2 ≤ 2 * n + 3 := by omega
    have lv3 : 2 * n + 3 ≤ 2 * n + 3 := by omega
    refine ⟨_, (pss_cons (ps_set (i := 1) sc_law_written.nd rfl (.inl rfl) (pe_lst (pa_cons (pe_cx c_law_letter hr lv1 rfl (pa_cons pe_str pa_nil)) pa_nil)))
    (pss_cons (ps_for PassesOwn.never rfl (pi_tup (pe_tup (pa_cons (pe_ix ix_list (pv 0) pe_int (fun _ _ => rfl)) (pa_cons pe_int (pa_cons (pe_ix ix_list (pv 0) pe_int (fun _ _ => rfl)) (pa_cons (pe_ix ix_list (pv 0) pe_int (fun _ _ => rfl)) (pa_cons (pe_ix ix_list (pv 0) pe_int (fun _ _ => rfl)) pa_nil))))))) (pg_name (i := 2) sc_law_written.nd rfl (.inl rfl))
      (pss_one (ps_expr (pe_bm PySem.F.plainAttrs_list PySem.F.slot_list_extend PySem.F.type_list_extend mt_extend (pv 1) (pa_cons (pe_cx c_law_four hr lv1 rfl (pa_cons (pv 2) pa_nil)) pa_nil)))))
    (pss_cons (ps_set (i := 1) sc_law_written.nd rfl (.inl rfl) (pe_op op_cat (pv 1) (pe_cx c_law_row_of hr lv2 rfl (pa_cons (pe_ix ix_list (pv 0) pe_int (fun _ _ => rfl)) pa_nil))))
    (pss_cons (ps_for PassesOwn.never rfl (pi_list (pe_slice sl_list (pv 0) (po_some pe_int) (po_some pe_int))) (pg_name (i := 3) sc_law_written.nd rfl (.inl rfl))
      (pss_one (ps_expr (pe_bm PySem.F.plainAttrs_list PySem.F.slot_list_extend PySem.F.type_list_extend mt_extend (pv 1) (pa_cons (pe_cx c_law_element hr lv3 rfl (pa_cons (pe_callTy call_tupleB (by rfl) T2.n_tuple Boot.«tuple» (pa_cons (pv 3) pa_nil)) pa_nil)) pa_nil)))))
    (pss_cons (ps_set (i := 1) sc_law_written.nd rfl (.inl rfl) (pe_op op_cat (pv 1) (pe_cx c_law_row_of hr lv2 rfl (pa_cons (pe_ix ix_list (pv 0) pe_int (fun _ _ => rfl)) pa_nil))))
    (pss_cons (ps_for PassesOwn.never rfl (pi_list (pe_lst (pa_cons pe_str (pa_cons (pe_ix ix_list (pv 0) pe_int (fun _ _ => rfl)) (pa_cons (pe_ix ix_list (pv 0) pe_int (fun _ _ => rfl)) pa_nil))))) (pg_name (i := 3) sc_law_written.nd rfl (.inl rfl))
      (pss_one (ps_expr (pe_bm PySem.F.plainAttrs_list PySem.F.slot_list_extend PySem.F.type_list_extend mt_extend (pv 1) (pa_cons (pe_cx c_law_element hr lv3 rfl (pa_cons (pv 3) pa_nil)) pa_nil)))))
    (pss_one (ps_ret (pe_op op_cat (pe_op op_cat (pe_op op_cat (pv 1) (pe_cx c_law_four hr lv1 rfl (pa_cons (pe_ix ix_list (pv 0) pe_int (fun _ _ => rfl)) pa_nil))) (pe_cx c_law_row_of hr lv2 rfl (pa_cons (pe_ix ix_list (pv 0) pe_int (fun _ _ => rfl)) pa_nil))) (pe_cx c_law_row_of hr lv2 rfl (pa_cons (pe_ix ix_list (pv 0) pe_int (fun _ _ => rfl)) pa_nil))))))))))), ?_⟩
    obtain ⟨mF, hF⟩ : ∃ m, FldS m D.fd := by
      cases hw with
      | code h _ => exact ⟨_, h⟩
    have hcw : ∀ c, c ∈ cs → Wk c := by
      cases hw with
      | code _ h => exact h
    rw [dep] at hd
    have lenW : 1 + 20 + (rowW D.code).length + (partsW (cs.map wr)).length + (partsW (D.names.map strW)).length + (partsW (D.slots.map strW)).length + (rowW D.kinds).length + (strW "<tree>").length + (strW D.name).length + (strW D.path).length + 4 + (rowW D.lines).length + (rowW D.handlers).length = (wr (.code D.fd cs)).length := by
      rw [wr, wrL_map]
      simp only [List.length_append, List.length_cons, fourW_len]
      show _ = _
      simp only [CD.fd]
      omega
    have hl : (wr (.code D.fd cs)).length ≤ 8000000 := hl
    obtain ⟨t1, t2, t3, t4, t5, t6, t7, rfl, g1, g2, g3, g4, g5, g6, g7⟩ := id hrow
    obtain ⟨row, hrw⟩ : ∃ row, row = [V.int D.i1, .int D.i2, .int D.i3, .int D.i4, .ref t1, .ref t2, .ref t3, .ref t4, .ref t5, .str D.name, .str D.path, .int D.line, .ref t6, .ref t7] := ⟨_, rfl⟩
    rw [← hrw] at ha
    have r0 : row[0]? = some (V.int D.i1) := by rw [hrw]; rfl
    have r1 : row[1]? = some (V.int D.i2) := by rw [hrw]; rfl
    have r2 : row[2]? = some (V.int D.i3) := by rw [hrw]; rfl
    have r3 : row[3]? = some (V.int D.i4) := by rw [hrw]; rfl
    have r4 : row[4]? = some (V.ref t1) := by rw [hrw]; rfl
    have r8 : row[8]? = some (V.ref t5) := by rw [hrw]; rfl
    have r9 : row[9]? = some (V.str D.name) := by rw [hrw]; rfl
    have r10 : row[10]? = some (V.str D.path) := by rw [hrw]; rfl
    have r11 : row[11]? = some (V.int D.line) := by rw [hrw]; rfl
    have r12 : row[12]? = some (V.ref t6) := by rw [hrw]; rfl
    have r13 : row[13]? = some (V.ref t7) := by rw [hrw]; rfl
    have r58 : cutV row (some 5) (some 8) = [V.ref t2, .ref t3, .ref t4] := by rw [hrw]; rfl
    -- the letter, the five numbers
    refine ⟨99, rfl, by decide, fun H1 s1 => ⟨(by show 1 ≤ sizeLine; decide), ?_⟩⟩
    walk_at "new2"
    have S2 := s1.trans s2
    have sq2 := SqL.of (K := K) (S2 _ _ ha)
    refine ⟨_, rfl, a, _, 0, _, rfl, rfl, sq2, atI_nat (j := 0) r0, ?_⟩
    refine ⟨_, rfl, a, _, 1, _, rfl, rfl, sq2, atI_nat (j := 1) r1, ?_⟩
    refine ⟨_, rfl, a, _, 2, _, rfl, rfl, sq2, atI_nat (j := 2) r2, ?_⟩
    refine ⟨_, rfl, a, _, 3, _, rfl, rfl, sq2, atI_nat (j := 3) r3, ?_⟩
    refine ⟨by show 5 ≤ sizeLine; decide, ?_⟩
    walk_at "new3"
    have S3 := S2.trans s3
    have i32 : ∀ {i : Int}, 0 ≤ i ∧ i ≤ 2147483647 → R32 i := fun h => ⟨by omega, h.2⟩
    have n32 : ∀ x ∈ [D.i1, 0, D.i2, D.i3, D.i4], R32 x := by
      intro x hx
      simp only [List.mem_cons, List.mem_nil_iff, or_false] at hx
      rcases hx with rfl | rfl | rfl | rfl | rfl
      · exact i32 hF.n1
      · exact ⟨by decide, by decide⟩
      · exact i32 hF.n2
      · exact i32 hF.n3
      · exact i32 hF.n4
    have n1a : a ≠ p2 := ne_of_none (s1 _ _ ha) n2
    have n32p : p3 ≠ p2 := fun z => by rw [z, h2] at n3; cases n3
    have e2 : H3 p2 = some (.lst (([99] : List Int).map V.int)) := by
      rw [s3 _ _ h2]
      rfl
    have h3' : H3 p3 = some (.tup ([D.i1, 0, D.i2, D.i3, D.i4].map V.int)) := h3
    refine ⟨p3, rfl, ⟨_, SqT.of h3'⟩, for_tup (K := K) (a := p3) (xs := [D.i1, 0, D.i2, D.i3, D.i4].map V.int) (fun j σ H' => (∃ v2, σ = [some (.ref a), some (.ref p2), v2, none]) ∧ But p2 H3 H' ∧ H' p2 = some (.lst (([99] ++ (([D.i1, 0, D.i2, D.i3, D.i4].map fourW).take j).flatten).map V.int))) ⟨⟨_, rfl⟩, But.refl, by rw [e2]; simp⟩ (fun j σ H' _ p => SqT.of (p.2.1 _ _ n32p h3')) ?_ ?_⟩
    · rintro j x σ H' hj ⟨⟨v2, rfl⟩, b4, h4⟩
      rw [List.getElem?_map] at hj
      obtain ⟨x, hx, rfl⟩ := Option.map_eq_some_iff.mp hj
      have hR := n32 x (List.mem_of_getElem? hx)
      have hpj : ([D.i1, 0, D.i2, D.i3, D.i4].map fourW)[j]? = some (fourW x) := by rw [List.getElem?_map, hx]; rfl
      refine ⟨_, rfl, .inl ⟨rfl, _, SqL.of h4⟩, _, rfl, x, rfl, hR.1, hR.2, fun b H5 nb s5 h5 => ?_⟩
      refine ⟨p2, b, _, _, rfl, rfl, s5 _ _ h4, h5, ?_, ⟨_, rfl⟩, (b4.trans (But.of s5)).upd, ?_⟩
      · have := take_len (ps := [D.i1, 0, D.i2, D.i3, D.i4].map fourW) (j := j)
        rw [List.length_map, List.length_map, List.length_append, fourW_len]
        exact Nat.le_trans (show _ ≤ 100 by
          have e : (([D.i1, 0, D.i2, D.i3, D.i4].map fourW).flatten).length = 20 := rfl
          rw [e] at this
          show 1 + _ + 4 ≤ 100
          omega) (by decide)
      · rw [upd_same, List.take_add_one, hpj]
        simp
    rintro σ H4 ⟨⟨v2, rfl⟩, b4, h4⟩
    have S4 : Same H H4 := fun b o e => by
      have e1 := s1 _ _ e
      exact b4 b o (ne_of_none e1 n2) (s3 _ _ (s2 _ _ e1))
    have n2' := same_none s1 n2
    clear S2 S3 sq2 e2 h3' h3 h2 n32p
    rw [List.take_of_length_le (by simp)] at h4
    obtain ⟨w1, hw1⟩ : ∃ w1, w1 = [99] ++ ([D.i1, 0, D.i2, D.i3, D.i4].map fourW).flatten := ⟨_, rfl⟩
    have lw1 : w1.length = 21 := by rw [hw1]; rfl
    rw [← hw1] at h4
    -- the code
    refine ⟨_, rfl, _, rfl, a, _, 4, _, rfl, rfl, SqL.of (S4 _ _ ha), atI_nat (j := 4) r4, ?_⟩
    refine ⟨t1, _, rfl, S4 _ _ g1, (by show _ ≤ 8000000; omega), fun p5 H5 n5 s5 h5 => ?_⟩
    refine ⟨p2, p5, _, _, rfl, rfl, s5 _ _ h4, h5, ?_, ?_⟩
    · rw [List.length_map, List.length_map]
      exact Nat.le_trans (show _ ≤ 8000000 by omega) (by decide)
    walk_at "new6"
    have S6 := (S4.trans s5).trans s6
    have e6 : H6 p6 = some (.lst ((w1 ++ rowW D.code).map V.int)) := by
      rw [h6, ← List.map_append]
    clear h6
    -- the constants, the names, the slots
    refine ⟨_, rfl, _, rfl, _, rfl, a, _, rfl, SqL.of (S6 _ _ ha), ?_⟩
    walk_at "new7"
    rw [r58] at h7
    have S7 := S6.trans s7
    have n6' := same_none (S4.trans s5) n6
    have e7 := s7 _ _ e6
    have kv7 : ∀ (j : Nat) (x : V), [V.ref t2, .ref t3, .ref t4][j]? = some x → ∃ t k, x = .ref t ∧ [Kd.tup cs, strsK D.names, strsK D.slots][j]? = some k ∧ KvAt Cc H7 (.ref t) k := by
      intro j x hj
      match j, hj with
      | 0, hj =>
        cases hj
        exact ⟨_, _, rfl, rfl, .tup (S7 _ _ g2) (hcs.kp (.same S7))⟩
      | 1, hj =>
        cases hj
        exact ⟨_, _, rfl, rfl, .tup (S7 _ _ g3) (kv_strs _)⟩
      | 2, hj =>
        cases hj
        exact ⟨_, _, rfl, rfl, .tup (S7 _ _ g4) (kv_strs _)⟩
    obtain ⟨ps, hps⟩ : ∃ ps, ps = [partsW (cs.map wr), partsW (D.names.map strW), partsW (D.slots.map strW)] := ⟨_, rfl⟩
    have hpk : ps = [Kd.tup cs, strsK D.names, strsK D.slots].map wr := by
      rw [hps]
      show _ = [_, _, _]
      rw [strsK_wr, strsK_wr, wr, wrL_map]
    have wk7 : ∀ k ∈ [Kd.tup cs, strsK D.names, strsK D.slots], Wk k ∧ dep k < n ∧ (wr k).length ≤ 8000000 := by
      intro k hk
      simp only [List.mem_cons, List.mem_nil_iff, or_false] at hk
      rcases hk with rfl | rfl | rfl
      · exact ⟨.tup hcw, by rw [dep]; omega, by rw [wr, wrL_map]; omega⟩
      · exact ⟨strsK_wk _, by have := strsK_dep D.names; omega, by rw [strsK_wr]; omega⟩
      · exact ⟨strsK_wk _, by have := strsK_dep D.slots; omega, by rw [strsK_wr]; omega⟩
    have lps : ps.flatten.length = (partsW (cs.map wr)).length + (partsW (D.names.map strW)).length + (partsW (D.slots.map strW)).length := by
      rw [hps]
      simp only [List.flatten_cons, List.flatten_nil, List.length_append, List.length_nil]
      omega
    have n76 : p7 ≠ p6 := fun z => by rw [z, e6] at n7; cases n7
    refine ⟨p7, rfl, ⟨_, SqL.of h7⟩, for_list (K := K) (a := p7) (xs := [V.ref t2, .ref t3, .ref t4]) (fun j σ H' => (∃ v2 v3, σ = [some (.ref a), some (.ref p6), v2, v3]) ∧ But p6 H7 H' ∧ H' p6 = some (.lst ((w1 ++ rowW D.code ++ (ps.take j).flatten).map V.int))) ⟨⟨_, _, rfl⟩, But.refl, by rw [e7]; simp⟩ (fun j σ H' _ p => SqL.of (p.2.1 _ _ n76 h7)) ?_ ?_⟩
    · rintro j x σ H' hj ⟨⟨v2, v3, rfl⟩, b8, h8⟩
      obtain ⟨t, k, rfl, hk, hkv⟩ := kv7 j x hj
      obtain ⟨hkw, hkd, hkl⟩ := wk7 k (List.mem_of_getElem? hk)
      have hpj : ps[j]? = some (wr k) := by rw [hpk, List.getElem?_map, hk]; rfl
      have hk8 := hkv.kp (Kp.lst e7 b8)
      have htl := take_len (ps := ps) (j := j + 1)
      have hnx := parts_next hpj
      have htup : ∃ xs, H' t = some (.tup xs) := by
        cases k with
        | tup ks => cases hk8 with
          | tup h _ => exact ⟨_, h⟩
        | _ => match j, hk with
          | 0, hk => cases hk
          | 1, hk => cases hk
          | 2, hk => cases hk
      obtain ⟨ys, hys⟩ := htup
      refine ⟨_, rfl, .inl ⟨rfl, _, SqL.of h8⟩, _, rfl, t, ys, rfl, .inr hys, fun t' H9 s9 h9 ht' => ?_⟩
      have htt : KvAt Cc H9 (.ref t') k := by
        rcases ht' with e | e
        · rw [e]
          exact hk8.kp (.same s9)
        · cases hk8 with
          | tup h r =>
            rw [hys] at h
            cases h
            exact .tup h9 (r.kp (.same s9))
          | code h _ _ _ =>
            obtain ⟨_, _, h, _⟩ := h
            rw [hys] at h
            cases h
      refine ⟨.ref t', k, rfl, htt, hkw, hkd, hkl, fun b H10 nb s10 h10 => ?_⟩
      refine ⟨p6, b, _, _, rfl, rfl, s10 _ _ (s9 _ _ h8), h10, ?_, ⟨_, _, rfl⟩, (b8.trans (But.of (s9.trans s10))).upd, ?_⟩
      · rw [List.length_map, List.length_map, List.length_append, List.length_append]
        exact Nat.le_trans (show _ ≤ 8000000 by omega) (by decide)
      · rw [upd_same, List.take_add_one, hpj]
        simp
    rintro σ H8 ⟨⟨v2, v3, rfl⟩, b8, h8⟩
    have S8 : Same H H8 := fun b o e => by
      have e5 := s5 _ _ (S4 _ _ e)
      exact b8 b o (ne_of_none e5 n6) (s7 _ _ (s6 _ _ e5))
    clear S6 S7 kv7 e7 e6 h7 n76 wk7
    rw [List.take_of_length_le (by rw [hps]; exact Nat.le_refl _)] at h8
    -- the kinds
    refine ⟨_, rfl, _, rfl, a, _, 8, _, rfl, rfl, SqL.of (S8 _ _ ha), atI_nat (j := 8) r8, ?_⟩
    refine ⟨t5, _, rfl, S8 _ _ g5, (by show _ ≤ 8000000; omega), fun p9 H9 n9 s9 h9 => ?_⟩
    refine ⟨p6, p9, _, _, rfl, rfl, s9 _ _ h8, h9, ?_, ?_⟩
    · rw [List.length_map, List.length_map, List.length_append, List.length_append]
      exact Nat.le_trans (show _ ≤ 8000000 by omega) (by decide)
    walk_at "new10"
    have S10 := (S8.trans s9).trans s10
    have e10 : H10 p10 = some (.lst ((w1 ++ rowW D.code ++ ps.flatten ++ rowW D.kinds).map V.int)) := by
      rw [h10, ← List.map_append]
    clear h10
    -- the texts
    have sq10 := SqL.of (K := K) (S10 _ _ ha)
    refine ⟨_, rfl, a, _, 9, _, rfl, rfl, sq10, atI_nat (j := 9) r9, ?_⟩
    refine ⟨_, rfl, a, _, 10, _, rfl, rfl, sq10, atI_nat (j := 10) r10, ?_⟩
    refine ⟨by show 3 ≤ sizeLine; decide, ?_⟩
    walk_at "new11"
    have e11 := s11 _ _ e10
    have h11' : H11 p11 = some (.lst (([("<tree>" : Str), D.name, D.path]).map V.str)) := h11
    obtain ⟨qs, hqs⟩ : ∃ qs, qs = [("<tree>" : Str), D.name, D.path].map strW := ⟨_, rfl⟩
    have lqs : qs.flatten.length = (strW "<tree>").length + (strW D.name).length + (strW D.path).length := by
      rw [hqs]
      simp only [List.map_cons, List.map_nil, List.flatten_cons, List.flatten_nil, List.length_append, List.length_nil]
      omega
    have n1110 : p11 ≠ p10 := fun z => by rw [z, e10] at n11; cases n11
    refine ⟨p11, rfl, ⟨_, SqL.of h11'⟩, for_list (K := K) (a := p11) (xs := [("<tree>" : Str), D.name, D.path].map V.str) (fun j σ H' => (∃ v2 v3, σ = [some (.ref a), some (.ref p10), v2, v3]) ∧ But p10 H11 H' ∧ H' p10 = some (.lst ((w1 ++ rowW D.code ++ ps.flatten ++ rowW D.kinds ++ (qs.take j).flatten).map V.int))) ⟨⟨_, _, rfl⟩, But.refl, by rw [e11]; simp⟩ (fun j σ H' _ p => SqL.of (p.2.1 _ _ n1110 h11')) ?_ ?_⟩
    · rintro j x σ H' hj ⟨⟨v2, v3, rfl⟩, b12, h12⟩
      rw [List.getElem?_map] at hj
      obtain ⟨x, hx, rfl⟩ := Option.map_eq_some_iff.mp hj
      have hpj : qs[j]? = some (strW x) := by rw [hqs, List.getElem?_map, hx]; rfl
      have htl := take_len (ps := qs) (j := j + 1)
      have hnx := parts_next hpj
      refine ⟨_, rfl, .inl ⟨rfl, _, SqL.of h12⟩, _, rfl, .str x, .str x, rfl, .str x, .str x, by rw [dep]; omega, (by rw [wr]; show _ ≤ 8000000; omega), fun b H13 nb s13 h13 => ?_⟩
      rw [wr] at h13
      refine ⟨p10, b, _, _, rfl, rfl, s13 _ _ h12, h13, ?_, ⟨_, _, rfl⟩, (b12.trans (But.of s13)).upd, ?_⟩
      · rw [List.length_map, List.length_map, List.length_append, List.length_append, List.length_append, List.length_append]
        exact Nat.le_trans (show _ ≤ 8000000 by omega) (by decide)
      · rw [upd_same, List.take_add_one, hpj]
        simp
    rintro σ H12 ⟨⟨v2, v3, rfl⟩, b12, h12⟩
    have S12 : Same H H12 := fun b o e => by
      have e9 := s9 _ _ (S8 _ _ e)
      exact b12 b o (ne_of_none e9 n10) (s11 _ _ (s10 _ _ e9))
    rw [List.take_of_length_le (by rw [hqs]; exact Nat.le_refl _)] at h12
    clear e10 e11 h11 h11' S10 sq10 n1110
    -- the line, the two tables
    refine ⟨_, rfl, _, rfl, a, _, 11, _, rfl, rfl, SqL.of (S12 _ _ ha), atI_nat (j := 11) r11, ?_⟩
    have hline := i32 hF.line
    refine ⟨_, rfl, hline.1, hline.2, fun p13 H13 n13 s13 h13 => ?_⟩
    refine ⟨p10, p13, _, _, rfl, rfl, s13 _ _ h12, h13, ?_, ?_⟩
    · rw [List.length_map, List.length_map, fourW_len, List.length_append, List.length_append, List.length_append, List.length_append]
      exact Nat.le_trans (show _ ≤ 8000000 by omega) (by decide)
    walk_at "new14"
    have S14 := (S12.trans s13).trans s14
    refine ⟨_, rfl, a, _, 12, _, rfl, rfl, SqL.of (S14 _ _ ha), atI_nat (j := 12) r12, ?_⟩
    refine ⟨t6, _, rfl, S14 _ _ g6, (by show _ ≤ 8000000; omega), fun p15 H15 n15 s15 h15 => ?_⟩
    refine ⟨p14, p15, _, _, rfl, rfl, s15 _ _ h14, h15, ?_, ?_⟩
    · rw [List.length_append, List.length_map, List.length_map, List.length_map, fourW_len, List.length_append, List.length_append, List.length_append, List.length_append]
      exact Nat.le_trans (show _ ≤ 8000000 by omega) (by decide)
    walk_at "new16"
    have S16 := (S14.trans s15).trans s16
    refine ⟨_, rfl, a, _, 13, _, rfl, rfl, SqL.of (S16 _ _ ha), atI_nat (j := 13) r13, ?_⟩
    refine ⟨t7, _, rfl, S16 _ _ g7, (by show _ ≤ 8000000; omega), fun p17 H17 n17 s17 h17 => ?_⟩
    refine ⟨p16, p17, _, _, rfl, rfl, s17 _ _ h16, h17, ?_, fun p np => ?_⟩
    · rw [List.length_append, List.length_append, List.length_map, List.length_map, List.length_map, List.length_map, fourW_len, List.length_append, List.length_append, List.length_append, List.length_append]
      exact Nat.le_trans (show _ ≤ 8000000 by omega) (by decide)
    · have S17 := S16.trans s17
      refine q p _ (same_none S17 np) (S17.trans (Same.new np)) ?_
      rw [upd_same, ← List.map_append, ← List.map_append, ← List.map_append, hw1, hps, hqs, wr, wrL_map]
      simp only [CD.fd, List.map_cons, List.map_nil, List.flatten_cons, List.flatten_nil, List.append_nil, List.append_assoc, List.cons_append, List.nil_append]
theorem ok_law_element {f fW : Addr} {fd fdW : FuncData} (T : GlL mg) (T2 : Gl2 mg) (G : GlK P K mg Cc Cn fI) (GC : GlC K Cc) (GE : GlE mg K Cc) (GW : GlW mg K Cc) (c_law_letter : CalX P w K mg base 1 "_law_letter" spLet) (c_law_four : CalX P w K mg base 1 "_law_four" spFour) (c_law_integer : CalX P w K mg base 2 "_law_integer" spLInt) (c_law_signs : CalX P w K mg base 1 "_law_signs" spLSigns) (c_law_fields : CalX P w K mg base 1 "_law_fields" (spFields Cc)) (c_law_row_of : CalX P w K mg base 2 "_law_row_of" spRowB)
    (FW : DefX K mg "_law_written" s_law_written ["some"] fW fdW) (F : DefX K mg "_law_element" s_law_element ["value"] f fd) : ∀ n, CalX P w K mg base (2 * n + 3) "_law_element" (spLEl Cc n)
  | 0 => by
    refine calx F sc_law_element (fun vs H Q E h => ?_) (fun cdv A outer s H vs Q E hr h => ?_)
    · obtain ⟨v, k, _, _, _, hd, _⟩ := h
      exact absurd hd (Nat.not_lt_zero _)
    · obtain ⟨v, k, _, _, _, hd, _⟩ := h
      exact absurd hd (Nat.not_lt_zero _)
  | n + 1 => by
    have ih := ok_law_element T T2 G GC GE GW c_law_letter c_law_four c_law_integer c_law_signs c_law_fields c_law_row_of FW F n
    exact lel_step n T T2 G GC GE GW c_law_letter c_law_four c_law_integer c_law_signs c_law_fields ih (lwr_step n T2 c_law_letter c_law_four c_law_row_of ih FW) F
end
end K52
set_option maxHeartbeats 4000000
/-! ### repr of None, a bool, an int of any size, a text -/
namespace Nd
open PySem PySem.Spec PyProof.Rows L2
open PySem.Builtin PySem.Builtin.Str
section
variable {prog : Program} {w : World} {A : Around} {E : Value → Shared → Prop} {s : Shared}
theorem repr_of_intW {a : Int} {t : Tok} {Q : Value → Shared → Prop} (hh : A.handled = none) (hn : s.heap.NoDigits) (ha : a.natAbs < 10 ^ 4300) (h : Q (.str (toString a) s.toks) { s with toks := s.toks + 1 }) :
    wpAny (model prog w) A (call (.builtin "repr") [.int a t]) Q E s := by
  refine Calls.call_function_entry F.kind_repr F.plain_repr F.entry_repr (F.args_repr1 _) ?_
  unfold Builtin.«repr»
  have hv : [Value.int a t].any Value.onHeap = false := rfl
  refine wpAny_bind (m := oneArg "repr" _) (wpAny_pure ?_)
  simp only [cRoomFor, hv, Bool.false_eq_true, if_false, pure_bind]
  refine wpAny_bind (wpAny_specialOf (name := Str.ofString "__repr__") (typeIs_int s a t) F.slot_int_repr.lookup ?_)
  refine wpAny_bind (m := callSpecialIfBound? (.int a t) (Str.ofString "__repr__")) (wpAny_callSpecialIfBound?_slot (name := Str.ofString "__repr__") (typeIs_int s a t) F.slot_int_repr
    (call_int_repr_or hh hn (fun hlt => ?_) (fun z => absurd ha (Nat.not_lt.mpr z))))
  refine wpAny_bind (wpAny_isInstance (T := "str") (b := true) rfl isSubtype_str_str ?_)
  exact wpAny_pure ⟨_, rfl, h⟩
end
def shownS : V → Str
  | .non => "None"
  | .bl b => if b then "True" else "False"
  | .int i => toString i
  | .str z => reprText z
  | _ => ""
def rReprS : List V → Hp → VK → Prop := fun xs H Q => ∃ x, xs = [x] ∧ (x = .non ∨ (∃ b, x = .bl b) ∨ (∃ i : Int, x = .int i ∧ i.natAbs < 10 ^ 4300) ∨ ∃ z, x = .str z ∧ (reprText z).length ≤ sizeLine) ∧ Q (.str (shownS x)) H
theorem call_reprS {X : Cx} (hc : X.calm = true) (hn : PySem.W.nsIn X.K cStatics "sys.int_max_str_digits" = some none) : CallR X (.builtin "repr") rReprS := by
  intro pins s σ H xs us Q I r h
  obtain ⟨x, rfl, hx, q⟩ := h
  cases r with
  | cons ra rr =>
    cases rr
    rcases hx with rfl | ⟨b, rfl⟩ | ⟨i, rfl, hi⟩ | ⟨z, rfl, hz⟩
    · cases ra
      exact PySem.P.repr_of_none ⟨.str _, H, I.tok _, ⟨_, rfl⟩, q⟩
    · cases ra
      refine PySem.P.repr_of_bool ⟨.str (if b then "True" else "False"), H, I.tok _, ⟨s.toks, ?_⟩, q⟩
      cases b <;> rfl
    · obtain ⟨t, rfl⟩ := ra
      obtain ⟨mc, h1, h2⟩ := I.ok.mod.nolimit
      have h3 := h1.keeps fun b o e => (I.env0.bs b o e).1
      exact repr_of_intW (I.ok.hd hc) ⟨mc, h3, PySem.W.ns_none_of I.kIn h3 hn⟩ hi ⟨.str _, H, I.tok _, ⟨_, rfl⟩, q⟩
    · obtain ⟨t, rfl⟩ := ra
      exact PySem.P.repr_of_str ⟨.str _, H, I.tok _, ⟨_, rfl⟩, q⟩ hz
end Nd
set_option maxHeartbeats 4000000
namespace K52
open PySem PySem.Spec PyProof.Rows L2 Nd
/-! ### k52: whether two constants are of one kind all through -/
def intsK (ns : List Int) : Kd := .tup (ns.map Kd.int)
/-- the row of a code's fields -/
def rowK (F : FD) (cs : List Kd) : List Kd := [.int F.i1, .int F.i2, .int F.i3, .int F.i4, intsK F.code, .tup cs, strsK F.names, strsK F.slots, intsK F.kinds, .str F.name, .str F.path, .int F.line, intsK F.lines, intsK F.handlers]
theorem kv_ints {Cc : Addr} {H : Hp} : ∀ xs : List Int, KvAll Cc H (xs.map V.int) (xs.map Kd.int)
  | [] => .nil
  | x :: xs => .cons (.int x) (kv_ints xs)
theorem RowT.kv {Cc : Addr} {H : Hp} {xs : List V} {D : CD} {cs : List Kd} (h : RowT H xs D) (hc : KvAll Cc H D.consts cs) : KvAll Cc H xs (rowK D.fd cs) := by
  obtain ⟨t1, t2, t3, t4, t5, t6, t7, rfl, g1, g2, g3, g4, g5, g6, g7⟩ := h
  exact .cons (.int _) (.cons (.int _) (.cons (.int _) (.cons (.int _) (.cons (.tup g1 (kv_ints _)) (.cons (.tup g2 hc) (.cons (.tup g3 (kv_strs _)) (.cons (.tup g4 (kv_strs _)) (.cons (.tup g5 (kv_ints _)) (.cons (.str _) (.cons (.str _) (.cons (.int _) (.cons (.tup g6 (kv_ints _)) (.cons (.tup g7 (kv_ints _)) .nil)))))))))))))
/-- what can be shown -/
inductive Ks : Kd → Prop
  | non : Ks .non
  | bl (b : Bool) : Ks (.bl b)
  | int (i : Int) (h : i.natAbs < 10 ^ 4300) : Ks (.int i)
  | str (s : Str) (h : ∀ c ∈ s.cps.toList, c < 16 ^ 8) (hz : s.cps.size ≤ 1000) : Ks (.str s)
  | tup {l : List Kd} (hl : l.length ≤ 1000) (h : ∀ k, k ∈ l → Ks k) : Ks (.tup l)
  | code {F : FD} {cs : List Kd} (h : ∀ k, k ∈ rowK F cs → Ks k) : Ks (.code F cs)
theorem ks_str {s : Str} (h : OkS s) (hz : s.cps.size ≤ 1000) : Ks (.str s) := .str s (fun c hc => by
  obtain ⟨_, h2, _⟩ := oks_c h hc
  exact Nat.lt_of_le_of_lt h2 (by decide)) hz
theorem ks_ints {ns : List Int} (hl : ns.length ≤ 1000) (h : ∀ n ∈ ns, 0 ≤ n ∧ n ≤ 255) : Ks (intsK ns) := .tup (by rw [List.length_map]; exact hl) fun k hk => by
  obtain ⟨n, hn, rfl⟩ := List.mem_map.mp hk
  obtain ⟨h0, h1⟩ := h n hn
  exact .int n (Nat.lt_of_le_of_lt (show n.natAbs ≤ 255 by omega) (by decide +kernel))
theorem ks_strs {m : Nat} {xs : List Str} (hm : m ≤ 1000) (hl : xs.length ≤ m) (h : ∀ x ∈ xs, x.cps.size ≤ m ∧ OkS x) : Ks (strsK xs) := .tup (by rw [List.length_map]; exact Nat.le_trans hl hm) fun k hk => by
  obtain ⟨n, hn, rfl⟩ := List.mem_map.mp hk
  obtain ⟨h0, h1⟩ := h n hn
  exact ks_str h1 (Nat.le_trans h0 hm)
theorem ks_num {n : Int} (h : 0 ≤ n ∧ n ≤ 2147483647) : Ks (.int n) := .int n (Nat.lt_of_le_of_lt (show n.natAbs ≤ 2147483647 by omega) (by decide +kernel))
theorem ks_row {m : Nat} {F : FD} {cs : List Kd} (hm : m ≤ 1000) (h : FldS m F) (hl : cs.length ≤ 1000) (hc : ∀ c, c ∈ cs → Ks c) : ∀ k ∈ rowK F cs, Ks k := by
  have tl : ∀ {j : Nat}, j ≤ m → j ≤ 1000 := fun h => Nat.le_trans h hm
  intro k hk
  simp only [rowK, List.mem_cons, List.mem_nil_iff, or_false] at hk
  rcases hk with rfl | rfl | rfl | rfl | rfl | rfl | rfl | rfl | rfl | rfl | rfl | rfl | rfl | rfl
  · exact ks_num h.n1
  · exact ks_num h.n2
  · exact ks_num h.n3
  · exact ks_num h.n4
  · exact ks_ints (tl h.code.2) h.code.1
  · exact .tup hl hc
  · exact ks_strs hm h.names.2 h.names.1
  · exact ks_strs hm h.slots.2 h.slots.1
  · exact ks_ints (tl h.kinds.2) h.kinds.1
  · exact ks_str h.name.2 (tl h.name.1)
  · exact ks_str h.path.2 (tl h.path.1)
  · exact ks_num h.line
  · exact ks_ints (tl h.lines.2) h.lines.1
  · exact ks_ints (tl h.handlers.2) h.handlers.1
theorem KdC.ks {n : Nat} {k : Kd} (h : KdC n k) : n ≤ 1000 → Ks k := by
  induction h with
  | non => exact fun _ => .non
  | bl b => exact fun _ => .bl b
  | @int n i h => exact fun hn => .int i (Nat.lt_of_lt_of_le (show i.natAbs < 2 ^ 3400 + 1000 by omega) (by decide +kernel))
  | str s h1 h2 => exact fun _ => ks_str h2 (Nat.le_trans h1 (by decide))
  | tup hl h ih => exact fun hn => .tup (Nat.le_trans hl (by decide)) fun k hk => ih k hk (by omega)
theorem Gk.ks {n m e : Nat} {k : Kd} (hn : n ≤ 1000) (hm : m ≤ 1000) (h : Gk n m e k) : Ks k := by
  induction h with
  | flat h => exact h.ks hn
  | code h hl hc ih => exact .code (ks_row hm h (Nat.le_trans hl (by decide)) ih)
theorem rowK_dep (F : FD) (cs : List Kd) : depL (rowK F cs) ≤ depL cs + 1 := by
  have e1 : ∀ ns : List Int, dep (intsK ns) ≤ 1 := fun ns => by
    rw [intsK, dep]
    refine Nat.succ_le_succ (depL_le fun k hk => ?_)
    obtain ⟨x, _, rfl⟩ := List.mem_map.mp hk
    rw [dep]
    exact Nat.le_refl _
  refine depL_le fun k hk => ?_
  simp only [rowK, List.mem_cons, List.mem_nil_iff, or_false] at hk
  rcases hk with rfl | rfl | rfl | rfl | rfl | rfl | rfl | rfl | rfl | rfl | rfl | rfl | rfl | rfl
  · rw [dep]; omega
  · rw [dep]; omega
  · rw [dep]; omega
  · rw [dep]; omega
  · exact Nat.le_trans (e1 _) (by omega)
  · rw [dep]; exact Nat.le_refl _
  · exact Nat.le_trans (strsK_dep _) (by omega)
  · exact Nat.le_trans (strsK_dep _) (by omega)
  · exact Nat.le_trans (e1 _) (by omega)
  · rw [dep]; omega
  · rw [dep]; omega
  · rw [dep]; omega
  · exact Nat.le_trans (e1 _) (by omega)
  · exact Nat.le_trans (e1 _) (by omega)
def spKS (Cc : Addr) (n : Nat) : Sp := fun vs H Q _ => ∃ v w : V, vs = [v, w] ∧ ((∃ k, KvAt Cc H v k ∧ KvAt Cc H w k ∧ Ks k ∧ 2 * dep k + 1 < n) ∨ ∃ (a b : Addr) (xs ys : List V) (ks : List Kd), v = .ref a ∧ w = .ref b ∧ H a = some (.lst xs) ∧ H b = some (.lst ys) ∧ KvAll Cc H xs ks ∧ KvAll Cc H ys ks ∧ (∀ k ∈ ks, Ks k) ∧ ks.length ≤ 1000 ∧ 2 * depL ks + 2 < n) ∧ ∀ H', Same H H' → Q (.bl true) H'
theorem kv_code {Cc : Addr} {H : Hp} {v : V} {F : FD} {cs : List Kd} (h : KvAt Cc H v (.code F cs)) : ∃ (a : Addr) (D : CD) (m : Int), v = .ref a ∧ CodeAt Cc H a D m ∧ D.fd = F ∧ KvAll Cc H D.consts cs := by
  cases h with
  | code hC hcs _ _ => exact ⟨_, _, _, rfl, hC, rfl, hcs⟩
theorem two_tl : Paired ClsV [V.ty "tuple", V.ty "list"] [.type "tuple", .type "list"] := .cons (.ty "tuple") (.cons (.ty "list") .nil)
theorem kitTL {K : PySem.W.Frag} {t : String} {b c : Bool} (h1 : PySem.W.kitOne K (.type t) (.type "tuple") = some b) (h2 : PySem.W.kitOne K (.type t) (.type "list") = some c) : PySem.W.kitAny K (.type t) [.type "tuple", .type "list"] = some (b || c) := by
  cases b with
  | true => exact kitAny_cons (b := true) h1 (fun z => by cases z) (fun _ => rfl)
  | false => cases c with
    | true => exact kitAny_cons (b := false) h1 (fun _ => kitAny_cons (b := true) h2 (fun z => by cases z) (fun _ => rfl)) (fun z => by cases z)
    | false => exact kitAny_cons (b := false) h1 (fun _ => kitAny_cons (b := false) h2 (fun _ => rfl) (fun z => by cases z)) (fun z => by cases z)
section
variable {P : Program} {w : World} {K : PySem.W.Frag} {mg : Str → Option Value} {base : Heap} {Cc Cn fI : Addr}
abbrev s_law_kinds_same : Stmt := top 60
abbrev N_law_kinds_same : List Str := ["one", "other", "mine", "its"]
theorem sc_law_kinds_same : FnScope N_law_kinds_same ["one", "other"] (defScope s_law_kinds_same) := ⟨rfl, rfl, rfl, by decide +kernel, rfl, by decide +kernel, by decide +kernel⟩
theorem ks_step {f : Addr} {fd : FuncData} (n : Nat) (hdig : PySem.W.nsIn K cStatics "sys.int_max_str_digits" = some none) (n_repr : mg "repr" = none) (T2 : Gl2 mg) (G : GlK P K mg Cc Cn fI) (GE : GlE mg K Cc) (c_law_fields : CalX P w K mg base 1 "_law_fields" (spFields Cc)) (c_law_kinds_same : CalX P w K mg base (n + 1) "_law_kinds_same" (spKS Cc n)) (F : DefX K mg "_law_kinds_same" s_law_kinds_same ["one", "other"] f fd) : CalX P w K mg base (n + 2) "_law_kinds_same" (spKS Cc (n + 1)) := by
  refine calx F sc_law_kinds_same (fun vs H Q E h => ?_) (fun cdv A outer s H vs Q E hr h => ?_)
  · obtain ⟨v, w, rfl, _⟩ := h
    rfl
  · obtain ⟨v, w, rfl, h, q⟩ := h
    have lv1 : 1 ≤ n + 1 := by omega
    have lv2 : n + 1 ≤ n + 1 := Nat.le_refl _
    refine ⟨_, (pss_cons (ps_if (PW.pt (pw_and (pt_val (pe_callB call_isi (by rfl) T2.n_isinstance Boot.«isinstance» (pa_cons (pv 0) (pa_cons (C8.pe_gc rfl G.c_Code) pa_nil)))) (pw_and1 (pt_val (pe_callB call_isi (by rfl) T2.n_isinstance Boot.«isinstance» (pa_cons (pv 1) (pa_cons (C8.pe_gc rfl G.c_Code) pa_nil)))))))
      (pss_one (ps_ret (pe_cx c_law_kinds_same hr lv2 rfl (pa_cons (pe_cx c_law_fields hr lv1 rfl (pa_cons (pv 0) pa_nil)) (pa_cons (pe_cx c_law_fields hr lv1 rfl (pa_cons (pv 1) pa_nil)) pa_nil)))))
      pss_nil)
    (pss_cons (ps_if (PW.pt (pw_or (pt_val (pe_callB call_isi (by rfl) T2.n_isinstance Boot.«isinstance» (pa_cons (pv 0) (pa_cons (C8.pe_gc rfl G.c_Code) pa_nil)))) (pw_or1 (pt_val (pe_callB call_isi (by rfl) T2.n_isinstance Boot.«isinstance» (pa_cons (pv 1) (pa_cons (C8.pe_gc rfl G.c_Code) pa_nil)))))))
      (pss_one (ps_ret pe_bl))
      pss_nil)
    (pss_cons (ps_if (pt_val (pe_callB call_isiT (by rfl) T2.n_isinstance Boot.«isinstance» (pa_cons (pv 0) (pa_cons (pe_tup (pa_cons (pe_bltn (v := .ty "tuple") (by rfl) T2.n_tuple Boot.«tuple» rfl) (pa_cons (pe_bltn (v := .ty "list") (by rfl) T2.n_list Boot.«list» rfl) pa_nil))) pa_nil))))
      (pss_cons (ps_if (PW.pt (pw_or (pt_not (pt_val (pe_callB call_isiT (by rfl) T2.n_isinstance Boot.«isinstance» (pa_cons (pv 1) (pa_cons (pe_tup (pa_cons (pe_bltn (v := .ty "tuple") (by rfl) T2.n_tuple Boot.«tuple» rfl) (pa_cons (pe_bltn (v := .ty "list") (by rfl) T2.n_list Boot.«list» rfl) pa_nil))) pa_nil))))) (pw_or1 (pt_cmpR op_ne (pe_callB call_len_seq (by rfl) GE.n_len Boot.«len» (pa_cons (pv 0) pa_nil)) (pe_callB call_len_seq (by rfl) GE.n_len Boot.«len» (pa_cons (pv 1) pa_nil)) (nomark _)))))
      (pss_one (ps_ret pe_bl))
      pss_nil)
    (pss_one (ps_ret (pe_callB (cr_all rfl) (by rfl) T2.n_all Boot.«all» (pa_cons (pe_lc (own := [("mine", 2), ("its", 3)]) (g := gTup K 2 (gCons (gName 2) (gCons (gName 3) gNil))) (tt := tYes) rfl sc_law_kinds_same.nd (RZ.pi_zipA (by rfl) GE.n_zip (pa_cons (pv 0) (pa_cons (pv 1) pa_nil))) (blkOk_by (own := [("mine", 2), ("its", 3)]) (N := N_law_kinds_same) (sc := defScope s_law_kinds_same) (by decide +kernel)) (fun _ _ _ _ _ => (pg_tup rfl (pgs_cons (pg_name (i := 2) sc_law_kinds_same.nd rfl (Or.inl rfl)) (pgs_cons (pg_name (i := 3) sc_law_kinds_same.nd rfl (Or.inl rfl)) pgs_nil)))) (fun _ _ _ _ _ => pts_nil) (fun _ _ _ _ _ => (pe_cx c_law_kinds_same hr lv2 rfl (pa_cons (pv 2) (pa_cons (pv 3) pa_nil))))) pa_nil)))))
      pss_nil)
    (pss_one (ps_ret (pe_cmpR op_eq (pe_callB (call_reprS rfl hdig) (by rfl) n_repr Boot.«repr» (pa_cons (pv 0) pa_nil)) (pe_callB (call_reprS rfl hdig) (by rfl) n_repr Boot.«repr» (pa_cons (pv 1) pa_nil)) (nomark _))))))), ?_⟩
    rcases h with ⟨k, hv, hw, hks, hd⟩ | ⟨a, b, xs, ys, ks, rfl, rfl, hx, hy, hxk, hyk, hks, hlen, hd⟩
    rotate_left
    · refine ⟨_, rfl, V.ref a, V.ref Cc, .type "list", .ref Cc, false, rfl, .own Cc, .base (.lst hx), G.no _ (by decide), _, rfl, iteF ?_⟩
      refine ⟨_, rfl, V.ref a, V.ref Cc, .type "list", .ref Cc, false, rfl, .own Cc, .base (.lst hx), G.no _ (by decide), _, rfl, iteF ?_⟩
      refine ⟨_, rfl, V.ref b, V.ref Cc, .type "list", .ref Cc, false, rfl, .own Cc, .base (.lst hy), G.no _ (by decide), _, rfl, iteF ?_⟩
      refine ⟨_, rfl, (by show 2 ≤ sizeLine; decide), ?_⟩
      walk_at "new1"
      have hx1 := s1 _ _ hx
      have hy1 := s1 _ _ hy
      refine ⟨V.ref a, p1, _, .type "list", _, true, rfl, h1, two_tl, .base (.lst hx1), (kitTL (b := false) (c := true) (kit_ty (by decide +kernel)) (kit_ty (by decide +kernel))), _, rfl, iteT ?_⟩
      refine ⟨_, rfl, (by show 2 ≤ sizeLine; decide), ?_⟩
      walk_at "new2"
      have s12 := s1.trans s2
      have hx2 := s12 _ _ hx
      have hy2 := s12 _ _ hy
      have hxk2 := hxk.kp (.same s12)
      have hyk2 := hyk.kp (.same s12)
      refine ⟨V.ref b, p2, _, .type "list", _, true, rfl, h2, two_tl, .base (.lst hy2), (kitTL (b := false) (c := true) (kit_ty (by decide +kernel)) (kit_ty (by decide +kernel))), _, rfl, iteF ?_⟩
      refine ⟨_, rfl, a, _, rfl, .inl (SqL.of hx2), _, rfl, b, _, rfl, .inl (SqL.of hy2), rfl, _, rfl, ?_⟩
      rw [hxk.len, hyk.len, nes]
      refine iteF ?_
      refine ⟨_, rfl, _, rfl, a, b, _, _, rfl, .inl ⟨SqL.of hx2, SqL.of hy2, fun D nD => lc_it (walk_zip (xs := xs) (ys := ys) (n := ks.length) (by rw [hxk.len, hyk.len]; exact (Nat.min_self _).symm)) (fun i H' => Same H2 H' ∧ H' D = some (.lst ((List.replicate i true).map V.bl))) ⟨Same.new nD, by rw [upd_same]; rfl⟩ (fun i H' _ p => ⟨SqL.of (p.1 _ _ hx2), SqL.of (p.1 _ _ hy2)⟩) ?_ ?_⟩⟩
      · rintro i x H' H'' hi ⟨s3, hD⟩ ⟨t, u, z, rfl, nt, rfl, ha, hb⟩
        dsimp only at ha hb
        obtain ⟨kx, hkx, hux⟩ := hxk2.get ha
        obtain ⟨ky, hky, hzx⟩ := hyk2.get hb
        rw [hkx] at hky
        cases hky
        have hkm := List.mem_of_getElem? hkx
        have hdk := dep_mem hkm
        have st := Same.new (o := .tup [u, z]) nt
        have s4 := s3.trans st
        refine ⟨t, _, rfl, SqT.of upd_same, rfl, _, _, rfl, _, _, rfl, rfl, ?_⟩
        refine ⟨rfl, _, rfl, _, rfl, u, z, rfl, .inl ⟨kx, hux.kp (.same s4), hzx.kp (.same s4), hks kx hkm, by omega⟩, fun J sJ => ⟨_, (st.trans sJ) _ _ hD, ?_, Same.mut (s4.trans sJ) nD, ?_⟩⟩
        · rw [List.length_map, List.length_replicate]
          exact Nat.lt_of_lt_of_le hi (Nat.le_trans hlen (by decide))
        · rw [upd_same, List.replicate_succ', List.map_append]
          rfl
      · rintro H' ⟨s3, hD⟩
        refine ⟨D, _, rfl, SqL.of hD, ?_⟩
        rw [all_trues]
        exact q H' (s12.trans s3)
    by_cases hsc : isTup k = false ∧ isCd k = false
    · obtain ⟨rfl, t, ty, kc, kt, hsh⟩ : v = w ∧ ∃ t : String, TyX K H v (.type t) ∧ PySem.W.kitOne K (.type t) (.ref Cc) = some false ∧ PySem.W.kitAny K (.type t) [.type "tuple", .type "list"] = some false ∧ (v = .non ∨ (∃ b, v = .bl b) ∨ (∃ i : Int, v = .int i ∧ i.natAbs < 10 ^ 4300) ∨ ∃ z, v = .str z ∧ (reprText z).length ≤ sizeLine) := by
        cases hv with
        | non =>
          cases hw
          exact ⟨rfl, "NoneType", .base .non, G.no _ (by decide), kitTL (b := false) (c := false) (kit_ty (by decide +kernel)) (kit_ty (by decide +kernel)), .inl rfl⟩
        | bl b =>
          cases hw
          exact ⟨rfl, "bool", .base (.bl b), G.no _ (by decide), kitTL (b := false) (c := false) (kit_ty (by decide +kernel)) (kit_ty (by decide +kernel)), .inr (.inl ⟨b, rfl⟩)⟩
        | int i =>
          cases hw
          cases hks with
          | int _ hi => exact ⟨rfl, "int", .base (.int i), G.no _ (by decide), kitTL (b := false) (c := false) (kit_ty (by decide +kernel)) (kit_ty (by decide +kernel)), .inr (.inr (.inl ⟨i, rfl, hi⟩))⟩
        | str z =>
          cases hw
          cases hks with
          | str _ hc hz =>
            refine ⟨rfl, "str", .base (.str z), G.no _ (by decide), kitTL (b := false) (c := false) (kit_ty (by decide +kernel)) (kit_ty (by decide +kernel)), .inr (.inr (.inr ⟨z, rfl, ?_⟩))⟩
            have hl := StrLaws.reprText_len z hc
            have e : z.length = z.cps.size := rfl
            rw [e] at hl
            exact Nat.le_trans (show _ ≤ 10002 by omega) (by decide)
        | tup h r => exact absurd hsc.1 (by simp [isTup])
        | code h r _ _ => exact absurd hsc.2 (by simp [isCd])
      refine ⟨_, rfl, v, V.ref Cc, .type t, .ref Cc, false, rfl, .own Cc, ty, kc, _, rfl, iteF ?_⟩
      refine ⟨_, rfl, v, V.ref Cc, .type t, .ref Cc, false, rfl, .own Cc, ty, kc, _, rfl, iteF ?_⟩
      refine ⟨_, rfl, v, V.ref Cc, .type t, .ref Cc, false, rfl, .own Cc, ty, kc, _, rfl, iteF ?_⟩
      refine ⟨_, rfl, (by show 2 ≤ sizeLine; decide), ?_⟩
      walk_at "new1"
      have sty : TyX K H1 v (.type t) := TyX.same s1 ty
      refine ⟨v, p1, _, .type t, _, false, rfl, h1, two_tl, sty, kt, _, rfl, iteF ?_⟩
      refine ⟨_, rfl, v, rfl, hsh, _, rfl, v, rfl, hsh, rfl, ?_⟩
      rw [decide_eq_true rfl]
      exact q H1 s1
    cases hv with
    | @tup a xs ks hx hxk => cases hw with
      | @tup b ys _ hy hyk =>
        obtain ⟨hlen, hks⟩ : ks.length ≤ 1000 ∧ ∀ k ∈ ks, Ks k := by
          cases hks with
          | tup h1 h2 => exact ⟨h1, h2⟩
        rw [dep] at hd
        refine ⟨_, rfl, V.ref a, V.ref Cc, .type "tuple", .ref Cc, false, rfl, .own Cc, .base (.tup hx), G.no _ (by decide), _, rfl, iteF ?_⟩
        refine ⟨_, rfl, V.ref a, V.ref Cc, .type "tuple", .ref Cc, false, rfl, .own Cc, .base (.tup hx), G.no _ (by decide), _, rfl, iteF ?_⟩
        refine ⟨_, rfl, V.ref b, V.ref Cc, .type "tuple", .ref Cc, false, rfl, .own Cc, .base (.tup hy), G.no _ (by decide), _, rfl, iteF ?_⟩
        refine ⟨_, rfl, (by show 2 ≤ sizeLine; decide), ?_⟩
        walk_at "new1"
        have hx1 := s1 _ _ hx
        have hy1 := s1 _ _ hy
        refine ⟨V.ref a, p1, _, .type "tuple", _, true, rfl, h1, two_tl, .base (.tup hx1), (kitTL (b := true) (c := false) (kit_ty (by decide +kernel)) (kit_ty (by decide +kernel))), _, rfl, iteT ?_⟩
        refine ⟨_, rfl, (by show 2 ≤ sizeLine; decide), ?_⟩
        walk_at "new2"
        have s12 := s1.trans s2
        have hx2 := s12 _ _ hx
        have hy2 := s12 _ _ hy
        have hxk2 := hxk.kp (.same s12)
        have hyk2 := hyk.kp (.same s12)
        refine ⟨V.ref b, p2, _, .type "tuple", _, true, rfl, h2, two_tl, .base (.tup hy2), (kitTL (b := true) (c := false) (kit_ty (by decide +kernel)) (kit_ty (by decide +kernel))), _, rfl, iteF ?_⟩
        refine ⟨_, rfl, a, _, rfl, .inr (SqT.of hx2), _, rfl, b, _, rfl, .inr (SqT.of hy2), rfl, _, rfl, ?_⟩
        rw [hxk.len, hyk.len, nes]
        refine iteF ?_
        refine ⟨_, rfl, _, rfl, a, b, _, _, rfl, .inr ⟨SqT.of hx2, SqT.of hy2, fun D nD => lc_it (walk_zipT (xs := xs) (ys := ys) (n := ks.length) (by rw [hxk.len, hyk.len]; exact (Nat.min_self _).symm)) (fun i H' => Same H2 H' ∧ H' D = some (.lst ((List.replicate i true).map V.bl))) ⟨Same.new nD, by rw [upd_same]; rfl⟩ (fun i H' _ p => ⟨SqT.of (p.1 _ _ hx2), SqT.of (p.1 _ _ hy2)⟩) ?_ ?_⟩⟩
        · rintro i x H' H'' hi ⟨s3, hD⟩ ⟨t, u, z, rfl, nt, rfl, ha, hb⟩
          dsimp only at ha hb
          obtain ⟨kx, hkx, hux⟩ := hxk2.get ha
          obtain ⟨ky, hky, hzx⟩ := hyk2.get hb
          rw [hkx] at hky
          cases hky
          have hkm := List.mem_of_getElem? hkx
          have hdk := dep_mem hkm
          have st := Same.new (o := .tup [u, z]) nt
          have s4 := s3.trans st
          refine ⟨t, _, rfl, SqT.of upd_same, rfl, _, _, rfl, _, _, rfl, rfl, ?_⟩
          refine ⟨rfl, _, rfl, _, rfl, u, z, rfl, .inl ⟨kx, hux.kp (.same s4), hzx.kp (.same s4), hks kx hkm, by omega⟩, fun J sJ => ⟨_, (st.trans sJ) _ _ hD, ?_, Same.mut (s4.trans sJ) nD, ?_⟩⟩
          · rw [List.length_map, List.length_replicate]
            exact Nat.lt_of_lt_of_le hi (Nat.le_trans hlen (by decide))
          · rw [upd_same, List.replicate_succ', List.map_append]
            rfl
        · rintro H' ⟨s3, hD⟩
          refine ⟨D, _, rfl, SqL.of hD, ?_⟩
          rw [all_trues]
          exact q H' (s12.trans s3)
    | @code a D m cs hC hcs h0 h1 =>
      obtain ⟨b, D2, m2, rfl, hC2, e2, hcs2⟩ := kv_code hw
      obtain ⟨dx, fs, f0, _⟩ := id hC
      obtain ⟨dx2, fs2, f02, _⟩ := id hC2
      have ty : TyX K H (.ref a) (.ref Cc) := .base (.ins f0 G.ins.cl G.ins.ha G.ins.hn G.ins.htk G.ins.hm)
      have ty2 : TyX K H (.ref b) (.ref Cc) := .base (.ins f02 G.ins.cl G.ins.ha G.ins.hn G.ins.htk G.ins.hm)
      rw [dep] at hd
      have hks2 : ∀ k ∈ rowK D.fd cs, Ks k := by
        cases hks with
        | code h => exact h
      refine ⟨_, rfl, V.ref a, V.ref Cc, .ref Cc, .ref Cc, true, rfl, .own Cc, ty, G.ins.me, _, rfl, iteT ?_⟩
      refine ⟨_, rfl, V.ref b, V.ref Cc, .ref Cc, .ref Cc, true, rfl, .own Cc, ty2, G.ins.me, _, rfl, iteT ?_⟩
      refine ⟨_, rfl, a, D, m, rfl, hC, fun p1 H1 xs n1 s1 h1' hrow => ?_⟩
      refine ⟨_, rfl, b, D2, m2, rfl, hC2.same s1, fun p2 H2 ys n2 s2 h2' hrow2 => ?_⟩
      have r1 := (hrow.kp (.same s2)).kv (hcs.kp (.same (s1.trans s2)))
      have r2 := hrow2.kv (hcs2.kp (.same (s1.trans s2)))
      rw [e2] at r2
      have hdr := rowK_dep D.fd cs
      exact ⟨_, _, rfl, .inr ⟨p1, p2, xs, ys, rowK D.fd cs, rfl, rfl, s2 _ _ h1', h2', r1, r2, hks2, by show 14 ≤ 1000; decide, by omega⟩, fun H3 s3 => q H3 ((s1.trans s2).trans s3)⟩
    | _ => exact absurd ⟨rfl, rfl⟩ hsc
theorem ok_law_kinds_same {f : Addr} {fd : FuncData} (hdig : PySem.W.nsIn K cStatics "sys.int_max_str_digits" = some none) (n_repr : mg "repr" = none) (T2 : Gl2 mg) (G : GlK P K mg Cc Cn fI) (GE : GlE mg K Cc) (c_law_fields : CalX P w K mg base 1 "_law_fields" (spFields Cc)) (F : DefX K mg "_law_kinds_same" s_law_kinds_same ["one", "other"] f fd) : ∀ n, CalX P w K mg base (n + 1) "_law_kinds_same" (spKS Cc n)
  | 0 => by
    refine calx F sc_law_kinds_same (fun vs H Q E h => ?_) (fun cdv A outer s H vs Q E hr h => ?_)
    · obtain ⟨v, w, rfl, _⟩ := h
      rfl
    · obtain ⟨v, w, rfl, ⟨_, _, _, _, hd⟩ | ⟨_, _, _, _, _, _, _, _, _, _, _, _, _, hd⟩, _⟩ := h
      · exact absurd hd (Nat.not_lt_zero _)
      · exact absurd hd (Nat.not_lt_zero _)
  | n + 1 => ks_step n hdig n_repr T2 G GE c_law_fields (ok_law_kinds_same hdig n_repr T2 G GE c_law_fields F n) F
end
end K52
set_option maxHeartbeats 4000000
/-! ### what laws with lambdas and slices need -/
namespace Nd
open PySem PySem.Spec PyProof.Rows L2
theorem cut_take (xs : List V) {k : Nat} (h : k ≤ xs.length) : cutV xs none (some (k : Int)) = xs.take k := by
  unfold cutV
  rw [HT.sIx_none, HT.sIx_nat]
  simp [Nat.min_eq_left h]
theorem cut_drop (xs : List V) {k : Nat} (h : k ≤ xs.length) : cutV xs (some (k : Int)) none = xs.drop k := by
  unfold cutV
  rw [HT.sIx_none, HT.sIx_nat, Nat.min_eq_left h]
  exact List.take_of_length_le (by rw [List.length_drop]; exact Nat.le_refl _)
theorem TupsAt.takeN {α : Type} {f : α → List V} {H : Hp} : ∀ {xs : List V} {rs : List α} (k : Nat), TupsAt f H xs rs → TupsAt f H (xs.take k) (rs.take k)
  | _, _, 0, _ => trivial
  | [], [], _ + 1, _ => trivial
  | [], _ :: _, _ + 1, h => False.elim h
  | _ :: _, [], _ + 1, h => False.elim h
  | x :: xs, r :: rs, k + 1, ⟨h, t⟩ => ⟨h, TupsAt.takeN k t⟩
theorem pe_cx0 {X : Cx} {k j : Nat} {x : Str} {sp : Sp} {p pos : Pos} (c : CalX X.prog X.w X.K X.mg X.base k x sp) (hr : Room j X.A) (hk : k ≤ j) (hg : Gl X x) (hdb : (x == ("__debug__" : Str)) = false := by decide) :
    PE X (.Call (.Name x p) [] [] pos) (tCall sp [] E0 tNil) := by
  obtain ⟨f, fd, ps, F, hm, kp, b⟩ := c.ex
  exact pe_call0 F (hr.mono hk) hg hm kp b .nil passL hdb
theorem Tabs_but {H H' : Hp} {T : List (Addr × Str)} {a : Addr} {ys : List V} (h : LamX.Tabs T H) (b : But a H H') (ha : H a = some (.lst ys)) : LamX.Tabs T H' := fun p hp => by
  obtain ⟨ps, h1, h2, h3⟩ := h p hp
  refine ⟨ps, b _ _ (fun z => by rw [z, ha] at h1; cases h1) h1, h2, fun pos cv hc => ?_⟩
  obtain ⟨c, e1, e2⟩ := h3 pos cv hc
  exact ⟨c, e1, b _ _ (fun z => by rw [z, ha] at e2; cases e2) e2⟩
theorem TyX.ext {K : PySem.W.Frag} {H H' : Hp} {x : V} {t : Value} (s : LamX.ExtN H H') (h : TyX K H x t) : TyX K H' x t := by
  cases h with
  | base b =>
    refine .base ?_
    cases b with
    | non => exact .non
    | bl y => exact .bl y
    | int i => exact .int i
    | str y => exact .str y
    | flt y => exact .flt y
    | lst e => exact .lst (s _ _ e fun _ z => by cases z)
    | frz e => exact .frz (s _ _ e fun _ z => by cases z)
    | tup e => exact .tup (s _ _ e fun _ z => by cases z)
    | dK e => exact .dK (s _ _ e fun _ z => by cases z)
    | dT e => exact .dT (s _ _ e fun _ z => by cases z)
    | ins e c1 c2 c3 c4 c5 => exact .ins (s _ _ e fun _ z => by cases z) c1 c2 c3 c4 c5
  | byt b => exact .byt b
  | set e => exact .set (s _ _ e fun _ z => by cases z)
  | kList e c => exact .kList e c
  | kTuple e c => exact .kTuple e c
  | kDict e c => exact .kDict e c
  | fTuple e => exact .fTuple (s _ _ e fun _ z => by cases z)
  | fDict e => exact .fDict (s _ _ e fun _ z => by cases z)
theorem cutV_mem {l : List V} {lo hi : Option Int} {x : V} (h : x ∈ cutV l lo hi) : x ∈ l := by
  unfold cutV at h
  exact List.mem_of_mem_drop (List.mem_of_mem_take h)
theorem ScrL.same {K : PySem.W.Frag} {H H' : Hp} {a : Addr} {xs : List V} (s : Same H H') (h : ScrL K H a xs) : ScrL K H' a xs := by
  rcases h with ⟨vs, h⟩ | h
  · exact .inl ⟨vs, s _ _ h⟩
  · exact .inr h
end Nd
set_option maxHeartbeats 4000000
set_option pp.maxSteps 600
namespace K52
open PySem PySem.Spec PyProof.Rows L2 Nd
abbrev s_law_caught : Stmt := top 59
/-- what is asked of the errors -/
structure GlX (K : PySem.W.Frag) (mg : Str → Option Value) (Cn : Addr) : Prop where
  exc : ExcC K Cn
  xf : XfC K Cn
  ce : ∃ CE : Addr, mg "CodeError" = some (.ref CE) ∧ PySem.W.kitOne K (.ref Cn) (.ref CE) = some true
  kV : PySem.W.kitOne K (.ref Cn) (.type "ValueError") = some true
  n_ValueError : mg "ValueError" = none
  n_isinstance : mg "isinstance" = none
  exm : PySem.W.exmOne K (.ref Cn) (.ref Cn) = some true
  gT : ∃ c : Addr, mg "NoTable" = some (.ref c)
  gR : ∃ c : Addr, mg "NoRows" = some (.ref c)
  gB : ∃ c : Addr, mg "NoBytes" = some (.ref c)
/-- told of the field -/
def errTold (Cn : Addr) (Q : VK) : XK := fun cls d H' => cls = .ref Cn ∧ ∃ dd f, d = some dd ∧ H' dd = some (.xd [("field", .str f)]) ∧ ∀ p, H' p = none → Q (.ref p) (upd H' p (.tup [.str "code", .str f]))
def TTc (Cn : Addr) : (XK → Hp → VK → Prop) → Hp → VK → Prop := fun tl H Q => tl (errTold Cn Q) H (fun _ H' => Q .non H')
abbrev N_law_caught : List Str := ["ask", "e"]
theorem sc_law_caught : FnScope N_law_caught ["ask"] (defScope s_law_caught) := ⟨rfl, rfl, rfl, by decide +kernel, rfl, by decide +kernel, by decide +kernel⟩
theorem caught_gives {X : Cx} {g : Addr} {cdg : Value} {q : Str} {P : Program} {Cc Cn fI : Addr} (G : GlK P X.K X.mg Cc Cn fI) (GE : GlX X.K X.mg Cn) :
    LamX.GivesTo X N_law_caught "_law_caught" (defScope s_law_caught) g cdg (defBody s_law_caught) "ask" q (TTc Cn) := by
  obtain ⟨CE, gCE, kCE⟩ := GE.ce
  obtain ⟨cT, gT⟩ := GE.gT
  obtain ⟨cR, gR⟩ := GE.gR
  obtain ⟨cB, gB⟩ := GE.gB
  intro f c' s H Q tl act hc h
  refine ⟨_, pss_cons (ps_try_all (X := (cxOf C8.CX0 X.prog X.w X.K X.mg X.base N_law_caught "_law_caught" (defScope s_law_caught) g cdg X.A X.stack s H C8.E0).nox) (i := 1) (n := "e") (Wout := fun _ _ _ _ => False)
      (tb := fun W D σ H => ∃ Ech : XK, (∀ cls d σ' H', Ech cls d H' → W cls d σ' H') ∧ σ[0]? = some (some (.ref f)) ∧ H c' = some (LamX.CodeO c' q) ∧ tl Ech H (fun _ H' => D.nx σ H'))
      rfl rfl sc_law_caught.nd rfl rfl LamX.takes0 (fun W pn xe tk _ => ?_)
      (HdAs.cons (c := .ref Cn) ⟨rfl, by decide, .inl G.gN⟩ (fun a oe cls d pn hz hf => pss_one (ps_ret (pe_ifExp (PW.pt (pw_and (pt_val (pe_callB (call_isX hz hf) (by rfl) GE.n_isinstance Boot.«isinstance» (pa_cons (pv 1) (pa_cons (C8.pe_gc (v := .ref CE) rfl ⟨_, gCE, rfl⟩) pa_nil))))
          (pw_and1 (pt_val (pe_callB (call_isX hz hf) (by rfl) GE.n_isinstance Boot.«isinstance» (pa_cons (pv 1) (pa_cons (pe_bltn (v := .ty "ValueError") (by rfl) GE.n_ValueError Boot.«ValueError» rfl) pa_nil)))))))
          (pe_tup (pa_cons pe_str (pa_cons (pe_xf GE.xf G.nx.noN hz hf (pv 1)) pa_nil))) pe_non)))
      (HdAs.cons (c := .ref cT) ⟨rfl, by decide, .inl gT⟩ (fun a oe cls d pn hz hf => pss_never)
      (HdAs.cons (c := .ref cR) ⟨rfl, by decide, .inl gR⟩ (fun a oe cls d pn hz hf => pss_never)
      (HdAs.cons (c := .ref cB) ⟨rfl, by decide, .inl gB⟩ (fun a oe cls d pn hz hf => pss_never) .nil)))))
      (pss_one (ps_ret pe_non)), ?_⟩
  · refine ⟨fun pins s' σ H' D I h' => ?_⟩
    obtain ⟨Ech, hW, h1, h2, h3⟩ := h'
    exact (pss_one (ps_expr (act W pn xe Ech _ _ tk hW))).run pins s' σ H' D I ⟨h1, h2, h3⟩
  · refine ⟨errTold Cn Q, fun cls d σ' H' ⟨e1, dd, ff, e2, e3, e4⟩ => ?_, rfl, hc, h⟩
    subst e1
    refine ⟨true, GE.exm, fun _ a na hlen => ?_, fun z => by cases z⟩
    obtain ⟨y0, y1, rfl⟩ : ∃ y0 y1, σ' = [y0, y1] := by
      match σ', hlen with
      | [y0, y1], _ => exact ⟨y0, y1, rfl⟩
    refine ⟨_, rfl, Cn, dd, _, V.ref CE, .ref CE, true, rfl, GE.exc, e2, e3, rfl, fun u r => r, kCE, _, rfl, iteT ?_⟩
    refine ⟨_, rfl, Cn, dd, _, V.ty "ValueError", .type "ValueError", true, rfl, GE.exc, e2, e3, rfl, fun u r => r, GE.kV, _, rfl, iteT ?_⟩
    exact ⟨_, rfl, rfl, rfl, dd, _, _, e2, e3, rfl, (by show 2 ≤ sizeLine; decide), fun p np => e4 p np⟩
end K52
set_option maxHeartbeats 4000000
namespace K52
open PySem PySem.Spec PyProof.Rows L2 Nd
/-! ### k52: the law -/
abbrev s_law : Stmt := top 61
def lamQ : Str := (envOfC "law" (defScope s_law) 0 0 .none).qual ++ "<lambda>"
def spLaw (K : PySem.W.Frag) (Pt : Addr) : Sp := fun vs H Q _ => ∃ (a : Addr) (ns : List Int), vs = [.ref a] ∧ ScrL K H a (ns.map V.int) ∧ ns.length ≤ 100000 ∧ LamX.Tabs [(Pt, lamQ)] H ∧ ∀ H', Q (.bl true) H'
abbrev N_law : List Str := ["script", "cell", "source", "some", "made", "due", "whole", "back", "odd"]
theorem sc_law : FnScope N_law ["script"] (defScope s_law) := ⟨rfl, rfl, rfl, by decide +kernel, rfl, by decide +kernel, by decide +kernel⟩
theorem room60 : Room 60 callerA := ⟨rfl, by decide, by decide⟩
theorem Odd.ext {K : PySem.W.Frag} {H H' : Hp} {x : V} (s : LamX.ExtN H H') (h : Odd K H x) : Odd K H' x := by
  obtain ⟨t, ht, ty⟩ := h
  exact ⟨t, ht, TyX.ext s ty⟩
theorem ints_shaped (ns : List Int) : SeqAt.shaped (intsD ns) = true := by
  unfold SeqAt.shaped intsD
  rw [PyData.canLay0, int_can, PyData.depth, decide_eq_true (Nat.le_trans (Nat.succ_le_succ (int_dep ns)) (by decide))]
  rfl
theorem eqv_rows {ns ms : List Int} : PyData.eqv (intsD ns) (intsD ms) = true ↔ ns = ms := by
  unfold intsD
  rw [PyData.eqv]
  exact eqv_ints
theorem cc_eqv : PyData.eqv (.tuple [.str "code", .str "code"]) (.tuple [.str "code", .str "code"]) = true := by decide +kernel
/-! how long the bytes are -/
theorem flat_le {b : Nat} : ∀ {ps : List (List Int)}, (∀ p, p ∈ ps → p.length ≤ b) → ps.flatten.length ≤ b * ps.length
  | [], _ => Nat.zero_le _
  | p :: ps, h => by
    rw [List.flatten_cons, List.length_append, List.length_cons]
    have h1 := h p (List.mem_cons_self ..)
    have h2 := flat_le fun q hq => h q (List.mem_cons_of_mem _ hq)
    rw [Nat.mul_add]
    omega
theorem intW_len {i : Int} (h : i.natAbs < 2 ^ 3500) : (intW i).length ≤ 480 := by
  rw [intW]
  split
  · rw [List.length_cons, fourW_len]
    decide
  · have h1 := dgs_len (k := 234) (Nat.lt_of_lt_of_le h (by decide +kernel))
    rw [List.length_cons, List.length_append, fourW_len, digW_two, two_len]
    omega
theorem KdC.wlen {n : Nat} {k : Kd} (h : KdC n k) : n ≤ 60 → (wr k).length + 5 ≤ 490 * 3 ^ n := by
  have p1 : ∀ n, 1 ≤ 3 ^ n := fun n => Nat.pos_of_ne_zero (by simp)
  induction h with
  | @non n =>
    intro _
    have := p1 n
    rw [wr]
    show 1 + 5 ≤ _
    omega
  | @bl n b =>
    intro _
    have := p1 n
    rw [wr]
    show 1 + 5 ≤ _
    omega
  | @int n i h =>
    intro hn
    have := p1 n
    have := intW_len (i := i) (Nat.lt_of_lt_of_le (show i.natAbs < 2 ^ 3400 + 60 by omega) (by decide +kernel))
    rw [wr]
    omega
  | @str n s h1 h2 =>
    intro _
    have := p1 n
    rw [wr, strW_len]
    omega
  | @tup n l hl h ih =>
    intro hn
    have := p1 n
    rw [wr, wrL_map, partsW_len]
    have h1 := flat_le (b := 490 * 3 ^ n - 5) (ps := l.map wr) fun p hp => by
      obtain ⟨k, hk, rfl⟩ := List.mem_map.mp hp
      have := ih k hk (by omega)
      omega
    rw [List.length_map] at h1
    have h2 : (490 * 3 ^ n - 5) * l.length ≤ (490 * 3 ^ n - 5) * 3 := Nat.mul_le_mul_left _ hl
    rw [Nat.pow_succ]
    omega
theorem Gk.wlen {m e : Nat} {k : Kd} (hm : m ≤ 21) (h : Gk 2 m e k) : (wr k).length + 300 ≤ 4710 * 6 ^ e := by
  have p1 : ∀ n, 1 ≤ 6 ^ n := fun n => Nat.pos_of_ne_zero (by simp)
  induction h with
  | @flat e k h =>
    have := p1 e
    have h1 := h.wlen (by decide)
    have h2 : 490 * 3 ^ 2 = 4410 := by decide
    omega
  | @code e F cs h hl hc ih =>
    have := p1 e
    rw [wr, wrL_map]
    have h1 := flat_le (b := 4710 * 6 ^ e - 300) (ps := cs.map wr) fun p hp => by
      obtain ⟨k, hk, rfl⟩ := List.mem_map.mp hp
      have := ih k hk
      omega
    rw [List.length_map] at h1
    have h2 : (4710 * 6 ^ e - 300) * cs.length ≤ (4710 * 6 ^ e - 300) * 6 := Nat.mul_le_mul_left _ hl
    have f1 : ∀ {xs : List Str}, (∀ x, x ∈ xs → x.cps.size ≤ m ∧ OkS x) → xs.length ≤ m → (xs.map strW).flatten.length ≤ 26 * 21 := fun {xs} hx hl => by
      have := flat_le (b := 26) (ps := xs.map strW) fun p hp => by
        obtain ⟨x, hxm, rfl⟩ := List.mem_map.mp hp
        rw [strW_len]
        have := (hx x hxm).1
        omega
      rw [List.length_map] at this
      exact Nat.le_trans this (Nat.mul_le_mul_left _ (by omega))
    have g1 := f1 h.names.1 h.names.2
    have g2 := f1 h.slots.1 h.slots.2
    have g3 := h.code.2
    have g4 := h.kinds.2
    have g5 := h.lines.2
    have g6 := h.handlers.2
    have g7 := h.name.1
    have g8 := h.path.1
    have g9 : (strW "<tree>").length = 11 := by rw [strW_len]; rfl
    simp only [List.length_append, List.length_cons, fourW_len, rowW_len, partsW_len, g9]
    rw [strW_len, strW_len, Nat.pow_succ]
    omega
theorem wri_len {F : FD} {cs : List Kd} (hg : Gk 2 20 4 (.code F cs)) : (wr (.code F cs)).length ≤ wLine := by
  have := hg.wlen (by decide)
  show _ ≤ 8000000
  have e : (4710 * 6 ^ 4 : Nat) = 6104160 := by decide
  omega
end K52
set_option maxHeartbeats 4000000
namespace K52
open PySem PySem.Spec PyProof.Rows L2 Nd
/-! ### k52: the law -/
structure St (Cc Pt pl ps : Addr) (cells xs : List V) (D : CD) (cs : List Kd) (H : Hp) : Prop where
  L : H pl = some (.lst cells)
  R : H ps = some (.lst xs)
  row : RowT H xs D
  ks : KvAll Cc H D.consts cs
  T : LamX.Tabs [(Pt, lamQ)] H
theorem St.same {Cc Pt pl ps : Addr} {cells xs : List V} {D : CD} {cs : List Kd} {H H' : Hp} (h : St Cc Pt pl ps cells xs D cs H) (s : Same H H') : St Cc Pt pl ps cells xs D cs H' :=
  ⟨s _ _ h.L, s _ _ h.R, h.row.kp (.same s), h.ks.kp (.same s), h.T.ext fun b o e => s _ _ e⟩
structure Cals (P : Program) (w : World) (K : PySem.W.Frag) (mg : Str → Option Value) (base : Heap) (Cc Cn : Addr) : Prop where
  source_of : CalX P w K mg base 1 "_law_source_of" spSource
  next : CalX P w K mg base 1 "_law_next" spNext
  drawn : CalX P w K mg base 13 "_law_drawn_fields" (spDrawnA Cc)
  code : CalX P w K mg base 10 "_law_code" (spCode Cc 3)
  lwr : CalX P w K mg base 24 "_law_written" (spLWr Cc 10)
  wri : CalX P w K mg base 24 "written" (spWri Cc 10)
  wriK : CalK P w K mg base 24 "written" "code" (spWri Cc 10)
  wriO : CalX P w K mg base 3 "written" (spWrB K Cn)
  rd : CalX P w K mg base 43 "read" (spRead Cc 10)
  rdK : CalK P w K mg base 43 "read" "data" (spRead Cc 10)
  fields : CalX P w K mg base 1 "_law_fields" (spFields Cc)
  ks : CalX P w K mg base 22 "_law_kinds_same" (spKS Cc 21)
section
variable {P : Program} {w : World} {K : PySem.W.Frag} {mg : Str → Option Value} {base : Heap} {Cc Cn fI fE fa c Pt : Addr} {Q : VK} {E : XK} {H : Hp} {v y : V} {F : FD} {cs : List Kd} {l : Kd}
theorem ne_code {n : Nat} (G : GlK P K mg Cc Cn fI) (hv : KvAt Cc H v (.code F cs)) (hw : KvAt Cc H y l) (hc : isCd l = true) (hcmp : Cmp (.code F cs) l) (hd : dep (.code F cs) < n + 1) (k : ∀ b H', Same H H' → (b = true ↔ .code F cs = l) → Q (.bl (!b)) H') : rAnyNe K Cc (spEqM K Cc n) E v y H Q := by
  cases hv with
  | @code a D m _ hC hcs h0 h1 =>
    obtain ⟨dx, fs, f0, _⟩ := id hC
    refine ⟨a, dx, fs, .ref Cc, rfl, f0, ?_, nf_self, a, y, D.fd, cs, rfl, .code hC hcs h0 h1, .inl ⟨l, hw, hc, hcmp, hd, fun b H' s hb => ⟨b, rfl, k b H' s hb⟩⟩⟩
    cases hw with
    | code hC2 _ _ _ =>
      obtain ⟨dx2, fs2, g0, _⟩ := id hC2
      exact .base (.ins g0 G.ins.cl G.ins.ha G.ins.hn G.ins.htk G.ins.hm)
    | _ => cases hc
end
def Byt (l : List Int) : Prop := ∀ b ∈ l, 0 ≤ b ∧ b ≤ 255
theorem Byt.nil : Byt [] := fun b h => by cases h
theorem Byt.cons {b : Int} {l : List Int} (h : 0 ≤ b ∧ b ≤ 255) (g : Byt l) : Byt (b :: l) := fun c hc => by
  rcases List.mem_cons.mp hc with e | hc
  · rw [e]
    exact h
  · exact g c hc
theorem Byt.app {k l : List Int} (h : Byt k) (g : Byt l) : Byt (k ++ l) := fun c hc => (List.mem_append.mp hc).elim (h c) (g c)
theorem Byt.flat {ps : List (List Int)} (h : ∀ p ∈ ps, Byt p) : Byt ps.flatten := fun c hc => by
  obtain ⟨p, hp, hc⟩ := List.mem_flatten.mp hc
  exact h p hp c hc
theorem four_byte (n : Int) : Byt (fourW n) := fun b hb => by
  obtain ⟨s, _, rfl⟩ := List.mem_map.mp hb
  omega
theorem int_byte (i : Int) : Byt (intW i) := by
  rw [intW]
  split
  · exact .cons (by decide) (four_byte _)
  · refine .cons (by decide) (.app (four_byte _) ?_)
    rw [digW_two]
    refine .flat fun p hp => ?_
    obtain ⟨d, hd, rfl⟩ := List.mem_map.mp hp
    have := dgs_lt _ d hd
    exact .cons (by omega) (.cons (by omega) .nil)
theorem str_byte {s : Str} (h : OkS s) : Byt (strW s) := by
  refine .cons (by decide) (.app (four_byte _) fun b hb => ?_)
  obtain ⟨c, hc, rfl⟩ := List.mem_map.mp hb
  obtain ⟨_, h2, _⟩ := oks_c h hc
  omega
theorem row_byte {ns : List Int} (h : ∀ n ∈ ns, 0 ≤ n ∧ n ≤ 255) : Byt (rowW ns) := .cons (by decide) (.app (four_byte _) h)
theorem parts_byte {ps : List (List Int)} (h : ∀ p ∈ ps, Byt p) : Byt (partsW ps) := .cons (by decide) (.app (four_byte _) (.flat h))
theorem KdC.byte {n : Nat} {k : Kd} (h : KdC n k) : Byt (wr k) := by
  induction h with
  | non =>
    rw [wr]
    exact .cons (by decide) .nil
  | bl b =>
    rw [wr]
    cases b <;> exact .cons (by decide) .nil
  | int i h =>
    rw [wr]
    exact int_byte i
  | str s h1 h2 =>
    rw [wr]
    exact str_byte h2
  | tup hl h ih =>
    rw [wr, wrL_map]
    refine parts_byte fun p hp => ?_
    obtain ⟨k, hk, rfl⟩ := List.mem_map.mp hp
    exact ih k hk
theorem Gk.byte {n m e : Nat} {k : Kd} (h : Gk n m e k) : Byt (wr k) := by
  induction h with
  | flat h => exact h.byte
  | code h hl hc ih =>
    rw [wr, wrL_map]
    have hs : ∀ {xs : List Str}, (∀ x ∈ xs, x.cps.size ≤ m ∧ OkS x) → Byt (partsW (xs.map strW)) := fun h => parts_byte fun p hp => by
      obtain ⟨x, hx, rfl⟩ := List.mem_map.mp hp
      exact str_byte (h x hx).2
    refine .app (.app (.app (.app (.app (.app (.app (.app (.app (.cons (by decide) (.app (.app (.app (.app (four_byte _) (four_byte _)) (four_byte _)) (four_byte _)) (four_byte _))) (row_byte h.code.1)) (parts_byte fun p hp => ?_)) (hs h.names.1)) (hs h.slots.1)) (row_byte h.kinds.1)) (.app (.app (str_byte (oks_by (by decide +kernel))) (str_byte h.name.2)) (str_byte h.path.2))) (four_byte _)) (row_byte h.lines.1)) (row_byte h.handlers.1)
    obtain ⟨k, hk, rfl⟩ := List.mem_map.mp hp
    exact ih k hk
section
variable {P : Program} {w : World} {K : PySem.W.Frag} {mg : Str → Option Value} {base : Heap} {Cc Cn fI fE fa c Pt : Addr} {Q : VK} {E : XK} {H : Hp} {v y : V} {F : FD} {cs : List Kd} {l : Kd}
theorem ok_law {g : Addr} {fdg fdE : FuncData} {dV kV doc pm ct oc : Value} {an od : Option Addr} {osl : Array (Option Value)} (T2 : Gl2 mg) (G : GlK P K mg Cc Cn fI) (GX : GlX K mg Cn) (C : Cals P w K mg base Cc Cn) (EC : EqC K Cc fE) (FE : FnOk P w K mg base (L2.CX P w) 22 fE fdE ["self", "other"] (spEqM K Cc 10)) (BE : Binds K fdE ["self", "other"] [])
    (Fg : DefX K mg "_law_caught" s_law_caught ["ask"] g fdg)
    (lk : K.lookup fa = some ⟨oc, od, .func (PySem.W.fnOf "law" "law" (defArgs s_law) (defBody s_law) (defScope s_law) dV kV doc pm an (.ref c) ct), osl⟩) (hcd : PySem.W.codeIn K (.ref c) "law" = true)
    (hb : ∀ (s : Shared) (us : List Value), us.length = 1 → BindsTo s (PySem.W.fnOf "law" "law" (defArgs s_law) (defBody s_law) (defScope s_law) dV kV doc pm an (.ref c) ct) ⟨us, []⟩ ((["script"] : List Str).zip us))
    (TB : LamX.TabB base mg c Pt) : RunsAt P w K mg base fa (spLaw K Pt) := by
  obtain ⟨ocg, odg, dVg, kVg, docg, pmg, ang, cdg, ctg, oslg, rfl, lkg, hcg, _, _⟩ := Fg.fn.ex
  intro a s H e0 h
  refine LamX.run_ofS (CX := CX0) (N := N_law) (ps := ["script"]) (us := [.ref a]) (vs := [.ref a]) lk hcd sc_law (A := callerA) (outer := []) room60 e0 (hb s [.ref a] rfl) (.cons rfl .nil) rfl fun hr => ?_
  obtain ⟨a', ns, ea, hs, hlen, hT, k⟩ := h
  cases ea
  refine ⟨_, PSs.nox (pss_cons (ps_for PassesOwn.never rfl (pi_list (pe_slice sl_list (pe_op op_catS (pv 0) (pe_lst (pa_cons pe_int pa_nil))) po_none (po_some pe_int))) (pg_name (i := 1) sc_law.nd rfl (.inl rfl))
      (pss_cons (ps_set (i := 2) sc_law.nd rfl (.inl rfl) (pe_cx C.source_of hr (by decide) rfl (pa_cons (pv 1) pa_nil)))
    (pss_cons (ps_set (i := 3) sc_law.nd rfl (.inl rfl) (pe_cx C.drawn hr (by decide) rfl (pa_cons (pv 2) (pa_cons (pe_cx C.next hr (by decide) rfl (pa_cons (pv 2) (pa_cons pe_int pa_nil))) pa_nil))))
    (pss_cons (ps_par (i := 4) (j := 5) (by rfl) sc_law.nd rfl rfl (by decide) rfl rfl (pa_cons (pe_cx C.code hr (by decide) rfl (pa_cons (pv 3) pa_nil)) (pa_cons (pe_cx C.lwr hr (by decide) rfl (pa_cons (pv 3) pa_nil)) pa_nil)) (by rfl))
    (pss_cons (ps_set (i := 6) sc_law.nd rfl (.inl rfl) (pe_cx C.wri hr (by decide) rfl (pa_cons (pv 4) pa_nil)))
    (pss_cons (ps_if (PW.pt (pw_or (pt_cmpR (op_neD hr.units) (pv 6) (pe_callTy call_tupleB (by rfl) T2.n_tuple Boot.«tuple» (pa_cons (pv 5) pa_nil)) (nomark _)) (pw_or1 (pt_cmpR (op_neD hr.units) (pe_ck C.wriK hr (by decide) rfl passL (pk_cons (pv 4) pk_nil)) (pv 6) (nomark _)))))
      (pss_one (ps_ret pe_bl))
      pss_nil)
    (pss_cons (ps_set (i := 7) sc_law.nd rfl (.inl rfl) (pe_cx C.rd hr (by decide) rfl (pa_cons (pv 6) pa_nil)))
    (pss_cons (ps_if (PW.pt (pw_or (pt_not (pt_val (pe_callB call_isi (by rfl) T2.n_isinstance Boot.«isinstance» (pa_cons (pv 7) (pa_cons (C8.pe_gc rfl G.c_Code) pa_nil))))) (pw_or (pt_cmpR (op_anyNe FE (hr.mono (by decide)) EC BE passL) (pv 7) (pv 4) (nomark _)) (pw_or1 (pt_not (pt_val (pe_cx C.ks hr (by decide) rfl (pa_cons (pe_cx C.fields hr (by decide) rfl (pa_cons (pv 7) pa_nil)) (pa_cons (pv 3) pa_nil)))))))))
      (pss_one (ps_ret pe_bl))
      pss_nil)
    (pss_cons (ps_if (PW.pt (pw_or (pt_cmpR (op_anyNe FE (hr.mono (by decide)) EC BE passL) (pe_ck C.rdK hr (by decide) rfl passL (pk_cons (pv 5) pk_nil)) (pv 4) (nomark _)) (pw_or1 (pt_cmpR (op_neD hr.units) (pe_cx C.wri hr (by decide) rfl (pa_cons (pv 7) pa_nil)) (pv 6) (nomark _)))))
      (pss_one (ps_ret pe_bl))
      pss_nil)
    (pss_one (ps_for PassesOwn.never rfl (pi_tup (pe_tup (pa_cons pe_non (pa_cons pe_int (pa_cons pe_str (pa_cons (pv 6) (pa_cons (pe_lst pa_nil) (pa_cons (pv 3) (pa_cons pe_bl (pa_cons pe_dnewK pa_nil)))))))))) (pg_name (i := 8) sc_law.nd rfl (.inr rfl))
      (pss_one (ps_if (pt_cmpR (op_neD hr.units) (LamX.pe_lamcall (k := 57) (T := [(Pt, lamQ)]) (TT := TTc Cn) (Ng := N_law_caught) (a := "ask") rfl Fg.mgf Fg.fn.kp lkg hcg Fg.bi sc_law_caught rfl (.inl rfl) (caught_gives G GX) TB rfl (List.mem_singleton.mpr rfl) (fun p hp _ => by rw [List.mem_singleton.mp hp]; rfl) hr (LamX.lamS_by (sc := defScope s_law) (by decide +kernel)) rfl (fun _ _ _ _ _ => rfl)
        (fun A outer s H E f c' hr' => pe_cr (E := E) C.wriO hr' (by decide) rfl (passE (takes_of rfl rfl rfl rfl)) (pa_cons (pv 8) pa_nil))) (pe_tup (pa_cons pe_str (pa_cons pe_str pa_nil))) (nomark _))
      (pss_one (ps_ret pe_bl))
      pss_nil)))))))))))))
    (pss_one (ps_ret pe_bl))), ?_⟩
  refine ⟨_, rfl, (by show 1 ≤ sizeLine; decide), ?_⟩
  walk_at "new4"
  refine ⟨a, p4, _, _, rfl, rfl, ScrL.same s4 hs, h4, (by rw [List.length_map]; exact Nat.le_trans (Nat.add_le_add_right hlen 1) (by decide)), ?_⟩
  walk_at "new5"
  refine ⟨_, rfl, p5, _, rfl, SqL.of h5, ?_⟩
  intro pl nl
  have s6 : Same H5 (upd H5 pl (.lst (cutV (ns.map V.int ++ [V.int 0]) none (some 5)))) := Same.new nl
  have h6 : upd H5 pl (.lst (cutV (ns.map V.int ++ [V.int 0]) none (some 5))) pl = some (.lst (cutV (ns.map V.int ++ [V.int 0]) none (some 5))) := upd_same
  generalize upd H5 pl (.lst (cutV (ns.map V.int ++ [V.int 0]) none (some 5))) = H6 at s6 h6 ⊢
  have hcell : ∀ x ∈ cutV (ns.map V.int ++ [V.int 0]) none (some 5), ∃ i : Int, x = .int i := by
    intro x hx
    have hx := cutV_mem hx
    rcases List.mem_append.mp hx with z | z
    · obtain ⟨i, _, e⟩ := List.mem_map.mp z
      exact ⟨i, e.symm⟩
    · exact ⟨0, by simpa using z⟩
  have z6 := (s4.trans s5).trans s6
  have hT6 : LamX.Tabs [(Pt, lamQ)] H6 := hT.ext fun b o e => z6 _ _ e
  clear s4 s5 s6 z6 h4 h5 n4 n5 nl hs hT
  generalize cutV (ns.map V.int ++ [V.int 0]) none (some 5) = cells at h6 hcell ⊢
  refine ⟨pl, rfl, ⟨_, SqL.of h6⟩, for_list (K := K) (a := pl) (xs := cells) (fun i σ H' => (∃ v1 v2 v3 v4 v5 v6 v7 v8, σ = [some (.ref a), v1, v2, v3, v4, v5, v6, v7, v8]) ∧ H' pl = some (.lst cells) ∧ LamX.Tabs [(Pt, lamQ)] H') ⟨⟨_, _, _, _, _, _, _, _, rfl⟩, h6, hT6⟩ (fun i σ H' _ p => SqL.of p.2.1) ?_ ?_⟩
  rotate_left
  · rintro σ H' ⟨⟨v1, v2, v3, v4, v5, v6, v7, v8, rfl⟩, hL, hT⟩
    exact k H'
  rintro i x σ H0 hi ⟨⟨v1, v2, v3, v4, v5, v6, v7, v8, rfl⟩, hL, hT⟩
  clear h6 hT6
  obtain ⟨cv, rfl⟩ := hcell x (List.mem_of_getElem? hi)
  refine ⟨_, rfl, cv, rfl, fun src H1 n1 s1 hs1 => ?_⟩
  have npl : pl ≠ src := ne_of_none hL n1
  replace hL := s1 _ _ hL
  replace hT : LamX.Tabs [(Pt, lamQ)] H1 := hT.ext fun b o e => s1 _ _ e
  clear s1 n1
  refine ⟨_, rfl, _, rfl, src, 4, rfl, hs1, by decide, by decide, fun r H1' r0 r1 b1 hs1' => ?_⟩
  replace hL := b1 _ _ npl hL
  replace hT : LamX.Tabs [(Pt, lamQ)] H1' := by
    obtain ⟨_, _, _, e, _⟩ := id hs1
    exact Tabs_but hT b1 e
  clear b1 hs1
  obtain ⟨e, rfl⟩ : ∃ e : Nat, r = (e : Int) := ⟨r.toNat, by omega⟩
  refine ⟨e, by omega, src, rfl, hs1', by omega, fun ps H2 D xs cs np2 b2 hs2 hp2 hrow hks hg0 => ?_⟩
  have nps : ps ≠ src := hs1'.ne0 np2
  replace hL := b2 _ _ npl hL
  replace hT : LamX.Tabs [(Pt, lamQ)] H2 := by
    obtain ⟨_, _, _, e, _⟩ := id hs1'
    exact Tabs_but hT b2 e
  clear b2 np2 hs1' hs2
  have hg : Gk 2 20 4 (.code D.fd cs) := hg0.ups (by omega)
  have hg3 : Gk 3 20 4 (.code D.fd cs) := hg.mono (.inr rfl) (Nat.le_refl _)
  have hdp : dep (.code D.fd cs) ≤ 10 := hg.dep
  have hcc : Cmp (.code D.fd cs) (.code D.fd cs) := hg.cmp (by decide)
  have hwl := wri_len hg
  have hokK : okK 11 (.code D.fd cs) := ⟨20, 4, hg3, by decide, by omega, by decide⟩
  have ST : St Cc Pt pl ps cells xs D cs H2 := ⟨hL, hp2, hrow, hks, hT⟩
  clear hL hT hp2 hrow hks hg0
  -- made, due
  refine ⟨_, rfl, ps, xs, D, cs, 20, 3, rfl, ST.R, ST.row.row, ST.ks, hg3, by decide, by decide, fun c1 H3 nc1 s3 hone => ?_⟩
  replace ST := ST.same s3
  refine ⟨_, rfl, ps, xs, D, cs, rfl, ST.R, ST.row, ST.ks, hg.wk (by decide), by omega, hwl, fun du H4 nd s4 hdu => ?_⟩
  replace ST := ST.same s4
  replace hone := hone.kp (.same s4)
  refine ⟨_, _, rfl, ?_⟩
  -- whole
  refine ⟨_, rfl, .ref c1, D.fd, cs, 2, 20, 4, rfl, hone, hg, by decide, by omega, hwl, fun wh H5 nw s5 hwh => ?_⟩
  replace ST := ST.same s5
  replace hone := hone.kp (.same s5)
  replace hdu := s5 _ _ hdu
  refine ⟨_, rfl, _, rfl, du, _, rfl, .inl hdu, fun tp H6 s6 htp _ => ?_⟩
  refine ⟨intsD _, intsD _, dp_ints (s6 _ _ hwh), dp_ints htp, ints_shaped _, ints_shaped _, _, rfl, ?_⟩
  rw [eqv_rows.mpr rfl]
  refine iteF ?_
  replace ST := ST.same s6
  replace hone := hone.kp (.same s6)
  replace hdu := s6 _ _ hdu
  replace hwh := s6 _ _ hwh
  refine ⟨_, rfl, rfl, .ref c1, D.fd, cs, 2, 20, 4, rfl, hone, hg, by decide, by omega, hwl, fun w2 H7 nw2 s7 hw2 => ⟨_, rfl, ?_⟩⟩
  refine ⟨intsD _, intsD _, dp_ints hw2, dp_ints (s7 _ _ hwh), ints_shaped _, ints_shaped _, _, rfl, ?_⟩
  rw [eqv_rows.mpr rfl]
  refine iteF ?_
  replace ST := ST.same s7
  replace hone := hone.kp (.same s7)
  replace hdu := s7 _ _ hdu
  replace hwh := s7 _ _ hwh
  clear s3 s4 s5 s6 s7 nc1 nd nw htp nw2 hw2
  -- back
  refine ⟨_, rfl, wh, .code D.fd cs, rfl, .inr hwh, hokK, rfl, by omega, hg.byte, fun bk H8 s8 hbk => ?_⟩
  replace ST := ST.same s8
  replace hone := hone.kp (.same s8)
  replace hdu := s8 _ _ hdu
  replace hwh := s8 _ _ hwh
  obtain ⟨b, D2, m2, rfl, hC2, e2, hcs2⟩ := kv_code hbk
  obtain ⟨dx2, fs2, f02, _⟩ := id hC2
  refine ⟨_, rfl, V.ref b, V.ref Cc, .ref Cc, .ref Cc, true, rfl, .own Cc, .base (.ins f02 G.ins.cl G.ins.ha G.ins.hn G.ins.htk G.ins.hm), G.ins.me, _, rfl, ?_⟩
  refine iteF ?_
  refine ⟨_, rfl, _, rfl, ne_code G hbk hone rfl hcc (by omega) fun q H9 s9 hq => ?_⟩
  obtain rfl := hq.mpr rfl
  refine ⟨_, rfl, iteF ?_⟩
  replace ST := ST.same s9
  replace hone := hone.kp (.same s9)
  replace hbk := hbk.kp (.same s9)
  replace hdu := s9 _ _ hdu
  replace hwh := s9 _ _ hwh
  replace hC2 := hC2.same s9
  replace hcs2 := hcs2.kp (.same s9)
  refine ⟨_, rfl, b, D2, m2, rfl, hC2, fun q1 H10 zs nq s10 hq1 hrow2 => ⟨_, rfl, ?_⟩⟩
  replace ST := ST.same s10
  have rw1 := hrow2.kv (hcs2.kp (.same s10))
  rw [e2] at rw1
  have hdr := rowK_dep D.fd cs
  have hdp2 := hdp
  rw [dep] at hdp2
  have hks : ∀ k ∈ rowK D.fd cs, Ks k := by
    cases hg.ks (by decide) (by decide) with
    | code h => exact h
  refine ⟨_, _, rfl, .inr ⟨q1, ps, zs, xs, rowK D.fd cs, rfl, rfl, hq1, ST.R, rw1, ST.row.kv ST.ks, hks, by show 14 ≤ 1000; decide, by omega⟩, fun H11 s11 => ⟨_, rfl, iteF ?_⟩⟩
  replace ST := ST.same s11
  replace hone := (hone.kp (.same s10)).kp (.same s11)
  replace hbk := (hbk.kp (.same s10)).kp (.same s11)
  replace hdu := s11 _ _ (s10 _ _ hdu)
  replace hwh := s11 _ _ (s10 _ _ hwh)
  clear s8 s9 s10 s11 f02 hC2 hcs2 hq1 hrow2 rw1 hq nq
  -- once more
  refine ⟨_, rfl, rfl, du, .code D.fd cs, rfl, .inl hdu, hokK, rfl, by omega, hg.byte, fun b3 H12 s12 hb3 => ⟨_, rfl, ?_⟩⟩
  refine ne_code G hb3 (hone.kp (.same s12)) rfl hcc (by omega) fun q H13 s13 hq => ?_
  obtain rfl := hq.mpr rfl
  refine ⟨_, rfl, iteF ?_⟩
  have z13 := s12.trans s13
  replace ST := ST.same z13
  replace hbk := hbk.kp (.same z13)
  replace hwh := z13 _ _ hwh
  refine ⟨_, rfl, .ref b, D.fd, cs, 2, 20, 4, rfl, hbk, hg, by decide, by omega, hwl, fun w3 H14 nw3 s14 hw3 => ⟨_, rfl, ?_⟩⟩
  refine ⟨intsD _, intsD _, dp_ints hw3, dp_ints (s14 _ _ hwh), ints_shaped _, ints_shaped _, _, rfl, ?_⟩
  rw [eqv_rows.mpr rfl]
  refine iteF ?_
  replace ST := ST.same s14
  replace hwh := s14 _ _ hwh
  clear s12 s13 s14 z13 hb3 hq nw3 hw3 hone hbk hdu
  -- odd things
  refine ⟨_, rfl, (by show 0 ≤ sizeLine; decide), ?_⟩
  walk_at "new1"
  refine ⟨_, rfl, ?_⟩
  intro dd ndd
  have s3 : Same H1 (upd H1 dd (.dK [])) := Same.new ndd
  have h3 : upd H1 dd (.dK []) dd = some (.dK []) := upd_same
  generalize upd H1 dd (.dK []) = H3 at s3 h3 ⊢
  refine ⟨(by show 8 ≤ sizeLine; decide), ?_⟩
  walk_at "new4"
  have z4 := (s1.trans s3).trans s4
  replace ST := ST.same z4
  replace hwh := z4 _ _ hwh
  have hodd : ∀ x, x ∈ [V.non, .int 5, .str "ab", .ref wh, .ref p1, .ref ps, .bl true, .ref dd] → Odd K H4 x := by
    intro x hx
    simp only [List.mem_cons, List.mem_nil_iff, or_false] at hx
    rcases hx with rfl | rfl | rfl | rfl | rfl | rfl | rfl | rfl
    · exact ⟨"NoneType", by decide, .base .non⟩
    · exact ⟨"int", by decide, .base (.int 5)⟩
    · exact ⟨"str", by decide, .base (.str _)⟩
    · exact ⟨"tuple", by decide, .base (.tup hwh)⟩
    · exact ⟨"list", by decide, .base (.lst ((s3.trans s4) _ _ h1))⟩
    · exact ⟨"list", by decide, .base (.lst ST.R)⟩
    · exact ⟨"bool", by decide, .base (.bl true)⟩
    · exact ⟨"dict", by decide, .base (.dK (s4 _ _ h3))⟩
  have hT4 := ST.T
  have hL4 := ST.L
  refine ⟨p4, rfl, ⟨_, SqT.of h4⟩, for_tup (K := K) (a := p4) (xs := [.non, .int 5, .str "ab", .ref wh, .ref p1, .ref ps, .bl true, .ref dd]) (fun i σ H' => (∃ v8, σ = [some (.ref a), some (.int cv), some (.ref src), some (.ref ps), some (.ref c1), some (.ref du), some (.ref wh), some (.ref b), v8]) ∧ LamX.ExtN H4 H' ∧ LamX.Tabs [(Pt, lamQ)] H')
    ⟨⟨_, rfl⟩, LamX.ExtN.refl _, hT4⟩ (fun i σ H' _ p => SqT.of (p.2.1 _ _ h4 fun _ z => by cases z)) ?_ ?_⟩
  · rintro j x σ H' hj ⟨⟨v8', rfl⟩, ex, hT'⟩
    have ho := hodd x (List.mem_of_getElem? hj)
    refine ⟨hT', fun K1 ext hT1 => ?_⟩
    refine ⟨_, rfl, x, rfl, ho.ext (ex.trans ext), fun de nde => ⟨rfl, de, "code", rfl, upd_same, fun p np => ?_⟩⟩
    have f1 : Same K1 (upd (upd K1 de (.xd [("field", .str "code")])) p (.tup [.str "code", .str "code"])) := (Same.new nde).trans (Same.new np)
    have g1 : upd (upd K1 de (.xd [("field", .str "code")])) p (.tup [.str "code", .str "code"]) p = some (.tup [.str "code", .str "code"]) := upd_same
    generalize upd (upd K1 de (.xd [("field", .str "code")])) p (.tup [.str "code", .str "code"]) = K2 at f1 g1 ⊢
    refine ⟨(by show 2 ≤ sizeLine; decide), ?_⟩
    walk_at "new5"
    refine ⟨_, _, Dp.tup (SqT.of (s5 _ _ g1)) (.cons (.str _) (.cons (.str _) .nil)), Dp.tup (SqT.of h5) (.cons (.str _) (.cons (.str _) .nil)), by decide +kernel, by decide +kernel, _, rfl, ?_⟩
    rw [cc_eqv]
    have f2 := f1.trans s5
    exact iteF ⟨⟨_, rfl⟩, (ex.trans ext).trans (LamX.ExtN.of f2), hT1.ext f2⟩
  · rintro σ H' ⟨⟨v8', rfl⟩, ex, hT'⟩
    exact ⟨⟨_, _, _, _, _, _, _, _, rfl⟩, ex _ _ hL4 (fun _ z => by cases z), hT'⟩
end
end K52
set_option maxHeartbeats 4000000
/-! ### own errors whose field is «at» -/
namespace PySem
namespace NxA
open PySem.W PySem.Calls PyProof.Rows PySem.HandSPX
def iA (p1 p2 : Pos) : Arguments := { posonlyargs := [], args := [{ arg := "self", annotation := none, pos := p1 }, { arg := "at", annotation := none, pos := p2 }], vararg := none, kwonlyargs := [], kw_defaults := [], kwarg := none, defaults := [] }
def iB (q1 q2 q3 q4 q5 q6 q7 q8 q9 q10 : Pos) : List Stmt :=
  [.Expr (.Call (.Attribute (.Call (.Name "super" q1) [] [] q2) "__init__" q3) [.Name "at" q4] [] q5) q6, .Assign [.Attribute (.Name "self" q7) "at" q8] (.Name "at" q9) q10]
def iS : Scope := { kind := .function, names := [(PySem.Str.ofString "self", .local), (PySem.Str.ofString "at", .local), (PySem.Str.ofString "__class__", .free), (PySem.Str.ofString "super", .globalImplicit)], isGenerator := false, isCoroutine := false, more := [] }
/-- what the written part says of the class at C and of its __init__ at fI -/
structure Txt (P : Program) (K : Frag) (mg : Str → Option Value) (C fI : Addr) : Prop where
  ox : L2.OexC K C
  noN : findIn K (.ref C) "at" = some none
  iC : findIn K (.ref C) "__init__" = some (some (.ref fI))
  tI : typeIn K (.ref fI) = some (.type "function")
  sup : ks_superIn K C C "__init__" = some (some (.builtin "ValueError.__init__"))
  sub : mroIn K C (.ref C) = some true
  isB : subIn K (.ref C) (.type "ValueError") = some true
  tp : nsIn K cStatics "thirdparty.any" = some none
  noS : mg "super" = none
  top : (P.main.scope.names.lookup ("super" : Str)).isSome = false
  fn : ∃ (qn : Str) (oc ccl cl ct doc pm : Value) (od cdd cld an : Option Addr) (osl ccs csl : Array (Option Value)) (cda cc : Addr) (vs : Array Value) (file : Str) (tf : Tok) (p1 p2 q1 q2 q3 q4 q5 q6 q7 q8 q9 q10 : Pos),
    K.lookup fI = some ⟨oc, od, .func (ksFn "__init__" qn (iA p1 p2) (iB q1 q2 q3 q4 q5 q6 q7 q8 q9 q10) iS .none .none doc pm an (.ref cda) ct cc), osl⟩ ∧ codeIn K (.ref cda) qn = true ∧
    K.lookup cda = some ⟨ccl, cdd, .fields vs, ccs⟩ ∧ vs[2]? = some (.str file tf) ∧ ((P.main.file : Str) == file) = true ∧
    K.lookup cc = some ⟨cl, cld, .cell (some (.ref C)), csl⟩ ∧
    (∀ env : Env, ∃ pl : Sem Bool, eval (.Call (.Attribute (.Call (.Name "super" q1) [] [] q2) "__init__" q3) [.Name "at" q4] [] q5) env = (do
      let ov ← attributeBase (.Call (.Name "super" q1) [] [] q2) "__init__" env (eval (.Call (.Name "super" q1) [] [] q2) env)
      standAt q3.atName
      let (f, first) ← holding [ov] (getMethod ov "__init__" pl)
      callWith q5 f first (backTo q5 (starEach [.Name "at" q4] env)) []))
section
variable {prog : Program} {w : World} {A : Around} {R : Result → Shared → Prop} {s : Shared} {K : Frag} {mg mb : Str → Option Value} {C fI : Addr}
/-- what __init__ leaves of a fresh exception at x -/
structure InitEnd (h h' : Heap) (x C dx t1 : Addr) (v : Value) : Prop where
  keep : ∀ b o, b ≠ x → h.get? b = some o → h'.get? b = some o
  obj : h'.get? x = some { cls := .ref C, dict := some dx, data := .fields #[.ref t1, .none, .none, .none, .bool false, .none] }
  dbig : h.objs.size ≤ dx
  dne : dx ≠ x
  ns : h'.Ns1 dx (fun y => if y = "at" then some v else none)
theorem init_ok (T : Txt prog K mg C fI) {x t0 : Addr} {v : Value} (X : K.In s.heap) (hns : s.heap.Ns mainGlobals mg) (hbl : s.heap.Ns builtinsNs mb) (hbb : ∀ x : Str, x ≠ "__name__" → mb x = bootBuiltins x) (hlim : s.heap.NoLimit)
    (hx : s.heap.get? x = some (excO C t0)) (hnx : K.lookup x = none) (hroom : A.depth < recursionLimit)
    (hq : ∀ h' tk dx t1, InitEnd s.heap h' x C dx t1 v → R (.ok (.ret .none)) { s with heap := h', toks := tk }) :
    codeAny (model prog w) A (.call (.ref fI) ⟨[.ref x, v], []⟩) R s := by
  obtain ⟨qn, oc, ccl, cl, ct, doc, pm, od, cdd, cld, an, osl, ccs, csl, cda, cc, vs, file, tf, p1, p2, q1, q2, q3, q4, q5, q6, q7, q8, q9, q10, ho, hcd, hcode, hvs, hfile, hcell, hev⟩ := T.fn
  obtain ⟨nm, q, N, bs, bm, sn, sub, ab, col, dd, k0, k1, k2, k3, k5, hC, hbm⟩ := T.ox.cls
  have hcl : clsIn K C = some { name := nm, bases := bs, mro := .ref C :: bm, ns := N, qualname := q, hasDict := true, slotNames := sn, subclasses := sub, abstract := ab, collection := col, hasDel := false } := by unfold clsIn; rw [hC] <;> rfl
  refine ks_codeAny_call_defAt (fd := ksFn "__init__" qn (iA p1 p2) (iB q1 q2 q3 q4 q5 q6 q7 q8 q9 q10) iS .none .none doc pm an (.ref cda) ct cc) (body := iB q1 q2 q3 q4 q5 q6 q7 q8 q9 q10) (binds := [("self", .ref x), ("at", v)])
    hroom (X _ _ ho) rfl hlim (codeRec_of X hcd) rfl (BindsTo.of_eq (by first | rfl | with_unfolding_all rfl)) (show ∀ x ∈ iS.names, x.2 ≠ NameKind.cell from by decide +kernel) (by
      intro y hy
      rcases List.mem_cons.mp hy with rfl | hy
      · exact (show iS.names.lookup ("self" : Str) = some .local from by decide +kernel)
      · rcases List.mem_cons.mp hy with rfl | hy
        · exact (show iS.names.lookup ("at" : Str) = some .local from by decide +kernel)
        · cases hy) (fun h₁ hn₁ k₁ => ?_)
  have X₁ : K.In h₁ := X.keeps k₁
  have hx₁ := k₁ _ _ hx
  obtain ⟨hp, g, dr, tk, os⟩ := s
  -- super().__init__(field)
  obtain ⟨pl, he⟩ := hev (ksEnv qn iS hp.objs.size fI (.ref cda) cc)
  refine ks_wpAt_execs_cons (ks_wpAt_Expr_any (ks_wpAt_MethodCall (pl := pl) ?_ he))
  refine ks_wpAt_super_base (env := ksEnv qn iS hp.objs.size fI (.ref cda) cc) rfl rfl (by decide +kernel) rfl (X₁ _ _ ho) rfl rfl rfl (X₁ _ _ hcode) rfl hvs hfile T.top ?_
  refine ks_loadName_global rfl rfl (loadGlobal_builtin (env := ksEnv qn iS hp.objs.size fI (.ref cda) cc) (hns.keeps k₁) T.noS (hbl.keeps k₁) ((hbb _ (by decide +kernel)).trans Boot.«super») ⟨rfl, ?_⟩)
  refine wpAny_loadName_free rfl rfl rfl ⟨_, X₁ _ _ hcell, rfl⟩ ?_
  refine wpAny_loadName_local rfl rfl hn₁ rfl ?_
  refine ks_wpAny_isType_cls (X₁ _ _ hC) rfl ⟨rfl, ?_⟩
  refine ks_wpAny_call_super (X₁ _ _ hC) rfl hx₁ rfl (fun c e => by cases e) (looks_mroIn X₁ T.sub) (fun h₂ e₂ k₂ => ?_)
  have X₂ : K.In h₂ := X₁.keeps k₂
  have hx₂ := k₂ _ _ hx₁
  have hm : alongIn K "__init__" (((Value.ref C :: bm).dropWhile (· != .ref C)).drop 1) = some (some (.builtin "ValueError.__init__")) := by
    have z := T.sup
    unfold ks_superIn at z
    rw [hcl] at z
    exact z
  have hI : Looks (model prog w) h₂ (isInstance (.ref x) (.type "ValueError")) true := (show InstAt h₂ x (excO C t0) C none from ⟨hx₂, rfl, rfl, trivial⟩).type.andThen (looks_subIn X₂ T.isB)
  have nxC : x ≠ C := by
    rintro rfl
    have z := X₂ _ _ hC
    rw [hx₂] at z
    cases z
  refine kxs_getMethod kxs_ValueError e₂ (looks_opaque X₂ T.tp) (l₀ := .ref C :: bm) (fun A Q E s k q => wpAny_bind ((looks_clsIn X₂ hcl) A _ E s k (wpAny_pure q))) rfl X₂ hm hI nxC (by decide +kernel) ?_
  have k₃ : ∀ b o, h₂.get? b = some o → (h₂.push (kxs_mw "ValueError.__init__" x)).get? b = some o := fun b o e => Heap.get?_push_of_some _ e
  have e₃ : (h₂.push (kxs_mw "ValueError.__init__" x)).get? h₂.objs.size = some (kxs_mw "ValueError.__init__" x) := Heap.get?_push_at rfl rfl
  have n₃ := (hn₁.keeps k₂).keeps k₃
  have X₃ := X₂.keeps k₃
  have hx₃ := k₃ _ _ hx₂
  refine kxs_callWith (i := "ValueError.__init__") (x := x) (by rfl) (evalArgs_plain ?_)
  show wpAny _ _ (spliced ((false, eval (.Name "at" q4) (ksEnv qn iS hp.objs.size fI (.ref cda) cc)) :: backTo q5 (starEach [] (ksEnv qn iS hp.objs.size fI (.ref cda) cc)))) _ _ _
  refine Calls.spliced_cons (wpAny_Name (wpAny_loadName_local rfl rfl n₃ rfl ?_) (by decide +kernel))
  refine Calls.spliced_nil ⟨e₃, ?_⟩
  show wpAny _ _ (call (.ref h₂.objs.size) [v]) _ _ _
  refine wpAny_call (codeAny_of_tree ?_)
  show wpAny _ _ (callAny (.ref h₂.objs.size) ⟨[v], []⟩) _ _ _
  simp only [callAny]
  refine wpAny_bind (wpAny_load e₃ ?_)
  simp only [kxs_mw, show (Value.type "method-wrapper" == Value.type "method" || Value.type "method-wrapper" == Value.type "builtin_function_or_method" || Value.type "method-wrapper" == Value.type "method-wrapper") = true by decide, if_true]
  refine KFB.if_so (by decide) ?_
  refine wpAny_bind (check_bound_init PySem.F.excBase_ValueError.toExcCallFacts (X₃ _ _ hC) hx₃ rfl ?_)
  refine wpAny_bind (wpAny_pure (wpAny_pure ?_))
  refine ⟨plainId_quiet PySem.F.excBase_ValueError.init.plain _, codeAny_builtin PySem.F.excBase_ValueError.initEntry ?_⟩
  refine exc_init_tree (e := x) (cls := .ref C) (dv := none) (c2 := .none) (c3 := .none) (b4 := .bool false) hx₃ (by show 1 ≤ sizeLine; rw [sizeLine_eq]; decide) (fun h₄ k₄ hx₄ _ => ?_)
  have X₄ : K.In h₄ := fun b o e => k₄ b o (fun z => by rw [z, hnx] at e; cases e) (X₃ b o e)
  have xL : hp.objs.size ≠ x := Nat.ne_of_gt (Heap.lt_size hx)
  have n₄ : h₄.Ns hp.objs.size (fun y => List.lookup y [(("self" : Str), Value.ref x), (("at" : Str), v)].reverse) := by
    obtain ⟨o, es, ep, e, r⟩ := n₃
    exact ⟨o, es, ep, k₄ _ _ xL e, r⟩
  -- self.field = field
  refine wpAt_of_wpAny (wpAny_execs_cons (plainObj_wpAny_Assign_Attribute ?_))
  refine wpAny_Name (wpAny_loadName_local rfl rfl n₄ rfl (wpAny_Name (wpAny_loadName_local rfl rfl n₄ rfl ?_) (by decide +kernel))) (by decide +kernel)
  refine set_plain X₄ (ox := excO C (h₂.push (kxs_mw "ValueError.__init__" x)).objs.size) (od := none) ⟨hx₄, rfl, rfl, trivial⟩ T.ox.sa ?_
  refine exc_osa X₄ hx₄ hcl (show refsVE (.ref C :: bm) = true from hbm) rfl T.noN (fun h₅ tk₅ dx k₅ dn dne hx₅ hn₅ => ?_)
  have old : ∀ b o, b ≠ x → hp.get? b = some o → h₅.get? b = some o := fun b o hb e => k₅ b o hb (k₄ b o hb (k₃ b o (k₂ b o (k₁ b o e))))
  have big : hp.objs.size ≤ dx := by
    obtain ⟨o, es, ep, e, r⟩ := n₄
    exact Nat.le_of_lt (Nat.lt_of_lt_of_le (Heap.lt_size e) dn)
  exact wpAny_execs_nil (hq h₅ tk₅ dx _ ⟨old, hx₅, big, dne, hn₅⟩)
end
end NxA
end PySem
namespace PySem
namespace NxA
open PySem.W PySem.Calls PyProof.Rows PySem.HandSPX
section
variable {prog : Program} {w : World} {A : Around} {R : Result → Shared → Prop} {s : Shared} {K : Frag} {mg mb : Str → Option Value} {C fI : Addr}
/-- a made exception -/
structure Made (h h' : Heap) (e C d : Addr) (v : Value) : Prop where
  keep : ∀ b o, h.get? b = some o → h'.get? b = some o
  new : h.objs.size ≤ e
  obj : ∃ oe vs, h'.get? e = some oe ∧ oe.cls = .ref C ∧ oe.dict = some d ∧ oe.data = .fields vs ∧ vs[1]? = some .none
  dbig : h.objs.size ≤ d
  dne : d ≠ e
  ns : h'.Ns1 d (fun y => if y = "at" then some v else none)
theorem made_ok (T : Txt prog K mg C fI) {v : Value} (X : K.In s.heap) (hns : s.heap.Ns mainGlobals mg) (hbl : s.heap.Ns builtinsNs mb) (hbb : ∀ x : Str, x ≠ "__name__" → mb x = bootBuiltins x) (hlim : s.heap.NoLimit) (hroom : A.depth + 1 < recursionLimit)
    (hq : ∀ h' tk e d, Made s.heap h' e C d v → R (.ok (.ret (.ref e))) { s with heap := h', toks := tk }) :
    codeAny (model prog w) A (.call (.ref C) ⟨[v], []⟩) R s := by
  obtain ⟨nm, q, N, bs, bm, sn, sub, ab, col, dd, k0, k1, k2, k3, k5, hC, hbm⟩ := T.ox.cls
  obtain ⟨hp, g, dr, tk, os⟩ := s
  have k : ∀ b o, hp.get? b = some o → ((hp.push (kdv_tup [v])).push (excO C hp.objs.size)).get? b = some o := fun b o e => Heap.get?_push_of_some _ (Heap.get?_push_of_some _ e)
  have hget : ((hp.push (kdv_tup [v])).push (excO C hp.objs.size)).get? (hp.objs.size + 1) = some (excO C hp.objs.size) := by heap_get
  have hnx : K.lookup (hp.objs.size + 1) = none := by
    cases e : K.lookup (hp.objs.size + 1) with
    | none => rfl
    | some o =>
      have z : hp.get? (hp.objs.size + 1) = some o := X _ _ e
      exact absurd (Nat.lt_of_succ_lt (Heap.lt_size z)) (Nat.lt_irrefl _)
  have one : [v].length ≤ sizeLine := by
    show 1 ≤ sizeLine
    rw [sizeLine_eq]
    decide
  refine call_own PySem.F.excBase_ValueError (fun X => refsVE_contains X bm hbm) (X _ _ hC) (looks_findIn X T.iC) (fun self => bind_fn X self T.tI) one ?_
  refine init_ok (s := ⟨(hp.push (kdv_tup [v])).push (excO C hp.objs.size), g, dr, tk, os⟩) T (X.keeps k) (hns.keeps k) (hbl.keeps k) hbb (hlim.keeps k) hget hnx ?_ fun h' tk' dx t1 ⟨k', hx, dn, dne, hns'⟩ => ?_
  · show A.depth + 1 < recursionLimit
    exact hroom
  · have old : ∀ b o, hp.get? b = some o → h'.get? b = some o := fun b o e => k' b o (Nat.ne_of_lt (Nat.lt_succ_of_lt (Heap.lt_size e))) (k b o e)
    have z : hp.objs.size + 1 + 1 ≤ dx := by
      first
        | (simpa only [Heap.size_push] using dn)
        | exact dn
        | (have q := dn; rw [Heap.size_push, Heap.size_push] at q; exact q)
    exact ⟨rfl, hq h' tk' (hp.objs.size + 1) dx ⟨old, Nat.le_succ _, ⟨_, _, hx, rfl, rfl, rfl, rfl⟩, Nat.le_trans (Nat.le_trans (Nat.le_succ _) (Nat.le_succ _)) z, dne, hns'⟩⟩
end
end NxA
end PySem
namespace L2
open PySem PySem.Spec PyProof.Rows
section
variable {X : Cx} {C fI : Addr}
theorem pmk_nxA {a : Expr} {ta : TA} {x : Str} {p pos : Pos} {k : Nat} (T : PySem.NxA.Txt X.prog X.K X.mg C fI) (hr : Room k X.A) (ha : PA X [a] ta) (hg : Gl X x) (hm : X.mg x = some (.ref C)) (hdb : (x == ("__debug__" : Str)) = false := by decide)
    (he : starEach (a :: []) X.env = (false, eval a X.env) :: starEach [] X.env := by rfl) (hpl : (backTo pos (starEach [] X.env)).any (·.1) = false := by rfl) :
    PMk X (.Call (.Name x p) [a] [] pos) (tMkNx "at" C ta) := by
  intro pins s σ H Q I h
  refine wpAny_Call_Name_kw (ld_glob I hg hm ?_ hdb)
  refine PySem.W.callWith_K (h₀ := X.base) I.ok.mod.kin T.ox.kC (thn (ha.run pos pins s σ H _ I h) fun us s1 hh => ?_) he hpl
  obtain ⟨vs, H1, I1, r1, v, ev, q1⟩ := hh
  subst ev
  refine ⟨I1.kIn, ?_⟩
  cases r1 with
  | cons rv rn =>
    rename_i v' us'
    cases rn
    show wpAny _ _ (call (.ref C) [v']) _ _ _
    have hlim := I1.nolimit
    obtain ⟨mb, hb1, hb2⟩ := I1.ok.mod.blt
    have hns := I1.ok.mod.glob.keeps I1.bk
    have hbl := hb1.keeps I1.bk
    obtain ⟨hp, g, dr, tk, os⟩ := s1
    refine wpAny_call (PySem.NxA.made_ok T I1.kIn hns hbl hb2 hlim (by have := hr.dp; omega) fun h' tk' e d M => ?_)
    show MkP X pins σ Q (.ref e) ⟨h', g, dr, tk', os⟩
    obtain ⟨oe, fv, hoe, hc, hd, hdat, h1⟩ := M.obj
    have hns := M.ns
    obtain ⟨G', g1, g2⟩ := restrict h' fun b => decide (b ≠ e)
    have gk : ∀ b, b ≠ e → G'.get? b = h'.get? b := fun b hb => g1 b (decide_eq_true hb)
    have ge : G'.get? e = none := g2 e (by simp)
    have old : ∀ b o, hp.get? b = some o → G'.get? b = some o := fun b o q => (gk b (Nat.ne_of_lt (Nat.lt_of_lt_of_le (Heap.lt_size q) M.new))).trans (M.keep b o q)
    have ob : ObjOk X.prog X.w (upd H1 d (.xd [(("at" : Str), v)])) G' d (.xd [(("at" : Str), v)]) :=
      ⟨_, hns.at (fun o q => (gk d M.dne).trans q), fun f => relO_one rv f⟩
    have J : Inv X pins σ (upd H1 d (.xd [(("at" : Str), v)])) ⟨G', g, dr, tk', os⟩ := I1.laid (t' := tk') old M.dbig ob
    refine ⟨e, oe, fv, ⟨G', g, dr, tk', os⟩, _, .ref C, some d, rfl, J, fun b o q => ?_, ge, hoe, ⟨hc, hd⟩, hdat, h1, ?_, rfl, I1.bare, raises_own T.ox.exC T.ox.tyC, q1 d (I1.hok.fresh M.dbig)⟩
    · by_cases hb : b = e
      · have q' : G'.get? b = some o := q
        rw [hb, ge] at q'; cases q'
      · exact (gk b hb).symm.trans q
    · rw [upd_ne (Ne.symm M.dne)]
      exact I1.hok.fresh M.new
end
end L2
namespace Nd
open PySem PySem.Spec PyProof.Rows L2 He
/-- the rest of it -/
def nxBA (file : Str) (K : PySem.W.Frag) (C fI : Addr) : Bool := oexB K C && (eqO (PySem.W.findIn K (.ref C) "at") (some none) && (eqO (PySem.W.findIn K (.ref C) "__init__") (some (some (.ref fI))) && (decide (PySem.W.typeIn K (.ref fI) = some (.type "function")) &&
  (eqO (PySem.W.ks_superIn K C C "__init__") (some (some (.builtin "ValueError.__init__"))) && (decide (PySem.W.mroIn K C (.ref C) = some true) && (decide (PySem.W.subIn K (.ref C) (.type "ValueError") = some true) && (eqO (PySem.W.nsIn K cStatics "thirdparty.any") (some none) &&
  (match K.lookup fI with
    | some ⟨_, _, .func fd, _⟩ => (match fd.code, fd.closure with
      | .ref cda, [(_, cc)] => PySem.W.codeIn K (.ref cda) fd.qualname && ((match K.lookup cda with
          | some ⟨_, _, .fields vs, _⟩ => (match (vs[2]? : Option Value) with
            | some (.str f _) => file == f
            | _ => false)
          | _ => false) && (match K.lookup cc with
          | some ⟨_, _, .cell (some (.ref c)), _⟩ => decide (c = C)
          | _ => false))
      | _, _ => false)
    | _ => false))))))))
def nxValA (p1 p2 : Pos) (b : List Stmt) : NxV := some (("__init__" : Str), PySem.NxA.iA p1 p2, FuncBody.stmts b, PySem.NxA.iS, mainGlobals, [("__class__" : Str)], Value.none, Value.none, builtinsNs)
theorem nx_txtA {P : Program} {K : PySem.W.Frag} {mg : Str → Option Value} {x file : Str} {p1 p2 q1 q2 q3 q4 q5 q6 q7 q8 q9 q10 : Pos} (hb : nxBA file K (ga K x) (ma K (ga K x) "__init__") = true)
    (hv : nxObs x K = nxValA p1 p2 (PySem.NxA.iB q1 q2 q3 q4 q5 q6 q7 q8 q9 q10))
    (hfile : ((P.main.file : Str) == file) = true) (noS : mg "super" = none) (top : (P.main.scope.names.lookup ("super" : Str)).isSome = false)
    (hev : ∀ env : Env, ∃ pl : Sem Bool, eval (.Call (.Attribute (.Call (.Name "super" q1) [] [] q2) "__init__" q3) [.Name "at" q4] [] q5) env = (do
      let ov ← attributeBase (.Call (.Name "super" q1) [] [] q2) "__init__" env (eval (.Call (.Name "super" q1) [] [] q2) env)
      standAt q3.atName
      let (f, first) ← holding [ov] (getMethod ov "__init__" pl)
      callWith q5 f first (backTo q5 (starEach [.Name "at" q4] env)) [])) : PySem.NxA.Txt P K mg (ga K x) (ma K (ga K x) "__init__") := by
  obtain ⟨h1, h⟩ := ba hb
  obtain ⟨h2, h⟩ := ba h
  obtain ⟨h3, h⟩ := ba h
  obtain ⟨h4, h⟩ := ba h
  obtain ⟨h5, h⟩ := ba h
  obtain ⟨h6, h⟩ := ba h
  obtain ⟨h7, h⟩ := ba h
  obtain ⟨h8, h⟩ := ba h
  refine ⟨oexB_ok h1, eqO_ok h2, eqO_ok h3, of_decide_eq_true h4, eqO_ok h5, of_decide_eq_true h6, of_decide_eq_true h7, eqO_ok h8, noS, top, ?_⟩
  unfold nxObs nxValA at hv
  split at hv
  · rename_i oc od fd osl hk
    rw [hk] at h
    obtain ⟨n1, n2, n3, n4, n5, n6, n7, n8, n9, n10, n11, n12, n13, n14, n15⟩ := fd
    simp only [Option.some.injEq, Prod.mk.injEq] at hv
    obtain ⟨e1, e2, e3, e4, e5, e6, e7, e8, e9⟩ := hv
    subst e1 e2 e3 e4 e5 e7 e8 e9
    dsimp only at h
    cases n13 with
    | ref cda =>
      rcases n7 with _ | ⟨⟨y, cc⟩, _ | ⟨z, t⟩⟩
      · cases h
      · have ey : y = "__class__" := by
          have z : [y] = ([("__class__" : Str)] : List Str) := e6
          injection z
        subst ey
        obtain ⟨g1, h⟩ := ba h
        obtain ⟨g2, g3⟩ := ba h
        split at g2
        · rename_i c1 c2 vs c4 hk2
          split at g2
          · rename_i f tf hvs
            split at g3
            · rename_i d1 d2 c d4 hk3
              have ec := of_decide_eq_true g3
              rw [ec] at hk3
              have ef : file = f := eq_of_beq g2
              exact ⟨_, _, _, _, _, _, _, _, _, _, _, _, _, _, cda, cc, vs, f, tf, _, _, _, _, _, _, _, _, _, _, _, _, hk, g1, hk2, hvs, by rw [← ef]; exact hfile, hk3, hev⟩
            · cases g3
          · cases g2
        · cases g2
      · cases h
    | _ => cases h
  · cases hv
end Nd
set_option maxHeartbeats 4000000
/-! ### own errors whose field is «at» -/
namespace PySem
namespace NxP
open PySem.W PySem.Calls PyProof.Rows PySem.HandSPX
def iP (p1 p2 : Pos) : Arguments := { posonlyargs := [], args := [{ arg := "self", annotation := none, pos := p1 }, { arg := "place", annotation := none, pos := p2 }], vararg := none, kwonlyargs := [], kw_defaults := [], kwarg := none, defaults := [] }
def iB (q1 q2 q3 q4 q5 q6 q7 q8 q9 q10 : Pos) : List Stmt :=
  [.Expr (.Call (.Attribute (.Call (.Name "super" q1) [] [] q2) "__init__" q3) [.Name "place" q4] [] q5) q6, .Assign [.Attribute (.Name "self" q7) "place" q8] (.Name "place" q9) q10]
def iS : Scope := { kind := .function, names := [(PySem.Str.ofString "self", .local), (PySem.Str.ofString "place", .local), (PySem.Str.ofString "__class__", .free), (PySem.Str.ofString "super", .globalImplicit)], isGenerator := false, isCoroutine := false, more := [] }
/-- what the written part says of the class at C and of its __init__ at fI -/
structure Txt (P : Program) (K : Frag) (mg : Str → Option Value) (C fI : Addr) : Prop where
  ox : L2.OexC K C
  noN : findIn K (.ref C) "place" = some none
  iC : findIn K (.ref C) "__init__" = some (some (.ref fI))
  tI : typeIn K (.ref fI) = some (.type "function")
  sup : ks_superIn K C C "__init__" = some (some (.builtin "ValueError.__init__"))
  sub : mroIn K C (.ref C) = some true
  isB : subIn K (.ref C) (.type "ValueError") = some true
  tp : nsIn K cStatics "thirdparty.any" = some none
  noS : mg "super" = none
  top : (P.main.scope.names.lookup ("super" : Str)).isSome = false
  fn : ∃ (qn : Str) (oc ccl cl ct doc pm : Value) (od cdd cld an : Option Addr) (osl ccs csl : Array (Option Value)) (cda cc : Addr) (vs : Array Value) (file : Str) (tf : Tok) (p1 p2 q1 q2 q3 q4 q5 q6 q7 q8 q9 q10 : Pos),
    K.lookup fI = some ⟨oc, od, .func (ksFn "__init__" qn (iP p1 p2) (iB q1 q2 q3 q4 q5 q6 q7 q8 q9 q10) iS .none .none doc pm an (.ref cda) ct cc), osl⟩ ∧ codeIn K (.ref cda) qn = true ∧
    K.lookup cda = some ⟨ccl, cdd, .fields vs, ccs⟩ ∧ vs[2]? = some (.str file tf) ∧ ((P.main.file : Str) == file) = true ∧
    K.lookup cc = some ⟨cl, cld, .cell (some (.ref C)), csl⟩ ∧
    (∀ env : Env, ∃ pl : Sem Bool, eval (.Call (.Attribute (.Call (.Name "super" q1) [] [] q2) "__init__" q3) [.Name "place" q4] [] q5) env = (do
      let ov ← attributeBase (.Call (.Name "super" q1) [] [] q2) "__init__" env (eval (.Call (.Name "super" q1) [] [] q2) env)
      standAt q3.atName
      let (f, first) ← holding [ov] (getMethod ov "__init__" pl)
      callWith q5 f first (backTo q5 (starEach [.Name "place" q4] env)) []))
section
variable {prog : Program} {w : World} {A : Around} {R : Result → Shared → Prop} {s : Shared} {K : Frag} {mg mb : Str → Option Value} {C fI : Addr}
/-- what __init__ leaves of a fresh exception at x -/
structure InitEnd (h h' : Heap) (x C dx t1 : Addr) (v : Value) : Prop where
  keep : ∀ b o, b ≠ x → h.get? b = some o → h'.get? b = some o
  obj : h'.get? x = some { cls := .ref C, dict := some dx, data := .fields #[.ref t1, .none, .none, .none, .bool false, .none] }
  dbig : h.objs.size ≤ dx
  dne : dx ≠ x
  ns : h'.Ns1 dx (fun y => if y = "place" then some v else none)
theorem init_ok (T : Txt prog K mg C fI) {x t0 : Addr} {v : Value} (X : K.In s.heap) (hns : s.heap.Ns mainGlobals mg) (hbl : s.heap.Ns builtinsNs mb) (hbb : ∀ x : Str, x ≠ "__name__" → mb x = bootBuiltins x) (hlim : s.heap.NoLimit)
    (hx : s.heap.get? x = some (excO C t0)) (hnx : K.lookup x = none) (hroom : A.depth < recursionLimit)
    (hq : ∀ h' tk dx t1, InitEnd s.heap h' x C dx t1 v → R (.ok (.ret .none)) { s with heap := h', toks := tk }) :
    codeAny (model prog w) A (.call (.ref fI) ⟨[.ref x, v], []⟩) R s := by
  obtain ⟨qn, oc, ccl, cl, ct, doc, pm, od, cdd, cld, an, osl, ccs, csl, cda, cc, vs, file, tf, p1, p2, q1, q2, q3, q4, q5, q6, q7, q8, q9, q10, ho, hcd, hcode, hvs, hfile, hcell, hev⟩ := T.fn
  obtain ⟨nm, q, N, bs, bm, sn, sub, ab, col, dd, k0, k1, k2, k3, k5, hC, hbm⟩ := T.ox.cls
  have hcl : clsIn K C = some { name := nm, bases := bs, mro := .ref C :: bm, ns := N, qualname := q, hasDict := true, slotNames := sn, subclasses := sub, abstract := ab, collection := col, hasDel := false } := by unfold clsIn; rw [hC] <;> rfl
  refine ks_codeAny_call_defAt (fd := ksFn "__init__" qn (iP p1 p2) (iB q1 q2 q3 q4 q5 q6 q7 q8 q9 q10) iS .none .none doc pm an (.ref cda) ct cc) (body := iB q1 q2 q3 q4 q5 q6 q7 q8 q9 q10) (binds := [("self", .ref x), ("place", v)])
    hroom (X _ _ ho) rfl hlim (codeRec_of X hcd) rfl (BindsTo.of_eq (by first | rfl | with_unfolding_all rfl)) (show ∀ x ∈ iS.names, x.2 ≠ NameKind.cell from by decide +kernel) (by
      intro y hy
      rcases List.mem_cons.mp hy with rfl | hy
      · exact (show iS.names.lookup ("self" : Str) = some .local from by decide +kernel)
      · rcases List.mem_cons.mp hy with rfl | hy
        · exact (show iS.names.lookup ("place" : Str) = some .local from by decide +kernel)
        · cases hy) (fun h₁ hn₁ k₁ => ?_)
  have X₁ : K.In h₁ := X.keeps k₁
  have hx₁ := k₁ _ _ hx
  obtain ⟨hp, g, dr, tk, os⟩ := s
  -- super().__init__(field)
  obtain ⟨pl, he⟩ := hev (ksEnv qn iS hp.objs.size fI (.ref cda) cc)
  refine ks_wpAt_execs_cons (ks_wpAt_Expr_any (ks_wpAt_MethodCall (pl := pl) ?_ he))
  refine ks_wpAt_super_base (env := ksEnv qn iS hp.objs.size fI (.ref cda) cc) rfl rfl (by decide +kernel) rfl (X₁ _ _ ho) rfl rfl rfl (X₁ _ _ hcode) rfl hvs hfile T.top ?_
  refine ks_loadName_global rfl rfl (loadGlobal_builtin (env := ksEnv qn iS hp.objs.size fI (.ref cda) cc) (hns.keeps k₁) T.noS (hbl.keeps k₁) ((hbb _ (by decide +kernel)).trans Boot.«super») ⟨rfl, ?_⟩)
  refine wpAny_loadName_free rfl rfl rfl ⟨_, X₁ _ _ hcell, rfl⟩ ?_
  refine wpAny_loadName_local rfl rfl hn₁ rfl ?_
  refine ks_wpAny_isType_cls (X₁ _ _ hC) rfl ⟨rfl, ?_⟩
  refine ks_wpAny_call_super (X₁ _ _ hC) rfl hx₁ rfl (fun c e => by cases e) (looks_mroIn X₁ T.sub) (fun h₂ e₂ k₂ => ?_)
  have X₂ : K.In h₂ := X₁.keeps k₂
  have hx₂ := k₂ _ _ hx₁
  have hm : alongIn K "__init__" (((Value.ref C :: bm).dropWhile (· != .ref C)).drop 1) = some (some (.builtin "ValueError.__init__")) := by
    have z := T.sup
    unfold ks_superIn at z
    rw [hcl] at z
    exact z
  have hI : Looks (model prog w) h₂ (isInstance (.ref x) (.type "ValueError")) true := (show InstAt h₂ x (excO C t0) C none from ⟨hx₂, rfl, rfl, trivial⟩).type.andThen (looks_subIn X₂ T.isB)
  have nxC : x ≠ C := by
    rintro rfl
    have z := X₂ _ _ hC
    rw [hx₂] at z
    cases z
  refine kxs_getMethod kxs_ValueError e₂ (looks_opaque X₂ T.tp) (l₀ := .ref C :: bm) (fun A Q E s k q => wpAny_bind ((looks_clsIn X₂ hcl) A _ E s k (wpAny_pure q))) rfl X₂ hm hI nxC (by decide +kernel) ?_
  have k₃ : ∀ b o, h₂.get? b = some o → (h₂.push (kxs_mw "ValueError.__init__" x)).get? b = some o := fun b o e => Heap.get?_push_of_some _ e
  have e₃ : (h₂.push (kxs_mw "ValueError.__init__" x)).get? h₂.objs.size = some (kxs_mw "ValueError.__init__" x) := Heap.get?_push_at rfl rfl
  have n₃ := (hn₁.keeps k₂).keeps k₃
  have X₃ := X₂.keeps k₃
  have hx₃ := k₃ _ _ hx₂
  refine kxs_callWith (i := "ValueError.__init__") (x := x) (by rfl) (evalArgs_plain ?_)
  show wpAny _ _ (spliced ((false, eval (.Name "place" q4) (ksEnv qn iS hp.objs.size fI (.ref cda) cc)) :: backTo q5 (starEach [] (ksEnv qn iS hp.objs.size fI (.ref cda) cc)))) _ _ _
  refine Calls.spliced_cons (wpAny_Name (wpAny_loadName_local rfl rfl n₃ rfl ?_) (by decide +kernel))
  refine Calls.spliced_nil ⟨e₃, ?_⟩
  show wpAny _ _ (call (.ref h₂.objs.size) [v]) _ _ _
  refine wpAny_call (codeAny_of_tree ?_)
  show wpAny _ _ (callAny (.ref h₂.objs.size) ⟨[v], []⟩) _ _ _
  simp only [callAny]
  refine wpAny_bind (wpAny_load e₃ ?_)
  simp only [kxs_mw, show (Value.type "method-wrapper" == Value.type "method" || Value.type "method-wrapper" == Value.type "builtin_function_or_method" || Value.type "method-wrapper" == Value.type "method-wrapper") = true by decide, if_true]
  refine KFB.if_so (by decide) ?_
  refine wpAny_bind (check_bound_init PySem.F.excBase_ValueError.toExcCallFacts (X₃ _ _ hC) hx₃ rfl ?_)
  refine wpAny_bind (wpAny_pure (wpAny_pure ?_))
  refine ⟨plainId_quiet PySem.F.excBase_ValueError.init.plain _, codeAny_builtin PySem.F.excBase_ValueError.initEntry ?_⟩
  refine exc_init_tree (e := x) (cls := .ref C) (dv := none) (c2 := .none) (c3 := .none) (b4 := .bool false) hx₃ (by show 1 ≤ sizeLine; rw [sizeLine_eq]; decide) (fun h₄ k₄ hx₄ _ => ?_)
  have X₄ : K.In h₄ := fun b o e => k₄ b o (fun z => by rw [z, hnx] at e; cases e) (X₃ b o e)
  have xL : hp.objs.size ≠ x := Nat.ne_of_gt (Heap.lt_size hx)
  have n₄ : h₄.Ns hp.objs.size (fun y => List.lookup y [(("self" : Str), Value.ref x), (("place" : Str), v)].reverse) := by
    obtain ⟨o, es, ep, e, r⟩ := n₃
    exact ⟨o, es, ep, k₄ _ _ xL e, r⟩
  -- self.field = field
  refine wpAt_of_wpAny (wpAny_execs_cons (plainObj_wpAny_Assign_Attribute ?_))
  refine wpAny_Name (wpAny_loadName_local rfl rfl n₄ rfl (wpAny_Name (wpAny_loadName_local rfl rfl n₄ rfl ?_) (by decide +kernel))) (by decide +kernel)
  refine set_plain X₄ (ox := excO C (h₂.push (kxs_mw "ValueError.__init__" x)).objs.size) (od := none) ⟨hx₄, rfl, rfl, trivial⟩ T.ox.sa ?_
  refine exc_osa X₄ hx₄ hcl (show refsVE (.ref C :: bm) = true from hbm) rfl T.noN (fun h₅ tk₅ dx k₅ dn dne hx₅ hn₅ => ?_)
  have old : ∀ b o, b ≠ x → hp.get? b = some o → h₅.get? b = some o := fun b o hb e => k₅ b o hb (k₄ b o hb (k₃ b o (k₂ b o (k₁ b o e))))
  have big : hp.objs.size ≤ dx := by
    obtain ⟨o, es, ep, e, r⟩ := n₄
    exact Nat.le_of_lt (Nat.lt_of_lt_of_le (Heap.lt_size e) dn)
  exact wpAny_execs_nil (hq h₅ tk₅ dx _ ⟨old, hx₅, big, dne, hn₅⟩)
end
end NxP
end PySem
namespace PySem
namespace NxP
open PySem.W PySem.Calls PyProof.Rows PySem.HandSPX
section
variable {prog : Program} {w : World} {A : Around} {R : Result → Shared → Prop} {s : Shared} {K : Frag} {mg mb : Str → Option Value} {C fI : Addr}
/-- a made exception -/
structure Made (h h' : Heap) (e C d : Addr) (v : Value) : Prop where
  keep : ∀ b o, h.get? b = some o → h'.get? b = some o
  new : h.objs.size ≤ e
  obj : ∃ oe vs, h'.get? e = some oe ∧ oe.cls = .ref C ∧ oe.dict = some d ∧ oe.data = .fields vs ∧ vs[1]? = some .none
  dbig : h.objs.size ≤ d
  dne : d ≠ e
  ns : h'.Ns1 d (fun y => if y = "place" then some v else none)
theorem made_ok (T : Txt prog K mg C fI) {v : Value} (X : K.In s.heap) (hns : s.heap.Ns mainGlobals mg) (hbl : s.heap.Ns builtinsNs mb) (hbb : ∀ x : Str, x ≠ "__name__" → mb x = bootBuiltins x) (hlim : s.heap.NoLimit) (hroom : A.depth + 1 < recursionLimit)
    (hq : ∀ h' tk e d, Made s.heap h' e C d v → R (.ok (.ret (.ref e))) { s with heap := h', toks := tk }) :
    codeAny (model prog w) A (.call (.ref C) ⟨[v], []⟩) R s := by
  obtain ⟨nm, q, N, bs, bm, sn, sub, ab, col, dd, k0, k1, k2, k3, k5, hC, hbm⟩ := T.ox.cls
  obtain ⟨hp, g, dr, tk, os⟩ := s
  have k : ∀ b o, hp.get? b = some o → ((hp.push (kdv_tup [v])).push (excO C hp.objs.size)).get? b = some o := fun b o e => Heap.get?_push_of_some _ (Heap.get?_push_of_some _ e)
  have hget : ((hp.push (kdv_tup [v])).push (excO C hp.objs.size)).get? (hp.objs.size + 1) = some (excO C hp.objs.size) := by heap_get
  have hnx : K.lookup (hp.objs.size + 1) = none := by
    cases e : K.lookup (hp.objs.size + 1) with
    | none => rfl
    | some o =>
      have z : hp.get? (hp.objs.size + 1) = some o := X _ _ e
      exact absurd (Nat.lt_of_succ_lt (Heap.lt_size z)) (Nat.lt_irrefl _)
  have one : [v].length ≤ sizeLine := by
    show 1 ≤ sizeLine
    rw [sizeLine_eq]
    decide
  refine call_own PySem.F.excBase_ValueError (fun X => refsVE_contains X bm hbm) (X _ _ hC) (looks_findIn X T.iC) (fun self => bind_fn X self T.tI) one ?_
  refine init_ok (s := ⟨(hp.push (kdv_tup [v])).push (excO C hp.objs.size), g, dr, tk, os⟩) T (X.keeps k) (hns.keeps k) (hbl.keeps k) hbb (hlim.keeps k) hget hnx ?_ fun h' tk' dx t1 ⟨k', hx, dn, dne, hns'⟩ => ?_
  · show A.depth + 1 < recursionLimit
    exact hroom
  · have old : ∀ b o, hp.get? b = some o → h'.get? b = some o := fun b o e => k' b o (Nat.ne_of_lt (Nat.lt_succ_of_lt (Heap.lt_size e))) (k b o e)
    have z : hp.objs.size + 1 + 1 ≤ dx := by
      first
        | (simpa only [Heap.size_push] using dn)
        | exact dn
        | (have q := dn; rw [Heap.size_push, Heap.size_push] at q; exact q)
    exact ⟨rfl, hq h' tk' (hp.objs.size + 1) dx ⟨old, Nat.le_succ _, ⟨_, _, hx, rfl, rfl, rfl, rfl⟩, Nat.le_trans (Nat.le_trans (Nat.le_succ _) (Nat.le_succ _)) z, dne, hns'⟩⟩
end
end NxP
end PySem
namespace L2
open PySem PySem.Spec PyProof.Rows
section
variable {X : Cx} {C fI : Addr}
theorem pmk_nxP {a : Expr} {ta : TA} {x : Str} {p pos : Pos} {k : Nat} (T : PySem.NxP.Txt X.prog X.K X.mg C fI) (hr : Room k X.A) (ha : PA X [a] ta) (hg : Gl X x) (hm : X.mg x = some (.ref C)) (hdb : (x == ("__debug__" : Str)) = false := by decide)
    (he : starEach (a :: []) X.env = (false, eval a X.env) :: starEach [] X.env := by rfl) (hpl : (backTo pos (starEach [] X.env)).any (·.1) = false := by rfl) :
    PMk X (.Call (.Name x p) [a] [] pos) (tMkNx "place" C ta) := by
  intro pins s σ H Q I h
  refine wpAny_Call_Name_kw (ld_glob I hg hm ?_ hdb)
  refine PySem.W.callWith_K (h₀ := X.base) I.ok.mod.kin T.ox.kC (thn (ha.run pos pins s σ H _ I h) fun us s1 hh => ?_) he hpl
  obtain ⟨vs, H1, I1, r1, v, ev, q1⟩ := hh
  subst ev
  refine ⟨I1.kIn, ?_⟩
  cases r1 with
  | cons rv rn =>
    rename_i v' us'
    cases rn
    show wpAny _ _ (call (.ref C) [v']) _ _ _
    have hlim := I1.nolimit
    obtain ⟨mb, hb1, hb2⟩ := I1.ok.mod.blt
    have hns := I1.ok.mod.glob.keeps I1.bk
    have hbl := hb1.keeps I1.bk
    obtain ⟨hp, g, dr, tk, os⟩ := s1
    refine wpAny_call (PySem.NxP.made_ok T I1.kIn hns hbl hb2 hlim (by have := hr.dp; omega) fun h' tk' e d M => ?_)
    show MkP X pins σ Q (.ref e) ⟨h', g, dr, tk', os⟩
    obtain ⟨oe, fv, hoe, hc, hd, hdat, h1⟩ := M.obj
    have hns := M.ns
    obtain ⟨G', g1, g2⟩ := restrict h' fun b => decide (b ≠ e)
    have gk : ∀ b, b ≠ e → G'.get? b = h'.get? b := fun b hb => g1 b (decide_eq_true hb)
    have ge : G'.get? e = none := g2 e (by simp)
    have old : ∀ b o, hp.get? b = some o → G'.get? b = some o := fun b o q => (gk b (Nat.ne_of_lt (Nat.lt_of_lt_of_le (Heap.lt_size q) M.new))).trans (M.keep b o q)
    have ob : ObjOk X.prog X.w (upd H1 d (.xd [(("place" : Str), v)])) G' d (.xd [(("place" : Str), v)]) :=
      ⟨_, hns.at (fun o q => (gk d M.dne).trans q), fun f => relO_one rv f⟩
    have J : Inv X pins σ (upd H1 d (.xd [(("place" : Str), v)])) ⟨G', g, dr, tk', os⟩ := I1.laid (t' := tk') old M.dbig ob
    refine ⟨e, oe, fv, ⟨G', g, dr, tk', os⟩, _, .ref C, some d, rfl, J, fun b o q => ?_, ge, hoe, ⟨hc, hd⟩, hdat, h1, ?_, rfl, I1.bare, raises_own T.ox.exC T.ox.tyC, q1 d (I1.hok.fresh M.dbig)⟩
    · by_cases hb : b = e
      · have q' : G'.get? b = some o := q
        rw [hb, ge] at q'; cases q'
      · exact (gk b hb).symm.trans q
    · rw [upd_ne (Ne.symm M.dne)]
      exact I1.hok.fresh M.new
end
end L2
namespace Nd
open PySem PySem.Spec PyProof.Rows L2 He
/-- the rest of it -/
def nxBP (file : Str) (K : PySem.W.Frag) (C fI : Addr) : Bool := oexB K C && (eqO (PySem.W.findIn K (.ref C) "place") (some none) && (eqO (PySem.W.findIn K (.ref C) "__init__") (some (some (.ref fI))) && (decide (PySem.W.typeIn K (.ref fI) = some (.type "function")) &&
  (eqO (PySem.W.ks_superIn K C C "__init__") (some (some (.builtin "ValueError.__init__"))) && (decide (PySem.W.mroIn K C (.ref C) = some true) && (decide (PySem.W.subIn K (.ref C) (.type "ValueError") = some true) && (eqO (PySem.W.nsIn K cStatics "thirdparty.any") (some none) &&
  (match K.lookup fI with
    | some ⟨_, _, .func fd, _⟩ => (match fd.code, fd.closure with
      | .ref cda, [(_, cc)] => PySem.W.codeIn K (.ref cda) fd.qualname && ((match K.lookup cda with
          | some ⟨_, _, .fields vs, _⟩ => (match (vs[2]? : Option Value) with
            | some (.str f _) => file == f
            | _ => false)
          | _ => false) && (match K.lookup cc with
          | some ⟨_, _, .cell (some (.ref c)), _⟩ => decide (c = C)
          | _ => false))
      | _, _ => false)
    | _ => false))))))))
def nxValP (p1 p2 : Pos) (b : List Stmt) : NxV := some (("__init__" : Str), PySem.NxP.iP p1 p2, FuncBody.stmts b, PySem.NxP.iS, mainGlobals, [("__class__" : Str)], Value.none, Value.none, builtinsNs)
theorem nx_txtP {P : Program} {K : PySem.W.Frag} {mg : Str → Option Value} {x file : Str} {p1 p2 q1 q2 q3 q4 q5 q6 q7 q8 q9 q10 : Pos} (hb : nxBP file K (ga K x) (ma K (ga K x) "__init__") = true)
    (hv : nxObs x K = nxValP p1 p2 (PySem.NxP.iB q1 q2 q3 q4 q5 q6 q7 q8 q9 q10))
    (hfile : ((P.main.file : Str) == file) = true) (noS : mg "super" = none) (top : (P.main.scope.names.lookup ("super" : Str)).isSome = false)
    (hev : ∀ env : Env, ∃ pl : Sem Bool, eval (.Call (.Attribute (.Call (.Name "super" q1) [] [] q2) "__init__" q3) [.Name "place" q4] [] q5) env = (do
      let ov ← attributeBase (.Call (.Name "super" q1) [] [] q2) "__init__" env (eval (.Call (.Name "super" q1) [] [] q2) env)
      standAt q3.atName
      let (f, first) ← holding [ov] (getMethod ov "__init__" pl)
      callWith q5 f first (backTo q5 (starEach [.Name "place" q4] env)) [])) : PySem.NxP.Txt P K mg (ga K x) (ma K (ga K x) "__init__") := by
  obtain ⟨h1, h⟩ := ba hb
  obtain ⟨h2, h⟩ := ba h
  obtain ⟨h3, h⟩ := ba h
  obtain ⟨h4, h⟩ := ba h
  obtain ⟨h5, h⟩ := ba h
  obtain ⟨h6, h⟩ := ba h
  obtain ⟨h7, h⟩ := ba h
  obtain ⟨h8, h⟩ := ba h
  refine ⟨oexB_ok h1, eqO_ok h2, eqO_ok h3, of_decide_eq_true h4, eqO_ok h5, of_decide_eq_true h6, of_decide_eq_true h7, eqO_ok h8, noS, top, ?_⟩
  unfold nxObs nxValP at hv
  split at hv
  · rename_i oc od fd osl hk
    rw [hk] at h
    obtain ⟨n1, n2, n3, n4, n5, n6, n7, n8, n9, n10, n11, n12, n13, n14, n15⟩ := fd
    simp only [Option.some.injEq, Prod.mk.injEq] at hv
    obtain ⟨e1, e2, e3, e4, e5, e6, e7, e8, e9⟩ := hv
    subst e1 e2 e3 e4 e5 e7 e8 e9
    dsimp only at h
    cases n13 with
    | ref cda =>
      rcases n7 with _ | ⟨⟨y, cc⟩, _ | ⟨z, t⟩⟩
      · cases h
      · have ey : y = "__class__" := by
          have z : [y] = ([("__class__" : Str)] : List Str) := e6
          injection z
        subst ey
        obtain ⟨g1, h⟩ := ba h
        obtain ⟨g2, g3⟩ := ba h
        split at g2
        · rename_i c1 c2 vs c4 hk2
          split at g2
          · rename_i f tf hvs
            split at g3
            · rename_i d1 d2 c d4 hk3
              have ec := of_decide_eq_true g3
              rw [ec] at hk3
              have ef : file = f := eq_of_beq g2
              exact ⟨_, _, _, _, _, _, _, _, _, _, _, _, _, _, cda, cc, vs, f, tf, _, _, _, _, _, _, _, _, _, _, _, _, hk, g1, hk2, hvs, by rw [← ef]; exact hfile, hk3, hev⟩
            · cases g3
          · cases g2
        · cases g2
      · cases h
    | _ => cases h
  · cases hv
end Nd
set_option maxHeartbeats 4000000
/-! ### a run of the top that lays a dict's entries out at each change of it (a long table of the top takes cubic time otherwise) -/
namespace Nd
open PySem PySem.W PySem.Calls PyProof.Rows HandSHeadRun
section
variable {α : Type}
def frV (v : Value) (k : Value → α) : α := match v with
  | .str x t => k (.str x t)
  | .int i t => k (.int i t)
  | v => k v
theorem frV_eq (v : Value) (k : Value → α) : frV v k = k v := by
  cases v <;> rfl
def frE (e : DictEntry) (k : DictEntry → α) : α := match e with
  | ⟨h, y, v⟩ => frV y fun y => frV v fun v => k ⟨h, y, v⟩
theorem frE_eq (e : DictEntry) (k : DictEntry → α) : frE e k = k e := by
  obtain ⟨h, y, v⟩ := e
  show frV y (fun y => frV v fun v => k ⟨h, y, v⟩) = _
  rw [frV_eq, frV_eq]
def frL : List DictEntry → (List DictEntry → α) → α
  | [], k => k []
  | e :: r, k => frE e fun e => frL r fun r => k (e :: r)
theorem frL_eq : ∀ (l : List DictEntry) (k : List DictEntry → α), frL l k = k l
  | [], _ => rfl
  | e :: r, k => by
    show frE e (fun e => frL r fun r => k (e :: r)) = _
    rw [frE_eq, frL_eq r]
def frAt (s : SharedT) (a : Addr) (k : SharedT → α) : α := match s with
  | ⟨T, n, life, gens, drawn, toks, os⟩ => match T.get a with
    | some ⟨c, d, .dict ⟨l⟩ ep, sl⟩ => frL l fun l => frNat ep fun ep => k ⟨T.set a (fun _ => ⟨c, d, .dict ⟨l⟩ ep, sl⟩), n, life, gens, drawn, toks, os⟩
    | _ => k ⟨T, n, life, gens, drawn, toks, os⟩
theorem set_same : ∀ (T : BT) (a : Nat) (o : Obj), T.get a = some o → T.set a (fun _ => o) = T
  | .nil, _, _, h => by cases h
  | .node v l r, a, o, h => by
    unfold BT.get at h
    unfold BT.set
    cases e : Nat.beq a 0 with
    | true =>
      rw [e] at h
      cases h
      rfl
    | false =>
      rw [e] at h
      dsimp only at h ⊢
      cases e2 : Nat.beq (a % 2) 1 with
      | true =>
        rw [e2] at h
        dsimp only at h ⊢
        rw [set_same l _ o h]
      | false =>
        rw [e2] at h
        dsimp only at h ⊢
        rw [set_same r _ o h]
theorem frAt_eq (s : SharedT) (a : Addr) (k : SharedT → α) : frAt s a k = k s := by
  obtain ⟨T, n, life, gens, drawn, toks, os⟩ := s
  unfold frAt
  dsimp only
  split
  · rename_i c d l ep sl h
    rw [frL_eq, frNat_eq, set_same _ _ _ h]
  · rfl
end
def stepD (st : SharedT → Thread → Option (SharedT × Thread)) (s : SharedT) (t : Thread) : Option (SharedT × Thread) := match t with
  | ⟨.update a x f k, code, pos, stack⟩ => match st s ⟨.update a x f k, code, pos, stack⟩ with
    | some (s', t') => frAt s' a fun s' => some (s', t')
    | none => none
  | t => st s t
theorem stepD_eq (st : SharedT → Thread → Option (SharedT × Thread)) : stepD st = st := by
  funext s t
  unfold stepD
  split
  · split
    · rename_i h
      rw [frAt_eq, h]
    · rename_i h
      rw [h]
  · rfl
/-- RunEq by such a run -/
theorem runD {r : OpenRow} {q : Program} {H : Hook} {ob : SharedT → H.α} {M : Nat} {loose : List PySem.Str} {w : World}
    (h : ∀ os : OsState, (endF (stepD (stepQ (denQ tabQ) r.prog w)) M r.prog w os).map (fun s => (looksF r.prog (boot_heap w.params) s.abs, seenQ q loose (importedModules r.prog.main.body) (fun s => xlAt q [] s && recOk r.toRowW.records s) s.abs, ob s)) = some (true, openGood q loose, H.val w)) : RunEq r q H ob M loose w := by
  rw [stepD_eq] at h
  exact h
end Nd
set_option maxHeartbeats 4000000
/-! ### a run of the top in which a long table is laid out quickly: a look among a dict's entries by lists (by arrays it takes cubic time) -/
namespace Nd
open PySem PySem.W PySem.Calls PyProof.Rows HandSHeadRun
noncomputable section
def anyEnt (es : Array DictEntry) (p : DictEntry → Bool) (i j : Nat) : Bool := match Nat.beq i 0 with
  | true => match Nat.beq j es.toList.length with
    | true => es.toList.all p
    | false => Array.all es p i j
  | false => Array.all es p i j
theorem anyEnt_eq : @Array.all DictEntry = anyEnt := by
  funext es p i j
  unfold anyEnt
  cases h1 : Nat.beq i 0 with
  | false => rfl
  | true =>
    cases h2 : Nat.beq j es.toList.length with
    | false => rfl
    | true =>
      have e1 : i = 0 := Nat.eq_of_beq_eq_true h1
      have e2 : j = es.toList.length := Nat.eq_of_beq_eq_true h2
      subst e1 e2
      exact Array.all_toList.symm
def whereEnt (p : DictEntry → Bool) (es : Array DictEntry) : Option Nat := es.toList.findIdx? p
theorem whereEnt_eq : @Array.findIdx? DictEntry = whereEnt := by
  funext p es
  obtain ⟨l⟩ := es
  simp [whereEnt]
def foundD : { f : Addr → Value → Array DictEntry → Str → Sem (Option Nat) // f = PySem.W.Fast.tw16073574877836486461 } := by
  refine ⟨?f, ?h⟩
  case h =>
    delta PySem.W.Fast.tw16073574877836486461
    rw [whereEnt_eq]
/-- where keys of one hash stand (numbers as keys), by lists -/
def placesL (h : Int) : List DictEntry → Nat → List Nat
  | [], _ => []
  | e :: r, i => match decide (e.hash = h) with
    | true => i :: placesL h r (i + 1)
    | false => placesL h r (i + 1)
theorem placesL_eq (h : Int) (l : List DictEntry) : ∀ (pre : List DictEntry), placesL h l pre.length = (List.range' pre.length l.length).filter fun i => ((pre ++ l)[i]?.map (·.hash)) == some h := by
  induction l with
  | nil => intro pre; rfl
  | cons e r ih =>
    intro pre
    have h1 := ih (pre ++ [e])
    rw [List.length_append, List.append_assoc] at h1
    have hg : (pre ++ e :: r)[pre.length]? = some e := by simp
    rw [List.length_cons, List.range'_succ, List.filter_cons, hg]
    unfold placesL
    by_cases c : e.hash = h
    · rw [decide_eq_true c]
      have c2 : ((some e).map (·.hash) == some h) = true := by simp [c]
      rw [if_pos c2]
      exact congrArg (List.cons _) h1
    · rw [decide_eq_false c]
      have c2 : ¬ ((some e).map (·.hash) == some h) = true := by simp [c]
      rw [if_neg c2]
      exact h1
theorem places_eq (es : Array DictEntry) (h : Int) : PySem.W.Fast.tw2965532104302071907 es.size (fun i => Option.map (fun x => x.hash) es[i]?) h = placesL h es.toList 0 := by
  have e1 := placesL_eq h es.toList []
  have e2 : placesL h es.toList 0 = _ := e1
  rw [e2, ← PySem.W.Fast.te2965532104302071907]
  unfold PySem.placesWithHash
  rw [List.range_eq_range']
  simp
def findD : { f : Addr → Value → Int → Sem (Option Nat) // f = PySem.W.Fast.tw7228091826238408665 } := by
  refine ⟨?f, ?h⟩
  case h =>
    delta PySem.W.Fast.tw7228091826238408665
    simp (config := { zeta := false, zetaDelta := false }) only [places_eq]
    rw [anyEnt_eq, ← foundD.2]
def setHD : { f : Addr → Value → Int → Value → Sem Unit // f = PySem.W.Fast.tw4359058424727691002 } := by
  refine ⟨?f, ?h⟩
  case h =>
    delta PySem.W.Fast.tw4359058424727691002
    rw [← findD.2]
def setD : { f : Addr → Value → Value → Sem Unit // f = PySem.W.Fast.tw11925912800584824493 } := by
  refine ⟨?f, ?h⟩
  case h =>
    delta PySem.W.Fast.tw11925912800584824493
    rw [← setHD.2]
def putD : { f : Addr → Int → Value → Value → Sem Unit // f = PySem.W.Fast.tw9652029157277244616 } := by
  refine ⟨?f, ?h⟩
  case h =>
    delta PySem.W.Fast.tw9652029157277244616
    rw [← findD.2]
def subD : { f : List (Sem Value × Sem Value) → Sem Addr // f = PySem.W.Fast.tw11913375310210876947 } := by
  refine ⟨?f, ?h⟩
  case h =>
    delta PySem.W.Fast.tw11913375310210876947
    rw [← setD.2]
def mergeD : { f : Addr → Value → Bool → Sem Unit // f = PySem.W.Fast.tw8596071696976842438 } := by
  refine ⟨?f, ?h⟩
  case h =>
    delta PySem.W.Fast.tw8596071696976842438
    rw [← putD.2, ← findD.2, ← setD.2]
def dispD : { f : List (Option (Sem Value) × Sem Value) → Sem Value // f = PySem.W.Fast.tw11216187645035866516 } := by
  refine ⟨?f, ?h⟩
  case h =>
    delta PySem.W.Fast.tw11216187645035866516
    rw [← subD.2, ← mergeD.2]
theorem dispD_eq : @dictDisplay = dispD.1 := PySem.W.Fast.te11216187645035866516.trans dispD.2.symm
/-! the statement x = {..} of the top, its body -/
def keysD (ks : List (Option Expr)) (env : Env) : List (Option (Sem Value)) := ks.map fun o => match o with
  | some e => some (PySem.W.Fast.tw14044960220447912780 e env)
  | none => none
theorem keysD_eq : ∀ (ks : List (Option Expr)) (env : Env), evalEachOpt ks env = keysD ks env
  | [], _ => rfl
  | none :: r, env => by
    show none :: evalEachOpt r env = none :: keysD r env
    rw [keysD_eq r env]
  | some e :: r, env => by
    show some (eval e env) :: evalEachOpt r env = some (PySem.W.Fast.tw14044960220447912780 e env) :: keysD r env
    rw [keysD_eq r env, PySem.W.Fast.te14044960220447912780]
def asgD (ts : List Expr) (ks : List (Option Expr)) (vs : List Expr) (p pos : Pos) (env : Env) : { f : Sem Flow // f = exec (.Assign ts (.Dict ks vs p) pos) env } := by
  refine ⟨?f, ?h⟩
  case h =>
    rw [arm_exec_Assign, arm_eval_Dict, dispD_eq, keysD_eq, PySem.W.Fast.te10458482166411082596, PySem.W.Fast.te2470068587113613483, PySem.W.Fast.te4016559146275205325, PySem.W.Fast.te7783108440312521181, PySem.W.Fast.te1406442740598737775, PySem.W.Fast.te15628205474173192105, PySem.W.Fast.te15591190973536708279]
    try rw [PySem.W.Fast.te9053332837126583604]
def nextD (f : Flow) (k : Sem Flow) : Sem Flow := match f with
  | .next => k
  | f => pure f
def execD (s : Stmt) (env : Env) : Sem Flow := match s with
  | .Assign ts (.Dict ks vs p) pos => (asgD ts ks vs p pos env).1
  | s => PySem.W.Fast.tw12563942051412417395 [s] env
theorem one_eq (s : Stmt) (env : Env) : execs [s] env = exec s env := by
  rw [execs_cons, execs_nil]
  have e : (fun f : Flow => (match f with | .next => (pure .next : Sem Flow) | f => pure f)) = pure := by
    funext f
    cases f <;> rfl
  show (exec s env >>= fun f : Flow => (match f with | .next => (pure .next : Sem Flow) | f => pure f)) = _
  rw [e]
  exact bind_pure _
theorem execD_eq (s : Stmt) (env : Env) : execD s env = exec s env := by
  unfold execD
  split
  · exact (asgD _ _ _ _ _ env).2
  · rw [← PySem.W.Fast.te12563942051412417395, one_eq]
def execsD : List Stmt → Env → Sem Flow
  | [], _ => pure .next
  | s :: r, env => PySem.W.R.bindR (execD s env) fun f => nextD f (execsD r env)
theorem execsD_eq : @execs = execsD := by
  funext l env
  induction l with
  | nil => rfl
  | cons s r ih =>
    rw [execs_cons]
    unfold execsD
    rw [execD_eq, ← ih, ← PySem.W.R.bindR_eq]
    show (exec s env >>= fun f : Flow => _) = (exec s env >>= fun f => nextD f (execs r env))
    congr 1
def bodyD (l : List Stmt) (env : Env) : { f : Sem Fin // f = denote treeTable (.body l env) } := by
  refine ⟨?f, ?h⟩
  case h =>
    rw [denote, execsD_eq, PySem.W.Fast.te1066825118222455980, PySem.W.Fast.te9442747609961115081, PySem.W.R.onRaiseR_eq]
    try rw [PySem.W.Fast.te9053332837126583604]
def denD (c : Code) : Sem Fin := match c with
  | .body l env => (bodyD l env).1
  | c => denQ tabQ c
theorem denD_eq : denD = denQ tabQ := by
  funext c
  unfold denD
  split
  · rw [(bodyD _ _).2, denQ_eq, tabQ_eq]
  · rfl
/-- RunEq by such a run -/
theorem runT {r : OpenRow} {q : Program} {H : Hook} {ob : SharedT → H.α} {M : Nat} {loose : List PySem.Str} {w : World}
    (h : ∀ os : OsState, (endF (stepD (stepQ denD r.prog w)) M r.prog w os).map (fun s => (looksF r.prog (boot_heap w.params) s.abs, seenQ q loose (importedModules r.prog.main.body) (fun s => xlAt q [] s && recOk r.toRowW.records s) s.abs, ob s)) = some (true, openGood q loose, H.val w)) : RunEq r q H ob M loose w := by
  rw [stepD_eq, denD_eq] at h
  exact h
/-- the run as it is made here -/
def runX (r : OpenRow) (M : Nat) (w : World) (os : OsState) : Option SharedT := endF (stepD (stepQ denD r.prog w)) M r.prog w os
theorem map_two {α β γ : Type} {o : Option α} {f : α → β} {g : α → γ} {b : β} {c : γ} (h1 : o.map f = some b) (h2 : o.map g = some c) : o.map (fun s => (f s, g s)) = some (b, c) := by
  cases o with
  | none => cases h1
  | some s =>
    have e1 : f s = b := Option.some.inj h1
    have e2 : g s = c := Option.some.inj h2
    show some (f s, g s) = some (b, c)
    rw [e1, e2]
/-- RunEq, what is asked of the end asked by four runs: less memory -/
theorem runS {r : OpenRow} {q : Program} {H : Hook} {ob : SharedT → H.α} {M : Nat} {loose : List PySem.Str} {w : World} {β γ : Type} (p1 : H.α → β) (p2 : H.α → γ) (inj : ∀ x y, p1 x = p1 y → p2 x = p2 y → x = y)
    (h1 : ∀ os : OsState, (runX r M w os).map (fun s => (looksF r.prog (boot_heap w.params) s.abs, (seenQ q loose (importedModules r.prog.main.body) (fun s => xlAt q [] s && recOk r.toRowW.records s) s.abs).1)) = some (true, (openGood q loose).1))
    (h2 : ∀ os : OsState, (runX r M w os).map (fun s => (seenQ q loose (importedModules r.prog.main.body) (fun s => xlAt q [] s && recOk r.toRowW.records s) s.abs).2) = some (openGood q loose).2)
    (h3 : ∀ os : OsState, (runX r M w os).map (fun s => p1 (ob s)) = some (p1 (H.val w)))
    (h4 : ∀ os : OsState, (runX r M w os).map (fun s => p2 (ob s)) = some (p2 (H.val w))) : RunEq r q H ob M loose w := by
  refine runT fun os => ?_
  have e1 := h1 os
  have e2 := h2 os
  have e3 := h3 os
  have e4 := h4 os
  show (runX r M w os).map _ = _
  cases e : runX r M w os with
  | none =>
    rw [e] at e1
    cases e1
  | some s =>
    rw [e] at e1 e2 e3 e4
    have f1 := Option.some.inj e1
    have f2 := Option.some.inj e2
    have f3 := Option.some.inj e3
    have f4 := Option.some.inj e4
    have g := inj _ _ f3 f4
    have l1 := congrArg Prod.fst f1
    have l2 := congrArg Prod.snd f1
    refine congrArg some (Prod.ext l1 (Prod.ext (Prod.ext l2 f2) g))
end
end Nd
namespace Nd
open PySem PySem.Spec PyProof.Rows L2
theorem str_rel {K : PySem.W.Frag} {mg : Str → Option Value} {h : Heap} {x z : Str} (X : K.In h) (G : h.Ns mainGlobals mg) (c : (He.Fa.str x z).ok K = true) : ∃ u, mg x = some u ∧ RelV (.str z) u := by
  obtain ⟨t, e⟩ := He.str_ok X G c
  exact ⟨_, e, t, rfl⟩
end Nd
set_option maxHeartbeats 0
/-! ### the head -/
namespace K52
open PySem PySem.Spec PyProof.Rows L2 Nd
def dD (x : Str) (st : Stmt) : He.DefD := ⟨(x, none), x, x, defArgs st, defBody st, defScope st, [], []⟩
def dM (C m q : Str) (st : Stmt) : He.DefD := ⟨(C, some m), m, q, defArgs st, defBody st, defScope st, [], []⟩
def fn : List He.DefD := ([dD "is_number" s_is_number, dD "is_string" s_is_string, dD "is_byte" s_is_byte, dD "are_bytes" s_are_bytes, dD "are_strings" s_are_strings, dD "is_constant" s_is_constant, dD "are_constants" s_are_constants, dD "are_same" s_are_same, dD "want_code" s_want_code, dD "sign_of" s_sign_of, dD "four" s_four, dD "integer" s_integer, dD "string" s_string, dD "row_of_bytes" s_row_of_bytes, dD "joined_row" s_joined_row, dD "constant" s_constant, dD "written" s_written, dD "read" s_read, dD "_law_source_of" s_law_source_of, dD "_law_next" s_law_next, dD "_law_one" s_law_one, dD "_law_code" s_law_code, dD "_law_fields" s_law_fields, dD "_law_text" s_law_text, dD "_law_bytes" s_law_bytes, dD "_law_constant" s_law_constant, dD "_law_great" s_law_great, dD "_law_drawn_fields" s_law_drawn_fields, dD "_law_four" s_law_four, dD "_law_letter" s_law_letter] : List He.DefD) ++ ([dD "_law_integer" s_law_integer, dD "_law_signs" s_law_signs, dD "_law_element" s_law_element, dD "_law_row_of" s_law_row_of, dD "_law_written" s_law_written, dD "_law_caught" s_law_caught, dD "_law_kinds_same" s_law_kinds_same, dD "law" s_law, dM "Code" "__init__" "Code.__init__" s_Code_init, dM "Code" "look" "Code.look" s_Code_look, ⟨("Code", some "fields"), "fields", "Code.fields", defArgs s_Code_fields, defBody s_Code_fields, defScope s_Code_fields, [], []⟩, ⟨("Code", some "__eq__"), "__eq__", "Code.__eq__", defArgs s_Code_eq, defBody s_Code_eq, defScope s_Code_eq, [], []⟩, ⟨("Reader", some "__init__"), "__init__", "Reader.__init__", defArgs s_Reader_init, defBody s_Reader_init, defScope s_Reader_init, [], []⟩, ⟨("Reader", some "some"), "some", "Reader.some", defArgs s_Reader_some, defBody s_Reader_some, defScope s_Reader_some, [], []⟩, ⟨("Reader", some "read_four"), "read_four", "Reader.read_four", defArgs s_Reader_read_four, defBody s_Reader_read_four, defScope s_Reader_read_four, [], []⟩, ⟨("Reader", some "read_count"), "read_count", "Reader.read_count", defArgs s_Reader_read_count, defBody s_Reader_read_count, defScope s_Reader_read_count, [], []⟩, ⟨("Reader", some "read_letter"), "read_letter", "Reader.read_letter", defArgs s_Reader_read_letter, defBody s_Reader_read_letter, defScope s_Reader_read_letter, [], []⟩, ⟨("Reader", some "read_length"), "read_length", "Reader.read_length", defArgs s_Reader_read_length, defBody s_Reader_read_length, defScope s_Reader_read_length, [], []⟩, ⟨("Reader", some "read_bytes"), "read_bytes", "Reader.read_bytes", defArgs s_Reader_read_bytes, defBody s_Reader_read_bytes, defScope s_Reader_read_bytes, [], []⟩, ⟨("Reader", some "read_string"), "read_string", "Reader.read_string", defArgs s_Reader_read_string, defBody s_Reader_read_string, defScope s_Reader_read_string, [], []⟩, ⟨("Reader", some "read_strings"), "read_strings", "Reader.read_strings", defArgs s_Reader_read_strings, defBody s_Reader_read_strings, defScope s_Reader_read_strings, [], []⟩, ⟨("Reader", some "read_digits"), "read_digits", "Reader.read_digits", defArgs s_Reader_read_digits, defBody s_Reader_read_digits, defScope s_Reader_read_digits, [], []⟩, ⟨("Reader", some "read_constant"), "read_constant", "Reader.read_constant", defArgs s_Reader_read_constant, defBody s_Reader_read_constant, defScope s_Reader_read_constant, [], []⟩, ⟨("Reader", some "read_constants"), "read_constants", "Reader.read_constants", defArgs s_Reader_read_constants, defBody s_Reader_read_constants, defScope s_Reader_read_constants, [], []⟩, ⟨("Reader", some "read_zero"), "read_zero", "Reader.read_zero", defArgs s_Reader_read_zero, defBody s_Reader_read_zero, defScope s_Reader_read_zero, [], []⟩, ⟨("Reader", some "read_code"), "read_code", "Reader.read_code", defArgs s_Reader_read_code, defBody s_Reader_read_code, defScope s_Reader_read_code, [], []⟩] : List He.DefD)
def fa : List He.Fa := ([.glo "is_number", .glo "is_string", .glo "is_byte", .glo "are_bytes", .glo "are_strings", .glo "is_constant", .glo "are_constants", .glo "are_same", .glo "want_code", .glo "sign_of", .glo "four", .glo "integer", .glo "string", .glo "row_of_bytes", .glo "joined_row", .glo "constant", .glo "written", .glo "read", .glo "_law_source_of", .glo "_law_next", .glo "_law_one", .glo "_law_code", .glo "_law_fields", .glo "_law_text", .glo "_law_bytes", .glo "_law_constant", .glo "_law_great", .glo "_law_drawn_fields", .glo "_law_four", .glo "_law_letter", .glo "_law_integer", .glo "_law_signs", .glo "_law_element", .glo "_law_row_of", .glo "_law_written", .glo "_law_caught", .glo "_law_kinds_same", .glo "law", .glo "Code", .glo "NoCode"] : List He.Fa) ++ ([.glo "CodeError", .glo "NoTable", .glo "NoRows", .glo "NoBytes", .glo "LETTERS", .glo "Reader", .free "int", .free "len", .free "range", .free "tuple", .free "isinstance", .free "bool", .free "str", .free "all", .free "any", .free "ord", .free "list", .free "max", .free "abs", .free "zip", .free "sum", .free "enumerate", .free "repr", .free "ValueError", .free "super", .int "MOST_NUMBER" (2147483647), .int "MOST_NESTED" (100), .int "LEAST" (-2147483648), .int "MOST" (2147483647), .int "ROUND" (4294967296), .int "DIGIT" (32768), .int "LOW_NUMBER" (32), .int "HIGH_NUMBER" (38), .cls "Code", .mkr "Code", .meth "Code" "look", .noat "Code" "argcount", .noat "Code" "onlycount", .noat "Code" "stacksize", .noat "Code" "flags"] : List He.Fa) ++ ([.noat "Code" "code", .noat "Code" "constants", .noat "Code" "names", .noat "Code" "slots", .noat "Code" "kinds", .noat "Code" "name", .noat "Code" "path", .noat "Code" "line", .noat "Code" "lines", .noat "Code" "handlers", .noat "Code" "nested", .cls "Code", .mkr "Code", .meth "Code" "fields", .meth "Code" "__eq__", .cls "Reader", .mkr "Reader", .meth "Reader" "some", .meth "Reader" "read_four", .meth "Reader" "read_count", .meth "Reader" "read_letter", .meth "Reader" "read_length", .meth "Reader" "read_bytes", .meth "Reader" "read_string", .meth "Reader" "read_strings", .meth "Reader" "read_digits", .meth "Reader" "read_constant", .meth "Reader" "read_constants", .meth "Reader" "read_zero", .meth "Reader" "read_code", .noat "Reader" "whole", .noat "Reader" "at", .str "PLACE" "<tree>", .str "PLAIN" "NTFilu(", .str "LOW_SIGNS" " !\"#$", .str "HIGH_SIGNS" "&'()*+,-./0123456789:;<=>?@ABCDEFGHIJKLMNOPQRSTUVWXYZ[\\]^_`abcdefghijklmnopqrstuvwxyz{|}~"] : List He.Fa)
def ex (K : PySem.W.Frag) : Bool := nxB "/claim/cut.py" K (He.ga K "NoCode") (He.ma K (He.ga K "NoCode") "__init__") && (insB K (He.ga K "Code") && ((oddT.all fun t => decide (PySem.W.kitOne K (.type t) (.ref (He.ga K "Code")) = some false)) && (decide (PySem.W.kitOne K (.ref (He.ga K "Code")) (.type "tuple") = some false) && (decide (PySem.W.kitOne K (.ref (He.ga K "Code")) (.type "bool") = some false) && (decide (PySem.W.kitOne K (.ref (He.ga K "Code")) (.type "int") = some false) && (decide (PySem.W.kitOne K (.ref (He.ga K "Code")) (.type "str") = some false) && (decide (PySem.W.findIn K (.ref (He.ga K "Code")) "__eq__" = some (some (.ref (He.ma K (He.ga K "Code") "__eq__")))) && (decide (PySem.W.findIn K (.ref (He.ga K "Code")) "__ne__" = some (some (.builtin "object.__ne__"))) && (decide (PySem.W.subIn K (.ref (He.ga K "Code")) (.type "object") = some true) && (PySem.W.isFn K (.ref (He.ma K (He.ga K "Code") "__eq__")) && (excCB K (He.ga K "NoCode") && (xfB K (He.ga K "NoCode") && (decide (PySem.W.kitOne K (.ref (He.ga K "NoCode")) (.ref (He.ga K "CodeError")) = some true) && (decide (PySem.W.kitOne K (.ref (He.ga K "NoCode")) (.type "ValueError") = some true) && (decide (PySem.W.exmOne K (.ref (He.ga K "NoCode")) (.ref (He.ga K "NoCode")) = some true) && (decide ((He.ga K "Code") ≠ (He.ga K "Reader")) && (decide (PySem.W.nsIn K cStatics "sys.int_max_str_digits" = some none))))))))))))))))))
abbrev Bt : Type := List NxV × List (Option (List (Option (Str × Int)))) × (List (Option (List (Option (Key × Int × Vo)))))
def nxo (K : PySem.W.Frag) : Bt := ([nxObs "NoCode" K], [], [dicM K (He.ga K "LETTERS")])
def nv (w : World) : Bt := ([nxVal ⟨6, 17, 6, 21⟩ ⟨6, 23, 6, 28⟩ (PySem.Nx.iB ⟨7, 8, 7, 13⟩ ⟨7, 8, 7, 15⟩ ⟨7, 8, 7, 24⟩ ⟨7, 25, 7, 30⟩ ⟨7, 8, 7, 31⟩ ⟨7, 8, 7, 31⟩ ⟨8, 8, 8, 12⟩ ⟨8, 8, 8, 18⟩ ⟨8, 21, 8, 26⟩ ⟨8, 8, 8, 26⟩)], [], [some (exM w.params tL)])
abbrev R : PySem.W.OpenRow := PySem.W.OpenLaw.row PySem.Challenge.rw_codewalk_k52_codes_written_and_read
def tf : List He.Defn := [("law", none)]
abbrev hk : PySem.W.Hook := hookN 5 fa fn tf ex nxo nv
def ob (s : PySem.W.SharedT) : (He.AlD × Bool) × Bt := obsN 5 fa fn tf ex nxo (HandSHeadRun.getT s)
theorem ob_eq (s : PySem.W.SharedT) : ob s = hk.obs s.abs := obsN_eq (HandSHeadRun.getT_eq s)
def loose : List Str := (["CodeError", "NoCode", "NoTable", "NoBytes", "NoRows", "MOST_NUMBER", "MOST_NESTED", "is_number", "is_string", "is_byte", "are_bytes", "are_strings", "is_constant", "are_constants", "are_same", "Code"] : List Str) ++ (["want_code", "LEAST", "MOST", "ROUND", "DIGIT", "PLACE", "LETTERS", "PLAIN", "LOW_SIGNS", "LOW_NUMBER", "HIGH_SIGNS", "HIGH_NUMBER", "sign_of", "four", "integer", "string"] : List Str) ++ (["row_of_bytes", "joined_row", "constant", "written", "Reader", "read", "_law_source_of", "_law_next", "_law_one", "_law_code", "_law_fields", "_law_text", "_law_bytes", "_law_constant", "_law_great", "_law_drawn_fields"] : List Str) ++ (["_law_four", "_law_letter", "_law_integer", "_law_signs", "_law_element", "_law_row_of", "_law_written", "_law_caught", "_law_kinds_same"] : List Str)
theorem run_false (w : World) : HandSHeadRun.RunEq R (PySem.W.view R.prog [61]) hk ob 8000 loose (w.withFollow "special-get-raises" false) := by
  refine runT ?_
  intro os
  kernel_rfl
theorem run_true (w : World) : HandSHeadRun.RunEq R (PySem.W.view R.prog [61]) hk ob 8000 loose (w.withFollow "special-get-raises" true) := by
  refine runT ?_
  intro os
  kernel_rfl
theorem run (w : World) : HandSHeadRun.RunEq R (PySem.W.view R.prog [61]) hk ob 8000 loose w := PySem.W.byRow2 "special-get-raises" (P := fun w => HandSHeadRun.RunEq R (PySem.W.view R.prog [61]) hk ob 8000 loose w) run_false run_true w
end K52
set_option maxHeartbeats 4000000
namespace K52
open PySem PySem.Spec PyProof.Rows L2 Nd
abbrev l : PySem.W.OpenLaw := PySem.Challenge.rw_codewalk_k52_codes_written_and_read
theorem hev0 (env : Env) : ∃ pl : Sem Bool, eval (.Call (.Attribute (.Call (.Name "super" ⟨7, 8, 7, 13⟩) [] [] ⟨7, 8, 7, 15⟩) "__init__" ⟨7, 8, 7, 24⟩) [.Name "field" ⟨7, 25, 7, 30⟩] [] ⟨7, 8, 7, 31⟩) env = (do
      let ov ← attributeBase (.Call (.Name "super" ⟨7, 8, 7, 13⟩) [] [] ⟨7, 8, 7, 15⟩) "__init__" env (eval (.Call (.Name "super" ⟨7, 8, 7, 13⟩) [] [] ⟨7, 8, 7, 15⟩) env)
      standAt (⟨7, 8, 7, 24⟩ : Pos).atName
      let (f, first) ← holding [ov] (getMethod ov "__init__" pl)
      callWith ⟨7, 8, 7, 31⟩ f first (backTo ⟨7, 8, 7, 31⟩ (starEach [.Name "field" ⟨7, 25, 7, 30⟩] env)) []) := ⟨_, rfl⟩
theorem facts {w : World} {K : PySem.W.Frag} {h : Heap} {mg : Str → Option Value} {f : Addr} (X : K.In h) (G : h.Ns mainGlobals mg) (hfa : mg ("law" : Str) = some (.ref f)) (c : SaysN fa fn tf ex nxo (nv w) h K) : LawHas l w K 63 mg f h := by
  have e := hfa.symm.trans (He.glo_ok X G (c.t.fact 37 (f := .glo "law") rfl))
  cases e
  obtain ⟨fd0, F0⟩ := c.t.def_ 0 (d := dD "is_number" s_is_number) rfl
  have D0 : DefX K mg "is_number" s_is_number ["value"] (He.ga K "is_number") fd0 := dfx X G F0 (c.t.fact 0 (f := .glo "is_number") rfl) (fun _ _ _ _ _ _ us hl => match us, hl with | [_], _ => rfl)
  obtain ⟨fd1, F1⟩ := c.t.def_ 1 (d := dD "is_string" s_is_string) rfl
  have D1 : DefX K mg "is_string" s_is_string ["value"] (He.ga K "is_string") fd1 := dfx X G F1 (c.t.fact 1 (f := .glo "is_string") rfl) (fun _ _ _ _ _ _ us hl => match us, hl with | [_], _ => rfl)
  obtain ⟨fd2, F2⟩ := c.t.def_ 2 (d := dD "is_byte" s_is_byte) rfl
  have D2 : DefX K mg "is_byte" s_is_byte ["value"] (He.ga K "is_byte") fd2 := dfx X G F2 (c.t.fact 2 (f := .glo "is_byte") rfl) (fun _ _ _ _ _ _ us hl => match us, hl with | [_], _ => rfl)
  obtain ⟨fd3, F3⟩ := c.t.def_ 3 (d := dD "are_bytes" s_are_bytes) rfl
  have D3 : DefX K mg "are_bytes" s_are_bytes ["value"] (He.ga K "are_bytes") fd3 := dfx X G F3 (c.t.fact 3 (f := .glo "are_bytes") rfl) (fun _ _ _ _ _ _ us hl => match us, hl with | [_], _ => rfl)
  obtain ⟨fd4, F4⟩ := c.t.def_ 4 (d := dD "are_strings" s_are_strings) rfl
  have D4 : DefX K mg "are_strings" s_are_strings ["value"] (He.ga K "are_strings") fd4 := dfx X G F4 (c.t.fact 4 (f := .glo "are_strings") rfl) (fun _ _ _ _ _ _ us hl => match us, hl with | [_], _ => rfl)
  obtain ⟨fd5, F5⟩ := c.t.def_ 5 (d := dD "is_constant" s_is_constant) rfl
  have D5 : DefX K mg "is_constant" s_is_constant ["value", "nested"] (He.ga K "is_constant") fd5 := dfx X G F5 (c.t.fact 5 (f := .glo "is_constant") rfl) (fun _ _ _ _ _ _ us hl => match us, hl with | [_, _], _ => rfl)
  obtain ⟨fd6, F6⟩ := c.t.def_ 6 (d := dD "are_constants" s_are_constants) rfl
  have D6 : DefX K mg "are_constants" s_are_constants ["value"] (He.ga K "are_constants") fd6 := dfx X G F6 (c.t.fact 6 (f := .glo "are_constants") rfl) (fun _ _ _ _ _ _ us hl => match us, hl with | [_], _ => rfl)
  obtain ⟨fd7, F7⟩ := c.t.def_ 7 (d := dD "are_same" s_are_same) rfl
  have D7 : DefX K mg "are_same" s_are_same ["one", "other"] (He.ga K "are_same") fd7 := dfx X G F7 (c.t.fact 7 (f := .glo "are_same") rfl) (fun _ _ _ _ _ _ us hl => match us, hl with | [_, _], _ => rfl)
  obtain ⟨fd8, F8⟩ := c.t.def_ 8 (d := dD "want_code" s_want_code) rfl
  have D8 : DefX K mg "want_code" s_want_code ["value"] (He.ga K "want_code") fd8 := dfx X G F8 (c.t.fact 8 (f := .glo "want_code") rfl) (fun _ _ _ _ _ _ us hl => match us, hl with | [_], _ => rfl)
  obtain ⟨fd9, F9⟩ := c.t.def_ 9 (d := dD "sign_of" s_sign_of) rfl
  have D9 : DefX K mg "sign_of" s_sign_of ["number"] (He.ga K "sign_of") fd9 := dfx X G F9 (c.t.fact 9 (f := .glo "sign_of") rfl) (fun _ _ _ _ _ _ us hl => match us, hl with | [_], _ => rfl)
  obtain ⟨fd10, F10⟩ := c.t.def_ 10 (d := dD "four" s_four) rfl
  have D10 : DefX K mg "four" s_four ["number"] (He.ga K "four") fd10 := dfx X G F10 (c.t.fact 10 (f := .glo "four") rfl) (fun _ _ _ _ _ _ us hl => match us, hl with | [_], _ => rfl)
  obtain ⟨fd11, F11⟩ := c.t.def_ 11 (d := dD "integer" s_integer) rfl
  have D11 : DefX K mg "integer" s_integer ["value"] (He.ga K "integer") fd11 := dfx X G F11 (c.t.fact 11 (f := .glo "integer") rfl) (fun _ _ _ _ _ _ us hl => match us, hl with | [_], _ => rfl)
  obtain ⟨fd12, F12⟩ := c.t.def_ 12 (d := dD "string" s_string) rfl
  have D12 : DefX K mg "string" s_string ["value"] (He.ga K "string") fd12 := dfx X G F12 (c.t.fact 12 (f := .glo "string") rfl) (fun _ _ _ _ _ _ us hl => match us, hl with | [_], _ => rfl)
  obtain ⟨fd13, F13⟩ := c.t.def_ 13 (d := dD "row_of_bytes" s_row_of_bytes) rfl
  have D13 : DefX K mg "row_of_bytes" s_row_of_bytes ["value"] (He.ga K "row_of_bytes") fd13 := dfx X G F13 (c.t.fact 13 (f := .glo "row_of_bytes") rfl) (fun _ _ _ _ _ _ us hl => match us, hl with | [_], _ => rfl)
  obtain ⟨fd14, F14⟩ := c.t.def_ 14 (d := dD "joined_row" s_joined_row) rfl
  have D14 : DefX K mg "joined_row" s_joined_row ["parts"] (He.ga K "joined_row") fd14 := dfx X G F14 (c.t.fact 14 (f := .glo "joined_row") rfl) (fun _ _ _ _ _ _ us hl => match us, hl with | [_], _ => rfl)
  obtain ⟨fd15, F15⟩ := c.t.def_ 15 (d := dD "constant" s_constant) rfl
  have D15 : DefX K mg "constant" s_constant ["value"] (He.ga K "constant") fd15 := dfx X G F15 (c.t.fact 15 (f := .glo "constant") rfl) (fun _ _ _ _ _ _ us hl => match us, hl with | [_], _ => rfl)
  obtain ⟨fd16, F16⟩ := c.t.def_ 16 (d := dD "written" s_written) rfl
  have D16 : DefX K mg "written" s_written ["code"] (He.ga K "written") fd16 := dfx X G F16 (c.t.fact 16 (f := .glo "written") rfl) (fun _ _ _ _ _ _ us hl => match us, hl with | [_], _ => rfl)
  obtain ⟨fd17, F17⟩ := c.t.def_ 17 (d := dD "read" s_read) rfl
  have D17 : DefX K mg "read" s_read ["data"] (He.ga K "read") fd17 := dfx X G F17 (c.t.fact 17 (f := .glo "read") rfl) (fun _ _ _ _ _ _ us hl => match us, hl with | [_], _ => rfl)
  obtain ⟨fd18, F18⟩ := c.t.def_ 18 (d := dD "_law_source_of" s_law_source_of) rfl
  have D18 : DefX K mg "_law_source_of" s_law_source_of ["cell"] (He.ga K "_law_source_of") fd18 := dfx X G F18 (c.t.fact 18 (f := .glo "_law_source_of") rfl) (fun _ _ _ _ _ _ us hl => match us, hl with | [_], _ => rfl)
  obtain ⟨fd19, F19⟩ := c.t.def_ 19 (d := dD "_law_next" s_law_next) rfl
  have D19 : DefX K mg "_law_next" s_law_next ["source", "many"] (He.ga K "_law_next") fd19 := dfx X G F19 (c.t.fact 19 (f := .glo "_law_next") rfl) (fun _ _ _ _ _ _ us hl => match us, hl with | [_, _], _ => rfl)
  obtain ⟨fd20, F20⟩ := c.t.def_ 20 (d := dD "_law_one" s_law_one) rfl
  have D20 : DefX K mg "_law_one" s_law_one ["source", "some"] (He.ga K "_law_one") fd20 := dfx X G F20 (c.t.fact 20 (f := .glo "_law_one") rfl) (fun _ _ _ _ _ _ us hl => match us, hl with | [_, _], _ => rfl)
  obtain ⟨fd21, F21⟩ := c.t.def_ 21 (d := dD "_law_code" s_law_code) rfl
  have D21 : DefX K mg "_law_code" s_law_code ["some"] (He.ga K "_law_code") fd21 := dfx X G F21 (c.t.fact 21 (f := .glo "_law_code") rfl) (fun _ _ _ _ _ _ us hl => match us, hl with | [_], _ => rfl)
  obtain ⟨fd22, F22⟩ := c.t.def_ 22 (d := dD "_law_fields" s_law_fields) rfl
  have D22 : DefX K mg "_law_fields" s_law_fields ["made"] (He.ga K "_law_fields") fd22 := dfx X G F22 (c.t.fact 22 (f := .glo "_law_fields") rfl) (fun _ _ _ _ _ _ us hl => match us, hl with | [_], _ => rfl)
  obtain ⟨fd23, F23⟩ := c.t.def_ 23 (d := dD "_law_text" s_law_text) rfl
  have D23 : DefX K mg "_law_text" s_law_text ["source"] (He.ga K "_law_text") fd23 := dfx X G F23 (c.t.fact 23 (f := .glo "_law_text") rfl) (fun _ _ _ _ _ _ us hl => match us, hl with | [_], _ => rfl)
  obtain ⟨fd24, F24⟩ := c.t.def_ 24 (d := dD "_law_bytes" s_law_bytes) rfl
  have D24 : DefX K mg "_law_bytes" s_law_bytes ["source", "most"] (He.ga K "_law_bytes") fd24 := dfx X G F24 (c.t.fact 24 (f := .glo "_law_bytes") rfl) (fun _ _ _ _ _ _ us hl => match us, hl with | [_, _], _ => rfl)
  obtain ⟨fd25, F25⟩ := c.t.def_ 25 (d := dD "_law_constant" s_law_constant) rfl
  have D25 : DefX K mg "_law_constant" s_law_constant ["source", "deep"] (He.ga K "_law_constant") fd25 := dfx X G F25 (c.t.fact 25 (f := .glo "_law_constant") rfl) (fun _ _ _ _ _ _ us hl => match us, hl with | [_, _], _ => rfl)
  obtain ⟨fd26, F26⟩ := c.t.def_ 26 (d := dD "_law_great" s_law_great) rfl
  have D26 : DefX K mg "_law_great" s_law_great ["source"] (He.ga K "_law_great") fd26 := dfx X G F26 (c.t.fact 26 (f := .glo "_law_great") rfl) (fun _ _ _ _ _ _ us hl => match us, hl with | [_], _ => rfl)
  obtain ⟨fd27, F27⟩ := c.t.def_ 27 (d := dD "_law_drawn_fields" s_law_drawn_fields) rfl
  have D27 : DefX K mg "_law_drawn_fields" s_law_drawn_fields ["source", "deep"] (He.ga K "_law_drawn_fields") fd27 := dfx X G F27 (c.t.fact 27 (f := .glo "_law_drawn_fields") rfl) (fun _ _ _ _ _ _ us hl => match us, hl with | [_, _], _ => rfl)
  obtain ⟨fd28, F28⟩ := c.t.def_ 28 (d := dD "_law_four" s_law_four) rfl
  have D28 : DefX K mg "_law_four" s_law_four ["number"] (He.ga K "_law_four") fd28 := dfx X G F28 (c.t.fact 28 (f := .glo "_law_four") rfl) (fun _ _ _ _ _ _ us hl => match us, hl with | [_], _ => rfl)
  obtain ⟨fd29, F29⟩ := c.t.def_ 29 (d := dD "_law_letter" s_law_letter) rfl
  have D29 : DefX K mg "_law_letter" s_law_letter ["word"] (He.ga K "_law_letter") fd29 := dfx X G F29 (c.t.fact 29 (f := .glo "_law_letter") rfl) (fun _ _ _ _ _ _ us hl => match us, hl with | [_], _ => rfl)
  obtain ⟨fd30, F30⟩ := c.t.def_ 30 (d := dD "_law_integer" s_law_integer) rfl
  have D30 : DefX K mg "_law_integer" s_law_integer ["value"] (He.ga K "_law_integer") fd30 := dfx X G F30 (c.t.fact 30 (f := .glo "_law_integer") rfl) (fun _ _ _ _ _ _ us hl => match us, hl with | [_], _ => rfl)
  obtain ⟨fd31, F31⟩ := c.t.def_ 31 (d := dD "_law_signs" s_law_signs) rfl
  have D31 : DefX K mg "_law_signs" s_law_signs ["text"] (He.ga K "_law_signs") fd31 := dfx X G F31 (c.t.fact 31 (f := .glo "_law_signs") rfl) (fun _ _ _ _ _ _ us hl => match us, hl with | [_], _ => rfl)
  obtain ⟨fd32, F32⟩ := c.t.def_ 32 (d := dD "_law_element" s_law_element) rfl
  have D32 : DefX K mg "_law_element" s_law_element ["value"] (He.ga K "_law_element") fd32 := dfx X G F32 (c.t.fact 32 (f := .glo "_law_element") rfl) (fun _ _ _ _ _ _ us hl => match us, hl with | [_], _ => rfl)
  obtain ⟨fd33, F33⟩ := c.t.def_ 33 (d := dD "_law_row_of" s_law_row_of) rfl
  have D33 : DefX K mg "_law_row_of" s_law_row_of ["some"] (He.ga K "_law_row_of") fd33 := dfx X G F33 (c.t.fact 33 (f := .glo "_law_row_of") rfl) (fun _ _ _ _ _ _ us hl => match us, hl with | [_], _ => rfl)
  obtain ⟨fd34, F34⟩ := c.t.def_ 34 (d := dD "_law_written" s_law_written) rfl
  have D34 : DefX K mg "_law_written" s_law_written ["some"] (He.ga K "_law_written") fd34 := dfx X G F34 (c.t.fact 34 (f := .glo "_law_written") rfl) (fun _ _ _ _ _ _ us hl => match us, hl with | [_], _ => rfl)
  obtain ⟨fd35, F35⟩ := c.t.def_ 35 (d := dD "_law_caught" s_law_caught) rfl
  have D35 : DefX K mg "_law_caught" s_law_caught ["ask"] (He.ga K "_law_caught") fd35 := dfx X G F35 (c.t.fact 35 (f := .glo "_law_caught") rfl) (fun _ _ _ _ _ _ us hl => match us, hl with | [_], _ => rfl)
  obtain ⟨fd36, F36⟩ := c.t.def_ 36 (d := dD "_law_kinds_same" s_law_kinds_same) rfl
  have D36 : DefX K mg "_law_kinds_same" s_law_kinds_same ["one", "other"] (He.ga K "_law_kinds_same") fd36 := dfx X G F36 (c.t.fact 36 (f := .glo "_law_kinds_same") rfl) (fun _ _ _ _ _ _ us hl => match us, hl with | [_, _], _ => rfl)
  obtain ⟨fd37, F37⟩ := c.t.def_ 37 (d := dD "law" s_law) rfl
  have D37 : DefX K mg "law" s_law ["script"] (He.ga K "law") fd37 := dfx X G F37 (c.t.fact 37 (f := .glo "law") rfl) (fun _ _ _ _ _ _ us hl => match us, hl with | [_], _ => rfl)
  obtain ⟨fdI, FI⟩ := c.t.def_ 38 (d := dM "Code" "__init__" "Code.__init__" s_Code_init) rfl
  have DI : MetX K "__init__" "Code.__init__" s_Code_init ["self", "argcount", "onlycount", "stacksize", "flags", "code", "constants", "names", "slots", "kinds", "name", "path", "line", "lines", "handlers"] (He.ma K (He.ga K "Code") "__init__") fdI := metx FI (fun _ _ _ _ _ _ us hl => match us, hl with | [_, _, _, _, _, _, _, _, _, _, _, _, _, _, _], _ => rfl)
  obtain ⟨fdL, FL⟩ := c.t.def_ 39 (d := dM "Code" "look" "Code.look" s_Code_look) rfl
  have DL : MetX K "look" "Code.look" s_Code_look ["self"] (He.ma K (He.ga K "Code") "look") fdL := metx FL (fun _ _ _ _ _ _ us hl => match us, hl with | [_], _ => rfl)
  have cl : Cls K (He.ga K "Code") := He.cls_ok (c.t.fact 91 (f := .cls "Code") rfl)
  obtain ⟨fdO_fields, FO_fields⟩ := c.t.def_ 40 (d := ⟨("Code", some "fields"), "fields", "Code.fields", defArgs s_Code_fields, defBody s_Code_fields, defScope s_Code_fields, [], []⟩) rfl
  have DO_fields : MetX K "fields" "Code.fields" s_Code_fields ["self"] (He.ma K (He.ga K "Code") "fields") fdO_fields := metx FO_fields (fun _ _ _ _ _ _ us hl => match us, hl with | [_], _ => rfl)
  have ML_fields : Meth K (He.ga K "Code") "fields" (He.ma K (He.ga K "Code") "fields") := He.meth_ok (c.t.fact 93 (f := .meth "Code" "fields") rfl)
  obtain ⟨fdO_eq, FO_eq⟩ := c.t.def_ 41 (d := ⟨("Code", some "__eq__"), "__eq__", "Code.__eq__", defArgs s_Code_eq, defBody s_Code_eq, defScope s_Code_eq, [], []⟩) rfl
  have DO_eq : MetX K "__eq__" "Code.__eq__" s_Code_eq ["self", "other"] (He.ma K (He.ga K "Code") "__eq__") fdO_eq := metx FO_eq (fun _ _ _ _ _ _ us hl => match us, hl with | [_, _], _ => rfl)
  have ML_eq : Meth K (He.ga K "Code") "__eq__" (He.ma K (He.ga K "Code") "__eq__") := He.meth_ok (c.t.fact 94 (f := .meth "Code" "__eq__") rfl)
  have cl_Code : Cls K (He.ga K "Code") := He.cls_ok (c.t.fact 91 (f := .cls "Code") rfl)
  have mk_Code : Mk K (He.ga K "Code") (He.ma K (He.ga K "Code") "__init__") := He.mkr_ok (c.t.fact 92 (f := .mkr "Code") rfl)
  obtain ⟨fdO_init, FO_init⟩ := c.t.def_ 42 (d := ⟨("Reader", some "__init__"), "__init__", "Reader.__init__", defArgs s_Reader_init, defBody s_Reader_init, defScope s_Reader_init, [], []⟩) rfl
  have DO_init : MetX K "__init__" "Reader.__init__" s_Reader_init ["self", "data"] (He.ma K (He.ga K "Reader") "__init__") fdO_init := metx FO_init (fun _ _ _ _ _ _ us hl => match us, hl with | [_, _], _ => rfl)
  obtain ⟨fdO_some, FO_some⟩ := c.t.def_ 43 (d := ⟨("Reader", some "some"), "some", "Reader.some", defArgs s_Reader_some, defBody s_Reader_some, defScope s_Reader_some, [], []⟩) rfl
  have DO_some : MetX K "some" "Reader.some" s_Reader_some ["self", "many"] (He.ma K (He.ga K "Reader") "some") fdO_some := metx FO_some (fun _ _ _ _ _ _ us hl => match us, hl with | [_, _], _ => rfl)
  have ML_some : Meth K (He.ga K "Reader") "some" (He.ma K (He.ga K "Reader") "some") := He.meth_ok (c.t.fact 97 (f := .meth "Reader" "some") rfl)
  obtain ⟨fdO_read_four, FO_read_four⟩ := c.t.def_ 44 (d := ⟨("Reader", some "read_four"), "read_four", "Reader.read_four", defArgs s_Reader_read_four, defBody s_Reader_read_four, defScope s_Reader_read_four, [], []⟩) rfl
  have DO_read_four : MetX K "read_four" "Reader.read_four" s_Reader_read_four ["self"] (He.ma K (He.ga K "Reader") "read_four") fdO_read_four := metx FO_read_four (fun _ _ _ _ _ _ us hl => match us, hl with | [_], _ => rfl)
  have ML_read_four : Meth K (He.ga K "Reader") "read_four" (He.ma K (He.ga K "Reader") "read_four") := He.meth_ok (c.t.fact 98 (f := .meth "Reader" "read_four") rfl)
  obtain ⟨fdO_read_count, FO_read_count⟩ := c.t.def_ 45 (d := ⟨("Reader", some "read_count"), "read_count", "Reader.read_count", defArgs s_Reader_read_count, defBody s_Reader_read_count, defScope s_Reader_read_count, [], []⟩) rfl
  have DO_read_count : MetX K "read_count" "Reader.read_count" s_Reader_read_count ["self"] (He.ma K (He.ga K "Reader") "read_count") fdO_read_count := metx FO_read_count (fun _ _ _ _ _ _ us hl => match us, hl with | [_], _ => rfl)
  have ML_read_count : Meth K (He.ga K "Reader") "read_count" (He.ma K (He.ga K "Reader") "read_count") := He.meth_ok (c.t.fact 99 (f := .meth "Reader" "read_count") rfl)
  obtain ⟨fdO_read_letter, FO_read_letter⟩ := c.t.def_ 46 (d := ⟨("Reader", some "read_letter"), "read_letter", "Reader.read_letter", defArgs s_Reader_read_letter, defBody s_Reader_read_letter, defScope s_Reader_read_letter, [], []⟩) rfl
  have DO_read_letter : MetX K "read_letter" "Reader.read_letter" s_Reader_read_letter ["self", "letters"] (He.ma K (He.ga K "Reader") "read_letter") fdO_read_letter := metx FO_read_letter (fun _ _ _ _ _ _ us hl => match us, hl with | [_, _], _ => rfl)
  have ML_read_letter : Meth K (He.ga K "Reader") "read_letter" (He.ma K (He.ga K "Reader") "read_letter") := He.meth_ok (c.t.fact 100 (f := .meth "Reader" "read_letter") rfl)
  obtain ⟨fdO_read_length, FO_read_length⟩ := c.t.def_ 47 (d := ⟨("Reader", some "read_length"), "read_length", "Reader.read_length", defArgs s_Reader_read_length, defBody s_Reader_read_length, defScope s_Reader_read_length, [], []⟩) rfl
  have DO_read_length : MetX K "read_length" "Reader.read_length" s_Reader_read_length ["self", "begin"] (He.ma K (He.ga K "Reader") "read_length") fdO_read_length := metx FO_read_length (fun _ _ _ _ _ _ us hl => match us, hl with | [_, _], _ => rfl)
  have ML_read_length : Meth K (He.ga K "Reader") "read_length" (He.ma K (He.ga K "Reader") "read_length") := He.meth_ok (c.t.fact 101 (f := .meth "Reader" "read_length") rfl)
  obtain ⟨fdO_read_bytes, FO_read_bytes⟩ := c.t.def_ 48 (d := ⟨("Reader", some "read_bytes"), "read_bytes", "Reader.read_bytes", defArgs s_Reader_read_bytes, defBody s_Reader_read_bytes, defScope s_Reader_read_bytes, [], []⟩) rfl
  have DO_read_bytes : MetX K "read_bytes" "Reader.read_bytes" s_Reader_read_bytes ["self"] (He.ma K (He.ga K "Reader") "read_bytes") fdO_read_bytes := metx FO_read_bytes (fun _ _ _ _ _ _ us hl => match us, hl with | [_], _ => rfl)
  have ML_read_bytes : Meth K (He.ga K "Reader") "read_bytes" (He.ma K (He.ga K "Reader") "read_bytes") := He.meth_ok (c.t.fact 102 (f := .meth "Reader" "read_bytes") rfl)
  obtain ⟨fdO_read_string, FO_read_string⟩ := c.t.def_ 49 (d := ⟨("Reader", some "read_string"), "read_string", "Reader.read_string", defArgs s_Reader_read_string, defBody s_Reader_read_string, defScope s_Reader_read_string, [], []⟩) rfl
  have DO_read_string : MetX K "read_string" "Reader.read_string" s_Reader_read_string ["self"] (He.ma K (He.ga K "Reader") "read_string") fdO_read_string := metx FO_read_string (fun _ _ _ _ _ _ us hl => match us, hl with | [_], _ => rfl)
  have ML_read_string : Meth K (He.ga K "Reader") "read_string" (He.ma K (He.ga K "Reader") "read_string") := He.meth_ok (c.t.fact 103 (f := .meth "Reader" "read_string") rfl)
  obtain ⟨fdO_read_strings, FO_read_strings⟩ := c.t.def_ 50 (d := ⟨("Reader", some "read_strings"), "read_strings", "Reader.read_strings", defArgs s_Reader_read_strings, defBody s_Reader_read_strings, defScope s_Reader_read_strings, [], []⟩) rfl
  have DO_read_strings : MetX K "read_strings" "Reader.read_strings" s_Reader_read_strings ["self"] (He.ma K (He.ga K "Reader") "read_strings") fdO_read_strings := metx FO_read_strings (fun _ _ _ _ _ _ us hl => match us, hl with | [_], _ => rfl)
  have ML_read_strings : Meth K (He.ga K "Reader") "read_strings" (He.ma K (He.ga K "Reader") "read_strings") := He.meth_ok (c.t.fact 104 (f := .meth "Reader" "read_strings") rfl)
  obtain ⟨fdO_read_digits, FO_read_digits⟩ := c.t.def_ 51 (d := ⟨("Reader", some "read_digits"), "read_digits", "Reader.read_digits", defArgs s_Reader_read_digits, defBody s_Reader_read_digits, defScope s_Reader_read_digits, [], []⟩) rfl
  have DO_read_digits : MetX K "read_digits" "Reader.read_digits" s_Reader_read_digits ["self", "begin"] (He.ma K (He.ga K "Reader") "read_digits") fdO_read_digits := metx FO_read_digits (fun _ _ _ _ _ _ us hl => match us, hl with | [_, _], _ => rfl)
  have ML_read_digits : Meth K (He.ga K "Reader") "read_digits" (He.ma K (He.ga K "Reader") "read_digits") := He.meth_ok (c.t.fact 105 (f := .meth "Reader" "read_digits") rfl)
  obtain ⟨fdO_read_constant, FO_read_constant⟩ := c.t.def_ 52 (d := ⟨("Reader", some "read_constant"), "read_constant", "Reader.read_constant", defArgs s_Reader_read_constant, defBody s_Reader_read_constant, defScope s_Reader_read_constant, [], []⟩) rfl
  have DO_read_constant : MetX K "read_constant" "Reader.read_constant" s_Reader_read_constant ["self", "letters", "nested", "codes"] (He.ma K (He.ga K "Reader") "read_constant") fdO_read_constant := metx FO_read_constant (fun _ _ _ _ _ _ us hl => match us, hl with | [_, _, _, _], _ => rfl)
  have ML_read_constant : Meth K (He.ga K "Reader") "read_constant" (He.ma K (He.ga K "Reader") "read_constant") := He.meth_ok (c.t.fact 106 (f := .meth "Reader" "read_constant") rfl)
  obtain ⟨fdO_read_constants, FO_read_constants⟩ := c.t.def_ 53 (d := ⟨("Reader", some "read_constants"), "read_constants", "Reader.read_constants", defArgs s_Reader_read_constants, defBody s_Reader_read_constants, defScope s_Reader_read_constants, [], []⟩) rfl
  have DO_read_constants : MetX K "read_constants" "Reader.read_constants" s_Reader_read_constants ["self", "codes"] (He.ma K (He.ga K "Reader") "read_constants") fdO_read_constants := metx FO_read_constants (fun _ _ _ _ _ _ us hl => match us, hl with | [_, _], _ => rfl)
  have ML_read_constants : Meth K (He.ga K "Reader") "read_constants" (He.ma K (He.ga K "Reader") "read_constants") := He.meth_ok (c.t.fact 107 (f := .meth "Reader" "read_constants") rfl)
  obtain ⟨fdO_read_zero, FO_read_zero⟩ := c.t.def_ 54 (d := ⟨("Reader", some "read_zero"), "read_zero", "Reader.read_zero", defArgs s_Reader_read_zero, defBody s_Reader_read_zero, defScope s_Reader_read_zero, [], []⟩) rfl
  have DO_read_zero : MetX K "read_zero" "Reader.read_zero" s_Reader_read_zero ["self"] (He.ma K (He.ga K "Reader") "read_zero") fdO_read_zero := metx FO_read_zero (fun _ _ _ _ _ _ us hl => match us, hl with | [_], _ => rfl)
  have ML_read_zero : Meth K (He.ga K "Reader") "read_zero" (He.ma K (He.ga K "Reader") "read_zero") := He.meth_ok (c.t.fact 108 (f := .meth "Reader" "read_zero") rfl)
  obtain ⟨fdO_read_code, FO_read_code⟩ := c.t.def_ 55 (d := ⟨("Reader", some "read_code"), "read_code", "Reader.read_code", defArgs s_Reader_read_code, defBody s_Reader_read_code, defScope s_Reader_read_code, [], []⟩) rfl
  have DO_read_code : MetX K "read_code" "Reader.read_code" s_Reader_read_code ["self", "codes"] (He.ma K (He.ga K "Reader") "read_code") fdO_read_code := metx FO_read_code (fun _ _ _ _ _ _ us hl => match us, hl with | [_, _], _ => rfl)
  have ML_read_code : Meth K (He.ga K "Reader") "read_code" (He.ma K (He.ga K "Reader") "read_code") := He.meth_ok (c.t.fact 109 (f := .meth "Reader" "read_code") rfl)
  have cl_Reader : Cls K (He.ga K "Reader") := He.cls_ok (c.t.fact 95 (f := .cls "Reader") rfl)
  have mk_Reader : Mk K (He.ga K "Reader") (He.ma K (He.ga K "Reader") "__init__") := He.mkr_ok (c.t.fact 96 (f := .mkr "Reader") rfl)
  have na_Reader_whole : NoAttr K (He.ga K "Reader") "whole" := He.noat_ok (c.t.fact 110 (f := .noat "Reader" "whole") rfl)
  have na_Reader_at : NoAttr K (He.ga K "Reader") "at" := He.noat_ok (c.t.fact 111 (f := .noat "Reader" "at") rfl)
  obtain ⟨x1, xr⟩ := He.ba c.more
  obtain ⟨x2, xr⟩ := He.ba xr
  obtain ⟨x3, xr⟩ := He.ba xr
  obtain ⟨x4, xr⟩ := He.ba xr
  obtain ⟨x5, xr⟩ := He.ba xr
  obtain ⟨x6, xr⟩ := He.ba xr
  obtain ⟨x7, xr⟩ := He.ba xr
  obtain ⟨x8, xr⟩ := He.ba xr
  obtain ⟨x9, xr⟩ := He.ba xr
  obtain ⟨x10, xr⟩ := He.ba xr
  obtain ⟨x11, xr⟩ := He.ba xr
  obtain ⟨x12, xr⟩ := He.ba xr
  obtain ⟨x13, xr⟩ := He.ba xr
  obtain ⟨x14, xr⟩ := He.ba xr
  obtain ⟨x15, xr⟩ := He.ba xr
  obtain ⟨x16, xr⟩ := He.ba xr
  obtain ⟨x17, x18⟩ := He.ba xr
  have cx0 : nxObs "NoCode" K = (nv w).1.getD 0 none := congrArg (fun z : Bt => z.1.getD 0 none) c.nx
  have nx0 : PySem.Nx.Txt l.prog K mg (He.ga K "NoCode") (He.ma K (He.ga K "NoCode") "__init__") := nx_txt x1 cx0 (by rfl) (He.free_ok X G (c.t.fact 64 (f := .free "super") rfl)) (by rfl) hev0
  have gC : mg "Code" = some (.ref (He.ga K "Code")) := (He.glo_ok X G (c.t.fact 38 (f := .glo "Code") rfl))
  have na : ∀ f ∈ flds, NoAttr K (He.ga K "Code") f := by
    intro f hf
    simp only [flds, List.mem_cons, List.mem_nil_iff, or_false] at hf
    rcases hf with rfl | rfl | rfl | rfl | rfl | rfl | rfl | rfl | rfl | rfl | rfl | rfl | rfl | rfl | rfl
    · exact He.noat_ok (c.t.fact 76 (f := .noat "Code" "argcount") rfl)
    · exact He.noat_ok (c.t.fact 77 (f := .noat "Code" "onlycount") rfl)
    · exact He.noat_ok (c.t.fact 78 (f := .noat "Code" "stacksize") rfl)
    · exact He.noat_ok (c.t.fact 79 (f := .noat "Code" "flags") rfl)
    · exact He.noat_ok (c.t.fact 80 (f := .noat "Code" "code") rfl)
    · exact He.noat_ok (c.t.fact 81 (f := .noat "Code" "constants") rfl)
    · exact He.noat_ok (c.t.fact 82 (f := .noat "Code" "names") rfl)
    · exact He.noat_ok (c.t.fact 83 (f := .noat "Code" "slots") rfl)
    · exact He.noat_ok (c.t.fact 84 (f := .noat "Code" "kinds") rfl)
    · exact He.noat_ok (c.t.fact 85 (f := .noat "Code" "name") rfl)
    · exact He.noat_ok (c.t.fact 86 (f := .noat "Code" "path") rfl)
    · exact He.noat_ok (c.t.fact 87 (f := .noat "Code" "line") rfl)
    · exact He.noat_ok (c.t.fact 88 (f := .noat "Code" "lines") rfl)
    · exact He.noat_ok (c.t.fact 89 (f := .noat "Code" "handlers") rfl)
    · exact He.noat_ok (c.t.fact 90 (f := .noat "Code" "nested") rfl)
  have GK : GlK l.prog K mg (He.ga K "Code") (He.ga K "NoCode") (He.ma K (He.ga K "NoCode") "__init__") := ⟨⟨_, gC, rfl⟩, insB_ok cl x2, na, fun t ht => of_decide_eq_true (List.all_eq_true.mp x3 t ht), nx0, (He.glo_ok X G (c.t.fact 39 (f := .glo "NoCode") rfl)), (He.free_ok X G (c.t.fact 50 (f := .free "isinstance") rfl))⟩
  have MK : Mk K (He.ga K "Code") (He.ma K (He.ga K "Code") "__init__") := He.mkr_ok (c.t.fact 92 (f := .mkr "Code") rfl)
  have ML : Meth K (He.ga K "Code") "look" (He.ma K (He.ga K "Code") "look") := He.meth_ok (c.t.fact 75 (f := .meth "Code" "look") rfl)
  have T0 : Gl0 mg := ⟨(He.free_ok X G (c.t.fact 46 (f := .free "int") rfl)), (He.free_ok X G (c.t.fact 47 (f := .free "len") rfl)), (He.free_ok X G (c.t.fact 48 (f := .free "range") rfl))⟩
  have T2 : Gl2 mg := ⟨(He.free_ok X G (c.t.fact 50 (f := .free "isinstance") rfl)), (He.free_ok X G (c.t.fact 46 (f := .free "int") rfl)), (He.free_ok X G (c.t.fact 51 (f := .free "bool") rfl)), (He.free_ok X G (c.t.fact 52 (f := .free "str") rfl)), (He.free_ok X G (c.t.fact 53 (f := .free "all") rfl)), (He.free_ok X G (c.t.fact 55 (f := .free "ord") rfl)), (He.free_ok X G (c.t.fact 56 (f := .free "list") rfl)), (He.free_ok X G (c.t.fact 49 (f := .free "tuple") rfl)), (int_rel X G (c.t.fact 65 (f := .int "MOST_NUMBER" (2147483647)) rfl)), (int_rel X G (c.t.fact 66 (f := .int "MOST_NESTED" (100)) rfl))⟩
  have T3 : Gl3 mg := ⟨(He.free_ok X G (c.t.fact 57 (f := .free "max") rfl))⟩
  have TDr : Gdr mg := ⟨(He.free_ok X G (c.t.fact 48 (f := .free "range") rfl)), (He.free_ok X G (c.t.fact 49 (f := .free "tuple") rfl))⟩
  have GC : GlC K (He.ga K "Code") := ⟨of_decide_eq_true x4⟩
  have GE : GlE mg K (He.ga K "Code") := ⟨of_decide_eq_true x5, (He.free_ok X G (c.t.fact 59 (f := .free "zip") rfl)), (He.free_ok X G (c.t.fact 47 (f := .free "len") rfl))⟩
  have GW : GlW mg K (He.ga K "Code") := ⟨of_decide_eq_true x6, of_decide_eq_true x7⟩
  have EC : EqC K (He.ga K "Code") (He.ma K (He.ga K "Code") "__eq__") := ⟨of_decide_eq_true x8, of_decide_eq_true x9, of_decide_eq_true x10, x11⟩
  have GX : GlX K mg (He.ga K "NoCode") := ⟨excCB_ok x12, xfB_ok x13, ⟨_, (He.glo_ok X G (c.t.fact 40 (f := .glo "CodeError") rfl)), of_decide_eq_true x14⟩, of_decide_eq_true x15, (He.free_ok X G (c.t.fact 63 (f := .free "ValueError") rfl)), (He.free_ok X G (c.t.fact 50 (f := .free "isinstance") rfl)), of_decide_eq_true x16, ⟨_, (He.glo_ok X G (c.t.fact 41 (f := .glo "NoTable") rfl))⟩, ⟨_, (He.glo_ok X G (c.t.fact 42 (f := .glo "NoRows") rfl))⟩, ⟨_, (He.glo_ok X G (c.t.fact 43 (f := .glo "NoBytes") rfl))⟩⟩
  have nc : (He.ga K "Code") ≠ (He.ga K "Reader") := of_decide_eq_true x17
  have hdig : PySem.W.nsIn K cStatics "sys.int_max_str_digits" = some none := of_decide_eq_true x18
  have GWr : Gw K w mg (He.ga K "LETTERS") := ⟨(int_rel X G (c.t.fact 67 (f := .int "LEAST" (-2147483648)) rfl)), (int_rel X G (c.t.fact 68 (f := .int "MOST" (2147483647)) rfl)), (int_rel X G (c.t.fact 69 (f := .int "ROUND" (4294967296)) rfl)), (int_rel X G (c.t.fact 70 (f := .int "DIGIT" (32768)) rfl)), (str_rel X G (c.t.fact 112 (f := .str "PLACE" "<tree>") rfl)), ⟨_, (He.glo_ok X G (c.t.fact 44 (f := .glo "LETTERS") rfl)), rfl⟩, (dicM_ok (congrArg (fun z : Bt => z.2.2.getD 0 none) c.nx) (by decide +kernel) (by decide +kernel)), (He.free_ok X G (c.t.fact 58 (f := .free "abs") rfl)), (He.free_ok X G (c.t.fact 47 (f := .free "len") rfl)), (He.free_ok X G (c.t.fact 55 (f := .free "ord") rfl))⟩
  have GR : GlR mg K w (He.ga K "Reader") (He.ga K "LETTERS") := ⟨cl_Reader, na_Reader_whole, na_Reader_at, (He.free_ok X G (c.t.fact 47 (f := .free "len") rfl)), (He.free_ok X G (c.t.fact 60 (f := .free "sum") rfl)), (He.free_ok X G (c.t.fact 61 (f := .free "enumerate") rfl)), (He.free_ok X G (c.t.fact 49 (f := .free "tuple") rfl)), (He.free_ok X G (c.t.fact 48 (f := .free "range") rfl)), (He.free_ok X G (c.t.fact 58 (f := .free "abs") rfl)), (He.free_ok X G (c.t.fact 57 (f := .free "max") rfl)), (int_rel X G (c.t.fact 68 (f := .int "MOST" (2147483647)) rfl)), (int_rel X G (c.t.fact 67 (f := .int "LEAST" (-2147483648)) rfl)), (int_rel X G (c.t.fact 69 (f := .int "ROUND" (4294967296)) rfl)), (int_rel X G (c.t.fact 70 (f := .int "DIGIT" (32768)) rfl)), (int_rel X G (c.t.fact 66 (f := .int "MOST_NESTED" (100)) rfl)), (str_rel X G (c.t.fact 113 (f := .str "PLAIN" "NTFilu(") rfl)), (str_rel X G (c.t.fact 112 (f := .str "PLACE" "<tree>") rfl)), (str_rel X G (c.t.fact 114 (f := .str "LOW_SIGNS" " !\"#$") rfl)), (str_rel X G (c.t.fact 115 (f := .str "HIGH_SIGNS" "&'()*+,-./0123456789:;<=>?@ABCDEFGHIJKLMNOPQRSTUVWXYZ[\\]^_`abcdefghijklmnopqrstuvwxyz{|}~") rfl)), (int_rel X G (c.t.fact 71 (f := .int "LOW_NUMBER" (32)) rfl)), (int_rel X G (c.t.fact 72 (f := .int "HIGH_NUMBER" (38)) rfl)), ⟨_, (He.glo_ok X G (c.t.fact 44 (f := .glo "LETTERS") rfl)), rfl⟩, (dicM_ok (congrArg (fun z : Bt => z.2.2.getD 0 none) c.nx) (by decide +kernel) (by decide +kernel))⟩
  have GLw : GlL mg := ⟨(He.free_ok X G (c.t.fact 46 (f := .free "int") rfl)), (He.free_ok X G (c.t.fact 47 (f := .free "len") rfl)), (He.free_ok X G (c.t.fact 48 (f := .free "range") rfl)), (He.free_ok X G (c.t.fact 55 (f := .free "ord") rfl)), (He.free_ok X G (c.t.fact 56 (f := .free "list") rfl))⟩
  obtain ⟨oc, od, dV, kV, doc, pm, an, cdv, ct, osl, efd, lk, hcd, _, _⟩ := F37.ex
  have hb := FunD.bindsA (ps := ["script"]) F37 (fun _ _ _ _ _ _ us hl => match us, hl with | [_], _ => rfl)
  obtain ⟨c', rfl⟩ := He.codeIn_ref hcd
  have ec : He.codeOf K ("law", none) = c' := He.codeOf_eq (p := ("law", none)) (efd ▸ lk) rfl
  subst efd
  have eT : (He.cT K ("law", none)).1 = c' := ec
  refine ⟨[He.cT K ("law", none)], spLaw K (He.cT K ("law", none)).2, fun p hp => ?_, fun p hp => ?_, fun p hp => ?_, fun H a ns hl _ hH hS => ?_, fun base KB GB hTB => ?_⟩
  · rw [List.mem_singleton.mp hp]
    exact c.empty _ (List.mem_singleton.mpr rfl)
  · rw [List.mem_singleton.mp hp]
    exact c.out _ (List.mem_singleton.mpr rfl)
  · rw [List.mem_singleton.mp hp]
    exact PySem.W.codeHd_of_K X (c.hd _ (List.mem_singleton.mpr rfl))
  · refine ⟨a, ns, rfl, hS, Nat.le_trans hl (by decide), fun p hp => ?_, fun _ => rfl⟩
    rw [List.mem_singleton.mp hp]
    exact LamX.TabS.nil (hH _ (List.mem_singleton.mpr rfl))
  · have TB := hTB _ (List.mem_singleton.mpr rfl)
    rw [eT] at TB
    have c_wc := ok_want_code (P := l.prog) (w := w) (base := base) GK D8
    have c_isn := ok_is_number (P := l.prog) (w := w) (base := base) T2 D0
    have c_iss := ok_is_string (P := l.prog) (w := w) (base := base) T2 D1
    have c_isb := ok_is_byte (P := l.prog) (w := w) (base := base) T2 D2
    have c_arb := ok_are_bytes T2 c_isb D3
    have c_ars := ok_are_strings T2 c_iss D4
    have c_isc2 := ok_is_constant T2 GK GC c_iss D5 2
    have c_arc2 := ok_are_constants T2 (by decide) c_isc2 D6
    have c_look2 := ok_Code_look T0 GK c_isn c_iss c_arb c_ars c_arc2 DL
    have c_init2 := ok_Code_init T0 T2 T3 GK ML c_look2 DL.bi DI
    have c_code2 := ok_law_code GK MK c_init2 DI.bi D21
    have c_isc3 := ok_is_constant T2 GK GC c_iss D5 3
    have c_arc3 := ok_are_constants T2 (by decide) c_isc3 D6
    have c_look3 := ok_Code_look T0 GK c_isn c_iss c_arb c_ars c_arc3 DL
    have c_init3 := ok_Code_init T0 T2 T3 GK ML c_look3 DL.bi DI
    have c_code3 := ok_law_code GK MK c_init3 DI.bi D21
    have c_ff := ok_Code_fields (P := l.prog) (w := w) (base := base) GK DO_fields
    have c_same := ok_are_same T2 GK GC GE EC ML_fields c_ff DO_fields.bi DO_eq D7
    have c_eq := ok_Code_eq 10 GK ML_fields c_ff DO_fields.bi (c_same 10) DO_eq
    have c_four := ok_four (P := l.prog) (w := w) (base := base) GWr D10
    have c_int := ok_integer GWr c_four D11
    have c_str := ok_string GWr c_four D12
    have c_row := ok_row_of_bytes GWr c_four D13
    have c_join := ok_joined_row GWr c_four D14
    have c_con := ok_constant T2 GWr GK GC GE GW c_wc c_four c_int c_str c_row c_join D16 D15
    have f_wri := wri_step 10 T2 GWr GK c_wc c_four c_str c_row c_join (c_con 10) D16
    have c_wro := ok_written_odd c_wc D16
    have m_some : CalM l.prog w K mg base (He.ga K "Reader") "some" 1 (spSomeR (He.ga K "Reader")) := ⟨_, _, _, ok_Reader_some GR DO_some, ML_some, DO_some.bi⟩
    have m_read_four : CalM l.prog w K mg base (He.ga K "Reader") "read_four" 2 (spFourR (He.ga K "Reader")) := ⟨_, _, _, ok_Reader_read_four GR m_some DO_read_four, ML_read_four, DO_read_four.bi⟩
    have m_read_count : CalM l.prog w K mg base (He.ga K "Reader") "read_count" 3 (spCount (He.ga K "Reader")) := ⟨_, _, _, ok_Reader_read_count GR m_read_four DO_read_count, ML_read_count, DO_read_count.bi⟩
    have m_read_length : CalM l.prog w K mg base (He.ga K "Reader") "read_length" 3 (spLength (He.ga K "Reader")) := ⟨_, _, _, ok_Reader_read_length GR m_read_four DO_read_length, ML_read_length, DO_read_length.bi⟩
    have m_read_zero : CalM l.prog w K mg base (He.ga K "Reader") "read_zero" 3 (spZero (He.ga K "Reader")) := ⟨_, _, _, ok_Reader_read_zero GR m_read_four DO_read_zero, ML_read_zero, DO_read_zero.bi⟩
    have m_read_letter : CalM l.prog w K mg base (He.ga K "Reader") "read_letter" 2 (spLetter (He.ga K "Reader")) := ⟨_, _, _, ok_Reader_read_letter GR m_some DO_read_letter, ML_read_letter, DO_read_letter.bi⟩
    have m_read_bytes : CalM l.prog w K mg base (He.ga K "Reader") "read_bytes" 4 (spBytesR (He.ga K "Reader")) := ⟨_, _, _, ok_Reader_read_bytes GR m_some m_read_letter m_read_length DO_read_bytes, ML_read_bytes, DO_read_bytes.bi⟩
    have c_sign := ok_sign_of (P := l.prog) (w := w) (base := base) GR D9
    have m_read_string : CalM l.prog w K mg base (He.ga K "Reader") "read_string" 4 (spStringR (He.ga K "Reader")) := ⟨_, _, _, ok_Reader_read_string GR c_sign m_some m_read_letter m_read_length DO_read_string, ML_read_string, DO_read_string.bi⟩
    have m_read_strings : CalM l.prog w K mg base (He.ga K "Reader") "read_strings" 5 (spStringsR (He.ga K "Reader")) := ⟨_, _, _, ok_Reader_read_strings GR m_read_string m_read_letter m_read_length DO_read_strings, ML_read_strings, DO_read_strings.bi⟩
    have m_read_digits : CalM l.prog w K mg base (He.ga K "Reader") "read_digits" 3 (spDigits (He.ga K "Reader")) := ⟨_, _, _, ok_Reader_read_digits GR m_some m_read_four DO_read_digits, ML_read_digits, DO_read_digits.bi⟩
    have c_rdr := rdr_all nc GR GK MK c_init3 DI.bi m_read_letter m_read_length m_read_count m_read_four m_read_zero m_read_digits m_read_bytes m_read_string m_read_strings DO_read_constant ML_read_constant DO_read_constants ML_read_constants DO_read_code ML_read_code
    have f_rd := ok_read T2 GR (He.glo_ok X G (c.t.fact 45 (f := .glo "Reader") rfl)) mk_Reader (ok_Reader_init (P := l.prog) (w := w) (base := base) GR DO_init) DO_init.bi c_isb (c_rdr 10).2 D17
    have c_so := ok_law_source_of (P := l.prog) (w := w) (base := base) T0 D18
    have c_next := ok_law_next (P := l.prog) (w := w) (base := base) T0 D19
    have c_one := oneN (ok_law_one T0 c_next D20)
    have c_text := ok_law_text TDr c_next c_one D23
    have c_bytes := ok_law_bytes TDr c_next c_one D24
    have c_great := ok_law_great TDr c_next c_one D26
    have c_const := ok_law_constant (Cc := (He.ga K "Code")) TDr c_next c_one c_text c_great D25 2
    have f_drawn := drawn_any (ok_law_drawn_fields TDr c_next c_one c_text c_bytes c_const c_code2 D27)
    have c_fields := ok_law_fields (P := l.prog) (w := w) (base := base) GK D22
    have l_four := ok_law_four (P := l.prog) (w := w) (base := base) GLw D28
    have l_let := ok_law_letter (P := l.prog) (w := w) (base := base) D29
    have l_int := ok_law_integer GLw l_let l_four D30
    have l_sig := ok_law_signs (P := l.prog) (w := w) (base := base) GLw D31
    have l_row := ok_law_row_of GLw l_let l_four D33
    have l_el := ok_law_element GLw T2 GK GC GE GW l_let l_four l_int l_sig c_fields l_row D34 D32
    have l_wr := lwr_step 10 T2 l_let l_four l_row (l_el 10) D34
    have l_ks := ok_law_kinds_same hdig (He.free_ok X G (c.t.fact 62 (f := .free "repr") rfl)) T2 GK GE c_fields D36
    have C := (⟨c_so, c_next, D27.cal f_drawn, c_code3, l_wr, D16.cal f_wri, D16.calk f_wri (fun _ _ _ _ _ _ _ => rfl), c_wro, D17.cal f_rd, D17.calk f_rd (fun _ _ _ _ _ _ _ => rfl), c_fields, l_ks 21⟩ : Cals l.prog w K mg base (He.ga K "Code") (He.ga K "NoCode"))
    exact ok_law T2 GK GX C EC c_eq DO_eq.bi D35 lk hcd hb TB
end K52
open PySem PySem.W PySem.Calls PyProof.Rows
theorem PySem.Challenge.cw_codewalk_k52_codes_written_and_read_holds : PySem.Challenge.rw_codewalk_k52_codes_written_and_read.Holds := by
  w_on; o_law
  refine HandSHeadRun.head_any (r := OpenLaw.row PySem.Challenge.rw_codewalk_k52_codes_written_and_read) (q := view (OpenLaw.row PySem.Challenge.rw_codewalk_k52_codes_written_and_read).prog [61]) (H := K52.hk) (ob := K52.ob) (M := 8000) (loose := K52.loose) (d := HandSHeadRun.topDef (OpenLaw.row PySem.Challenge.rw_codewalk_k52_codes_written_and_read).prog 61) (kwd := []) K52.ob_eq
    (by kernel_rfl) (fun s => by kernel_rfl) K52.run (by kernel_rfl) (by kernel_rfl) (by kernel_rfl) (by rfl) (by first | assumption | decide +kernel) (by decide +kernel) ⟨rfl, rfl, rfl, rfl, rfl, by decide +kernel⟩ ?hw ?hc
  case hw => w_witness2
  case hc =>
    refine Nd.walk_at (l := PySem.Challenge.rw_codewalk_k52_codes_written_and_read) (n := 63) rfl (by decide) (by kernel_rfl) ?F
    intro w mg fa h Y G hmg0
    obtain ⟨K, KX, c⟩ := Y
    have hmg : mg ("law" : PySem.Str) = some (.ref fa) := by
      have e : (HandSHeadRun.topDef (OpenLaw.row PySem.Challenge.rw_codewalk_k52_codes_written_and_read).prog 61).name = ("law" : PySem.Str) := by kernel_rfl
      rw [← e]
      exact hmg0
    exact ⟨K, KX, K52.facts KX G hmg c⟩
