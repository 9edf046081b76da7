import PyProof.Rows.All
import Wide.All
import OpenK.AllK
import Wide.FinOn
import PyProof.EqAt
import PyProof.EqKinds
import PyProof.TupleCall
import KE.KFromBytes
import KE.KSuper
import KE.KExcSuper
import HandS.Base
import HandS.Call
import HandS.List
import HandS.Ends
import HandS.Exc
import HandS.ExcSuper
import HandS.ExcInit
import KE.KIsAll
import KE.KTryMore
import HandS.IsInst
import HandS.ExcIs
import HandS.ExcOwn
import HandS.ExcValue
import HandS.ExcField
import HandS.Defaults
import PyProof.ReprRoads
import PyProof.CallFns
import HandS.Comp
import HandS.Lambda
import HandS.NoneIn
import HandS.Wide
import HandS.HeadHook2
import HandS.Words
import HandS.WordsList
import HandS.WordsExc
import HandS.Style
import HandS.ExcCtx
import HandS.HotCalls
import HandS.HeadEnd
import HandS.HeadWalk
import HandS.Head0
import HandS.Head1
import HandS.Head2
import HandS.HeadHook1
import PyProof.InstEq
import PyProof.InstNe
import HandS.OwnEq
import HandS.More
import HandS.Iter
import KE.GoesEnum
import KE.GoesMore
import HandS.TupAny
import HandS.TupMul
import HandS.MakeKwOnly
import HandS.HeadHook3
import HandS.HeadHook4
import PySem.Challenge.RW_equalworlds_k11_desks_undone_and_equal
import KE.KStateDown
import HandS.Text
import HandS.Records
import PyProof.StrOps2
import PyProof.StrLawsRepr
import HandS.TryOnly
import HandS.Steps
set_option Elab.async false
set_option linter.all false
set_option maxRecDepth 100000
set_option maxHeartbeats 4000000
/-! Error classes of two levels over ValueError whose __init__ says super().__init__(..) and keeps its parameters. -/
namespace PySem
namespace EqX
open PySem.W PySem.Calls PyProof.Rows PySem.HandSPX
/-- what a method call asks of a base that is no name -/
abbrev plS : Sem Bool := do return (← (pure (some false) : Sem (Option Bool))).getD true
/-! ### the text of such an __init__ -/
def ini1A (f : Str) (p1 p2 : Pos) : Arguments := { posonlyargs := [], args := [{ arg := "self", annotation := none, pos := p1 }, { arg := f, annotation := none, pos := p2 }], vararg := none, kwonlyargs := [], kw_defaults := [], kwarg := none, defaults := [] }
def ini1B (f : Str) (q0 q1 q2 q3 q4 q5 r1 r2 r3 r4 : Pos) : List Stmt :=
  [.Expr (.Call (.Attribute (.Call (.Name "super" q0) [] [] q1) "__init__" q2) [.Name f q3] [] q4) q5, .Assign [.Attribute (.Name "self" r1) f r2] (.Name f r3) r4]
def ini1S (f : Str) : Scope := { kind := .function, names := [(PySem.Str.ofString "self", .local), (f, .local), (PySem.Str.ofString "__class__", .free), (PySem.Str.ofString "super", .globalImplicit)], isGenerator := false, isCoroutine := false, more := [] }
def ini2A (f g : Str) (p1 p2 p3 : Pos) : Arguments := { posonlyargs := [], args := [{ arg := "self", annotation := none, pos := p1 }, { arg := f, annotation := none, pos := p2 }, { arg := g, annotation := none, pos := p3 }], vararg := none, kwonlyargs := [], kw_defaults := [], kwarg := none, defaults := [] }
def ini2B (f g : Str) (q0 q1 q2 q3 q3' q4 q5 r1 r2 r3 r4 t1 t2 t3 t4 : Pos) : List Stmt :=
  [.Expr (.Call (.Attribute (.Call (.Name "super" q0) [] [] q1) "__init__" q2) [.Name f q3, .Name g q3'] [] q4) q5, .Assign [.Attribute (.Name "self" r1) f r2] (.Name f r3) r4, .Assign [.Attribute (.Name "self" t1) g t2] (.Name g t3) t4]
def ini2S (f g : Str) : Scope := { kind := .function, names := [(PySem.Str.ofString "self", .local), (f, .local), (g, .local), (PySem.Str.ofString "__class__", .free), (PySem.Str.ofString "super", .globalImplicit)], isGenerator := false, isCoroutine := false, more := [] }
/-! ### what the written part says of the class at C -/
structure EClass (K : Frag) (C : Addr) : Prop where
  cls : ∃ nm q N bs bm sn sub ab col dd k0 k1 k2 k3 k5, K.lookup C = some (excClassObj nm q C N bs bm true sn sub ab col dd k0 k1 k2 k3 k5 "ValueError.__new__") ∧ refsVE bm = true
  sa : findIn K (.ref C) "__setattr__" = some (some (.builtin "object.__setattr__"))
  exC : subIn K (.ref C) (.type "BaseException") = some true
  veC : subIn K (.ref C) (.type "ValueError") = some true
  tyC : typeIn K (.ref C) = some (.type "type")
  kC : keepIn K (.ref C) = true
  self : mroIn K C (.ref C) = some true
  third : nsIn K cStatics "thirdparty.any" = some none
  sup : ks_superIn K C C "__init__" = some (some (.builtin "ValueError.__init__"))
/-- its own __init__, at fI -/
structure EInit (prog : Program) (K : Frag) (C fI : Addr) (qual : Str) (params : Arguments) (body : List Stmt) (scope : Scope) (fd : FuncData) : Prop where
  iC : findIn K (.ref C) "__init__" = some (some (.ref fI))
  tI : typeIn K (.ref fI) = some (.type "function")
  fn : ∃ (oc : Value) (od : Option Addr) (doc pm : Value) (an : Option Addr) (ct : Value) (osl : Array (Option Value)) (cda cc : Addr) (ccl : Value) (cdd : Option Addr) (vs : Array Value) (ccs : Array (Option Value)) (file : Str) (tf : Tok) (cl : Value) (cld : Option Addr) (csl : Array (Option Value)),
    fd = ksFn "__init__" qual params body scope .none .none doc pm an (.ref cda) ct cc ∧ K.lookup fI = some ⟨oc, od, .func fd, osl⟩ ∧ codeIn K (.ref cda) qual = true ∧
    K.lookup cda = some ⟨ccl, cdd, .fields vs, ccs⟩ ∧ vs[2]? = some (.str file tf) ∧ ((prog.main.file : Str) == file) = true ∧ K.lookup cc = some ⟨cl, cld, .cell (some (.ref C)), csl⟩
  top : (prog.main.scope.names.lookup ("super" : Str)).isSome = false

theorem callWith1 {M : Model} {A : Around} {E : Value → Shared → Prop} {s : Shared} {i : String} {u x : Addr} {pos : Pos} {env : Env} {e : Expr} {rest : List Expr} {Q : Value → Shared → Prop}
    (h : wpAny M A (spliced (backTo pos (starEach (e :: rest) env))) (fun vs s₁ => KxsAt i u x s₁.heap ∧ wpAny M A (call (.ref u) vs) Q E s₁) E s)
    (he : starEach (e :: rest) env = (false, eval e env) :: starEach rest env := by rfl) (hplain : (backTo pos (starEach rest env)).any (·.1) = false := by rfl) :
    wpAny M A (callWith pos (.ref u) [] (backTo pos (starEach (e :: rest) env)) []) Q E s := by
  rw [he] at h ⊢
  refine kxs_callWith (i := i) (x := x) (by show (false || (backTo pos (starEach rest env)).any (·.1)) = false; rw [hplain]; rfl) ?_
  exact evalArgs_plain h
section
variable {prog : Program} {w : World} {A : Around} {E : Value → Shared → Prop} {h : Heap} {g : Array GenState} {d : Drawn} {t : Nat} {os : OsState}
variable {nm q : Str} {C N : Addr} {bs bm : List Value} {hdct : Bool} {sn : List Str} {sub : List Value} {ab : Bool} {col : Option Bool} {dd : Option Addr} {k0 k1 k2 k3 k5 : Option Value}
theorem call_bwV {u e t0 : Addr} {rest : List Value} {Q : Value → Shared → Prop}
    (hC : h.get? C = some (excClassObj nm q C N bs bm hdct sn sub ab col dd k0 k1 k2 k3 k5 "ValueError.__new__")) (he : h.get? e = some (excO C t0)) (hu : h.get? u = some (kxs_mw "ValueError.__init__" e)) (hrest : rest.length ≤ sizeLine)
    (hq : ∀ h' t1, (∀ b o, b ≠ e → h.get? b = some o → h'.get? b = some o) → h'.get? e = some (excO C t1) → Q .none ⟨h', g, d, t, os⟩) :
    wpAny (model prog w) A (call (.ref u) rest) Q E ⟨h, g, d, t, os⟩ := by
  refine wpAny_call (codeAny_of_tree ?_)
  show wpAny _ A.in1 (callAny (.ref u) ⟨rest, []⟩) _ _ _
  simp only [callAny]
  refine wpAny_bind (wpAny_load hu ?_)
  simp only [kxs_mw, show (Value.type "method-wrapper" == Value.type "method" || Value.type "method-wrapper" == Value.type "builtin_function_or_method" || Value.type "method-wrapper" == Value.type "method-wrapper") = true by decide, if_true]
  refine KFB.if_so (by decide) ?_
  refine wpAny_bind (ESX.check_bound F.excBase_ValueError hC he rfl ?_)
  refine wpAny_bind (wpAny_pure (wpAny_pure ?_))
  refine ⟨Code.quiet_builtin _ (by decide +kernel), codeAny_builtin F.excBase_ValueError.initEntry ?_⟩
  rw [Around.under_plainId F.excBase_ValueError.init.plain _]
  wp_walk
  refine hq _ h.objs.size (fun b o hb ho => ?_) ?_
  · rw [Heap.get?_update_other _ _ (Ne.symm hb)]
    exact Heap.get?_push_of_some _ ho
  · rw [Heap.get?_update_self _ (Heap.get?_push_of_some _ he) rfl]
    rfl
end
/-! ### super().__init__(..): the first statement -/
section
variable {prog : Program} {w : World} {A : Around} {E : Value → Shared → Prop} {s : Shared} {K : Frag} {C : Addr} {x t0 fI : Addr}
theorem sup_first {qual : Str} {params : Arguments} {body : List Stmt} {scope : Scope} {fd : FuncData} {mg mb m : Str → Option Value} {L : Addr} {ar : Arg} {q0 q1 q2 q4 q5 : Pos} {e : Expr} {es : List Expr} {vs : List Value} {bodyc : List Stmt} {Q : Flow → Shared → Prop} {env : Env}
    (T : EClass K C) (I : EInit prog K C fI qual params body scope fd) (X : K.In s.heap) (hg : s.heap.Ns mainGlobals mg) (hms : mg "super" = none) (hb : s.heap.Ns builtinsNs mb) (hbs : mb "super" = some (.type "super"))
    (henv : env = callEnv fd L fI) (hk : scope.kind = .function) (hks : scope.names.lookup ("super" : Str) = some .globalImplicit) (hkc : scope.names.lookup ("__class__" : Str) = some .free) (hka : scope.names.lookup ("self" : Str) = some .local)
    (hp : (params.posonlyargs ++ params.args).head? = some ar) (har : ar.arg = "self") (hn : s.heap.Ns L m) (hv : m "self" = some (.ref x)) (hx : s.heap.get? x = some (excO C t0)) (hlen : vs.length ≤ sizeLine)
    (hargs : ∀ (s₁ : Shared) (Q' : List Value → Shared → Prop), s₁.heap.Ns L m → Q' vs s₁ → wpAny (model prog w) A (spliced (backTo q4 (starEach (e :: es) env))) Q' E s₁)
    (hq : ∀ h' tk t1, (∀ b o, b ≠ x → s.heap.get? b = some o → h'.get? b = some o) → h'.get? x = some (excO C t1) → Q .next { s with heap := h', toks := tk })
    (he : starEach (e :: es) env = (false, eval e env) :: starEach es env) (hpl : (backTo q4 (starEach es env)).any (·.1) = false)
    (hmc : eval (.Call (.Attribute (.Call (.Name "super" q0) [] [] q1) "__init__" q2) (e :: es) [] q4) env = (do
      let ov ← attributeBase (.Call (.Name "super" q0) [] [] q1) "__init__" env (eval (.Call (.Name "super" q0) [] [] q1) env)
      standAt q2.atName
      let (f, first) ← holding [ov] (getMethod ov "__init__" plS)
      callWith q4 f first (backTo q4 (starEach (e :: es) env)) []))
    (hi : interactive env = false) (hs : swapsWith (.Call (.Attribute (.Call (.Name "super" q0) [] [] q1) "__init__" q2) (e :: es) [] q4) none q5.line env = pure false) :
    _root_.PySem.wpAt (model prog w) A (.func bodyc env) (exec (.Expr (.Call (.Attribute (.Call (.Name "super" q0) [] [] q1) "__init__" q2) (e :: es) [] q4) q5) env) Q E s := by
  obtain ⟨oc, od, doc, pm, an, ct, osl, cda, cc, ccl, cdd, fvs, ccs, file, tf, cl, cld, csl, rfl, lf, hcd, lcda, hvs, hfile, lcc⟩ := I.fn
  obtain ⟨nm, q, N, bs, bm, sn, sub, ab, col, dd, k0, k1, k2, k3, k5, hC, hbm⟩ := T.cls
  have hcl : clsIn K C = some { name := nm, bases := bs, mro := .ref C :: bm, ns := N, qualname := q, hasDict := true, slotNames := sn, subclasses := sub, abstract := ab, collection := col, hasDel := false } := by unfold clsIn; rw [hC] <;> rfl
  subst henv
  have II : InstAt s.heap x (excO C t0) C none := ⟨hx, rfl, rfl, trivial⟩
  have hne := ks_ne X II hcl
  refine ks_wpAt_Expr_any (ks_wpAt_MethodCall (pl := plS) ?_ hmc) hi hs
  refine ks_wpAt_super_base hks hkc (by decide) rfl (X _ _ lf) rfl hp rfl (X _ _ lcda) rfl hvs hfile I.top ?_
  refine ks_loadName_global hk hks (loadGlobal_builtin hg hms hb hbs ⟨rfl, ?_⟩)
  refine wpAny_loadName_free hk hkc rfl ⟨_, X _ _ lcc, rfl⟩ ?_
  rw [har]
  refine wpAny_loadName_local hk hka hn hv ?_
  have hC1 := X _ _ hC
  refine ks_wpAny_isType_cls hC1 rfl ⟨rfl, ?_⟩
  obtain ⟨hh, g, d, t, os⟩ := s
  refine ks_wpAny_call_super hC1 rfl hx rfl (fun c z => by cases z) (looks_mroIn X T.self) (fun h2 e2 k2 => ?_)
  have X2 : K.In h2 := X.keeps k2
  have I2 : InstAt h2 x (excO C t0) C none := ⟨k2 _ _ hx, rfl, rfl, trivial⟩
  have hI : Looks (model prog w) h2 (isInstance (.ref x) (.type "ValueError")) true := I2.type.andThen (looks_subIn X2 T.veC)
  have hm := T.sup
  unfold ks_superIn at hm
  rw [hcl] at hm
  refine kxs_getMethod kxs_ValueError e2 (looks_opaque X2 T.third) (l₀ := .ref C :: bm) (fun A Q E s k q => wpAny_bind ((looks_clsIn X2 hcl) A _ E s k (wpAny_pure q))) rfl X2 hm hI hne (by decide) ?_
  have k3 : ∀ b o, hh.get? b = some o → (h2.push (kxs_mw "ValueError.__init__" x)).get? b = some o := fun b o z => Heap.get?_push_of_some _ (k2 b o z)
  have hn3 : (h2.push (kxs_mw "ValueError.__init__" x)).Ns L m := by
    obtain ⟨o, es', ep, z1, z2⟩ := hn
    exact ⟨o, es', ep, k3 _ _ z1, z2⟩
  refine callWith1 (i := "ValueError.__init__") (x := x) (hargs _ _ hn3 ⟨Heap.get?_push_at rfl rfl, ?_⟩) he hpl
  refine call_bwV (k3 _ _ hC1) (k3 _ _ hx) (Heap.get?_push_at rfl rfl) hlen fun h' t1 k' hx' => ?_
  exact hq h' _ t1 (fun b o hb z => k' b o hb (k3 b o z)) hx'
end
end EqX
end PySem

set_option Elab.async false
set_option linter.all false
set_option maxRecDepth 100000
set_option maxHeartbeats 4000000
namespace PySem
namespace EqX
open PySem.W PySem.Calls PyProof.Rows PySem.HandSPX
section
variable {prog : Program} {w : World} {A : Around} {E : Value → Shared → Prop} {R : Result → Shared → Prop} {s : Shared} {K : Frag} {C : Addr} {x t0 fI : Addr} {mg mb : Str → Option Value}
/-- what such an __init__ leaves of a fresh exception at x -/
structure IniEnd (h h' : Heap) (x C dx t1 : Addr) (mA : Str → Option Value) : Prop where
  keep : ∀ b o, b ≠ x → h.get? b = some o → h'.get? b = some o
  obj : h'.get? x = some { cls := .ref C, dict := some dx, data := .fields #[.ref t1, .none, .none, .none, .bool false, .none] }
  dbig : h.objs.size ≤ dx
  dne : dx ≠ x
  ns : h'.Ns1 dx mA
theorem init1 {qual f : Str} {fd : FuncData} {p1 p2 q0 q1 q2 q3 q4 q5 r1 r2 r3 r4 : Pos} {v : Value} {args : Args}
    (T : EClass K C) (I : EInit prog K C fI qual (ini1A f p1 p2) (ini1B f q0 q1 q2 q3 q4 q5 r1 r2 r3 r4) (ini1S f) fd) (hf1 : (f == ("self" : Str)) = false) (hf2 : (f == ("__class__" : Str)) = false) (hf3 : (f == ("super" : Str)) = false) (hf4 : (f == ("__debug__" : Str)) = false)
    (hno : findIn K (.ref C) f = some none)
    (X : K.In s.heap) (hnx : K.lookup x = none) (hlim : s.heap.NoLimit) (hg : s.heap.Ns mainGlobals mg) (hms : mg "super" = none) (hb : s.heap.Ns builtinsNs mb) (hbs : mb "super" = some (.type "super"))
    (hx : s.heap.get? x = some (excO C t0)) (hroom : A.depth < recursionLimit) (hbind : BindsTo s fd args [("self", .ref x), (f, v)])
    (hsw : ∀ (env : Env), swapsWith (.Call (.Attribute (.Call (.Name "super" q0) [] [] q1) "__init__" q2) [.Name f q3] [] q4) none q5.line env = pure false)
    (hmc : ∀ (env : Env), eval (.Call (.Attribute (.Call (.Name "super" q0) [] [] q1) "__init__" q2) [.Name f q3] [] q4) env = (do
      let ov ← attributeBase (.Call (.Name "super" q0) [] [] q1) "__init__" env (eval (.Call (.Name "super" q0) [] [] q1) env)
      standAt q2.atName
      let (g, first) ← holding [ov] (getMethod ov "__init__" plS)
      callWith q4 g first (backTo q4 (starEach [.Name f q3] env)) []))
    (hsw2 : ∀ (env : Env), swapsWith (.Name f r3) (some (.Attribute (.Name "self" r1) f r2)) r4.line env = pure false)
    (hq : ∀ h' tk dx t1, IniEnd s.heap h' x C dx t1 (fun y => if y = f then some v else none) → R (.ok (.ret .none)) { s with heap := h', toks := tk }) :
    codeAny (model prog w) A (.call (.ref fI) args) R s := by
  have I0 := I
  obtain ⟨oc, od, doc, pm, an, ct, osl, cda, cc, ccl, cdd, fvs, ccs, file, tf, cl, cld, csl, efd, lf, hcd, lcda, hvs, hfile, lcc⟩ := I.fn
  obtain ⟨nm, q, N, bs, bm, sn, sub, ab, col, dd, k0, k1, k2, k3, k5, hC, hbm⟩ := T.cls
  have hcl : clsIn K C = some { name := nm, bases := bs, mro := .ref C :: bm, ns := N, qualname := q, hasDict := true, slotNames := sn, subclasses := sub, abstract := ab, collection := col, hasDel := false } := by unfold clsIn; rw [hC] <;> rfl
  have ls : ((ini1S f).names.lookup ("self" : Str)) = some .local := by rfl
  have nfs : (f == (PySem.Str.ofString "self")) = false := hf1
  have lf' : ((ini1S f).names.lookup f) = some .local := by
    show List.lookup f [(PySem.Str.ofString "self", NameKind.local), (f, .local), (PySem.Str.ofString "__class__", .free), (PySem.Str.ofString "super", .globalImplicit)] = _
    simp only [List.lookup, nfs, beq_self_eq_true]
  have e1 : (("super" : Str) == f) = false := by
    rw [Bool.eq_false_iff] at hf3 ⊢
    intro z
    exact hf3 (by rw [beq_iff_eq] at z ⊢; exact z.symm)
  have e2 : (("__class__" : Str) == f) = false := by
    rw [Bool.eq_false_iff] at hf2 ⊢
    intro z
    exact hf2 (by rw [beq_iff_eq] at z ⊢; exact z.symm)
  have e3 : (("self" : Str) == f) = false := by
    rw [Bool.eq_false_iff] at hf1 ⊢
    intro z
    exact hf1 (by rw [beq_iff_eq] at z ⊢; exact z.symm)
  have lsup : ((ini1S f).names.lookup ("super" : Str)) = some .globalImplicit := by
    show List.lookup ("super" : Str) [(PySem.Str.ofString "self", NameKind.local), (f, .local), (PySem.Str.ofString "__class__", .free), (PySem.Str.ofString "super", .globalImplicit)] = _
    have a1 : (("super" : Str) == PySem.Str.ofString "self") = false := by decide +kernel
    have a2 : (("super" : Str) == PySem.Str.ofString "__class__") = false := by decide +kernel
    have a3 : (("super" : Str) == PySem.Str.ofString "super") = true := by decide +kernel
    simp only [List.lookup, a1, a2, a3, e1]
  have lcls : ((ini1S f).names.lookup ("__class__" : Str)) = some .free := by
    show List.lookup ("__class__" : Str) [(PySem.Str.ofString "self", NameKind.local), (f, .local), (PySem.Str.ofString "__class__", .free), (PySem.Str.ofString "super", .globalImplicit)] = _
    have a1 : (("__class__" : Str) == PySem.Str.ofString "self") = false := by decide +kernel
    have a2 : (("__class__" : Str) == PySem.Str.ofString "__class__") = true := by decide +kernel
    simp only [List.lookup, a1, a2, e2]
  have efd' := efd
  subst efd
  have hcell : ∀ x ∈ (ini1S f).names, x.2 ≠ .cell := by
    intro y hy
    have hy' : y ∈ [(PySem.Str.ofString "self", NameKind.local), (f, .local), (PySem.Str.ofString "__class__", .free), (PySem.Str.ofString "super", .globalImplicit)] := hy
    simp only [List.mem_cons, List.not_mem_nil, or_false] at hy'
    rcases hy' with rfl | rfl | rfl | rfl <;> exact fun z => nomatch z
  refine ks_codeAny_call_defAt (body := ini1B f q0 q1 q2 q3 q4 q5 r1 r2 r3 r4) (binds := [("self", .ref x), (f, v)]) hroom (X _ _ lf) rfl hlim (codeRec_of X hcd) rfl hbind hcell (fun y hy => ?_) (fun h₁ hns hk₁ => ?_) rfl rfl rfl
  · have hy' : y = ((PySem.Str.ofString "self" : Str), Value.ref x) ∨ y = (f, v) := by simpa using hy
    rcases hy' with rfl | rfl
    · exact ls
    · exact lf'
  have X₁ : K.In h₁ := X.keeps hk₁
  have hx₁ := hk₁ _ _ hx
  have ns1 : ∀ {b : Addr} {m : Str → Option Value}, s.heap.Ns b m → h₁.Ns b m := fun {b m} ⟨o, es, ep, z1, z2⟩ => ⟨o, es, ep, hk₁ _ _ z1, z2⟩
  have mself : (fun y => (([("self", Value.ref x), (f, v)] : List (Str × Value)).reverse.lookup y)) ("self" : Str) = some (.ref x) := by
    show List.lookup ("self" : Str) [(f, v), (("self" : Str), Value.ref x)] = _
    simp only [List.lookup, e3, beq_self_eq_true]
  have mf : (fun y => (([("self", Value.ref x), (f, v)] : List (Str × Value)).reverse.lookup y)) f = some v := by
    show List.lookup f [(f, v), (("self" : Str), Value.ref x)] = _
    simp only [List.lookup, beq_self_eq_true]
  have hxL : s.heap.objs.size ≠ x := Nat.ne_of_gt (Heap.lt_size hx)
  refine ks_wpAt_execs_cons ?_
  refine sup_first (env := callEnv _ s.heap.objs.size fI) (L := s.heap.objs.size) (ar := { arg := "self", annotation := none, pos := p1 }) (vs := [v]) (t0 := t0) T I0 X₁ (ns1 hg) hms (ns1 hb) hbs rfl rfl lsup lcls ls rfl rfl hns mself hx₁ (by show 1 ≤ sizeLine; rw [sizeLine_eq]; omega)
    (fun s₁ Q' hn' q' => ?_) (fun h₂ tk t1 k2 hx2 => ?_) (by rfl) (by rfl) (hmc _) (by rfl) (hsw _)
  · show wpAny _ _ (spliced ((false, eval (.Name f q3) _) :: backTo q4 (starEach [] _))) _ _ _
    refine Calls.spliced_cons ?_
    refine ESX.ldL hn' mf ?_ rfl lf' hf4
    exact Calls.spliced_nil q'
  -- self.f = f
  have X₂ : K.In h₂ := fun b o e => k2 b o (fun z => by rw [z, hnx] at e; cases e) (X₁ b o e)
  have nsx : ∀ {b : Addr} {m : Str → Option Value}, b ≠ x → h₁.Ns b m → h₂.Ns b m := fun {b m} hb ⟨o, es, ep, z1, z2⟩ => ⟨o, es, ep, k2 _ _ hb z1, z2⟩
  have hn2 := nsx hxL hns
  refine wpAt_of_wpAny ?_
  show wpAny _ _ (execs _ _) _ _ _
  refine wpAny_execs_cons (plainObj_wpAny_Assign_Attribute ?_ (hsw2 _))
  refine ESX.ldL hn2 mf ?_ rfl lf' hf4
  refine ESX.ldL (x := "self") hn2 mself ?_ rfl ls (by decide +kernel)
  refine set_plain X₂ (ox := excO C t1) (od := none) ⟨hx2, rfl, rfl, trivial⟩ T.sa ?_
  refine exc_osa X₂ hx2 hcl (show refsVE (.ref C :: bm) = true from hbm) rfl hno (fun h₃ tk₃ dx k₃ dn dne hx₃ hn₃ => ?_)
  show wpAny _ _ (execs _ _) _ _ _
  have z : s.heap.objs.size ≤ dx := by
    obtain ⟨oL, _, _, hL, _⟩ := hn2
    exact Nat.le_of_lt (Nat.lt_of_lt_of_le (Heap.lt_size hL) dn)
  exact wpAny_execs_nil (hq h₃ tk₃ dx t1 ⟨fun b o hb e => k₃ b o hb (k2 b o hb (hk₁ b o e)), hx₃, z, dne, hn₃⟩)
end
end EqX
end PySem

set_option Elab.async false
set_option linter.all false
set_option maxRecDepth 100000
set_option maxHeartbeats 4000000
namespace EqX
open PySem PySem.Spec PyProof.Rows L2 PySem.EqX
/-- the written part's facts in the layer's own words -/
theorem EClass.oex {K : PySem.W.Frag} {C : Addr} (T : PySem.EqX.EClass K C) : OexC K C := ⟨T.cls, T.sa, T.exC, T.tyC, T.kC⟩
/-- __init__(self, f): self.f = f, over a fresh exception at a -/
def spIni1 (C : Addr) (f : Str) : Sp := fun vs H Q _ => ∃ (a : Addr) (v : V), vs = [.ref a, v] ∧ H a = some (exo a C none) ∧ ∀ d, H d = none → d ≠ a → Q .non (upd (upd H d (exd d [(f, v)])) a (exo a C (some d)))
section
variable {P : Program} {w : World} {K : PySem.W.Frag} {mg : Str → Option Value} {base : Heap} {C fI : Addr} {fd : FuncData} {qual f : Str}
/-- the end of such an __init__ at the layer -/
theorem ini_end {outer : List Env} {H : Hp} {s : Shared} {Q : VK} {a dx t1 : Addr} {h' : Heap} {tk : Nat} {fs : List (Str × V)} {mA : Str → Option Value} {o0 : Option Addr} (hok : HOk P w H s.heap) (bare : AllBare s.gens) (e : H a = some (exo a C o0))
    (I : IniEnd s.heap h' a C dx t1 mA) (rel : ∀ g, RelO (fs.lookup g) (mA g)) (q : ∀ d, H d = none → d ≠ a → Q .non (upd (upd H d (exd d fs)) a (exo a C (some d)))) :
    CE outer P w H s Q .none { s with heap := h', toks := tk } := by
  have dn := I.dbig
  have hnd : H dx = none := hok.fresh dn
  have nd : ∀ {b : Addr} {o : Obj}, s.heap.get? b = some o → b ≠ dx := fun {b o} q => Nat.ne_of_lt (Nat.lt_of_lt_of_le (Heap.lt_size q) dn)
  have na : ∀ {b : Addr}, H b = none → b ≠ a := fun {b} n z => by
    rw [z, e] at n
    cases n
  have Un1 : Un (frs outer) [] H (upd (upd H dx (exd dx fs)) a (exo a C (some dx))) s.heap h' := {
    keep := fun b o q n _ _ => I.keep b o (na n) q
    slot := fun b o q n _ _ => ⟨o.slots, I.keep b o (na n) q⟩
    free := fun b o q n _ => by rw [upd_ne (na n), upd_ne (nd q)]; exact n
    there := fun b o q _ => by
      by_cases hb : b = a
      · exact ⟨_, by rw [hb]; exact I.obj⟩
      · exact ⟨o, I.keep b o hb q⟩
    tups := fun b xs q => by rw [upd_ne (at_ne e q exo_tup), upd_ne (ne_of_none q hnd)]; exact q
    frzs := fun b o v q => by rw [upd_ne (at_ne e q exo_frz), upd_ne (ne_of_none q hnd)]; exact q
    tbls := fun b ps q => ⟨#[], by rw [upd_ne (at_ne e q exo_tbl), upd_ne (ne_of_none q hnd), q]; simp⟩ }
  refine ⟨.non, _, rfl, bare, Un1, fun b o q => ?_, rfl, q dx hnd I.dne⟩
  by_cases hb : b = a
  · subst hb
    rw [upd_same] at q
    cases q
    exact exo_ok I.obj
  · rw [upd_ne hb] at q
    by_cases hd : b = dx
    · subst hd
      rw [upd_same] at q
      cases q
      exact exd_ok I.ns rel
    · rw [upd_ne hd] at q
      exact (hok b o q).stay (fun c v hc z => I.keep c v (by
          rcases hc with hc | hc
          · rw [hc]
            exact hb
          · exact at_ne e hc exo_own) z)
        (fun c hc => by rw [upd_ne (at_ne e hc exo_own), upd_ne (ne_of_none hc hnd)]; exact hc) (fun c xs hc => by rw [upd_ne (at_ne e hc exo_tup), upd_ne (ne_of_none hc hnd)]; exact hc)
theorem vals2' {x y : V} {us : List Value} (r : Vals [x, y] us) : ∃ u w', us = [u, w'] ∧ RelV x u ∧ RelV y w' := vals2 r
theorem base_none {a : Addr} (kin : K.In base) (h : base.get? a = none) : K.lookup a = none := by
  cases e : K.lookup a with
  | none => rfl
  | some o =>
    have z := kin a o e
    rw [h] at z
    cases z
theorem ok_ini1 {CX : CXT} {k : Nat} {p1 p2 q0 q1 q2 q3 q4 q5 r1 r2 r3 r4 : Pos} (T : EClass K C) (I : EInit P K C fI qual (ini1A f p1 p2) (ini1B f q0 q1 q2 q3 q4 q5 r1 r2 r3 r4) (ini1S f) fd)
    (hf1 : (f == ("self" : Str)) = false) (hf2 : (f == ("__class__" : Str)) = false) (hf3 : (f == ("super" : Str)) = false) (hf4 : (f == ("__debug__" : Str)) = false) (hno : PySem.W.findIn K (.ref C) f = some none) (hms : mg "super" = none)
    (hsw : ∀ (env : Env), swapsWith (.Call (.Attribute (.Call (.Name "super" q0) [] [] q1) "__init__" q2) [.Name f q3] [] q4) none q5.line env = pure false)
    (hmc : ∀ (env : Env), eval (.Call (.Attribute (.Call (.Name "super" q0) [] [] q1) "__init__" q2) [.Name f q3] [] q4) env = (do
      let ov ← attributeBase (.Call (.Name "super" q0) [] [] q1) "__init__" env (eval (.Call (.Name "super" q0) [] [] q1) env)
      standAt q2.atName
      let (g, first) ← holding [ov] (getMethod ov "__init__" plS)
      callWith q4 g first (backTo q4 (starEach [.Name f q3] env)) []))
    (hsw2 : ∀ (env : Env), swapsWith (.Name f r3) (some (.Attribute (.Name "self" r1) f r2)) r4.line env = pure false) :
    FnOk P w K mg base CX k fI fd ["self", f] (spIni1 C f) := by
  refine ⟨fun vs H Q E h => ?_, fun A outer s H args us vs Q E hr e0 hb r hsp => ?_⟩
  · obtain ⟨a, v, rfl, _⟩ := h
    rfl
  · obtain ⟨a, v, rfl, e, q⟩ := hsp
    obtain ⟨u1, u2, rfl, ra, rv⟩ := vals2' r
    obtain rfl : u1 = Value.ref a := ra
    obtain ⟨t0, hx⟩ := exo_at e0.hok e
    obtain ⟨mb, hbl, hbb⟩ := e0.mod.blt
    have bk : ∀ b o, base.get? b = some o → s.heap.get? b = some o := fun b o z => (e0.bs b o z).1
    have nsk : ∀ {b : Addr} {m : Str → Option Value}, base.Ns b m → s.heap.Ns b m := fun {b m} ⟨o, es, ep, z1, z2⟩ => ⟨o, es, ep, bk _ _ z1, z2⟩
    have hn : base.get? a = none := by
      cases z : base.get? a with
      | none => rfl
      | some o =>
        have z1 := (e0.bs a o z).2
        rw [e] at z1
        cases z1
    refine init1 T I hf1 hf2 hf3 hf4 hno (e0.mod.kin.keeps bk) (base_none e0.mod.kin hn) (e0.mod.nolimit.keeps bk) (nsk e0.mod.glob) hms (nsk hbl) ?_ hx hr.depth hb hsw hmc hsw2 fun h' tk dx t1 J => ?_
    · rw [hbb "super" (by decide +kernel)]
      decide +kernel
    · exact ini_end e0.hok e0.bare e J (relO_put (fs := []) rv fun g => True.intro) q
end
/-! ### C(e, ..) as a value: the exception and its dict stay tracked -/
/-- C(..): n parameters told by g; the promise of its __init__ -/
def tExV (C : Addr) (sp : Sp) (ta : TA) : TE := fun σ H Q => ta σ H fun vs H1 => vs.length ≤ 1000 ∧ ∀ a, H1 a = none → sp (.ref a :: vs) (upd H1 a (exo a C none)) (fun v H2 => v = .non ∧ Q (.ref a) H2) (fun _ _ _ => False)
section
variable {X : Cx} {e : Expr} {es : List Expr} {ta : TA} {p pos : Pos}
theorem pe_exV {CX : CXT} {x : Str} {C fI : Addr} {k : Nat} {fd : FuncData} {ps : List Str} {sp : Sp} (T : OexC X.K C) (iC : PySem.W.findIn X.K (.ref C) "__init__" = some (some (.ref fI))) (tI : PySem.W.typeIn X.K (.ref fI) = some (.type "function"))
    (F1 : FnOk X.prog X.w X.K X.mg X.base CX k fI fd ps sp) (hr : Room (k + 1) X.A) (hb : Binds X.K fd ps []) (hx : Passes CX X (fun _ _ _ => False)) (hg : Gl X x) (hm : X.mg x = some (.ref C)) (ha : PA X (e :: es) ta)
    (hdb : (x == ("__debug__" : Str)) = false := by decide) (he : starEach (e :: es) X.env = (false, eval e X.env) :: starEach es X.env := by rfl) (hpl : (backTo pos (starEach es X.env)).any (·.1) = false := by rfl) :
    PE X (.Call (.Name x p) (e :: es) [] pos) (tExV C sp ta) := by
  refine ⟨fun pins s σ H Q I h => ?_⟩
  obtain ⟨nm, q, N, bs, bm, sn, sub, ab, col, dd, k0, k1, k2, k3, k5, hC, hbm⟩ := T.cls
  refine wpAny_Call_Name_kw (ld_glob I hg hm ?_ hdb)
  refine PySem.W.callWith_K (h₀ := X.base) I.ok.mod.kin T.kC (thn (ha.run pos pins s σ H _ I h) fun us s1 ⟨vs, H1, I1, r1, hz, q1⟩ => ⟨I1.kIn, ?_⟩) he hpl
  show wpAny _ _ (call (.ref C) us) _ _ _
  obtain ⟨hp, g, dr, tk, os⟩ := s1
  have hsz : hp.objs.size ≤ hp.objs.size + 1 := Nat.le_succ _
  have hn : H1 (hp.objs.size + 1) = none := I1.hok.fresh hsz
  have hq := q1 (hp.objs.size + 1) hn
  have kk : ∀ b o, hp.get? b = some o → ((hp.push (PySem.W.kdv_tup us)).push (PySem.HandSPX.excO C hp.objs.size)).get? b = some o := fun b o e => Heap.get?_push_of_some _ (Heap.get?_push_of_some _ e)
  have hget : ((hp.push (PySem.W.kdv_tup us)).push (PySem.HandSPX.excO C hp.objs.size)).get? (hp.objs.size + 1) = some (PySem.HandSPX.excO C hp.objs.size) := by heap_get
  have I2 : Inv X pins σ (upd H1 (hp.objs.size + 1) (exo (hp.objs.size + 1) C none)) ⟨(hp.push (PySem.W.kdv_tup us)).push (PySem.HandSPX.excO C hp.objs.size), g, dr, tk, os⟩ :=
    I1.laid (t' := tk) (a := hp.objs.size + 1) (o := exo (hp.objs.size + 1) C none) (h' := (hp.push (PySem.W.kdv_tup us)).push (PySem.HandSPX.excO C hp.objs.size)) kk hsz (exo_ok hget)
  have r2 : Vals (V.ref (hp.objs.size + 1) :: vs) (Value.ref (hp.objs.size + 1) :: us) := .cons rfl r1
  have hl : ((Value.ref (hp.objs.size + 1) :: us) ++ []).length = ps.length := by
    have e := r2.length
    rw [F1.len _ _ _ _ hq] at e
    rw [List.append_nil]
    exact e.symm
  have hus : us.length ≤ sizeLine := by
    rw [← Paired.length r1, sizeLine_eq]
    omega
  have hbind := hb ⟨(hp.push (PySem.W.kdv_tup us)).push (PySem.HandSPX.excO C hp.objs.size), g, dr, tk, os⟩ (Value.ref (hp.objs.size + 1) :: us) I2.kIn hl
  rw [List.append_nil] at hbind
  refine wpAny_call (PySem.HandSPX.call_own F.excBase_ValueError (fun Y => PySem.HandSPX.refsVE_contains Y bm hbm) (I1.kIn _ _ hC) (PySem.W.looks_findIn I1.kIn iC) (fun self => PySem.W.bind_fn I1.kIn self tI) hus
    (codeAny_mono (F1.run _ X.stack _ _ ⟨Value.ref (hp.objs.size + 1) :: us, []⟩ (Value.ref (hp.objs.size + 1) :: us) _ _ (fun _ _ _ => False) (hr.make C us []) (I2.env0.make C us []) hbind r2 hq) fun r s' hq' => ?_))
  cases r with
  | error er => exact hx pins σ _ _ er s' I2 hq'
  | ok fl =>
    cases fl with
    | ret u =>
      obtain ⟨v, H', I3, rv, ev, q3⟩ := I2.after hq'
      subst ev
      exact ⟨rv, ⟨V.ref (hp.objs.size + 1), H', I3, rfl, q3⟩⟩
    | next => exact False.elim hq'
    | brk => exact False.elim hq'
    | cont => exact False.elim hq'
end
end EqX

set_option Elab.async false
set_option linter.all false
set_option maxRecDepth 100000
set_option maxHeartbeats 4000000
/-! The same with two fields: row and word. -/
namespace PySem
namespace EqX
open PySem.W PySem.Calls PyProof.Rows PySem.HandSPX
abbrev fRow : Str := "row"
abbrev fWord : Str := "word"
section
variable {prog : Program} {w : World} {A : Around} {E : Value → Shared → Prop} {R : Result → Shared → Prop} {s : Shared} {K : Frag} {C : Addr} {x t0 fI : Addr} {mg mb : Str → Option Value}
theorem init2 {qual : Str} {fd : FuncData} {p1 p2 p3 q0 q1 q2 q3 q3' q4 q5 r1 r2 r3 r4 u1 u2 u3 u4 : Pos} {v v' : Value} {args : Args}
    (T : EClass K C) (I : EInit prog K C fI qual (ini2A fRow fWord p1 p2 p3) (ini2B fRow fWord q0 q1 q2 q3 q3' q4 q5 r1 r2 r3 r4 u1 u2 u3 u4) (ini2S fRow fWord) fd)
    (hno : findIn K (.ref C) fRow = some none) (hno' : findIn K (.ref C) fWord = some none)
    (X : K.In s.heap) (hnx : K.lookup x = none) (hlim : s.heap.NoLimit) (hg : s.heap.Ns mainGlobals mg) (hms : mg "super" = none) (hb : s.heap.Ns builtinsNs mb) (hbs : mb "super" = some (.type "super"))
    (hx : s.heap.get? x = some (excO C t0)) (hroom : A.depth < recursionLimit) (hbind : BindsTo s fd args [("self", .ref x), (fRow, v), (fWord, v')])
    (hsw : ∀ (env : Env), swapsWith (.Call (.Attribute (.Call (.Name "super" q0) [] [] q1) "__init__" q2) [.Name fRow q3, .Name fWord q3'] [] q4) none q5.line env = pure false)
    (hmc : ∀ (env : Env), eval (.Call (.Attribute (.Call (.Name "super" q0) [] [] q1) "__init__" q2) [.Name fRow q3, .Name fWord q3'] [] q4) env = (do
      let ov ← attributeBase (.Call (.Name "super" q0) [] [] q1) "__init__" env (eval (.Call (.Name "super" q0) [] [] q1) env)
      standAt q2.atName
      let (g, first) ← holding [ov] (getMethod ov "__init__" plS)
      callWith q4 g first (backTo q4 (starEach [.Name fRow q3, .Name fWord q3'] env)) []))
    (hsw2 : ∀ (env : Env), swapsWith (.Name fRow r3) (some (.Attribute (.Name "self" r1) fRow r2)) r4.line env = pure false)
    (hsw3 : ∀ (env : Env), swapsWith (.Name fWord u3) (some (.Attribute (.Name "self" u1) fWord u2)) u4.line env = pure false)
    (hq : ∀ h' tk dx t1, IniEnd s.heap h' x C dx t1 (fun y => if y = fWord then some v' else if y = fRow then some v else none) → R (.ok (.ret .none)) { s with heap := h', toks := tk }) :
    codeAny (model prog w) A (.call (.ref fI) args) R s := by
  have I0 := I
  obtain ⟨oc, od, doc, pm, an, ct, osl, cda, cc, ccl, cdd, fvs, ccs, file, tf, cl, cld, csl, efd, lf, hcd, lcda, hvs, hfile, lcc⟩ := I.fn
  obtain ⟨nm, q, N, bs, bm, sn, sub, ab, col, dd, k0, k1, k2, k3, k5, hC, hbm⟩ := T.cls
  have hcl : clsIn K C = some { name := nm, bases := bs, mro := .ref C :: bm, ns := N, qualname := q, hasDict := true, slotNames := sn, subclasses := sub, abstract := ab, collection := col, hasDel := false } := by unfold clsIn; rw [hC] <;> rfl
  have ls : ((ini2S fRow fWord).names.lookup ("self" : Str)) = some .local := by decide +kernel
  have lr : ((ini2S fRow fWord).names.lookup fRow) = some .local := by decide +kernel
  have lw : ((ini2S fRow fWord).names.lookup fWord) = some .local := by decide +kernel
  have lsup : ((ini2S fRow fWord).names.lookup ("super" : Str)) = some .globalImplicit := by decide +kernel
  have lcls : ((ini2S fRow fWord).names.lookup ("__class__" : Str)) = some .free := by decide +kernel
  subst efd
  have hcell : ∀ x ∈ (ini2S fRow fWord).names, x.2 ≠ .cell := by decide +kernel
  refine ks_codeAny_call_defAt (body := ini2B fRow fWord q0 q1 q2 q3 q3' q4 q5 r1 r2 r3 r4 u1 u2 u3 u4) (binds := [("self", .ref x), (fRow, v), (fWord, v')]) hroom (X _ _ lf) rfl hlim (codeRec_of X hcd) rfl hbind hcell (fun y hy => ?_) (fun h₁ hns hk₁ => ?_) rfl rfl rfl
  · have hy' : y = ((PySem.Str.ofString "self" : Str), Value.ref x) ∨ y = (fRow, v) ∨ y = (fWord, v') := by simpa using hy
    rcases hy' with rfl | rfl | rfl
    · exact ls
    · exact lr
    · exact lw
  have X₁ : K.In h₁ := X.keeps hk₁
  have hx₁ := hk₁ _ _ hx
  have ns1 : ∀ {b : Addr} {m : Str → Option Value}, s.heap.Ns b m → h₁.Ns b m := fun {b m} ⟨o, es, ep, z1, z2⟩ => ⟨o, es, ep, hk₁ _ _ z1, z2⟩
  have mself : (fun y => (([("self", Value.ref x), (fRow, v), (fWord, v')] : List (Str × Value)).reverse.lookup y)) ("self" : Str) = some (.ref x) := by rfl
  have mr : (fun y => (([("self", Value.ref x), (fRow, v), (fWord, v')] : List (Str × Value)).reverse.lookup y)) fRow = some v := by rfl
  have mw : (fun y => (([("self", Value.ref x), (fRow, v), (fWord, v')] : List (Str × Value)).reverse.lookup y)) fWord = some v' := by rfl
  have hxL : s.heap.objs.size ≠ x := Nat.ne_of_gt (Heap.lt_size hx)
  refine ks_wpAt_execs_cons ?_
  refine sup_first (env := callEnv _ s.heap.objs.size fI) (L := s.heap.objs.size) (ar := { arg := "self", annotation := none, pos := p1 }) (vs := [v, v']) (t0 := t0) T I0 X₁ (ns1 hg) hms (ns1 hb) hbs rfl rfl lsup lcls ls rfl rfl hns mself hx₁ (by show 2 ≤ sizeLine; rw [sizeLine_eq]; omega)
    (fun s₁ Q' hn' q' => ?_) (fun h₂ tk t1 k2 hx2 => ?_) (by rfl) (by rfl) (hmc _) (by rfl) (hsw _)
  · show wpAny _ _ (spliced ((false, eval (.Name fRow q3) _) :: (false, eval (.Name fWord q3') _) :: backTo q4 (starEach [] _))) _ _ _
    refine Calls.spliced_cons ?_
    refine ESX.ldL hn' mr ?_ rfl lr (by decide +kernel)
    refine Calls.spliced_cons ?_
    refine ESX.ldL hn' mw ?_ rfl lw (by decide +kernel)
    exact Calls.spliced_nil q'
  -- self.row = row
  have X₂ : K.In h₂ := fun b o e => k2 b o (fun z => by rw [z, hnx] at e; cases e) (X₁ b o e)
  have nsx : ∀ {b : Addr} {m : Str → Option Value}, b ≠ x → h₁.Ns b m → h₂.Ns b m := fun {b m} hb ⟨o, es, ep, z1, z2⟩ => ⟨o, es, ep, k2 _ _ hb z1, z2⟩
  have hn2 := nsx hxL hns
  refine wpAt_of_wpAny ?_
  show wpAny _ _ (execs _ _) _ _ _
  refine wpAny_execs_cons (plainObj_wpAny_Assign_Attribute ?_ (hsw2 _))
  refine ESX.ldL hn2 mr ?_ rfl lr (by decide +kernel)
  refine ESX.ldL (x := "self") hn2 mself ?_ rfl ls (by decide +kernel)
  refine set_plain X₂ (ox := excO C t1) (od := none) ⟨hx2, rfl, rfl, trivial⟩ T.sa ?_
  refine exc_osa X₂ hx2 hcl (show refsVE (.ref C :: bm) = true from hbm) rfl hno (fun h₃ tk₃ dx k₃ dn dne hx₃ hn₃ => ?_)
  have z : s.heap.objs.size ≤ dx := by
    obtain ⟨oL, _, _, hL, _⟩ := hn2
    exact Nat.le_of_lt (Nat.lt_of_lt_of_le (Heap.lt_size hL) dn)
  -- self.word = word
  have X₃ : K.In h₃ := fun b o e => k₃ b o (fun z => by rw [z, hnx] at e; cases e) (X₂ b o e)
  have hn3 : h₃.Ns s.heap.objs.size (fun y => (([("self", Value.ref x), (fRow, v), (fWord, v')] : List (Str × Value)).reverse.lookup y)) := by
    obtain ⟨oL, es, ep, hL, hr⟩ := hn2
    exact ⟨oL, es, ep, k₃ _ _ hxL hL, hr⟩
  show wpAny _ _ (execs _ _) _ _ _
  refine wpAny_execs_cons (plainObj_wpAny_Assign_Attribute ?_ (hsw3 _))
  refine ESX.ldL hn3 mw ?_ rfl lw (by decide +kernel)
  refine ESX.ldL (x := "self") hn3 mself ?_ rfl ls (by decide +kernel)
  have hn₃' := hn₃
  obtain ⟨oD, esD, epD, hoD, hdD⟩ := hn₃'
  refine set_plain X₃ (od := some oD) ⟨hx₃, rfl, rfl, hoD⟩ T.sa ?_
  refine OEX.osa_old (nl := [fRow]) X₃ hx₃ hn₃ (fun y hy => ?_) (by decide) hcl (show refsVE (.ref C :: bm) = true from hbm) rfl hno' (fun h₄ tk₄ k₄ hn₄ => ?_)
  · by_cases e : y = fRow
    · rw [e]
      exact List.mem_cons_self
    · rw [if_neg e] at hy
      exact absurd rfl hy
  show wpAny _ _ (execs _ _) _ _ _
  have dnew : ∀ b o, s.heap.get? b = some o → b ≠ dx := fun b o e => Nat.ne_of_lt (Nat.lt_of_lt_of_le (Heap.lt_size e) z)
  exact wpAny_execs_nil (hq h₄ tk₄ dx t1 ⟨fun b o hb e => k₄ b o (dnew b o e) (k₃ b o hb (k2 b o hb (hk₁ b o e))), k₄ _ _ (Ne.symm dne) hx₃, z, dne, hn₄⟩)
end
end EqX
end PySem
namespace EqX
open PySem PySem.Spec PyProof.Rows L2 PySem.EqX
/-- __init__(self, row, word), over a fresh exception at a -/
def spIni2 (C : Addr) : Sp := fun vs H Q _ => ∃ (a : Addr) (v v' : V), vs = [.ref a, v, v'] ∧ H a = some (exo a C none) ∧ ∀ d, H d = none → d ≠ a → Q .non (upd (upd H d (exd d [(fWord, v'), (fRow, v)])) a (exo a C (some d)))
theorem vals3' {x y z : V} {us : List Value} (r : Vals [x, y, z] us) : ∃ u v w', us = [u, v, w'] ∧ RelV x u ∧ RelV y v ∧ RelV z w' := by
  cases r with
  | cons r1 r =>
    obtain ⟨v, w', rfl, r2, r3⟩ := vals2 r
    exact ⟨_, v, w', rfl, r1, r2, r3⟩
section
variable {P : Program} {w : World} {K : PySem.W.Frag} {mg : Str → Option Value} {base : Heap} {C fI : Addr} {fd : FuncData} {qual : Str}
theorem ok_ini2 {CX : CXT} {k : Nat} {p1 p2 p3 q0 q1 q2 q3 q3' q4 q5 r1 r2 r3 r4 u1 u2 u3 u4 : Pos} (T : EClass K C) (I : EInit P K C fI qual (ini2A fRow fWord p1 p2 p3) (ini2B fRow fWord q0 q1 q2 q3 q3' q4 q5 r1 r2 r3 r4 u1 u2 u3 u4) (ini2S fRow fWord) fd)
    (hno : PySem.W.findIn K (.ref C) fRow = some none) (hno' : PySem.W.findIn K (.ref C) fWord = some none) (hms : mg "super" = none)
    (hsw : ∀ (env : Env), swapsWith (.Call (.Attribute (.Call (.Name "super" q0) [] [] q1) "__init__" q2) [.Name fRow q3, .Name fWord q3'] [] q4) none q5.line env = pure false)
    (hmc : ∀ (env : Env), eval (.Call (.Attribute (.Call (.Name "super" q0) [] [] q1) "__init__" q2) [.Name fRow q3, .Name fWord q3'] [] q4) env = (do
      let ov ← attributeBase (.Call (.Name "super" q0) [] [] q1) "__init__" env (eval (.Call (.Name "super" q0) [] [] q1) env)
      standAt q2.atName
      let (g, first) ← holding [ov] (getMethod ov "__init__" plS)
      callWith q4 g first (backTo q4 (starEach [.Name fRow q3, .Name fWord q3'] env)) []))
    (hsw2 : ∀ (env : Env), swapsWith (.Name fRow r3) (some (.Attribute (.Name "self" r1) fRow r2)) r4.line env = pure false)
    (hsw3 : ∀ (env : Env), swapsWith (.Name fWord u3) (some (.Attribute (.Name "self" u1) fWord u2)) u4.line env = pure false) :
    FnOk P w K mg base CX k fI fd ["self", fRow, fWord] (spIni2 C) := by
  refine ⟨fun vs H Q E h => ?_, fun A outer s H args us vs Q E hr e0 hb r hsp => ?_⟩
  · obtain ⟨a, v, v', rfl, _⟩ := h
    rfl
  · obtain ⟨a, v, v', rfl, e, q⟩ := hsp
    obtain ⟨z1, z2, z3, rfl, ra, rv, rv'⟩ := vals3' r
    obtain rfl : z1 = Value.ref a := ra
    obtain ⟨t0, hx⟩ := exo_at e0.hok e
    obtain ⟨mb, hbl, hbb⟩ := e0.mod.blt
    have bk : ∀ b o, base.get? b = some o → s.heap.get? b = some o := fun b o z => (e0.bs b o z).1
    have nsk : ∀ {b : Addr} {m : Str → Option Value}, base.Ns b m → s.heap.Ns b m := fun {b m} ⟨o, es, ep, z1, z2⟩ => ⟨o, es, ep, bk _ _ z1, z2⟩
    have hn : base.get? a = none := by
      cases z : base.get? a with
      | none => rfl
      | some o =>
        have z1 := (e0.bs a o z).2
        rw [e] at z1
        cases z1
    refine init2 T I hno hno' (e0.mod.kin.keeps bk) (base_none e0.mod.kin hn) (e0.mod.nolimit.keeps bk) (nsk e0.mod.glob) hms (nsk hbl) ?_ hx hr.depth hb hsw hmc hsw2 hsw3 fun h' tk dx t1 J => ?_
    · rw [hbb "super" (by decide +kernel)]
      decide +kernel
    · exact ini_end e0.hok e0.bare e J (relO_put (fs := [(fRow, v)]) rv' (relO_put (fs := []) rv fun g => True.intro)) q
end
end EqX

set_option Elab.async false
set_option linter.all false
set_option maxRecDepth 100000
set_option maxHeartbeats 4000000
/-! Exceptions of own classes held as values: isinstance, their fields, made with no argument, made with keywords. -/
namespace PySem.EqX
open PySem PySem.W PySem.Calls PyProof.Rows PySem.HandSPX
section
variable {prog : Program} {w : World} {A : Around} {E : Value → Shared → Prop} {s : Shared} {K : Frag} {x D : Addr} {ox : Obj} {od : Option Obj}
theorem findObj_dataO {C : Addr} {name : Str} {a g : Value} (hc : (clsIn K C).isSome = true) (ha : findIn K (.ref C) name = some (some a)) (hg : specialIn K a "__get__" = some (some g)) (ht : takesIn K a = some true) : findObj K C od name = some (.bind g a) := by
  obtain ⟨cd, hc⟩ := Option.isSome_iff_exists.mp hc
  unfold findObj
  rw [hc, Option.bind_some, ha, Option.bind_some]
  simp [hg, ht]
theorem kin_classO {Q : Option Value → Shared → Prop} (hga : findIn K (.ref D) "__getattribute__" = some (some (.builtin "BaseException.__getattribute__"))) (hgt : findIn K (.ref D) "__getattr__" = some none) (hsub : subIn K (.ref D) (.type "BaseException") = some true)
    (hdct : hasDictIn K D = true) (ha : findIn K (.ref D) "__class__" = some (some (.builtin "object.__class__")))
    (hn : specialIn K (.builtin "object.__class__") "__get__" = some (some (.builtin "getset_descriptor.__get__"))) (htk : takesIn K (.builtin "object.__class__") = some true) (hm : mroIn K D (.type "object") = some true)
    (X : K.In s.heap) (I : InstAt s.heap x ox D od) (h : Q (some (.ref D)) { s with toks := s.toks + 1 }) : wpAny (model prog w) A (getAttr? (.ref x) "__class__") Q E s := by
  have hf : findObj K D od "__class__" = some (.bind (.builtin "getset_descriptor.__get__") (.builtin "object.__class__")) := findObj_dataO (by obtain ⟨cd, hc, _⟩ := any_some hdct; rw [hc]; rfl) ha hn htk
  obtain ⟨hp, g, d, t, os⟩ := s
  have L0 := I.type (M := model prog w)
  have L1 := looks_findIn (M := model prog w) X hga
  have L2 := looks_findIn (M := model prog w) X hgt
  have L3 := looks_find (M := model prog w) X I hf
  have sub : Looks (model prog w) hp (isInstance (.ref x) (.type "BaseException")) true := L0.andThen (looks_subIn X hsub)
  have hx0 : (false && onTheHeap (Value.builtin "BaseException.__getattribute__")) = false := rfl
  have hx2 : (Value.builtin "BaseException.__getattribute__" == Value.builtin "object.__getattribute__") = false := by decide +kernel
  have hx1 : (onTheHeap (Value.ref D) && Value.builtin "BaseException.__getattribute__" == Value.builtin "object.__getattribute__") = false := by rw [hx2]; rfl
  unfold getAttr? getAttrBy? getAttrBy
  refine wpAny_bind (wpAny_mkText (wpAny_bind (wpAny_attempt (wpAny_holding (wpAny_bind (L0.at (wpAny_bind (L1.at ?_))))))))
  show wpAny _ _ (if (onTheHeap (Value.ref D) && Value.builtin "BaseException.__getattribute__" == Value.builtin "object.__getattribute__") = true then _ else _) _ _ _
  rw [hx1, if_neg Bool.false_ne_true]
  unfold getAttrByItsOwn hookBefore
  refine wpAny_bind ?_
  rw [if_pos (show onTheHeap (Value.ref D) = true from rfl)]
  refine L2.at ?_
  refine wpAny_bind (wpAny_attempt (wpAny_holding ?_))
  unfold callGetattribute
  rw [hx0, if_neg Bool.false_ne_true]
  unfold boundAndCalled
  rw [PySem.F.excAttr_ValueError.ga.bind (.ref x)]
  refine wpAny_bind (wpAny_pure ?_)
  show wpAny _ _ (call (.builtin "BaseException.__getattribute__") [.ref x, .str "__class__" t]) _ _ _
  refine wpAny_call (codeAny_call_builtin PySem.F.excAttr_ValueError.ga.plain PySem.F.entry_bexc_ga ?_)
  refine @check_slot (model prog w) _ _ ⟨hp, g, d, t + 1, os⟩ "BaseException.__getattribute__" "BaseException" "__getattribute__" (.ref x) [.str "__class__" t] [] _ (by decide +kernel) (by decide +kernel) sub (PySem.F.args_bexc_ga (.ref x) (.str "__class__" t)) ?_
  unfold Builtin.«object.__getattribute__»
  refine wpAny_bind (wpAny_of_eq (a := ((Value.ref x : Value), [Value.str "__class__" t])) (by first | rfl | (simp only [slotArgs]; rfl)) ?_)
  refine wpAny_bind (wpAny_pure (wpAny_bind (L0.at (wpAny_bind (L3.at ?_)))))
  show wpAny _ _ (holding [Value.builtin "object.__class__"] (call (.builtin "getset_descriptor.__get__") [.builtin "object.__class__", .ref x, .ref D]) >>= ret) _ _ _
  refine wpAny_bind (wpAny_holding (wpAny_call (class_get (s := ⟨hp, g, d, t + 1, os⟩) (ox := ox) (od := od) X I hm ?_)))
  refine wpAny_pure ?_
  show wpAny _ _ (handedOut (.ref D)) _ _ _
  rw [handedOut_of (v := .ref D) rfl]
  first
    | exact wpAny_pure (wpAny_pure h)
    | exact wpAny_pure h
    | exact wpAny_pure (wpAny_bind (wpAny_pure (wpAny_pure h)))
theorem kitx_exc (hga : findIn K (.ref D) "__getattribute__" = some (some (.builtin "BaseException.__getattribute__"))) (hgt : findIn K (.ref D) "__getattr__" = some none) (hsub : subIn K (.ref D) (.type "BaseException") = some true) (hdct : hasDictIn K D = true) (ha : findIn K (.ref D) "__class__" = some (some (.builtin "object.__class__")))
    (hn : specialIn K (.builtin "object.__class__") "__get__" = some (some (.builtin "getset_descriptor.__get__"))) (htk : takesIn K (.builtin "object.__class__") = some true) (hm : mroIn K D (.type "object") = some true) :
    KitX K (.ref x) (.ref D) (fun h => ∃ ox od, InstAt h x ox D od) where
  ty := fun _ _ _ I => I.elim fun _ I => I.elim fun _ I => I.type
  it := fun _ _ X _ => by
    obtain ⟨cdD, hcD, _⟩ := any_some hdct
    unfold clsIn at hcD
    split at hcD
    · rename_i c' d' cd' sl' ho
      intro A' Q' E' s' k q
      unfold isType loadHead
      exact wpAny_bind (wpAny_loadPart (k _ _ (X _ _ ho)) (wpAny_pure q))
    · cases hcD
  ne := fun h tp dd its n sl X htp => by
    obtain ⟨cdD, hcD, _⟩ := any_some hdct
    refine Bool.eq_false_iff.mpr fun q => ?_
    have e : D = tp := Value.ref.inj (beq_iff_eq.mp q)
    subst e
    unfold clsIn at hcD
    split at hcD
    · rename_i c' d' cd' sl' ho
      have z := (X _ _ ho).symm.trans htp
      cases z
    · cases hcD
  ca := fun X I k => I.elim fun _ I => I.elim fun _ I => kin_classO hga hgt hsub hdct ha hn htk hm X I k
end
end PySem.EqX

namespace EqX
open PySem PySem.Spec PyProof.Rows L2 PySem.EqX
/-- at a a tracked exception of the class at C; its dict at d, if it has one, is tracked too -/
def ExAt (H : Hp) (a C : Addr) (d : Option Addr) : Prop := H a = some (exo a C d) ∧ ∀ dd, d = some dd → ∃ fs, H dd = some (exd dd fs)
theorem ExAt.keeps {H H' : Hp} {a C : Addr} {d : Option Addr} (x : ExAt H a C d) (s : ∀ b o, H b = some o → H' b = some o) : ExAt H' a C d := ⟨s _ _ x.1, fun dd e => let ⟨fs, q⟩ := x.2 dd e; ⟨fs, s _ _ q⟩⟩
theorem ExAt.inst {P : Program} {w : World} {H : Hp} {h : Heap} {a C : Addr} {d : Option Addr} (x : ExAt H a C d) (hok : HOk P w H h) : ∃ ox od, PySem.W.InstAt h a ox C od := by
  obtain ⟨t1, ho⟩ := exo_at hok x.1
  cases d with
  | none => exact ⟨_, none, ho, rfl, rfl, trivial⟩
  | some dd =>
    obtain ⟨fs, e⟩ := x.2 dd rfl
    obtain ⟨mA, ⟨o, es, ep, e1, _⟩, _⟩ := exd_at hok e
    exact ⟨_, some o, ho, rfl, rfl, e1⟩
/-- isinstance(x, c), x a tracked exception -/
def rIsX (K : PySem.W.Frag) : List V → Hp → VK → Prop := fun xs H Q => ∃ (a C : Addr) (d : Option Addr) (c : V) (u : Value) (b : Bool), xs = [.ref a, c] ∧ ExAt H a C d ∧ ClsV c u ∧ ExcC K C ∧ PySem.W.kitOne K (.ref C) u = some b ∧ Q (.bl b) H
def rIsXT (K : PySem.W.Frag) : List V → Hp → VK → Prop := fun xs H Q => ∃ (a C : Addr) (d : Option Addr) (tp : Addr) (cs : List V) (us : List Value) (b : Bool), xs = [.ref a, .ref tp] ∧ ExAt H a C d ∧ H tp = some (.tup cs) ∧ Paired ClsV cs us ∧ ExcC K C ∧ PySem.W.kitAny K (.ref C) us = some b ∧ Q (.bl b) H
section
variable {X : Cx}
theorem call_isX : CallR X (.builtin "isinstance") (rIsX X.K) := by
  intro pins s σ H xs us Q I r h
  obtain ⟨a, C, d, c, u, b, rfl, ex, k, T, e, q⟩ := h
  obtain ⟨u1, u2, rfl, r1, r2⟩ := vals2 r
  have e2 := k.eq r2
  subst e2
  obtain rfl : u1 = Value.ref a := r1
  exact PySem.W.kia_one (kitx_exc T.hg T.hk T.hs T.hd T.ha T.hn T.ht T.hm) I.kIn (ex.inst I.hok) e (fun z => nomatch z) fun tk => ⟨.bl b, H, I.tok tk, rfl, q⟩
theorem call_isXT : CallR X (.builtin "isinstance") (rIsXT X.K) := by
  intro pins s σ H xs us Q I r h
  obtain ⟨a, C, d, tp, cs, ws, b, rfl, ex, hT, k, T, e, q⟩ := h
  obtain ⟨u1, u2, rfl, r1, r2⟩ := vals2 r
  obtain rfl : u1 = Value.ref a := r1
  cases (show u2 = Value.ref tp from r2)
  obtain ⟨_, its, rv, o, h1, h2, n, h3⟩ := (show ObjOk X.prog X.w H s.heap tp (.tup cs) from I.hok tp _ hT)
  have e3 := ClsV.all k rv
  subst e3
  obtain ⟨oc, od, dt, sl⟩ := o
  simp only at h2 h3
  subst h2 h3
  exact PySem.W.kia_tup (kitx_exc T.hg T.hk T.hs T.hd T.ha T.hn T.ht T.hm) I.kIn (ex.inst I.hok) h1 e (fun z => nomatch z) fun tk => ⟨.bl b, H, I.tok tk, rfl, q⟩
end
/-- e.f, e a tracked exception with its dict -/
def tExf (K : PySem.W.Frag) (f : Str) (te : TE) : TE := fun σ H Q => te σ H fun x H1 => ∃ (a C dd : Addr) (fs : List (Str × V)) (v : V), x = .ref a ∧ H1 a = some (exo a C (some dd)) ∧ H1 dd = some (exd dd fs) ∧ XfC K C ∧ PySem.W.findIn K (.ref C) f = some none ∧ fs.lookup f = some v ∧ Q v H1
theorem pe_exf {X : Cx} {e : Expr} {te : TE} {pos : Pos} {n : Str} (he : PE X e te) (hb : attributeBase e n X.env (eval e X.env) = eval e X.env := by rfl) : PE X (.Attribute e n pos) (tExf X.K n te) := by
  refine ⟨fun pins s σ H Q I h => ?_⟩
  refine attr_of hb (thn (he.run pins s σ H _ I h) fun u s1 hh => ?_)
  obtain ⟨x, H1, I1, rx, a, C, dd, fs, v, ex, ea, ed, T, hno, l, q⟩ := hh
  subst ex
  obtain rfl : u = Value.ref a := rx
  obtain ⟨t1, ho⟩ := exo_at I1.hok ea
  obtain ⟨mA, hns, hr⟩ := exd_at I1.hok ed
  obtain ⟨od, hod, hl⟩ := lookIn_ns hns
  obtain ⟨u, hu, ru⟩ := RelO.some_of (v := v) (o := mA n) (by rw [← l]; exact hr n)
  have J : PySem.W.InstAt s1.heap a _ C (some od) := ⟨ho, rfl, rfl, hod⟩
  exact HandSPX.exc_get I1.kIn J T.ga T.gg T.exC (PySem.W.findObj_own T.hdC hno rfl (by rw [hl, hu])) (handed_of ru) ⟨v, H1, I1.tok _, ru, q⟩
/-- C(), an own exception class without own __init__: a new exception -/
theorem pe_exc0 {X : Cx} {C : Addr} {bmB : List Value} {B newId initId : String} {x : Str} {p pos : Pos} (F : ExcBaseFacts B newId initId bmB) (q : PySem.W.excIn X.K C bmB newId = true) (gC : X.mg x = some (.ref C)) (kC : PySem.W.keepIn X.K (.ref C) = true) (hg : Gl X x)
    (hdb : (x == ("__debug__" : Str)) = false := by decide) : PE X (.Call (.Name x p) [] [] pos) (fun σ H Q => ∀ a, H a = none → Q (.ref a) (upd H a (exo a C none))) := by
  refine ⟨fun pins s σ H Q I h => ?_⟩
  refine wpAny_Call_Name_kw (ld_glob I hg gC ?_ hdb)
  refine PySem.W.callWith_K0 I.kIn kC ?_
  obtain ⟨bm, N, nm, qn, bs, hdct, sn, sub, ab, col, dd, k0, k1, k2, k3, k5, mN, hC, hN, hni, T⟩ := exc_obj I.kIn q
  refine wpAny_call_exc_subT F T hC hN hni (fun h' a hm => ?_) (by show 0 ≤ sizeLine; rw [sizeLine_eq]; omega)
  have hn : H a = none := I.hok.gone hm.new
  obtain ⟨t, ht, _, _⟩ := hm.there
  exact ⟨.ref a, upd H a (exo a C none), I.laidN hm.keeps hm.new hn (exo_ok ht), rfl, h a hn⟩
end EqX

set_option Elab.async false
set_option linter.all false
set_option maxRecDepth 100000
set_option maxHeartbeats 4000000
/-! An own error class over ValueError (any depth) called with keywords: it is born, then its own __init__ has the keywords. -/
namespace PySem.EqX
open PySem PySem.W PySem.Calls PyProof.Rows PySem.HandSPX
section
variable {prog : Program} {w : World} {A : Around} {E : Value → Shared → Prop} {R : Result → Shared → Prop} {h : Heap} {g : Array GenState} {d : Drawn} {t : Nat} {os : OsState} {K : Frag} {C fI : Addr}
/-- the heap with the newborn: its tuple of positional arguments, then itself -/
abbrev born (h : Heap) (C : Addr) (rest : List Value) : Heap := (h.push (W.kdv_tup rest)).push (excO C h.objs.size)
theorem born_keeps {rest : List Value} : ∀ b o, h.get? b = some o → (born h C rest).get? b = some o := fun _ _ e => Heap.get?_push_of_some _ (Heap.get?_push_of_some _ e)
theorem born_at {rest : List Value} : (born h C rest).get? (h.objs.size + 1) = some (excO C h.objs.size) := by heap_get
/-- ValueError.__new__(C, .., k = v, ..) -/
theorem kw_born (T : EClass K C) (X : K.In h) {rest : List Value} {kw : List (Str × Value)} (hz : rest.length ≤ sizeLine)
    (hq : R (.ok (.ret (.ref (h.objs.size + 1)))) ⟨born h C rest, g, d, t, os⟩) : codeAny (model prog w) A (.call (.builtin "ValueError.__new__") ⟨.ref C :: rest, kw⟩) R ⟨h, g, d, t, os⟩ := by
  obtain ⟨nm, q, N, bs, bm, sn, sub, ab, col, dd, k0, k1, k2, k3, k5, hK, hbm⟩ := T.cls
  have hC := X _ _ hK
  have FV := F.excBase_ValueError
  have ends := FV.ends
  have on : ∀ Y : String, (Value.ref C :: bm).contains (.type Y) = veTail.contains (.type Y) := fun Y => by rw [List.contains_cons, refsVE_contains Y bm hbm]; rfl
  have yV := (on "ValueError").trans FV.hasB
  have yA := (on "AttributeError").trans FV.noAttr
  have yN := (on "NameError").trans FV.noName
  refine codeAny_call_builtin_code (Code.quiet_builtin _ FV.quiet) ?_
  have star := FV.noStar
  have last : codeAny (model prog w) A (.builtin "ValueError.__new__" ⟨.ref C :: rest, kw⟩) R ⟨h, g, d, t, os⟩ := ?_
  · simp only [checkBuiltinCall, FV.newKind, FV.newSplit, FV.newRow]
    repeat (first | exact last | refine wpAny_loadPart_at hC ?_ | (refine wpAny_isSubtype_exc hC ?_; rw [yV]) | refine wpAny_staticBase_exc hC ?_ | refine wpAny_madeBy_exc hC ?_ | simp only [bne_self_eq_false, Bool.false_eq_true, if_false] | wp_step)
  · refine codeAny_builtinAt FV.entry ?_
    unfold Builtin.«BaseException.__new__»
    refine wpAt_bind ?_
    show wpAt _ _ _ (stack >>= _) _ _ _
    refine wpAt_bind (wpAt_stack fun p below => wpAt_of_wpAny ?_)
    wp_walk
    refine wpAt_of_wpAny ?_
    rw [FV.owner]
    repeat (first | with_reducible refine wpAny_madeHere_exc FV.canon hC ?_ | with_reducible refine wpAny_loadPart_at hC ?_ | (with_reducible refine wpAny_isSubtype_exc hC ?_; first | rw [yV] | rw [yA] | rw [yN]) | wp_step)
    show R _ _
    rw [Heap.size_push]
    exact hq
/-- C(.., k = v, ..): the newborn, then its own __init__ -/
theorem kw_call (T : EClass K C) (X : K.In h) {rest : List Value} {kw : List (Str × Value)} (hz : rest.length ≤ sizeLine)
    (iC : findIn K (.ref C) "__init__" = some (some (.ref fI))) (tI : typeIn K (.ref fI) = some (.type "function"))
    (hq : codeAny (model prog w) (A.under (.builtin "type.__call__" ⟨.ref C :: rest, kw⟩)) (.call (.ref fI) ⟨.ref (h.objs.size + 1) :: rest, kw⟩) (W.InitBack (h.objs.size + 1) R) ⟨born h C rest, g, d, t, os⟩) :
    codeAny (model prog w) A (.call (.ref C) ⟨rest, kw⟩) R ⟨h, g, d, t, os⟩ := by
  obtain ⟨nm, q, N, bs, bm, sn, sub, ab, col, dd, k0, k1, k2, k3, k5, hK, hbm⟩ := T.cls
  have hC := X _ _ hK
  have hC2 := born_keeps (C := C) (rest := rest) _ _ hC
  have l1 := tc_lookup
  have l2 := tc_bind (.ref C)
  have l3 := tc_sub
  have ty : (⟨h, g, d, t, os⟩ : Shared).TypeIs (.ref C) "type" := ⟨_, hC, rfl⟩
  have own : (Value.ref C :: bm).contains (.ref C) = true := by simp
  have look := (looks_findIn (M := model prog w) X iC).keeps (born_keeps (C := C) (rest := rest))
  have bind := (bind_fn (M := model prog w) X (.ref (h.objs.size + 1)) tI).keeps (born_keeps (C := C) (rest := rest))
  refine codeAny_of_tree ?_
  show wpAny _ _ (callAny (.ref C) _) _ _ _
  repeat (any_goals (first | assumption | with_reducible refine wpAny_loadPart_at hC ?_ | wp_step))
  refine ⟨rfl, codeAny_call_builtin_at (Code.quiet_builtin _ (by decide +kernel)) entry_typeCall ?_⟩
  simp only [checkBuiltinCall, tc_kind, tc_split]
  repeat (any_goals (first | assumption | with_reducible refine wpAny_loadPart_at hC ?_ | with_reducible refine wpAny_onRaise ?_ | with_reducible refine wpAny_map ?_ | with_reducible refine wpAny_madeBy_exc hC ?_ | wp_step))
  refine kw_born T X hz ?_
  show wpAny _ _ _ _ _ ⟨born h C rest, g, d, t, os⟩
  have new := born_at (h := h) (C := C) (rest := rest)
  unfold isInstance
  repeat (first | with_reducible refine wpAny_loadPart_at new ?_ | (with_reducible refine wpAny_isSubtype_exc hC2 ?_; rw [own]) | wp_step)
  show wpAny _ _ (typeLookup (.ref C) _) _ _ _
  refine look.at (wpAny_holding (wpAny_bind (bind.at (wpAny_bind (wpAny_call (codeAny_mono hq fun r s' z => ?_))))))
  rcases r with e | (v | _ | _ | _) <;> first | exact z | exact z.elim | skip
  obtain ⟨rfl, z⟩ := z
  first
    | exact wpAny_pure (wpAny_pure z)
    | (wp_walk; exact z)
end
end PySem.EqX
namespace EqX
open PySem PySem.Spec PyProof.Rows L2 PySem.EqX
/-- C(k1 = e1, ..): all by keywords -/
def tExK (C : Addr) (ks : List Str) (sp : Sp) (tk : TA) : TE := fun σ H Q => tk σ H fun vs H1 => vs.length = ks.length ∧ ∀ a, H1 a = none → sp (.ref a :: vs) (upd H1 a (exo a C none)) (fun v H2 => v = .non ∧ Q (.ref a) H2) (fun _ _ _ => False)
section
variable {X : Cx} {p pos : Pos} {kws : List Keyword} {tk : TA}
theorem pe_exK {CX : CXT} {x : Str} {C fI : Addr} {k : Nat} {fd : FuncData} {ps ks : List Str} {sp : Sp} (T : EClass X.K C) (iC : PySem.W.findIn X.K (.ref C) "__init__" = some (some (.ref fI))) (tI : PySem.W.typeIn X.K (.ref fI) = some (.type "function"))
    (F1 : FnOk X.prog X.w X.K X.mg X.base CX k fI fd ps sp) (hr : Room (k + 1) X.A) (hb : ∀ (s : Shared) (u : Value) (ws : List Value), ws.length = ks.length → BindsTo s fd ⟨[u], ks.zip ws⟩ (ps.zip (u :: ws))) (hx : Passes CX X (fun _ _ _ => False)) (hg : Gl X x) (hm : X.mg x = some (.ref C)) (hkw : PK X kws tk)
    (hall : (backToKw pos (keywordEach kws X.env)).all (·.1.isSome) = true := by rfl) (hks : (backToKw pos (keywordEach kws X.env)).filterMap (·.1) = ks := by rfl) (hdb : (x == ("__debug__" : Str)) = false := by decide)
    (hpl : ((backTo pos (starEach [] X.env)).any (·.1) || (backToKw pos (keywordEach kws X.env)).any (·.1.isNone)) = false := by rfl) :
    PE X (.Call (.Name x p) [] kws pos) (tExK C ks sp tk) := by
  refine ⟨fun pins s σ H Q I h => ?_⟩
  refine wpAny_Call_Name_kw (ld_glob I hg hm ?_ hdb)
  refine PySem.W.callWith_KW0 (h₀ := X.base) I.ok.mod.kin T.kC hall ?_ hpl
  refine thn (hkw.run pos pins s σ H _ I h) fun ws s2 ⟨zs, H2, I2, rz, l, q2⟩ => ⟨I2.kIn, ?_⟩
  rw [hks]
  show wpAny _ _ (call (.ref C) [] (ks.zip ws)) _ _ _
  obtain ⟨hp, g, dr, t, os⟩ := s2
  have fresh : hp.objs.size ≤ hp.objs.size + 1 := Nat.le_succ _
  have hn : H2 (hp.objs.size + 1) = none := I2.hok.fresh fresh
  have hq := q2 (hp.objs.size + 1) hn
  have J : Inv X pins σ (upd H2 (hp.objs.size + 1) (exo (hp.objs.size + 1) C none)) ⟨born hp C [], g, dr, t, os⟩ := I2.laid (t' := t) (o := exo (hp.objs.size + 1) C none) born_keeps fresh (exo_ok born_at)
  have rv : Vals (V.ref (hp.objs.size + 1) :: zs) (Value.ref (hp.objs.size + 1) :: ws) := .cons rfl rz
  refine wpAny_call (kw_call T I2.kIn (by show 0 ≤ sizeLine; omega) iC tI (codeAny_mono (F1.run _ X.stack _ _ ⟨[Value.ref (hp.objs.size + 1)], ks.zip ws⟩ (Value.ref (hp.objs.size + 1) :: ws) _ _ (fun _ _ _ => False) (hr.make C [] (ks.zip ws)) (J.env0.make C [] (ks.zip ws)) (hb _ _ _ (rz.length.symm.trans l)) rv hq) fun r s' hq' => ?_))
  cases r with
  | error er => exact hx pins σ _ _ er s' J hq'
  | ok fl =>
    cases fl with
    | ret u =>
      obtain ⟨v, H', I3, rv, ev, q3⟩ := J.after hq'
      subst ev
      exact ⟨rv, ⟨V.ref (hp.objs.size + 1), H', I3, rfl, q3⟩⟩
    | next => exact False.elim hq'
    | brk => exact False.elim hq'
    | cont => exact False.elim hq'
end
end EqX

set_option Elab.async false
set_option linter.all false
set_option maxRecDepth 100000
set_option maxHeartbeats 4000000
/-! Promises of defs that show things (repr asks that no guard stands around), data with empty dicts, repr of it. -/
namespace EqX
open PySem PySem.Spec PyProof.Rows L2
/-! ### defs in whose run no repr is around -/
structure FnG (P : Program) (w : World) (K : PySem.W.Frag) (mg : Str → Option Value) (base : Heap) (CX : CXT) (k : Nat) (f : Addr) (fd : FuncData) (ps : List Str) (sp : Sp) : Prop where
  len : ∀ vs H Q E, sp vs H Q E → vs.length = ps.length
  run : ∀ (A : Around) (outer : List Env) (s : Shared) (H : Hp) (args : Args) (us : List Value) (vs : List V) (Q : VK) (E : XK), Room k A → A.guards = some [] → Env0 P w K mg base A outer s H → BindsTo s fd args (ps.zip us) → Vals vs us → sp vs H Q E →
    codeAny (model P w) A (.call (.ref f) args) (CR CX outer P w H s Q E) s
section
variable {P : Program} {w : World} {K : PySem.W.Frag} {mg : Str → Option Value} {base : Heap} {x qual : Str} {params : Arguments} {body : List Stmt} {scope : Scope} {dvs : List V} {kws : List (Str × V)} {f : Addr} {fd : FuncData}
theorem fnG_of_ok {CX : CXT} {k : Nat} {ps : List Str} {sp : Sp} (F : FnOk P w K mg base CX k f fd ps sp) : FnG P w K mg base CX k f fd ps sp := ⟨F.len, fun A outer s H args us vs Q E hr _ => F.run A outer s H args us vs Q E hr⟩
theorem FnG.imp {CX : CXT} {k : Nat} {ps : List Str} {sp sp' : Sp} (F : FnG P w K mg base CX k f fd ps sp) (h : ∀ vs H Q E, sp' vs H Q E → sp vs H Q E) : FnG P w K mg base CX k f fd ps sp' :=
  ⟨fun vs H Q E q => F.len vs H Q E (h _ _ _ _ q), fun A outer s H args us vs Q E hr hg he hb hv hs => F.run A outer s H args us vs Q E hr hg he hb hv (h _ _ _ _ hs)⟩
/-- the rule for such a def -/
theorem okG {CX : CXT} {N ps : List Str} {k : Nat} {sp : Sp} (F : FunD K x qual params body scope dvs kws f fd) (S : FnScope N ps scope) (len : ∀ vs H Q E, sp vs H Q E → vs.length = ps.length)
    (hbody : ∀ (cdv : Value) (A : Around) (outer : List Env) (s : Shared) (H : Hp) (vs : List V) (Q : VK) (E : XK), Room k (A.deeper (envOfC qual scope s.heap.objs.size f cdv)) → A.guards = some [] → sp vs H Q E →
      ∃ t, PSs (cxOf CX P w K mg base N qual scope f cdv A outer s H E) body t ∧ t { nx := fun _ H' => Q .non H', rt := Q } (start N vs) H) : FnG P w K mg base CX (k + 1) f fd ps sp := by
  obtain ⟨oc, od, dV, kV, doc, pm, an, cdv, ct, osl, rfl, lk, hcd, _, _⟩ := F.ex
  exact ⟨len, fun A outer s H args us vs Q E hr hg e0 hb r hsp => LamX.run_ofS lk hcd S hr e0 hb r (len _ _ _ _ hsp) fun hr' => hbody cdv A outer s H vs Q E hr' hg hsp⟩
end
section
variable {X : Cx} {CX : CXT} {k : Nat} {f : Addr} {fd : FuncData} {ps : List Str} {sp : Sp} {dvs : List V} {ds : List Value} {E : XK} {x : Str} {p pos : Pos} {e : Expr} {es : List Expr} {t : TA}
theorem pe_callG (F : FnG X.prog X.w X.K X.mg X.base CX k f fd ps sp) (hr : Room k X.A) (hgd : X.A.guards = some []) (hg : Gl X x) (hm : X.mg x = some (.ref f)) (hk : PySem.W.keepIn X.K (.ref f) = true) (hb : Binds X.K fd ps ds) (hd : Vals dvs ds) (hx : Passes CX X E)
    (ha : PA X (e :: es) t) (hdb : (x == ("__debug__" : Str)) = false := by decide) (he : starEach (e :: es) X.env = (false, eval e X.env) :: starEach es X.env := by rfl) (hpl : (backTo pos (starEach es X.env)).any (·.1) = false := by rfl) :
    PE X (.Call (.Name x p) (e :: es) [] pos) (tCall sp dvs E t) := by
  refine ⟨fun pins s σ H Q I h => wpAny_Call_Name_kw (ld_glob I hg hm ?_ hdb)⟩
  refine PySem.W.callWith_K (h₀ := X.base) I.ok.mod.kin hk (thn (ha.run pos pins s σ H _ I h) fun us s1 ⟨vs, H1, I1, r, q⟩ => ⟨I1.kIn, ?_⟩) he hpl
  have r2 := r.append hd
  have hl : (us ++ ds).length = ps.length := r2.length.symm.trans (F.len _ _ _ _ q)
  refine wpAny_call (codeAny_mono (F.run X.A X.stack s1 H1 ⟨us, []⟩ (us ++ ds) (vs ++ dvs) Q E hr hgd I1.env0 (hb s1 us I1.kIn hl) r2 q) fun r s' hq => ?_)
  match r, hq with
  | .error er, hq => exact hx pins σ H1 s1 er s' I1 hq
  | .ok (.ret u), hq => exact I1.after hq
  | .ok .next, hq => exact False.elim hq
  | .ok .brk, hq => exact False.elim hq
  | .ok .cont, hq => exact False.elim hq
end
/-! ### data, the empty dict too -/
mutual
inductive Dz (K : PySem.W.Frag) (H : Hp) : V → PyData → Prop
  | non : Dz K H .non .none
  | bl (b : Bool) : Dz K H (.bl b) (.bool b)
  | int (i : Int) : Dz K H (.int i) (.int i)
  | str (x : Str) : Dz K H (.str x) (.str x)
  | lst {a : Addr} {xs : List V} {ds : List PyData} : SqL K H a xs → DzAll K H xs ds → Dz K H (.ref a) (.list ds)
  | tup {a : Addr} {xs : List V} {ds : List PyData} : SqT K H a xs → DzAll K H xs ds → Dz K H (.ref a) (.tuple ds)
  | dk0 {a : Addr} : H a = some (.dK []) → Dz K H (.ref a) (.dict [])
inductive DzAll (K : PySem.W.Frag) (H : Hp) : List V → List PyData → Prop
  | nil : DzAll K H [] []
  | cons {v : V} {vs : List V} {d : PyData} {ds : List PyData} : Dz K H v d → DzAll K H vs ds → DzAll K H (v :: vs) (d :: ds)
end
/-- no dict stands at the address of sys.modules among what is read -/
def Far (h : Heap) (as : List Addr) : Prop := ∀ b ∈ as, (∃ o, h.get? b = some o ∧ o.cls = .type "list") ∨ b ≠ sysModules
section
variable {X : Cx} {pins : List (Addr × Obj)} {σ : L2.St} {H : Hp} {s : Shared}
mutual
theorem Dz.reads (I : Inv X pins σ H s) : ∀ (d : PyData) (v : V) (u : Value), Dz X.K H v d → RelV v u → ∃ as, Reads s.heap u d as ∧ Far s.heap as
  | .none, _, _, h, r => by
    cases h
    cases r
    exact ⟨_, Reads.none, fun b hb => nomatch hb⟩
  | .bool b, _, _, h, r => by
    cases h
    cases r
    exact ⟨_, Reads.bool b, fun b hb => nomatch hb⟩
  | .int i, _, _, h, r => by
    cases h
    obtain ⟨t, rfl⟩ := r
    exact ⟨_, Reads.int i t, fun b hb => nomatch hb⟩
  | .str x, _, _, h, r => by
    cases h
    obtain ⟨t, rfl⟩ := r
    exact ⟨_, Reads.str x t, fun b hb => nomatch hb⟩
  | .list ds, _, _, h, r => by
    cases h with
    | lst hs ha =>
      cases r
      obtain ⟨its, rv, ⟨o, n, ho, hc, _, hd⟩, _⟩ := I.list hs
      obtain ⟨as, hr, far⟩ := Dz.readsAll I ds _ its ha rv
      refine ⟨_, Reads.list ho hc hd hr, fun b hb => ?_⟩
      rcases List.mem_cons.mp hb with e | hb
      · exact .inl ⟨o, by rw [e]; exact ho, hc⟩
      · exact far b hb
  | .tuple ds, _, _, h, r => by
    cases h with
    | tup hs ha =>
      cases r
      obtain ⟨its, rv, ⟨o, ho, hc, n, hd⟩, _⟩ := I.tuple hs
      obtain ⟨as, hr, far⟩ := Dz.readsAll I ds _ its ha rv
      exact ⟨_, Reads.tuple ho hc hd hr, far⟩
  | .dict kvs, _, _, h, r => by
    cases h with
    | dk0 e =>
      cases r
      obtain ⟨_, nsys, vs, rel, o, es, ep, ho, hx, hd, hes⟩ := (show ObjOk X.prog X.w H s.heap _ (.dK []) from I.hok _ _ e)
      cases rel
      have es0 : es.toList = [] := by
        obtain ⟨_, pr, _⟩ := hes
        have z : es.toList.length = 0 := pr.length
        exact List.eq_nil_of_length_eq_zero z
      refine ⟨_, Reads.dict ho hx.1 hd (by rw [es0]; exact ReadsAll.nil) (by rw [es0]; exact ReadsAll.nil), fun b hb => ?_⟩
      rcases List.mem_cons.mp hb with e | hb
      · exact .inr (by rw [e]; exact beq_eq_false_iff_ne.mp nsys)
      · exact absurd hb (by simp)
theorem Dz.readsAll (I : Inv X pins σ H s) : ∀ (ds : List PyData) (vs : List V) (us : List Value), DzAll X.K H vs ds → Vals vs us → ∃ as, ReadsAll s.heap us ds as ∧ Far s.heap as
  | [], _, _, h, r => by
    cases h
    cases r
    exact ⟨_, ReadsAll.nil, fun b hb => nomatch hb⟩
  | d :: ds, _, _, h, r => by
    cases h with
    | cons h1 h2 =>
      cases r with
      | cons r1 r2 =>
        obtain ⟨as, q1, f1⟩ := Dz.reads I d _ _ h1 r1
        obtain ⟨bs, q2, f2⟩ := Dz.readsAll I ds _ _ h2 r2
        exact ⟨_, ReadsAll.cons q1 q2, fun b hb => (List.mem_append.mp hb).elim (f1 b) (f2 b)⟩
end
/-- what repr wants of data -/
structure Shows (d : PyData) : Prop where
  ok : d.showable = true
  dp : d.depth ≤ 60
  sz : d.shown.length ≤ sizeLine
def rRepr (K : PySem.W.Frag) : List V → Hp → VK → Prop := fun xs H Q => ∃ x d, xs = [x] ∧ Dz K H x d ∧ Shows d ∧ Q (.str d.shown) H
end
section
variable {X : Cx}
theorem call_repr {k : Nat} (hr : Room k X.A) (hg : X.A.guards = some []) (hsys : ∃ o, X.K.lookup sysModules = some o ∧ o.cls ≠ .type "list") : CallR X (.builtin "repr") (rRepr X.K) := by
  intro pins s σ H xs us Q I r h
  obtain ⟨x, d, rfl, hd, S, q⟩ := h
  obtain ⟨u, rfl, ru⟩ := vals1 r
  have J : ∀ t, EP X pins σ Q (.str d.shown t) { s with toks := s.toks + 1 } := fun t => ⟨.str d.shown, H, I.tok _, ⟨_, rfl⟩, q⟩
  have far : ∀ {a : Addr} {as : List Addr}, Far s.heap as → sysModules ∉ as := fun {a as} f hm => by
    rcases f _ hm with ⟨o, ho, hc⟩ | z
    · obtain ⟨o', e', nc⟩ := hsys
      have z := I.kIn _ _ e'
      rw [ho] at z
      cases z
      exact nc hc
    · exact z rfl
  have ref : ∀ a : Addr, u = .ref a → Dz X.K H x d → wpAny (model X.prog X.w) X.A (call (.builtin "repr") [u]) (EP X pins σ Q) X.xe s := fun a e hz => by
    subst e
    obtain ⟨as, hr', hf⟩ := Dz.reads I d x _ hz ru
    refine repr_of_reads' hr' S.ok (fun _ => far (a := a) hf) hg (by have := hr.un; have := S.dp; omega) (fun _ _ z => z) (fun h' t' tk' kp => ?_) S.sz
    exact ⟨.str d.shown, H, I.kept kp, ⟨_, rfl⟩, q⟩
  cases hd with
  | non =>
    cases ru
    exact PySem.P.repr_of_none (J _)
  | bl b =>
    cases ru
    exact PySem.P.repr_of_bool (J _)
  | int i =>
    obtain ⟨t, rfl⟩ := ru
    exact PySem.P.repr_of_int (by simpa [PyData.showable] using S.ok) (J _)
  | str y =>
    obtain ⟨t, rfl⟩ := ru
    exact PySem.P.repr_of_str (J _) S.sz
  | lst h1 h2 => exact ref _ ru (.lst h1 h2)
  | tup h1 h2 => exact ref _ ru (.tup h1 h2)
  | dk0 h1 => exact ref _ ru (.dk0 h1)
end
end EqX

set_option Elab.async false
set_option linter.all false
set_option maxRecDepth 100000
set_option maxHeartbeats 4000000
/-! A def of the module, told by its name. -/
namespace EqX
open PySem PySem.Spec PyProof.Rows L2
/-- the def of the module's name x keeps sp -/
structure Df (P : Program) (w : World) (K : PySem.W.Frag) (mg : Str → Option Value) (base : Heap) (CX : CXT) (k : Nat) (x : Str) (ps : List Str) (sp : Sp) : Prop where
  ex : ∃ fd, FnOk P w K mg base CX k (He.ga K x) fd ps sp ∧ Binds K fd ps []
  gm : mg x = some (.ref (He.ga K x))
  kp : PySem.W.keepIn K (.ref (He.ga K x)) = true
/-- the same, no repr around -/
structure DfG (P : Program) (w : World) (K : PySem.W.Frag) (mg : Str → Option Value) (base : Heap) (CX : CXT) (k : Nat) (x : Str) (ps : List Str) (sp : Sp) : Prop where
  ex : ∃ fd, FnG P w K mg base CX k (He.ga K x) fd ps sp ∧ Binds K fd ps []
  gm : mg x = some (.ref (He.ga K x))
  kp : PySem.W.keepIn K (.ref (He.ga K x)) = true
/-- where a def stands, and what binds its parameters -/
structure At (K : PySem.W.Frag) (mg : Str → Option Value) (x : Str) (st : Stmt) : Prop where
  fn : ∃ fd, FunD K x x (defArgs st) (defBody st) (defScope st) [] [] (He.ga K x) fd
  gm : mg x = some (.ref (He.ga K x))
section
variable {P : Program} {w : World} {K : PySem.W.Frag} {mg : Str → Option Value} {base : Heap} {CX : CXT} {k : Nat} {x : Str} {N ps : List Str} {sp : Sp} {st : Stmt}
theorem Df.g (D : Df P w K mg base CX k x ps sp) : DfG P w K mg base CX k x ps sp := ⟨let ⟨fd, F, b⟩ := D.ex; ⟨fd, fnG_of_ok F, b⟩, D.gm, D.kp⟩
theorem df_of (A : At K mg x st) (S : FnScope N ps (defScope st))
    (hb : ∀ (kV doc pm : Value) (an : Option Addr) (cdv ct : Value) (us : List Value), us.length = ps.length → bindArgs (PySem.W.fnOf x x (defArgs st) (defBody st) (defScope st) .none kV doc pm an cdv ct) ⟨us, []⟩ = pure (ps.zip us))
    (len : ∀ vs H Q E, sp vs H Q E → vs.length = ps.length)
    (hbody : ∀ (f : Addr) (cdv : Value) (A : Around) (outer : List Env) (s : Shared) (H : Hp) (vs : List V) (Q : VK) (E : XK), Room k (A.deeper (envOfC x (defScope st) s.heap.objs.size f cdv)) → sp vs H Q E →
      ∃ t, PSs (cxOf CX P w K mg base N x (defScope st) f cdv A outer s H E) (defBody st) t ∧ t { nx := fun _ H' => Q .non H', rt := Q } (start N vs) H) : Df P w K mg base CX (k + 1) x ps sp := by
  obtain ⟨fd, F⟩ := A.fn
  have b := F.bindsN hb
  exact ⟨⟨fd, F.ok S len fun cdv A outer s H vs Q E hr h => hbody _ cdv A outer s H vs Q E hr h, b⟩, A.gm, F.kp⟩
theorem dfG_of (A : At K mg x st) (S : FnScope N ps (defScope st))
    (hb : ∀ (kV doc pm : Value) (an : Option Addr) (cdv ct : Value) (us : List Value), us.length = ps.length → bindArgs (PySem.W.fnOf x x (defArgs st) (defBody st) (defScope st) .none kV doc pm an cdv ct) ⟨us, []⟩ = pure (ps.zip us))
    (len : ∀ vs H Q E, sp vs H Q E → vs.length = ps.length)
    (hbody : ∀ (f : Addr) (cdv : Value) (A : Around) (outer : List Env) (s : Shared) (H : Hp) (vs : List V) (Q : VK) (E : XK), Room k (A.deeper (envOfC x (defScope st) s.heap.objs.size f cdv)) → A.guards = some [] → sp vs H Q E →
      ∃ t, PSs (cxOf CX P w K mg base N x (defScope st) f cdv A outer s H E) (defBody st) t ∧ t { nx := fun _ H' => Q .non H', rt := Q } (start N vs) H) : DfG P w K mg base CX (k + 1) x ps sp := by
  obtain ⟨fd, F⟩ := A.fn
  have b := F.bindsN hb
  exact ⟨⟨fd, okG F S len fun cdv A outer s H vs Q E hr hg h => hbody _ cdv A outer s H vs Q E hr hg h, b⟩, A.gm, F.kp⟩
end
section
variable {X : Cx} {CX : CXT} {k : Nat} {x : Str} {ps : List Str} {sp : Sp} {E : XK} {p pos : Pos} {e : Expr} {es : List Expr} {t : TA}
theorem pe_dfX (D : Df X.prog X.w X.K X.mg X.base CX k x ps sp) (hr : Room k X.A) (hx : Passes CX X E) (ha : PA X (e :: es) t) (hg : Gl X x := by rfl) (hdb : (x == ("__debug__" : Str)) = false := by decide)
    (he : starEach (e :: es) X.env = (false, eval e X.env) :: starEach es X.env := by rfl) (hpl : (backTo pos (starEach es X.env)).any (·.1) = false := by rfl) : PE X (.Call (.Name x p) (e :: es) [] pos) (tCall sp [] E t) := by
  obtain ⟨fd, F, b⟩ := D.ex
  exact pe_call F hr hg D.gm D.kp b .nil hx ha hdb he hpl
theorem pe_df (D : Df X.prog X.w X.K X.mg X.base CX0 k x ps sp) (hr : Room k X.A) (ha : PA X (e :: es) t) (hg : Gl X x := by rfl) (hdb : (x == ("__debug__" : Str)) = false := by decide)
    (he : starEach (e :: es) X.env = (false, eval e X.env) :: starEach es X.env := by rfl) (hpl : (backTo pos (starEach es X.env)).any (·.1) = false := by rfl) : PE X (.Call (.Name x p) (e :: es) [] pos) (tCall sp [] E0 t) :=
  pe_dfX D hr pass0 ha hg hdb he hpl
theorem pe_dfG (D : DfG X.prog X.w X.K X.mg X.base CX0 k x ps sp) (hr : Room k X.A) (hgd : X.A.guards = some []) (ha : PA X (e :: es) t) (hg : Gl X x := by rfl) (hdb : (x == ("__debug__" : Str)) = false := by decide)
    (he : starEach (e :: es) X.env = (false, eval e X.env) :: starEach es X.env := by rfl) (hpl : (backTo pos (starEach es X.env)).any (·.1) = false := by rfl) : PE X (.Call (.Name x p) (e :: es) [] pos) (tCall sp [] E0 t) := by
  obtain ⟨fd, F, b⟩ := D.ex
  exact pe_callG F hr hgd hg D.gm D.kp b .nil pass0 ha hdb he hpl
end
/-! ### the draws: a list of three numbers -/
abbrev bigM : Int := 2147483549
abbrev purseL (f s t : Int) : List V := [.int f, .int s, .int t]
/-- at d a purse of draws -/
def Purse (H : Hp) (d : Addr) : Prop := ∃ f s t : Int, H d = some (.lst (purseL f s t)) ∧ 0 ≤ f ∧ 0 ≤ s ∧ s < bigM
/-- _law_take(draws, many) -/
def spTake : Sp := fun vs H Q _ => ∃ (d : Addr) (m : Int), vs = [.ref d, .int m] ∧ Purse H d ∧ 0 < m ∧ m < 1000000 ∧ ∀ (r f s t : Int), 0 ≤ r → r < m → 0 ≤ f → 0 ≤ s → s < bigM → Q (.int r) (upd H d (.lst (purseL f s t)))
/-- _law_pick(draws, some): one of a tuple's or list's things -/
def spPick (K : PySem.W.Frag) : Sp := fun vs H Q _ => ∃ (d a : Addr) (xs : List V), vs = [.ref d, .ref a] ∧ Purse H d ∧ (SqL K H a xs ∨ SqT K H a xs) ∧ a ≠ d ∧ xs ≠ [] ∧ xs.length < 1000000 ∧ ∀ (v : V) (f s t : Int), v ∈ xs → 0 ≤ f → 0 ≤ s → s < bigM → Q v (upd H d (.lst (purseL f s t)))
/-- _law_purse(cells, at) -/
def spPurse (K : PySem.W.Frag) : Sp := fun vs H Q _ => ∃ (a : Addr) (ns : List Int) (i : Nat), vs = [.ref a, .int i] ∧ SqL K H a (ns.map V.int) ∧ i ≤ 100 ∧ ns.length ≤ 63 ∧ ∀ (d : Addr) (H' : Hp), H d = none → Purse H' d → Same H H' → Q (.ref d) H'
end EqX

set_option Elab.async false
set_option linter.all false
set_option maxRecDepth 100000
set_option maxHeartbeats 4000000
/-! A reading taken apart, one word at a time. -/
namespace EqX
open PySem PySem.Spec PyProof.Rows L2
/-! calls of built-in names, their readings named -/
def rInt1 : List V → Hp → VK → Prop := fun xs H Q => (∃ i, xs = [.int i] ∧ Q (.int i) H) ∨ ∃ k, xs = [.bl k] ∧ Q (.int (if k then 1 else 0)) H
def rAbs : List V → Hp → VK → Prop := fun xs H Q => ∃ i, xs = [.int i] ∧ Q (.int (if i < 0 then -i else i)) H
def rMax2 : List V → Hp → VK → Prop := fun xs H Q => ∃ i j, xs = [.int i, .int j] ∧ Q (.int (if j > i then j else i)) H
def rMin2 : List V → Hp → VK → Prop := fun xs H Q => ∃ i j, xs = [.int i, .int j] ∧ Q (.int (if j < i then j else i)) H
def rLenS (K : PySem.W.Frag) : List V → Hp → VK → Prop := fun xs H Q => ∃ p ys, xs = [.ref p] ∧ (SqL K H p ys ∨ SqT K H p ys) ∧ Q (.int ys.length) H
def rListS (K : PySem.W.Frag) : List V → Hp → VK → Prop := fun xs H Q => ∃ p ys, xs = [.ref p] ∧ (SqL K H p ys ∨ SqT K H p ys) ∧ ∀ l, H l = none → Q (.ref l) (upd H l (.lst ys))
def rTupS (K : PySem.W.Frag) : List V → Hp → VK → Prop := fun xs H Q => ∃ p ys, xs = [.ref p] ∧ ((SqL K H p ys ∧ ∀ l, H l = none → Q (.ref l) (upd H l (.tup ys))) ∨ (SqT K H p ys ∧ Q (.ref p) H))
section
variable {X : Cx}
theorem c_int1 : CallR X (.type "int") rInt1 := call_int1
theorem c_abs : CallR X (.builtin "abs") rAbs := call_abs
theorem c_max2 (hc : X.calm = true) : CallR X (.builtin "max") rMax2 := call_max2 hc
theorem c_min2 (hc : X.calm = true) : CallR X (.builtin "min") rMin2 := call_min2 hc
theorem c_lenS : CallR X (.builtin "len") (rLenS X.K) := call_len_seq
theorem c_listS : CallR X (.type "list") (rListS X.K) := call_list_of
theorem c_tupS : CallR X (.type "tuple") (rTupS X.K) := call_tuple_of
end
section
variable {K : PySem.W.Frag} {σ : L2.St} {H : Hp} {D : Ends} {t u : TS} {te ta tb : TE} {c ca cb : TT} {tA tR : TA} {g : TG} {gs : TGs} {Q : VK} {QA : List V → Hp → Prop} {QT : Bool → Hp → Prop} {QS : L2.St → Hp → Prop} {r : R2} {i : Nat} {v x y : V} {n m : Int} {a b p : Addr} {xs ys : List V} {k : Bool} {f : Str}
theorem w_seq (h : t { D with nx := u D } σ H) : tSeq t u D σ H := h
theorem w_asg (h : te σ H fun x H1 => g x σ H1 D.nx) : tAsg te g D σ H := h
theorem w_ret (h : te σ H D.rt) : tRet te D σ H := h
theorem w_retN (h : D.rt .non H) : tRetN D σ H := h
theorem w_drop (h : te σ H fun _ H1 => D.nx σ H1) : tDrop te D σ H := h
theorem w_ifs (h : c σ H fun b H1 => if b = true then t D σ H1 else u D σ H1) : tIfS c t u D σ H := h
theorem w_next (h : D.nx σ H) : tNext D σ H := h
theorem w_name (h : QS (σ.set i (some v)) H) : gName i v σ H QS := h
theorem w_gsub {to ti : TE} {ts : TSet} (h : to σ H fun o H1 => ti σ H1 fun i H2 => ts o i v H2 fun H3 => QS σ H3) : gSub to ti ts v σ H QS := h
theorem w_var (h : σ[i]? = some (some v)) (q : Q v H) : tVar i σ H Q := ⟨v, h, q⟩
theorem w_c (q : Q v H) : tC v σ H Q := q
theorem w_op (h : ta σ H fun x H1 => tb σ H1 fun y H2 => r x y H2 Q) : tOp r ta tb σ H Q := h
theorem w_un {r : V → Hp → VK → Prop} (h : ta σ H fun x H1 => r x H1 Q) : tUn r ta σ H Q := h
theorem w_cb {r : List V → Hp → VK → Prop} (h : tA σ H fun vs H1 => r vs H1 Q) : tCB r tA σ H Q := h
theorem w_call {sp : Sp} {E : XK} (h : tA σ H fun vs H1 => sp vs H1 Q E) : tCall sp [] E tA σ H Q := by
  show tA σ H fun vs H1 => sp (vs ++ []) H1 Q E
  have e : (fun (vs : List V) (H1 : Hp) => sp (vs ++ []) H1 Q E) = fun vs H1 => sp vs H1 Q E := by
    funext vs H1
    rw [List.append_nil]
  rw [e]
  exact h
theorem w_nil (h : QA [] H) : tNil σ H QA := h
theorem w_cons (h : ta σ H fun x H1 => tR σ H1 fun xs H2 => QA (x :: xs) H2) : tCons ta tR σ H QA := h
theorem w_test (h : te σ H fun x H1 => ∃ k, x = .bl k ∧ QT k H1) : tTest te σ H QT := h
theorem w_b (h : te σ H fun x H1 => ∃ k, x = .bl k ∧ QT k H1) : tB te σ H QT := h
theorem w_bl (h : QT k H) : ∃ j, V.bl k = .bl j ∧ QT j H := ⟨k, rfl, h⟩
theorem w_not (h : c σ H fun b H1 => QT (!b) H1) : tNot c σ H QT := h
theorem w_and (h : ca σ H fun b H1 => if b = true then cb σ H1 QT else QT false H1) : tAnd ca cb σ H QT := h
theorem w_or (h : ca σ H fun b H1 => if b = true then QT true H1 else cb σ H1 QT) : tOr ca cb σ H QT := h
theorem w_if (h : c σ H fun b H1 => if b = true then ta σ H1 Q else tb σ H1 Q) : tIf c ta tb σ H Q := h
theorem w_andV (h : ta σ H fun x H1 => ∃ c, x = .bl c ∧ if c = true then tb σ H1 Q else Q (.bl false) H1) : tAndV ta tb σ H Q := h
theorem w_orV (h : ta σ H fun x H1 => ∃ c, x = .bl c ∧ if c = true then Q (.bl true) H1 else tb σ H1 Q) : tOrV ta tb σ H Q := h
theorem w_blV {P : Bool → Prop} (h : P k) : ∃ c, V.bl k = .bl c ∧ P c := ⟨k, rfl, h⟩
theorem w_notV (h : ta σ H fun x H1 => ∃ c, x = .bl c ∧ Q (.bl (!c)) H1) : tNotV ta σ H Q := h
theorem w_I0 {g : Int → Int → V} (h : Q (g n m) H) : rI0 g (.int n) (.int m) H Q := ⟨n, m, rfl, rfl, h⟩
theorem w_I {C : Int → Int → Prop} {g : Int → Int → V} (hc : C n m) (h : Q (g n m) H) : rI C g (.int n) (.int m) H Q := ⟨n, m, rfl, rfl, hc, h⟩
theorem w_mulL {g : Int → Int → V} (hc : -18446744073709551616 < n ∧ n < 18446744073709551616) (h : Q (g n m) H) : rI CMul g (.int n) (.int m) H Q := ⟨n, m, rfl, rfl, .inl hc, h⟩
theorem w_mulR {g : Int → Int → V} (hc : -18446744073709551616 < m ∧ m < 18446744073709551616) (h : Q (g n m) H) : rI CMul g (.int n) (.int m) H Q := ⟨n, m, rfl, rfl, .inr hc, h⟩
theorem w_pow {g : Int → Int → V} (hc : (0 ≤ m ∧ m ≤ 1000000) ∧ n.natAbs < 18446744073709551616) (h : Q (g n m) H) : rI CPow g (.int n) (.int m) H Q := ⟨n, m, rfl, rfl, ⟨hc.1.1, hc.1.2, hc.2⟩, h⟩
theorem w_neg {g : Int → V} (h : Q (g n) H) : rU g (.int n) H Q := ⟨n, rfl, h⟩
theorem w_eq (hs : scal x y = true) (h : Q (.bl (decide (x = y))) H) : rEq x y H Q := ⟨hs, h⟩
theorem w_ne (hs : scal x y = true) (h : Q (.bl (!decide (x = y))) H) : rNe x y H Q := ⟨hs, h⟩
theorem w_int1 (h : Q (.int n) H) : rInt1 [.int n] H Q := .inl ⟨n, rfl, h⟩
theorem w_abs (h : Q (.int (if n < 0 then -n else n)) H) : rAbs [.int n] H Q := ⟨n, rfl, h⟩
theorem w_max2 (h : Q (.int (if m > n then m else n)) H) : rMax2 [.int n, .int m] H Q := ⟨n, m, rfl, h⟩
theorem w_min2 (h : Q (.int (if m < n then m else n)) H) : rMin2 [.int n, .int m] H Q := ⟨n, m, rfl, h⟩
theorem w_lenL (hs : SqL K H p ys) (h : Q (.int (ys.length : Int)) H) : rLenS K [.ref p] H Q := ⟨p, ys, rfl, .inl hs, h⟩
theorem w_lenT (hs : SqT K H p ys) (h : Q (.int (ys.length : Int)) H) : rLenS K [.ref p] H Q := ⟨p, ys, rfl, .inr hs, h⟩
theorem w_tupL (hs : SqL K H p ys) (h : ∀ l, H l = none → Q (.ref l) (upd H l (.tup ys))) : rTupS K [.ref p] H Q := ⟨p, ys, rfl, .inl ⟨hs, h⟩⟩
theorem w_listT (hs : SqT K H p ys) (h : ∀ l, H l = none → Q (.ref l) (upd H l (.lst ys))) : rListS K [.ref p] H Q := ⟨p, ys, rfl, .inr hs, h⟩
theorem w_listL (hs : SqL K H p ys) (h : ∀ l, H l = none → Q (.ref l) (upd H l (.lst ys))) : rListS K [.ref p] H Q := ⟨p, ys, rfl, .inl hs, h⟩
theorem w_ixL (hs : SqL K H p ys) (ha : atI ys n = some v) (h : Q v H) : rIxL K (.ref p) (.int n) H Q := ⟨p, ys, n, v, rfl, rfl, hs, ha, h⟩
theorem w_ixT (hs : SqT K H p ys) (ha : atI ys n = some v) (h : Q v H) : rIxT K (.ref p) (.int n) H Q := ⟨p, ys, n, v, rfl, rfl, hs, ha, h⟩
theorem w_setL {QH : Hp → Prop} {j : Nat} (hl : H p = some (.lst xs)) (hi : ixN xs.length n = some j) (h : QH (upd H p (.lst (xs.set j v)))) : rSetL (.ref p) (.int n) v H QH := ⟨p, xs, n, j, rfl, rfl, hl, hi, h⟩
theorem w_unl {k : Nat} (hs : SqL K H p xs) (hl : xs.length = k) (h : gs xs σ H QS) : gUnl K k gs (.ref p) σ H QS := ⟨p, xs, rfl, hs, hl, h⟩
theorem w_untup {k : Nat} (hs : SqT K H p xs) (hl : xs.length = k) (h : gs xs σ H QS) : gTup K k gs (.ref p) σ H QS := ⟨p, xs, rfl, hs, hl, h⟩
theorem w_gcons {gr : TGs} (h : g v σ H fun σ' H' => gr xs σ' H' QS) : gCons g gr (v :: xs) σ H QS := ⟨v, xs, rfl, h⟩
theorem w_gnil (h : QS σ H) : gNil [] σ H QS := ⟨rfl, h⟩
theorem w_tup (h : tA σ H fun vs H1 => vs.length ≤ sizeLine ∧ ∀ p, H1 p = none → Q (.ref p) (upd H1 p (.tup vs))) : tTup tA σ H Q := h
theorem w_lst (h : tA σ H fun vs H1 => vs.length ≤ sizeLine ∧ ∀ p, H1 p = none → Q (.ref p) (upd H1 p (.lst vs))) : tLst tA σ H Q := h
theorem w_slL {lo hi : Option Int} (hs : SqL K H p xs) (h : ∀ q, H q = none → Q (.ref q) (upd H q (.lst (cutV xs lo hi)))) : rSlL K (.ref p) lo hi H Q := ⟨p, xs, rfl, hs, h⟩
theorem w_sl {r : V → Option Int → Option Int → Hp → VK → Prop} {tl th : TO} (h : te σ H fun x H1 => tl σ H1 fun l H2 => th σ H2 fun u H3 => r x l u H3 Q) : tSl r te tl th σ H Q := h
theorem w_no {QO : Option Int → Hp → Prop} (h : QO none H) : tNoPart σ H QO := h
theorem w_part {QO : Option Int → Hp → Prop} (h : te σ H fun x H1 => ∃ i, x = .int i ∧ QO (some i) H1) : tPart te σ H QO := h
theorem w_partI {QO : Option Int → Hp → Prop} (h : QO (some n) H) : ∃ i, V.int n = .int i ∧ QO (some i) H := ⟨n, rfl, h⟩
/-- a value of which just so much is kept, the heap as it was -/
theorem w_mid (S : V → Prop) (h1 : ∀ Q : VK, (∀ v, S v → Q v H) → te σ H Q) (h2 : ∀ v, S v → Q v H) : te σ H Q := h1 Q h2
theorem w_midH (S : V → Hp → Prop) (h1 : ∀ Q : VK, (∀ v H', S v H' → Q v H') → te σ H Q) (h2 : ∀ v H', S v H' → Q v H') : te σ H Q := h1 Q h2
theorem w_midT (b : Bool) (h1 : ∀ Q : Bool → Hp → Prop, Q b H → c σ H Q) (h2 : QT b H) : c σ H QT := h1 QT h2
theorem w_midTH (S : Bool → Hp → Prop) (h1 : ∀ Q : Bool → Hp → Prop, (∀ b H', S b H' → Q b H') → c σ H Q) (h2 : ∀ b H', S b H' → QT b H') : c σ H QT := h1 QT h2
theorem w_dec {c A B : Prop} [Decidable c] (h1 : c → A) (h2 : ¬ c → B) : if decide c = true then A else B := by
  by_cases h : c
  · rw [if_pos (decide_eq_true h)]
    exact h1 h
  · rw [if_neg (by rw [decide_eq_false h]; decide)]
    exact h2 h
theorem w_true {A B : Prop} (h : A) : if true = true then A else B := h
theorem w_false {A B : Prop} (h : B) : if false = true then A else B := by
  rw [if_neg Bool.false_ne_true]
  exact h
theorem w_ifb {b : Bool} {A B : Prop} (h1 : b = true → A) (h2 : b = false → B) : if b = true then A else B := by
  cases b with
  | true => exact h1 rfl
  | false => exact w_false (h2 rfl)
theorem len_ok {n : Nat} (h : n ≤ 1000) : n ≤ sizeLine := Nat.le_trans h (by decide)
theorem w_isB {l : Bool} (h : Q (.bl (decide (k = l))) H) : rIsB (.bl k) (.bl l) H Q := ⟨k, l, rfl, rfl, h⟩
theorem w_all {bs : List Bool} (hs : SqL K H p (bs.map V.bl)) (h : Q (.bl (bs.all id)) H) : rAll K [.ref p] H Q := ⟨p, bs, rfl, hs, h⟩
theorem w_yes (h : QT true H) : tYes σ H QT := h
theorem w_setLc {wi : TI} {tt : TT} {vs : List Nat} (h : tLc wi g tt te vs σ H fun x H1 => gName i x σ H1 D.nx) : tAsg (tLc wi g tt te vs) (gName i) D σ H := h
/-- loops -/
theorem w_forL {tb : TS} (h : te σ H fun x H1 => ∃ a xs, x = .ref a ∧ SqL K H1 a xs ∧ ∃ Pv : Nat → L2.St → Hp → Prop, Pv 0 σ H1 ∧ (∀ i σ H, i ≤ xs.length → Pv i σ H → SqL K H a xs) ∧
    (∀ i x σ H, xs[i]? = some x → Pv i σ H → g x σ H fun σ2 H2 => tb { D with nx := Pv (i + 1), ct := Pv (i + 1), bk := D.nx } σ2 H2) ∧ ∀ σ H, Pv xs.length σ H → D.nx σ H) (mono : ∀ Q Q' : VK, (∀ x H1, Q x H1 → Q' x H1) → te σ H Q → te σ H Q') : tFor (iList K te) g tb D σ H :=
  mono _ _ (fun x H1 q => by
    obtain ⟨a, xs, rfl, hs, Pv, h0, hl, hb, hd⟩ := q
    exact ⟨a, rfl, ⟨xs, hs⟩, for_list Pv h0 hl hb hd⟩) h
/-- over a list that a plain reading gives -/
theorem w_forLv {tb : TS} {a : Addr} (Pv : Nat → L2.St → Hp → Prop) (hs : SqL K H a xs) (h0 : Pv 0 σ H) (hl : ∀ i σ H, i ≤ xs.length → Pv i σ H → SqL K H a xs)
    (hb : ∀ i x σ H, xs[i]? = some x → Pv i σ H → g x σ H fun σ2 H2 => tb { D with nx := Pv (i + 1), ct := Pv (i + 1), bk := D.nx } σ2 H2) (hd : ∀ σ H, Pv xs.length σ H → D.nx σ H) :
    ∃ b, V.ref a = .ref b ∧ (∃ ys, SqL K H b ys) ∧ ∃ W : Nat → Nat → L2.St → Hp → Prop, (∃ m, W 0 m σ H) ∧ ∀ i m σ H, W i m σ H →
      ((Itl K b).stop i H ∧ D.nx σ H) ∨ ((Itl K b).go i H ∧ ∃ N : L2.St → Hp → Prop, (∀ σ' H', N σ' H' → ∃ m', m' < m ∧ W (i + 1) m' σ' H') ∧ ∀ x H', (Itl K b).yld i H x H' → g x σ H' fun σ2 H2 => tb { D with nx := N, ct := N, bk := D.nx } σ2 H2) :=
  ⟨a, rfl, ⟨xs, hs⟩, for_list Pv h0 hl hb hd⟩
theorem w_forTv {tb : TS} {a : Addr} (Pv : Nat → L2.St → Hp → Prop) (hs : SqT K H a xs) (h0 : Pv 0 σ H) (hl : ∀ i σ H, i ≤ xs.length → Pv i σ H → SqT K H a xs)
    (hb : ∀ i x σ H, xs[i]? = some x → Pv i σ H → g x σ H fun σ2 H2 => tb { D with nx := Pv (i + 1), ct := Pv (i + 1), bk := D.nx } σ2 H2) (hd : ∀ σ H, Pv xs.length σ H → D.nx σ H) :
    ∃ b, V.ref a = .ref b ∧ (∃ ys, SqT K H b ys) ∧ ∃ W : Nat → Nat → L2.St → Hp → Prop, (∃ m, W 0 m σ H) ∧ ∀ i m σ H, W i m σ H →
      ((Itt K b).stop i H ∧ D.nx σ H) ∨ ((Itt K b).go i H ∧ ∃ N : L2.St → Hp → Prop, (∀ σ' H', N σ' H' → ∃ m', m' < m ∧ W (i + 1) m' σ' H') ∧ ∀ x H', (Itt K b).yld i H x H' → g x σ H' fun σ2 H2 => tb { D with nx := N, ct := N, bk := D.nx } σ2 H2) :=
  ⟨a, rfl, ⟨xs, hs⟩, for_tup Pv h0 hl hb hd⟩
theorem w_for {wi : TI} {tb : TS} (h : wi σ H fun J H1 => ∃ W : Nat → Nat → L2.St → Hp → Prop, (∃ m, W 0 m σ H1) ∧ ∀ i m σ H, W i m σ H →
      (J.stop i H ∧ D.nx σ H) ∨ (J.go i H ∧ ∃ N : L2.St → Hp → Prop, (∀ σ' H', N σ' H' → ∃ m', m' < m ∧ W (i + 1) m' σ' H') ∧ ∀ x H', J.yld i H x H' → g x σ H' fun σ2 H2 => tb { D with nx := N, ct := N, bk := D.nx } σ2 H2)) : tFor wi g tb D σ H := h
theorem w_iL {R : It → Hp → Prop} (h : te σ H fun x H1 => ∃ a, x = .ref a ∧ (∃ xs, SqL K H1 a xs) ∧ R (Itl K a) H1) : iList K te σ H R := h
theorem w_iT {R : It → Hp → Prop} (h : te σ H fun x H1 => ∃ a, x = .ref a ∧ (∃ xs, SqT K H1 a xs) ∧ R (Itt K a) H1) : iTup K te σ H R := h
theorem w_iR {R : It → Hp → Prop} (h : tA σ H fun vs H1 => ∃ j : Int, vs = [.int j] ∧ -(2 ^ 62) ≤ j ∧ j < 2 ^ 62 ∧ R (Itr 0 j.toNat) H1) : iRng1 tA σ H R := h
end
end EqX

set_option Elab.async false
set_option linter.all false
set_option maxRecDepth 100000
set_option maxHeartbeats 4000000
/-! Own errors raised by C(e), C(k = e), C(); isinstance of tracked and of caught ones, in defs called within an except suite too. -/
namespace EqX
open PySem PySem.Spec PyProof.Rows L2 L2H HotX PySem.EqX
/-! ### isinstance, tracked or pinned -/
/-- at a an exception of the class at C: a tracked one, or one of those that pn holds -/
def XAt (pn : List (Addr × Obj)) (H : Hp) (a C : Addr) : Prop :=
  (∃ d, ExAt H a C d) ∨ ∃ (o : Obj) (vs : Array Value), (a, o) ∈ pn ∧ o.cls = .ref C ∧ o.data = .fields vs ∧ ∀ dd, o.dict = some dd → ∃ fs, H dd = some (.xd fs)
theorem XAt.same {pn : List (Addr × Obj)} {H H' : Hp} {a C : Addr} (x : XAt pn H a C) (s : Same H H') : XAt pn H' a C := by
  rcases x with ⟨d, x⟩ | ⟨o, vs, h1, h2, h3, h4⟩
  · exact .inl ⟨d, x.keeps s⟩
  · exact .inr ⟨o, vs, h1, h2, h3, fun dd e => let ⟨fs, q⟩ := h4 dd e; ⟨fs, s _ _ q⟩⟩
theorem XAt.inst {X : Cx} {pins : List (Addr × Obj)} {σ : L2.St} {H : Hp} {s : Shared} {a C : Addr} (x : XAt X.pn H a C) (I : Inv X pins σ H s) : ∃ ox od, PySem.W.InstAt s.heap a ox C od := by
  rcases x with ⟨d, x⟩ | ⟨o, vs, h1, h2, h3, h4⟩
  · exact x.inst I.hok
  · obtain ⟨hget, _⟩ := I.pin (a, o) (List.mem_append.mpr (.inl h1))
    obtain ⟨oc, od, oda, osl⟩ := o
    dsimp only at h2 h3 h4
    subst h2 h3
    cases od with
    | none => exact ⟨_, none, hget, rfl, rfl, trivial⟩
    | some dd =>
      obtain ⟨fs, e⟩ := h4 dd rfl
      obtain ⟨mA, ⟨o2, _, _, e1, _⟩, _⟩ := (show ObjOk X.prog X.w H s.heap dd (.xd fs) from I.hok _ _ e)
      exact ⟨_, some o2, hget, rfl, rfl, e1⟩
def rIsP (K : PySem.W.Frag) (pn : List (Addr × Obj)) : List V → Hp → VK → Prop := fun xs H Q => ∃ (a C : Addr) (c : V) (u : Value) (b : Bool), xs = [.ref a, c] ∧ XAt pn H a C ∧ ClsV c u ∧ ExcC K C ∧ PySem.W.kitOne K (.ref C) u = some b ∧ Q (.bl b) H
def rIsPT (K : PySem.W.Frag) (pn : List (Addr × Obj)) : List V → Hp → VK → Prop := fun xs H Q => ∃ (a C : Addr) (tp : Addr) (cs : List V) (us : List Value) (b : Bool), xs = [.ref a, .ref tp] ∧ XAt pn H a C ∧ H tp = some (.tup cs) ∧ Paired ClsV cs us ∧ ExcC K C ∧ PySem.W.kitAny K (.ref C) us = some b ∧ Q (.bl b) H
section
variable {X : Cx}
theorem call_isP : CallR X (.builtin "isinstance") (rIsP X.K X.pn) := by
  intro pins s σ H xs us Q I r h
  obtain ⟨a, C, c, u, b, rfl, ex, k, T, e, q⟩ := h
  obtain ⟨u1, u2, rfl, r1, r2⟩ := vals2 r
  have e2 := k.eq r2
  subst e2
  obtain rfl : u1 = Value.ref a := r1
  exact PySem.W.kia_one (kitx_exc T.hg T.hk T.hs T.hd T.ha T.hn T.ht T.hm) I.kIn (ex.inst I) e (fun z => nomatch z) fun tk => ⟨.bl b, H, I.tok tk, rfl, q⟩
theorem call_isPT : CallR X (.builtin "isinstance") (rIsPT X.K X.pn) := by
  intro pins s σ H xs us Q I r h
  obtain ⟨a, C, tp, cs, ws, b, rfl, ex, hT, k, T, e, q⟩ := h
  obtain ⟨u1, u2, rfl, r1, r2⟩ := vals2 r
  obtain rfl : u1 = Value.ref a := r1
  cases (show u2 = Value.ref tp from r2)
  obtain ⟨_, its, rv, o, h1, h2, n, h3⟩ := (show ObjOk X.prog X.w H s.heap tp (.tup cs) from I.hok tp _ hT)
  have e3 := ClsV.all k rv
  subst e3
  obtain ⟨oc, od, dt, sl⟩ := o
  simp only at h2 h3
  subst h2 h3
  exact PySem.W.kia_tup (kitx_exc T.hg T.hk T.hs T.hd T.ha T.hn T.ht T.hm) I.kIn (ex.inst I) h1 e (fun z => nomatch z) fun tk => ⟨.bl b, H, I.tok tk, rfl, q⟩
end
/-! ### raise C(e), raise C(k = e), raise C() -/
section
variable {X : Cx} {e : Expr} {es : List Expr} {ta : TA} {p pos : Pos} {kws : List Keyword} {tk : TA} {x : Str} {C fI : Addr} {k : Nat} {fd : FuncData} {ps ks : List Str} {sp : Sp}
theorem pmk_exN {CX : CXT} (T : OexC X.K C) (iC : PySem.W.findIn X.K (.ref C) "__init__" = some (some (.ref fI))) (tI : PySem.W.typeIn X.K (.ref fI) = some (.type "function"))
    (F1 : FnOk X.prog X.w X.K X.mg X.base CX k fI fd ps sp) (hr : Room (k + 1) X.A) (hb : Binds X.K fd ps []) (hx : Passes CX X (fun _ _ _ => False)) (hg : Gl X x) (hm : X.mg x = some (.ref C)) (ha : PA X (e :: es) ta)
    (hdb : (x == ("__debug__" : Str)) = false := by decide) (he : starEach (e :: es) X.env = (false, eval e X.env) :: starEach es X.env := by rfl) (hpl : (backTo pos (starEach es X.env)).any (·.1) = false := by rfl) :
    L2N.PMk X (.Call (.Name x p) (e :: es) [] pos) (tMkO C sp [] ta) := by
  intro pins s σ H Q I h
  obtain ⟨nm, q, N, bs, bm, sn, sub, ab, col, dd, k0, k1, k2, k3, k5, hC, hbm⟩ := T.cls
  refine wpAny_Call_Name_kw (ld_glob I hg hm ?_ hdb)
  refine PySem.W.callWith_K (h₀ := X.base) I.ok.mod.kin T.kC (thn (ha.run pos pins s σ H _ I h) fun us s1 ⟨vs, H1, I1, r1, hz, q1⟩ => ⟨I1.kIn, ?_⟩) he hpl
  show wpAny _ _ (call (.ref C) us) _ _ _
  obtain ⟨hp, g, dr, t, os⟩ := s1
  have fresh : hp.objs.size ≤ hp.objs.size + 1 := Nat.le_succ _
  have hq := q1 (hp.objs.size + 1) (I1.hok.fresh fresh)
  have J : Inv X pins σ (upd H1 (hp.objs.size + 1) (exo (hp.objs.size + 1) C none)) ⟨born hp C us, g, dr, t, os⟩ := I1.laid (t' := t) (o := exo (hp.objs.size + 1) C none) born_keeps fresh (exo_ok born_at)
  have rv : Vals (V.ref (hp.objs.size + 1) :: (vs ++ [])) (Value.ref (hp.objs.size + 1) :: us) := .cons rfl (by rw [List.append_nil]; exact r1)
  have hl : ((Value.ref (hp.objs.size + 1) :: us) ++ []).length = ps.length := by
    rw [List.append_nil]
    exact rv.length.symm.trans (F1.len _ _ _ _ hq)
  have hus : us.length ≤ sizeLine := by
    rw [← Paired.length r1, sizeLine_eq]
    omega
  have bd := hb ⟨born hp C us, g, dr, t, os⟩ (Value.ref (hp.objs.size + 1) :: us) J.kIn hl
  rw [List.append_nil] at bd
  refine wpAny_call (PySem.HandSPX.call_own F.excBase_ValueError (fun Y => PySem.HandSPX.refsVE_contains Y bm hbm) (I1.kIn _ _ hC) (PySem.W.looks_findIn I1.kIn iC) (fun self => PySem.W.bind_fn I1.kIn self tI) hus
    (codeAny_mono (F1.run _ X.stack _ _ ⟨Value.ref (hp.objs.size + 1) :: us, []⟩ (Value.ref (hp.objs.size + 1) :: us) _ _ (fun _ _ _ => False) (hr.make C us []) (J.env0.make C us []) bd rv hq) fun r s' hq' => ?_))
  rcases r with er | (_ | _ | _ | u)
  · exact hx pins σ _ _ er s' J hq'
  · exact hq'.elim
  · exact hq'.elim
  · exact hq'.elim
  · obtain ⟨v, H2, os2, bare2, un2, hok2, rv, ev, d, fs, ea, ed, hd1, q2⟩ := hq'
    subst ev
    obtain ⟨h2, g2, d2, t2, os'⟩ := s'
    obtain ⟨t0, G, J2, kG, ge, hoe, na⟩ := mk_end0 (d2 := d2) (t2 := t2) I1 fresh born_keeps un2 hok2 os2 bare2 ea ed hd1
    exact ⟨rv, _, _, _, ⟨G, g2, d2, t2, os'⟩, _, .ref C, some d, rfl, J2, kG, ge, hoe, ⟨rfl, rfl, fun vs e => by cases e; rfl⟩, rfl, rfl, na, rfl, bare2, raises_own T.exC T.tyC, q2⟩
/-- by keywords alone -/
def tMkK (C : Addr) (ks : List Str) (sp : Sp) (tk : TA) : L2.St → Hp → XK → Prop := fun σ H Q => tk σ H fun vs H1 => vs.length = ks.length ∧ ∀ a, H1 a = none → sp (.ref a :: vs) (upd H1 a (exo a C none))
  (fun v H2 => v = .non ∧ ∃ (d : Addr) (fs : List (Str × V)), H2 a = some (exo a C (some d)) ∧ H2 d = some (exd d fs) ∧ H1 d = none ∧ Q (.ref C) (some d) (upd (del H2 a) d (.xd fs))) (fun _ _ _ => False)
theorem pmk_exKN {CX : CXT} (T : EClass X.K C) (iC : PySem.W.findIn X.K (.ref C) "__init__" = some (some (.ref fI))) (tI : PySem.W.typeIn X.K (.ref fI) = some (.type "function"))
    (F1 : FnOk X.prog X.w X.K X.mg X.base CX k fI fd ps sp) (hr : Room (k + 1) X.A) (hb : ∀ (s : Shared) (u : Value) (ws : List Value), ws.length = ks.length → BindsTo s fd ⟨[u], ks.zip ws⟩ (ps.zip (u :: ws))) (hx : Passes CX X (fun _ _ _ => False)) (hg : Gl X x) (hm : X.mg x = some (.ref C)) (hkw : PK X kws tk)
    (hall : (backToKw pos (keywordEach kws X.env)).all (·.1.isSome) = true := by rfl) (hks : (backToKw pos (keywordEach kws X.env)).filterMap (·.1) = ks := by rfl) (hdb : (x == ("__debug__" : Str)) = false := by decide)
    (hpl : ((backTo pos (starEach [] X.env)).any (·.1) || (backToKw pos (keywordEach kws X.env)).any (·.1.isNone)) = false := by rfl) :
    L2N.PMk X (.Call (.Name x p) [] kws pos) (tMkK C ks sp tk) := by
  intro pins s σ H Q I h
  refine wpAny_Call_Name_kw (ld_glob I hg hm ?_ hdb)
  refine PySem.W.callWith_KW0 (h₀ := X.base) I.ok.mod.kin T.kC hall ?_ hpl
  refine thn (hkw.run pos pins s σ H _ I h) fun ws s2 ⟨zs, H2, I2, rz, l, q2⟩ => ⟨I2.kIn, ?_⟩
  rw [hks]
  show wpAny _ _ (call (.ref C) [] (ks.zip ws)) _ _ _
  obtain ⟨hp, g, dr, t, os⟩ := s2
  have fresh : hp.objs.size ≤ hp.objs.size + 1 := Nat.le_succ _
  have hq := q2 (hp.objs.size + 1) (I2.hok.fresh fresh)
  have J : Inv X pins σ (upd H2 (hp.objs.size + 1) (exo (hp.objs.size + 1) C none)) ⟨born hp C [], g, dr, t, os⟩ := I2.laid (t' := t) (o := exo (hp.objs.size + 1) C none) born_keeps fresh (exo_ok born_at)
  have rv : Vals (V.ref (hp.objs.size + 1) :: zs) (Value.ref (hp.objs.size + 1) :: ws) := .cons rfl rz
  refine wpAny_call (kw_call T I2.kIn (by show 0 ≤ sizeLine; omega) iC tI (codeAny_mono (F1.run _ X.stack _ _ ⟨[Value.ref (hp.objs.size + 1)], ks.zip ws⟩ (Value.ref (hp.objs.size + 1) :: ws) _ _ (fun _ _ _ => False) (hr.make C [] (ks.zip ws)) (J.env0.make C [] (ks.zip ws)) (hb _ _ _ (rz.length.symm.trans l)) rv hq) fun r s' hq' => ?_))
  rcases r with er | (_ | _ | _ | u)
  · exact hx pins σ _ _ er s' J hq'
  · exact hq'.elim
  · exact hq'.elim
  · exact hq'.elim
  · obtain ⟨v, H3, os2, bare2, un2, hok2, rv, ev, d, fs, ea, ed, hd1, q3⟩ := hq'
    subst ev
    obtain ⟨h2, g2, d2, t2, os'⟩ := s'
    obtain ⟨t0, G, J2, kG, ge, hoe, na⟩ := mk_end0 (d2 := d2) (t2 := t2) I2 fresh born_keeps un2 hok2 os2 bare2 ea ed hd1
    exact ⟨rv, _, _, _, ⟨G, g2, d2, t2, os'⟩, _, .ref C, some d, rfl, J2, kG, ge, hoe, ⟨rfl, rfl, fun vs e => by cases e; rfl⟩, rfl, rfl, na, rfl, bare2, raises_own T.exC T.tyC, q3⟩
/-- C() of a class that has no __init__ of its own -/
theorem pmk_ex0N {bmB : List Value} {B newId initId : String} (F : ExcBaseFacts B newId initId bmB) (q : PySem.W.excIn X.K C bmB newId = true) (gC : X.mg x = some (.ref C)) (kC : PySem.W.keepIn X.K (.ref C) = true) (r : Raises X (.ref C)) (hg : Gl X x)
    (hdb : (x == ("__debug__" : Str)) = false := by decide) : L2N.PMk X (.Call (.Name x p) [] [] pos) (fun _ H Q => Q (.ref C) none H) := by
  intro pins s σ H Q I h
  refine wpAny_Call_Name_kw (ld_glob I hg gC ?_ hdb)
  refine PySem.W.callWith_K0 I.kIn kC ?_
  obtain ⟨bm, N, nm, qn, bs, hdct, sn, sub, ab, col, dd, k0, k1, k2, k3, k5, mN, hC, hN, hni, T⟩ := exc_obj I.kIn q
  refine wpAny_call_exc_subT F T hC hN hni (fun h' a hm => ?_) (by show 0 ≤ sizeLine; rw [sizeLine_eq]; omega)
  exact L2N.mk_of I hm r h (I.hok.gone hm.new)
end
/-! ### defs called within an except suite, the promise over the caught one -/
structure FnP (P : Program) (w : World) (K : PySem.W.Frag) (mg : Str → Option Value) (base : Heap) (CX : CXT) (k : Nat) (f : Addr) (fd : FuncData) (ps : List Str) (sp : List (Addr × Obj) → Sp) : Prop where
  len : ∀ p vs H Q E, sp p vs H Q E → vs.length = ps.length
  run : ∀ (A : Around) (outer : List Env) (s : Shared) (H : Hp) (args : Args) (us : List Value) (vs : List V) (Q : VK) (E : XK) (p : Addr × Obj), RoomH k A → Hot1 A p → PinOk outer H s p → Env0 P w K mg base A outer s H → BindsTo s fd args (ps.zip us) → Vals vs us → sp [p] vs H Q E →
    codeAny (model P w) A (.call (.ref f) args) (CR CX outer P w H s Q E) s
section
variable {P : Program} {w : World} {K : PySem.W.Frag} {mg : Str → Option Value} {base : Heap} {CX : CXT} {k : Nat} {x qual : Str} {params : Arguments} {body : List Stmt} {scope : Scope} {f : Addr} {fd : FuncData} {N ps : List Str} {sp : List (Addr × Obj) → Sp}
theorem okP (F : FunD K x qual params body scope [] [] f fd) (S : FnScope N ps scope) (len : ∀ p vs H Q E, sp p vs H Q E → vs.length = ps.length)
    (hbody : ∀ (cdv : Value) (A : Around) (outer : List Env) (s : Shared) (H : Hp) (vs : List V) (Q : VK) (E : XK) (p : Addr × Obj), Hot1 A p → RoomH k (A.deeper (envOfC qual scope s.heap.objs.size f cdv)) → sp [p] vs H Q E →
      ∃ t, PSs (cxH CX P w K mg base N qual scope f cdv A outer s H E p) body t ∧ t { nx := fun _ H' => Q .non H', rt := Q } (L2.start N vs) H) : FnP P w K mg base CX (k + 1) f fd ps sp := by
  obtain ⟨oc, od, dV, kV, doc, pm, an, cdv, ct, osl, rfl, lk, hcd, _, _⟩ := F.ex
  refine ⟨len, fun A outer s H args us vs Q E p hr hot hpin e0 hb r hsp => ?_⟩
  have hl := len _ _ _ _ _ hsp
  have KX : K.In s.heap := e0.mod.kin.keeps fun b o e => (e0.bs b o e).1
  have lim : s.heap.NoLimit := e0.mod.nolimit.keeps fun b o e => (e0.bs b o e).1
  have kinds : ∀ y ∈ ps.zip us, scope.names.lookup y.1 = some .local ∨ (scope.names.lookup y.1 = some .cell ∧ ((cellsFrom (s.heap.objs.size + 1) scope.names []).lookup y.1).isSome = true) := fun y hy =>
    (S.par y.1 (List.of_mem_zip (a := y.1) (b := y.2) hy).1).imp id fun q => ⟨q, PySem.W.cellsFrom_some _ _ _ (.inl q)⟩
  refine codeAny_call_function hr.depth (KX _ _ lk) rfl S.co S.gen rfl (PySem.W.codeRec_of KX hcd) (hb _ _ _ _ (wpAny_newFunctionEnv_cells S.kind kinds fun env he s1 x => ?_))
  subst he
  refine ⟨lim.keeps x.toInCall.keep, codeAny_func ?_⟩
  obtain ⟨t, ht, hq⟩ := hbody cdv A outer s H vs Q E p hot (hr.deeper _) hsp
  refine wpAny_mono (ht.run [] s1 (L2.start N vs) H _ (inv_startH S hpin e0 hl r x) hq) (fun fl s' hs => ?_) fun e s' hs => hs
  rcases fl with _ | _ | _ | u
  all_goals first
    | (obtain ⟨v, σ', H', J, rv, q⟩ := hs; exact ⟨v, H', J.os, J.bare, J.base, J.hok, rv, q⟩)
    | (obtain ⟨σ', H', J, q⟩ := hs; exact ⟨V.non, H', J.os, J.bare, J.base, J.hok, rfl, q⟩)
    | (obtain ⟨_, _, _, q⟩ := hs; exact q.elim)
end
/-- a def of the module as it answers there -/
structure DfP (P : Program) (w : World) (K : PySem.W.Frag) (mg : Str → Option Value) (base : Heap) (CX : CXT) (k : Nat) (x : Str) (ps : List Str) (sp : List (Addr × Obj) → Sp) : Prop where
  ex : ∃ fd, FnP P w K mg base CX k (He.ga K x) fd ps sp ∧ Binds K fd ps []
  gm : mg x = some (.ref (He.ga K x))
  kp : PySem.W.keepIn K (.ref (He.ga K x)) = true
section
variable {P : Program} {w : World} {K : PySem.W.Frag} {mg : Str → Option Value} {base : Heap} {CX : CXT} {k : Nat} {x : Str} {N ps : List Str} {sp : List (Addr × Obj) → Sp} {st : Stmt}
theorem dfP_of (A : At K mg x st) (S : FnScope N ps (defScope st))
    (hb : ∀ (kV doc pm : Value) (an : Option Addr) (cdv ct : Value) (us : List Value), us.length = ps.length → bindArgs (PySem.W.fnOf x x (defArgs st) (defBody st) (defScope st) .none kV doc pm an cdv ct) ⟨us, []⟩ = pure (ps.zip us))
    (len : ∀ p vs H Q E, sp p vs H Q E → vs.length = ps.length)
    (hbody : ∀ (f : Addr) (cdv : Value) (A : Around) (outer : List Env) (s : Shared) (H : Hp) (vs : List V) (Q : VK) (E : XK) (p : Addr × Obj), Hot1 A p → RoomH k (A.deeper (envOfC x (defScope st) s.heap.objs.size f cdv)) → sp [p] vs H Q E →
      ∃ t, PSs (cxH CX P w K mg base N x (defScope st) f cdv A outer s H E p) (defBody st) t ∧ t { nx := fun _ H' => Q .non H', rt := Q } (L2.start N vs) H) : DfP P w K mg base CX (k + 1) x ps sp := by
  obtain ⟨fd, F⟩ := A.fn
  exact ⟨⟨fd, okP F S len fun cdv A outer s H vs Q E p hot hr h => hbody _ cdv A outer s H vs Q E p hot hr h, F.bindsN hb⟩, A.gm, F.kp⟩
end
section
variable {X : Cx} {k : Nat} {x : Str} {ps : List Str} {sp : List (Addr × Obj) → Sp} {q pos : Pos} {e : Expr} {es : List Expr} {t : TA}
theorem pe_dfP {p : Addr × Obj} (D : DfP X.prog X.w X.K X.mg X.base CX0 k x ps sp) (hr : RoomH k X.A) (hot : Hot1 X.A p) (hp : p ∈ X.pn) (ha : PA X (e :: es) t) (hg : Gl X x := by rfl) (hdb : (x == ("__debug__" : Str)) = false := by decide)
    (he : starEach (e :: es) X.env = (false, eval e X.env) :: starEach es X.env := by rfl) (hpl : (backTo pos (starEach es X.env)).any (·.1) = false := by rfl) : PE X (.Call (.Name x q) (e :: es) [] pos) (tCall (sp [p]) [] E0 t) := by
  obtain ⟨fd, F, b⟩ := D.ex
  refine ⟨fun pins s σ H Q I h => wpAny_Call_Name_kw (ld_glob I hg D.gm ?_ hdb)⟩
  refine PySem.W.callWith_K (h₀ := X.base) I.ok.mod.kin D.kp (thn (ha.run pos pins s σ H _ I h) fun us s1 ⟨vs, H1, I1, r, q1⟩ => ⟨I1.kIn, ?_⟩) he hpl
  have q1' : sp [p] vs H1 Q E0 := by
    have z : sp [p] (vs ++ []) H1 Q E0 := q1
    rw [List.append_nil] at z
    exact z
  have hl : us.length = ps.length := r.length.symm.trans (F.len _ _ _ _ _ q1')
  have bd := b s1 us I1.kIn (by rw [List.append_nil]; exact hl)
  rw [List.append_nil] at bd
  have P1 := I1.pin p (List.mem_append_left _ hp)
  have hpin : PinOk X.stack H1 s1 p := ⟨P1.1, P1.2.1, fun hm => (List.mem_cons.mp (I1.stkSub p.1 hm)).elim P1.2.2.1 P1.2.2.2.1, P1.2.2.2.2⟩
  refine wpAny_call (codeAny_mono (F.run X.A X.stack s1 H1 ⟨us, []⟩ us vs Q E0 p hr hot hpin I1.env0 bd r q1') fun r s' hq => ?_)
  rcases r with er | (_ | _ | _ | u)
  · exact pass0 pins σ H1 s1 er s' I1 hq
  · exact hq.elim
  · exact hq.elim
  · exact hq.elim
  · exact I1.after hq
end
end EqX

set_option Elab.async false
set_option linter.all false
set_option maxRecDepth 100000
set_option maxHeartbeats 4000000
/-! Values told by what holds of them in any later state: own errors, rows of them. -/
namespace EqX
open PySem PySem.Spec PyProof.Rows L2 PySem.EqX
abbrev VS := V → Hp → Prop
def Stab (S : VS) : Prop := ∀ v H H', Same H H' → S v H → S v H'
/-- one after another -/
def AllS : List VS → List V → Hp → Prop
  | [], [], _ => True
  | S :: Ss, v :: vs, H => S v H ∧ AllS Ss vs H
  | _, _, _ => False
theorem AllS.same {H H' : Hp} (s : Same H H') : ∀ {Ss : List VS} {vs : List V}, (∀ S ∈ Ss, Stab S) → AllS Ss vs H → AllS Ss vs H'
  | [], [], _, _ => trivial
  | [], _ :: _, _, h => h.elim
  | _ :: _, [], _, h => h.elim
  | _ :: _, _ :: _, st, h => ⟨st _ List.mem_cons_self _ _ _ s h.1, AllS.same s (fun S m => st S (List.mem_cons_of_mem _ m)) h.2⟩
theorem AllS.len {H : Hp} : ∀ {Ss : List VS} {vs : List V}, AllS Ss vs H → vs.length = Ss.length
  | [], [], _ => rfl
  | [], _ :: _, h => h.elim
  | _ :: _, [], h => h.elim
  | _ :: _, _ :: _, h => congrArg Nat.succ (AllS.len h.2)
theorem AllS.get {H : Hp} : ∀ {Ss : List VS} {vs : List V} {i : Nat} {v : V}, AllS Ss vs H → vs[i]? = some v → ∃ S, Ss[i]? = some S ∧ S v H
  | [], [], _, _, _, e => by simp at e
  | [], _ :: _, _, _, h, _ => h.elim
  | _ :: _, [], _, _, h, _ => h.elim
  | S :: _, _ :: _, 0, _, h, e => ⟨S, rfl, by cases e; exact h.1⟩
  | _ :: _, _ :: _, i + 1, _, h, e => AllS.get (i := i) h.2 e
theorem AllS.app {H : Hp} : ∀ {Ss Ts : List VS} {vs us : List V}, AllS Ss vs H → AllS Ts us H → AllS (Ss ++ Ts) (vs ++ us) H
  | [], _, [], _, _, h => h
  | [], _, _ :: _, _, h, _ => h.elim
  | _ :: _, _, [], _, h, _ => h.elim
  | _ :: _, _, _ :: _, _, h, g => ⟨h.1, AllS.app h.2 g⟩
/-- from H on, te gives something of which S holds -/
def Gv (te : TE) (σ : L2.St) (H : Hp) (S : VS) : Prop := ∀ (H0 : Hp) (Q : VK), Same H H0 → (∀ v H1, Same H0 H1 → S v H1 → Q v H1) → te σ H0 Q
def GvA (ta : TA) (σ : L2.St) (H : Hp) (Ss : List VS) : Prop := ∀ (H0 : Hp) (Q : List V → Hp → Prop), Same H H0 → (∀ vs H1, Same H0 H1 → AllS Ss vs H1 → Q vs H1) → ta σ H0 Q
theorem same_new {H : Hp} {p : Addr} {o : HO} (hp : H p = none) : Same H (upd H p o) := fun b ob e => by
  rw [upd_ne (fun z => by rw [z, hp] at e; cases e)]
  exact e
/-- a tracked list with such items -/
def LstS (Ss : List VS) : VS := fun v H => ∃ a xs, v = .ref a ∧ H a = some (.lst xs) ∧ AllS Ss xs H
/-- just this value -/
def Is (x : V) : VS := fun v _ => v = x
/-- an exception of the class at C with one field -/
def Ex1 (C : Addr) (f : Str) (S : VS) : VS := fun v H => ∃ a d u, v = .ref a ∧ H a = some (exo a C (some d)) ∧ H d = some (exd d [(f, u)]) ∧ S u H
def Ex2 (C : Addr) (S S' : VS) : VS := fun v H => ∃ a d u u', v = .ref a ∧ H a = some (exo a C (some d)) ∧ H d = some (exd d [(fWord, u'), (fRow, u)]) ∧ S u H ∧ S' u' H
def Ex0 (C : Addr) : VS := fun v H => ∃ a, v = .ref a ∧ H a = some (exo a C none)
theorem stab_is {x : V} : Stab (Is x) := fun _ _ _ _ h => h
theorem stab_lst {Ss : List VS} (st : ∀ S ∈ Ss, Stab S) : Stab (LstS Ss) := fun _ _ _ s ⟨a, xs, e, h, q⟩ => ⟨a, xs, e, s _ _ h, q.same s st⟩
theorem stab_ex1 {C : Addr} {f : Str} {S : VS} (st : Stab S) : Stab (Ex1 C f S) := fun _ _ _ s ⟨a, d, u, e, h1, h2, q⟩ => ⟨a, d, u, e, s _ _ h1, s _ _ h2, st _ _ _ s q⟩
theorem stab_ex2 {C : Addr} {S S' : VS} (st : Stab S) (st' : Stab S') : Stab (Ex2 C S S') := fun _ _ _ s ⟨a, d, u, u', e, h1, h2, q, q'⟩ => ⟨a, d, u, u', e, s _ _ h1, s _ _ h2, st _ _ _ s q, st' _ _ _ s q'⟩
theorem stab_ex0 {C : Addr} : Stab (Ex0 C) := fun _ _ _ s ⟨a, e, h⟩ => ⟨a, e, s _ _ h⟩
section
variable {K : PySem.W.Frag} {σ : L2.St} {H : Hp} {te : TE} {ta : TA} {S S' : VS} {Ss : List VS} {i : Nat} {v : V} {C : Addr} {f : Str}
theorem gv_var (h : σ[i]? = some (some v)) : Gv (tVar i) σ H (Is v) := fun H0 Q s q => ⟨v, h, q v H0 (Same.refl _) rfl⟩
theorem gv_c : Gv (tC v) σ H (Is v) := fun H0 Q s q => q v H0 (Same.refl _) rfl
theorem gva_nil : GvA tNil σ H [] := fun H0 Q s q => q [] H0 (Same.refl _) trivial
theorem gva_cons (h : Gv te σ H S) (st : Stab S) (hr : GvA ta σ H Ss) : GvA (tCons te ta) σ H (S :: Ss) := fun H0 Q s q =>
  h H0 _ s fun v H1 s1 h1 => hr H1 _ (s.trans s1) fun vs H2 s2 h2 => q (v :: vs) H2 (s1.trans s2) ⟨st _ _ _ s2 h1, h2⟩
theorem gv_lst (h : GvA ta σ H Ss) (st : ∀ S ∈ Ss, Stab S) (n : Ss.length ≤ 1000) : Gv (tLst ta) σ H (LstS Ss) := fun H0 Q s q =>
  h H0 _ s fun vs H1 s1 h1 => ⟨by rw [h1.len]; exact Nat.le_trans n (by decide), fun p hp => q _ _ (s1.trans (same_new hp)) ⟨p, vs, rfl, upd_same, h1.same (same_new hp) st⟩⟩
theorem same_exc {H : Hp} {a d : Addr} {fs : List (Str × V)} (ha : H a = none) (hd : upd H a (exo a C none) d = none) (ne : d ≠ a) : Same H (upd (upd (upd H a (exo a C none)) d (exd d fs)) a (exo a C (some d))) := fun b o e => by
  have n1 : b ≠ a := fun z => by rw [z, ha] at e; cases e
  have n2 : b ≠ d := fun z => by
    rw [upd_ne ne] at hd
    rw [z, hd] at e
    cases e
  rw [upd_ne n1, upd_ne n2, upd_ne n1]
  exact e
theorem gv_exV (h : GvA ta σ H [S]) (st : Stab S) : Gv (tExV C (spIni1 C f) ta) σ H (Ex1 C f S) := fun H0 Q s q =>
  h H0 _ s fun vs H1 s1 h1 => by
    match vs, h1 with
    | [u], ⟨hu, _⟩ =>
      refine ⟨by show 1 ≤ 1000; decide, fun a ha => ⟨a, u, rfl, upd_same, fun d hd ne => ⟨rfl, ?_⟩⟩⟩
      have sm := same_exc (C := C) (fs := [(f, u)]) ha hd ne
      exact q _ _ (s1.trans sm) ⟨a, d, u, rfl, upd_same, by rw [upd_ne ne, upd_same], st _ _ _ sm hu⟩
theorem gv_exK (h : GvA ta σ H [S]) (st : Stab S) : Gv (tExK C [f] (spIni1 C f) ta) σ H (Ex1 C f S) := fun H0 Q s q =>
  h H0 _ s fun vs H1 s1 h1 => by
    match vs, h1 with
    | [u], ⟨hu, _⟩ =>
      refine ⟨rfl, fun a ha => ⟨a, u, rfl, upd_same, fun d hd ne => ⟨rfl, ?_⟩⟩⟩
      have sm := same_exc (C := C) (fs := [(f, u)]) ha hd ne
      exact q _ _ (s1.trans sm) ⟨a, d, u, rfl, upd_same, by rw [upd_ne ne, upd_same], st _ _ _ sm hu⟩
theorem gv_exV2 (h : GvA ta σ H [S, S']) (st : Stab S) (st' : Stab S') : Gv (tExV C (spIni2 C) ta) σ H (Ex2 C S S') := fun H0 Q s q =>
  h H0 _ s fun vs H1 s1 h1 => by
    match vs, h1 with
    | [u, u'], ⟨hu, hu', _⟩ =>
      refine ⟨by show 2 ≤ 1000; decide, fun a ha => ⟨a, u, u', rfl, upd_same, fun d hd ne => ⟨rfl, ?_⟩⟩⟩
      have sm := same_exc (C := C) (fs := [(fWord, u'), (fRow, u)]) ha hd ne
      exact q _ _ (s1.trans sm) ⟨a, d, u, u', rfl, upd_same, by rw [upd_ne ne, upd_same], st _ _ _ sm hu, st' _ _ _ sm hu'⟩
theorem gv_exK2 (h : GvA ta σ H [S, S']) (st : Stab S) (st' : Stab S') : Gv (tExK C [fRow, fWord] (spIni2 C) ta) σ H (Ex2 C S S') := fun H0 Q s q =>
  h H0 _ s fun vs H1 s1 h1 => by
    match vs, h1 with
    | [u, u'], ⟨hu, hu', _⟩ =>
      refine ⟨rfl, fun a ha => ⟨a, u, u', rfl, upd_same, fun d hd ne => ⟨rfl, ?_⟩⟩⟩
      have sm := same_exc (C := C) (fs := [(fWord, u'), (fRow, u)]) ha hd ne
      exact q _ _ (s1.trans sm) ⟨a, d, u, u', rfl, upd_same, by rw [upd_ne ne, upd_same], st _ _ _ sm hu, st' _ _ _ sm hu'⟩
def tEx0 (C : Addr) : TE := fun _ H Q => ∀ a, H a = none → Q (.ref a) (upd H a (exo a C none))
theorem gv_ex0 : Gv (tEx0 C) σ H (Ex0 C) := fun H0 Q s q a ha => q _ _ (same_new ha) ⟨a, rfl, upd_same⟩
/-- raised: its dict stands as an exception's dict -/
theorem same_rais {H H2 : Hp} {a d : Addr} {fs : List (Str × V)} (ha : H a = none) (hd : upd H a (exo a C none) d = none) (ne : d ≠ a) :
    Same H (upd (del (upd (upd (upd H a (exo a C none)) d (exd d fs)) a (exo a C (some d))) a) d (.xd fs)) := fun b o e => by
  have n1 : b ≠ a := fun z => by rw [z, ha] at e; cases e
  have n2 : b ≠ d := fun z => by
    rw [upd_ne ne] at hd
    rw [z, hd] at e
    cases e
  rw [upd_ne n2, del_ne n1, upd_ne n1, upd_ne n2, upd_ne n1]
  exact e
theorem ra_exV {W : XK} (h : GvA ta σ H [S]) (q : ∀ d fs H1, Same H H1 → H1 d = some (.xd fs) → W (.ref C) (some d) H1) : tMkO C (spIni1 C f) [] ta σ H W :=
  h H _ (Same.refl _) fun vs H1 s1 h1 => by
    match vs, h1 with
    | [u], ⟨hu, _⟩ =>
      refine ⟨by show 1 ≤ 1000; decide, fun a ha => ⟨a, u, rfl, upd_same, fun d hd ne => ⟨rfl, d, [(f, u)], upd_same, by rw [upd_ne ne, upd_same], ?_, ?_⟩⟩⟩
      · rw [upd_ne ne] at hd
        exact hd
      · exact q d _ _ (s1.trans (same_rais (H2 := H1) ha hd ne)) upd_same
theorem ra_exK {W : XK} (h : GvA ta σ H [S]) (q : ∀ d fs H1, Same H H1 → H1 d = some (.xd fs) → W (.ref C) (some d) H1) : tMkK C [f] (spIni1 C f) ta σ H W :=
  h H _ (Same.refl _) fun vs H1 s1 h1 => by
    match vs, h1 with
    | [u], ⟨hu, _⟩ =>
      refine ⟨rfl, fun a ha => ⟨a, u, rfl, upd_same, fun d hd ne => ⟨rfl, d, [(f, u)], upd_same, by rw [upd_ne ne, upd_same], ?_, ?_⟩⟩⟩
      · rw [upd_ne ne] at hd
        exact hd
      · exact q d _ _ (s1.trans (same_rais (H2 := H1) ha hd ne)) upd_same
theorem ra_exK2 {W : XK} (h : GvA ta σ H [S, S']) (q : ∀ d fs H1, Same H H1 → H1 d = some (.xd fs) → W (.ref C) (some d) H1) : tMkK C [fRow, fWord] (spIni2 C) ta σ H W :=
  h H _ (Same.refl _) fun vs H1 s1 h1 => by
    match vs, h1 with
    | [u, u'], ⟨hu, hu', _⟩ =>
      refine ⟨rfl, fun a ha => ⟨a, u, u', rfl, upd_same, fun d hd ne => ⟨rfl, d, [(fWord, u'), (fRow, u)], upd_same, by rw [upd_ne ne, upd_same], ?_, ?_⟩⟩⟩
      · rw [upd_ne ne] at hd
        exact hd
      · exact q d _ _ (s1.trans (same_rais (H2 := H1) ha hd ne)) upd_same
end
/-! ### the classes as they stand behind the top -/
structure Own1 (P : Program) (w : World) (K : PySem.W.Frag) (mg : Str → Option Value) (base : Heap) (x f : Str) : Prop where
  gm : mg x = some (.ref (He.ga K x))
  T : EClass K (He.ga K x)
  fn : ∃ fI fd, PySem.W.findIn K (.ref (He.ga K x)) "__init__" = some (some (.ref fI)) ∧ PySem.W.typeIn K (.ref fI) = some (.type "function") ∧ (∀ k, FnOk P w K mg base CX0 k fI fd ["self", f] (spIni1 (He.ga K x) f)) ∧ Binds K fd ["self", f] [] ∧
    ∀ (s : Shared) (u : Value) (ws : List Value), ws.length = [f].length → BindsTo s fd ⟨[u], [f].zip ws⟩ ((["self", f] : List Str).zip (u :: ws))
structure Own2 (P : Program) (w : World) (K : PySem.W.Frag) (mg : Str → Option Value) (base : Heap) (x : Str) : Prop where
  gm : mg x = some (.ref (He.ga K x))
  T : EClass K (He.ga K x)
  fn : ∃ fI fd, PySem.W.findIn K (.ref (He.ga K x)) "__init__" = some (some (.ref fI)) ∧ PySem.W.typeIn K (.ref fI) = some (.type "function") ∧ (∀ k, FnOk P w K mg base CX0 k fI fd ["self", fRow, fWord] (spIni2 (He.ga K x))) ∧ Binds K fd ["self", fRow, fWord] [] ∧
    ∀ (s : Shared) (u : Value) (ws : List Value), ws.length = [fRow, fWord].length → BindsTo s fd ⟨[u], [fRow, fWord].zip ws⟩ ((["self", fRow, fWord] : List Str).zip (u :: ws))
structure Own0 (K : PySem.W.Frag) (mg : Str → Option Value) (x : Str) : Prop where
  gm : mg x = some (.ref (He.ga K x))
  ok : PySem.W.excIn K (He.ga K x) PySem.HandSPX.veTail "ValueError.__new__" = true
  kp : PySem.W.keepIn K (.ref (He.ga K x)) = true
  exC : PySem.W.subIn K (.ref (He.ga K x)) (.type "BaseException") = some true
  tyC : PySem.W.typeIn K (.ref (He.ga K x)) = some (.type "type")
section
variable {X : Cx} {e : Expr} {ta : TA} {p pos kpos : Pos} {x f : Str} {k : Nat} {es : List Expr} {kws : List Keyword}
theorem pe_own1 (O : Own1 X.prog X.w X.K X.mg X.base x f) (hr : Room (k + 1) X.A) (ha : PA X [e] ta) (hg : Gl X x := by rfl) (hdb : (x == ("__debug__" : Str)) = false := by decide) (he : starEach [e] X.env = (false, eval e X.env) :: starEach [] X.env := by rfl) :
    PE X (.Call (.Name x p) [e] [] pos) (tExV (He.ga X.K x) (spIni1 (He.ga X.K x) f) ta) := by
  obtain ⟨fI, fd, i, t, F, b, _⟩ := O.fn
  exact pe_exV (EClass.oex O.T) i t (F k) hr b pass0 hg O.gm ha hdb he rfl
theorem pe_own1K (O : Own1 X.prog X.w X.K X.mg X.base x f) (hr : Room (k + 1) X.A) (ha : PE X e te) (hg : Gl X x := by rfl) (hdb : (x == ("__debug__" : Str)) = false := by decide) :
    PE X (.Call (.Name x p) [] [⟨some f, e, kpos⟩] pos) (tExK (He.ga X.K x) [f] (spIni1 (He.ga X.K x) f) (tCons te tNil)) := by
  obtain ⟨fI, fd, i, t, F, _, b⟩ := O.fn
  exact pe_exK O.T i t (F k) hr b pass0 hg O.gm (pk_cons ha pk_nil) rfl rfl hdb rfl
theorem pe_own2 {e' : Expr} (O : Own2 X.prog X.w X.K X.mg X.base x) (hr : Room (k + 1) X.A) (ha : PA X [e, e'] ta) (hg : Gl X x := by rfl) (hdb : (x == ("__debug__" : Str)) = false := by decide) (he : starEach [e, e'] X.env = (false, eval e X.env) :: starEach [e'] X.env := by rfl)
    (hpl : (backTo pos (starEach [e'] X.env)).any (·.1) = false := by rfl) : PE X (.Call (.Name x p) [e, e'] [] pos) (tExV (He.ga X.K x) (spIni2 (He.ga X.K x)) ta) := by
  obtain ⟨fI, fd, i, t, F, b, _⟩ := O.fn
  exact pe_exV (EClass.oex O.T) i t (F k) hr b pass0 hg O.gm ha hdb he hpl
theorem pe_own2K {e' : Expr} {te te' : TE} {kpos' : Pos} (O : Own2 X.prog X.w X.K X.mg X.base x) (hr : Room (k + 1) X.A) (ha : PE X e te) (ha' : PE X e' te') (hg : Gl X x := by rfl) (hdb : (x == ("__debug__" : Str)) = false := by decide) :
    PE X (.Call (.Name x p) [] [⟨some fRow, e, kpos⟩, ⟨some fWord, e', kpos'⟩] pos) (tExK (He.ga X.K x) [fRow, fWord] (spIni2 (He.ga X.K x)) (tCons te (tCons te' tNil))) := by
  obtain ⟨fI, fd, i, t, F, _, b⟩ := O.fn
  exact pe_exK O.T i t (F k) hr b pass0 hg O.gm (pk_cons ha (pk_cons ha' pk_nil)) rfl rfl hdb rfl
theorem pe_own0 (O : Own0 X.K X.mg x) (hg : Gl X x := by rfl) (hdb : (x == ("__debug__" : Str)) = false := by decide) : PE X (.Call (.Name x p) [] [] pos) (tEx0 (He.ga X.K x)) := pe_exc0 F.excBase_ValueError O.ok O.gm O.kp hg hdb
theorem pm_own1 (O : Own1 X.prog X.w X.K X.mg X.base x f) (hr : Room (k + 1) X.A) (ha : PA X [e] ta) (hg : Gl X x := by rfl) (hdb : (x == ("__debug__" : Str)) = false := by decide) (he : starEach [e] X.env = (false, eval e X.env) :: starEach [] X.env := by rfl) :
    L2N.PMk X (.Call (.Name x p) [e] [] pos) (tMkO (He.ga X.K x) (spIni1 (He.ga X.K x) f) [] ta) := by
  obtain ⟨fI, fd, i, t, F, b, _⟩ := O.fn
  exact pmk_exN (EClass.oex O.T) i t (F k) hr b pass0 hg O.gm ha hdb he rfl
theorem pm_own1K (O : Own1 X.prog X.w X.K X.mg X.base x f) (hr : Room (k + 1) X.A) (ha : PE X e te) (hg : Gl X x := by rfl) (hdb : (x == ("__debug__" : Str)) = false := by decide) :
    L2N.PMk X (.Call (.Name x p) [] [⟨some f, e, kpos⟩] pos) (tMkK (He.ga X.K x) [f] (spIni1 (He.ga X.K x) f) (tCons te tNil)) := by
  obtain ⟨fI, fd, i, t, F, _, b⟩ := O.fn
  exact pmk_exKN O.T i t (F k) hr b pass0 hg O.gm (pk_cons ha pk_nil) rfl rfl hdb rfl
theorem pm_own2K {e' : Expr} {te te' : TE} {kpos' : Pos} (O : Own2 X.prog X.w X.K X.mg X.base x) (hr : Room (k + 1) X.A) (ha : PE X e te) (ha' : PE X e' te') (hg : Gl X x := by rfl) (hdb : (x == ("__debug__" : Str)) = false := by decide) :
    L2N.PMk X (.Call (.Name x p) [] [⟨some fRow, e, kpos⟩, ⟨some fWord, e', kpos'⟩] pos) (tMkK (He.ga X.K x) [fRow, fWord] (spIni2 (He.ga X.K x)) (tCons te (tCons te' tNil))) := by
  obtain ⟨fI, fd, i, t, F, _, b⟩ := O.fn
  exact pmk_exKN O.T i t (F k) hr b pass0 hg O.gm (pk_cons ha (pk_cons ha' pk_nil)) rfl rfl hdb rfl
theorem pm_own0 (O : Own0 X.K X.mg x) (hg : Gl X x := by rfl) (hdb : (x == ("__debug__" : Str)) = false := by decide) : L2N.PMk X (.Call (.Name x p) [] [] pos) (fun _ H Q => Q (.ref (He.ga X.K x)) none H) := pmk_ex0N F.excBase_ValueError O.ok O.gm O.kp (raises_own O.exC O.tyC) hg hdb
/-! raise of them -/
theorem rs_own1 {W : WX} {pos' : Pos} (tk : L2N.Takes X W) (O : Own1 X.prog X.w X.K X.mg X.base x f) (hr : Room (k + 1) X.A) (ha : PA X [e] ta) (hc : X.calm = true := by rfl) (hg : Gl X x := by rfl) (hdb : (x == ("__debug__" : Str)) = false := by decide) (he : starEach [e] X.env = (false, eval e X.env) :: starEach [] X.env := by rfl) :
    PS X (.Raise (some (.Call (.Name x p) [e] [] pos)) none pos') (fun _ σ H => tMkO (He.ga X.K x) (spIni1 (He.ga X.K x) f) [] ta σ H fun cls d H' => W cls d σ H') := L2N.ps_raise hc tk (pm_own1 O hr ha hg hdb he)
theorem rs_own1K {W : WX} {pos' : Pos} (tk : L2N.Takes X W) (O : Own1 X.prog X.w X.K X.mg X.base x f) (hr : Room (k + 1) X.A) (ha : PE X e te) (hc : X.calm = true := by rfl) (hg : Gl X x := by rfl) (hdb : (x == ("__debug__" : Str)) = false := by decide) :
    PS X (.Raise (some (.Call (.Name x p) [] [⟨some f, e, kpos⟩] pos)) none pos') (fun _ σ H => tMkK (He.ga X.K x) [f] (spIni1 (He.ga X.K x) f) (tCons te tNil) σ H fun cls d H' => W cls d σ H') := L2N.ps_raise hc tk (pm_own1K O hr ha hg hdb)
theorem rs_own2K {W : WX} {pos' : Pos} {e' : Expr} {te te' : TE} {kpos' : Pos} (tk : L2N.Takes X W) (O : Own2 X.prog X.w X.K X.mg X.base x) (hr : Room (k + 1) X.A) (ha : PE X e te) (ha' : PE X e' te') (hc : X.calm = true := by rfl) (hg : Gl X x := by rfl) (hdb : (x == ("__debug__" : Str)) = false := by decide) :
    PS X (.Raise (some (.Call (.Name x p) [] [⟨some fRow, e, kpos⟩, ⟨some fWord, e', kpos'⟩] pos)) none pos') (fun _ σ H => tMkK (He.ga X.K x) [fRow, fWord] (spIni2 (He.ga X.K x)) (tCons te (tCons te' tNil)) σ H fun cls d H' => W cls d σ H') := L2N.ps_raise hc tk (pm_own2K O hr ha ha' hg hdb)
theorem rs_own0 {W : WX} {pos' : Pos} (tk : L2N.Takes X W) (O : Own0 X.K X.mg x) (hc : X.calm = true := by rfl) (hg : Gl X x := by rfl) (hdb : (x == ("__debug__" : Str)) = false := by decide) :
    PS X (.Raise (some (.Call (.Name x p) [] [] pos)) none pos') (fun _ σ H => W (.ref (He.ga X.K x)) none σ H) := L2N.ps_raise hc tk (pm_own0 O hg hdb)
end
end EqX

set_option Elab.async false
set_option linter.all false
set_option maxRecDepth 100000
set_option maxHeartbeats 4000000
/-! The end of a law whose defs show things: no repr is around at the caller. -/
namespace EqX
open PySem PySem.Spec PyProof.Rows L2
section
variable {P : Program} {w : World} {K : PySem.W.Frag} {mg mb : Str → Option Value} {k : Nat} {fa a : Addr} {fd : FuncData} {x : Str} {sp : Sp} {s : Shared} {vs : List Value} {H : Hp}
abbrev EndOk (s : Shared) : Result → Shared → Prop := fun r s' => r = .ok (.ret (.bool true)) ∧ PySem.OldK s.heap s'.heap ∧ s'.os = s.os ∧ AllBare s'.gens
/-- from a tracked heap that holds at most the script -/
theorem end_at (KX : K.In s.heap) (hns : s.heap.Ns mainGlobals mg) (hb : s.heap.Ns builtinsNs mb) (hbb : ∀ x : Str, x ≠ "__name__" → mb x = bootBuiltins x) (hlim : s.heap.NoLimit) (hg : s.gens = #[])
    (ha : s.heap.get? a = some { cls := .type "list", data := .seq vs.toArray }) (hr : Room k callerA)
    (F : ∀ base : Heap, K.In base → base.Ns mainGlobals mg → ∃ fd, FnG P w K mg base CX0 k fa fd [x] sp ∧ Binds K fd [x] [])
    (only : Only H) (at_ : ∀ b o, H b = some o → b = a ∧ K.lookup a = none) (hok : HOk P w H s.heap) (hsp : sp [.ref a] H (fun v _ => v = .bl true) fun _ _ _ => False) :
    codeAny (model P w) callerA (.call (.ref fa) ⟨[.ref a], []⟩) (EndOk s) s := by
  have seen : ∀ {b : Addr} {o : Obj}, s.heap.get? b = some o → (b = a → K.lookup a = none → False) → (hidT s.heap H).get? b = some o := fun {b o} e no => hidT_get e (by
    cases q : H b with
    | none => rfl
    | some u => exact (no (at_ b u q).1 (at_ b u q).2).elim)
  have kb : K.In (hidT s.heap H) := fun b o e => seen (KX b o e) fun z n => by
    rw [z, n] at e
    cases e
  have ns : ∀ {b : Addr} {m : Str → Option Value}, s.heap.Ns b m → (hidT s.heap H).Ns b m := fun {b m} ⟨o, es, ep, e, d, r⟩ => by
    have no : b = a → K.lookup a = none → False := fun z _ => by
      rw [z, ha] at e
      cases e
      cases d
    exact ⟨o, es, ep, seen e no, d, r⟩
  have md : Mod K mg (hidT s.heap H) := ⟨kb, ns hns, ⟨mb, ns hb, hbb⟩, hlim.elim fun mc h => ⟨mc, ns h.1, h.2⟩⟩
  have e0 : Env0 P w K mg (hidT s.heap H) callerA [] s H := ⟨rfl, md, fun b o e => of_hidT e, Nat.le_of_eq (hidT_size _ _), trivial, fun b (hb : b ∈ ([] : List Addr)) => absurd hb List.not_mem_nil, hok, .of_eq hg⟩
  obtain ⟨fd, G, bd⟩ := F _ kb (ns hns)
  refine codeAny_mono (G.run callerA [] s H ⟨[.ref a], []⟩ [.ref a] [.ref a] _ _ hr rfl e0 (bd s [.ref a] KX rfl) (.cons rfl .nil) hsp) fun r s' h => ?_
  rcases r with e | (_ | _ | _ | u)
  · exact h.elim
  · exact h.elim
  · exact h.elim
  · exact h.elim
  · obtain ⟨v, H', os, bare, un, hok', rv, q⟩ := h
    subst q
    obtain rfl : u = Value.bool true := rv
    refine ⟨rfl, OldK.of_keep fun b o e => ?_, os, bare⟩
    rcases only b with z | ⟨ob, xs, z⟩
    · exact un.keep b o e z (fun y => by cases y) (fun y => by cases y)
    · have e1 := (hok b _ z).1
      rw [e] at e1
      cases e1
      exact (hok' b _ (un.frzs b _ _ z)).1
theorem end_call {ns : List Int} (KX : K.In s.heap) (hns : s.heap.Ns mainGlobals mg) (hb : s.heap.Ns builtinsNs mb) (hbb : ∀ x : Str, x ≠ "__name__" → mb x = bootBuiltins x) (hlim : s.heap.NoLimit) (hg : s.gens = #[])
    (ha : s.heap.get? a = some { cls := .type "list", data := .seq vs.toArray }) (hi : IntsAre vs ns) (hl : ns.length ≤ sizeLine) (hr : Room k callerA)
    (F : ∀ base : Heap, K.In base → base.Ns mainGlobals mg → ∃ fd, FnG P w K mg base CX0 k fa fd [x] sp ∧ Binds K fd [x] [])
    (hsp : ∀ H : Hp, Only H → SqL K H a (ns.map V.int) → sp [.ref a] H (fun v _ => v = .bl true) fun _ _ _ => False) :
    codeAny (model P w) callerA (.call (.ref fa) ⟨[.ref a], []⟩) (EndOk s) s := by
  have rv := vals_ints hi
  cases hk : K.lookup a with
  | some o =>
    have e := (KX a o hk).symm.trans ha
    cases e
    have o0 : Only fun _ => none := fun _ => .inl rfl
    have S0 : SqL K (fun _ => none) a (ns.map V.int) := .inr ⟨_, vs.toArray, _, hk, rfl, rfl, rfl, by rw [List.size_toArray, hi.length]; exact hl, by simpa using rv⟩
    exact end_at KX hns hb hbb hlim hg ha hr F o0 (fun b u z => nomatch z) (fun b u z => nomatch z) (hsp _ o0 S0)
  | none =>
    have is : ∀ {b : Addr} {u : HO}, (if b = a then some (HO.frz { cls := .type "list", data := .seq vs.toArray } (.lst (ns.map V.int))) else none) = some u → b = a ∧ u = .frz { cls := .type "list", data := .seq vs.toArray } (.lst (ns.map V.int)) := fun {b u} z => by
      split at z
      · rename_i h
        exact ⟨h, (Option.some.inj z).symm⟩
      · cases z
    have o1 : Only fun b => if b = a then some (.frz { cls := .type "list", data := .seq vs.toArray } (.lst (ns.map V.int))) else none := fun b => (Decidable.em (b = a)).elim (fun h => .inr ⟨_, _, if_pos h⟩) fun h => .inl (if_neg h)
    have S1 : SqL K (fun b => if b = a then some (.frz { cls := .type "list", data := .seq vs.toArray } (.lst (ns.map V.int))) else none) a (ns.map V.int) := .inl (.inr ⟨_, if_pos rfl⟩)
    refine end_at KX hns hb hbb hlim hg ha hr F o1 (fun b u z => ⟨(is z).1, hk⟩) (fun b u z => ?_) (hsp _ o1 S1)
    obtain ⟨h1, h2⟩ := is z
    subst h1 h2
    exact ⟨ha, by rw [List.length_map]; exact hl, vs, _, rv, ha⟩
/-- a law, by the facts that its top's Hook tells -/
theorem walk_ofG {l : PySem.W.OpenLaw} {n : Nat} {q : Program} {loose : List Str} {XP : (Str → Option Value) → Heap → Prop} {YP : World → Heap → Prop} {d : DefRec} (hn : l.most = some n) (hn2 : n ≤ sizeLine) (hdf : d.params.defaults = []) (hr : Room k callerA)
    (F : ∀ (w : World) (mg : Str → Option Value) (fa : Addr) (h : Heap), YP w h → h.Ns mainGlobals mg → mg d.name = some (.ref fa) →
      ∃ (K : PySem.W.Frag) (sp : Sp), K.In h ∧
        (∀ (H : Hp) (a : Addr) (ns : List Int), ns.length ≤ n → Only H → SqL K H a (ns.map V.int) → sp [.ref a] H (fun v _ => v = .bl true) fun _ _ _ => False) ∧
        ∀ base : Heap, K.In base → base.Ns mainGlobals mg → ∃ fd, FnG l.prog w K mg base CX0 k fa fd [x] sp ∧ Binds K fd [x] []) :
    PySem.W.WalkO q loose XP YP l.row.toRowW d [] (fun f vs => PySem.call f vs) := by
  refine Att.attach_call hn hdf fun w s₀ s₁ mg mb fa o pm cd doc a vs ns G Y ho hd hcd hmg hobj hints hlen hg => ?_
  obtain ⟨K, sp, KX, hsp, hF⟩ := F w mg fa _ Y G.T.g hmg
  exact end_call KX G.T.g G.T.b G.T.builtins G.T.nolimit hg hobj hints (Nat.le_trans hlen hn2) hr hF fun H hO hS => hsp H a ns hlen hO hS
end
end EqX

set_option Elab.async false
set_option linter.all false
set_option maxRecDepth 100000
set_option maxHeartbeats 4000000
/-! The end of a law whose defs show things and make lambdas. -/
namespace EqX
open PySem PySem.Spec PyProof.Rows L2 LamX
abbrev tab0 : Obj := { cls := .none, data := .fields #[] }
section
variable {P : Program} {w : World} {K : PySem.W.Frag} {mg mb : Str → Option Value} {k : Nat} {fa a : Addr} {fd : FuncData} {x : Str} {sp : Sp} {s : Shared} {vs : List Value} {H : Hp} {cs : List (Addr × Addr)}
/-- what may be tracked at the start: the script, empty tables -/
structure At0 (K : PySem.W.Frag) (s : Shared) (a : Addr) (cs : List (Addr × Addr)) (H : Hp) : Prop where
  scr : ∀ b o, H b = some o → (b = a ∧ K.lookup a = none ∧ ∃ ob xs, o = .frz ob (.lst xs)) ∨ (b ∈ cs.map (·.2) ∧ o = .tbl #[])
  tab : ∀ p ∈ cs, H p.2 = some (.tbl #[])
theorem endT_at (KX : K.In s.heap) (hns : s.heap.Ns mainGlobals mg) (hb : s.heap.Ns builtinsNs mb) (hbb : ∀ x : Str, x ≠ "__name__" → mb x = bootBuiltins x) (hlim : s.heap.NoLimit) (hg : s.gens = #[])
    (hT : ∀ p ∈ cs, s.heap.get? p.2 = some tab0) (nT : ∀ p ∈ cs, K.lookup p.2 = none) (C : ∀ p ∈ cs, PySem.W.CodeHd s.heap p.1 p.2)
    (hbm : ∃ (bm : Addr) (ob : Obj), mg "__builtins__" = some (.ref bm) ∧ bm ≠ builtinsNs ∧ s.heap.get? bm = some ob ∧ ob.cls = .type "module" ∧ ob.dict = some builtinsNs ∧ ob.data = .plain)
    (ha : s.heap.get? a = some { cls := .type "list", data := .seq vs.toArray }) (hr : Room k callerA)
    (F : ∀ base : Heap, K.In base → base.Ns mainGlobals mg → (∀ p ∈ cs, TabB base mg p.1 p.2) → ∃ fd, FnG P w K mg base CX0 k fa fd [x] sp ∧ L2.Binds K fd [x] [])
    (A0 : At0 K s a cs H) (hok : HOk P w H s.heap) (hsp : sp [.ref a] H (fun v _ => v = .bl true) fun _ _ _ => False) :
    codeAny (model P w) callerA (.call (.ref fa) ⟨[.ref a], []⟩) (fun r s' => r = .ok (.ret (.bool true)) ∧ PySem.OldK s.heap s'.heap ∧ s'.os = s.os ∧ AllBare s'.gens) s := by
  have isT : ∀ {b}, b ∈ cs.map (·.2) → s.heap.get? b = some tab0 ∧ K.lookup b = none := fun {b} hb => by
    obtain ⟨p, hp, rfl⟩ := List.mem_map.mp hb
    exact ⟨hT p hp, nT p hp⟩
  -- an object that is neither the script nor an empty table is part of the base
  have seen : ∀ {b : Addr} {o : Obj}, s.heap.get? b = some o → (b = a → K.lookup a = none → False) → (o = tab0 → K.lookup b = none → False) → (hidT s.heap H).get? b = some o := fun {b o} e n1 n2 => hidT_get e (by
    cases q : H b with
    | none => rfl
    | some u =>
      rcases A0.scr b u q with ⟨h1, h2, _⟩ | ⟨h1, _⟩
      · exact (n1 h1 h2).elim
      · obtain ⟨h3, h4⟩ := isT h1
        rw [e] at h3
        exact (n2 (Option.some.inj h3) h4).elim)
  have kb : K.In (hidT s.heap H) := fun b o e => seen (KX b o e) (fun z n => by rw [z, n] at e; cases e) fun _ n => by rw [n] at e; cases e
  have plain : ∀ {b : Addr} {o : Obj}, s.heap.get? b = some o → (∀ us n, o.data ≠ .seq us n) → o.data ≠ .fields #[] → (hidT s.heap H).get? b = some o := fun {b o} e n1 n2 => seen e (fun z _ => by
    rw [z, ha] at e
    cases e
    exact n1 _ _ rfl) fun z _ => by
    rw [z] at n2
    exact n2 rfl
  have ns : ∀ {b : Addr} {m : Str → Option Value}, s.heap.Ns b m → (hidT s.heap H).Ns b m := fun {b m} ⟨o, es, ep, e, d, r⟩ => ⟨o, es, ep, plain e (fun us n z => by rw [d] at z; cases z) (fun z => by rw [d] at z; cases z), d, r⟩
  have md : L2.Mod K mg (hidT s.heap H) := ⟨kb, ns hns, ⟨mb, ns hb, hbb⟩, hlim.elim fun mc h => ⟨mc, ns h.1, h.2⟩⟩
  have TB : ∀ p ∈ cs, TabB (hidT s.heap H) mg p.1 p.2 := fun p hp => by
    refine ⟨?_, ?_, fun z => ?_⟩
    · obtain ⟨o, us, file, tf, flags, tg, inF, text, tt, e1, r1, r2, r3, r⟩ := C p hp
      refine ⟨o, us, file, tf, flags, tg, inF, text, tt, plain e1 (fun us n z => by rw [r2] at z; cases z) (fun z => ?_), r1, r2, r3, r⟩
      rw [r2] at z
      cases z
      simp at r3
    · obtain ⟨bm, ob, b1, b2, b3, b4, b5, b6⟩ := hbm
      have nG : bm ≠ mainGlobals := fun q => by
        obtain ⟨o, es, ep, e, hd, _⟩ := hns
        rw [q, e] at b3
        cases b3
        rw [hd] at b6
        cases b6
      have nP : bm ≠ p.2 := fun q => by
        rw [q, hT p hp] at b3
        cases b3
        cases b6
      exact ⟨bm, ob, b1, b2, nG, nP, plain b3 (fun us n z => by rw [b6] at z; cases z) (fun z => by rw [b6] at z; cases z), b4, b5, b6⟩
    · obtain ⟨o, es, ep, e, hd, _⟩ := hns
      rw [z, hT p hp] at e
      cases e
      cases hd
  have e0 : Env0 P w K mg (hidT s.heap H) callerA [] s H := ⟨rfl, md, fun b o e => of_hidT e, Nat.le_of_eq (hidT_size _ _), trivial, fun b (hb : b ∈ ([] : List Addr)) => absurd hb List.not_mem_nil, hok, .of_eq hg⟩
  obtain ⟨fd, G, bd⟩ := F _ kb (ns hns) TB
  refine codeAny_mono (G.run callerA [] s H ⟨[.ref a], []⟩ [.ref a] [.ref a] _ _ hr rfl e0 (bd s [.ref a] KX rfl) (.cons rfl .nil) hsp) fun r s' h => ?_
  rcases r with e | (_ | _ | _ | u)
  · exact h.elim
  · exact h.elim
  · exact h.elim
  · exact h.elim
  · obtain ⟨v, H', os, bare, un, hok', rv, q⟩ := h
    subst q
    obtain rfl : u = Value.bool true := rv
    have kept : ∀ b o, b ∉ cs.map (·.2) → s.heap.get? b = some o → s'.heap.get? b = some o := fun b o nb e => by
      cases q : H b with
      | none => exact un.keep b o e q (fun y => by cases y) (fun y => by cases y)
      | some u =>
        rcases A0.scr b u q with ⟨_, _, ob, xs, z⟩ | ⟨h1, _⟩
        · rw [z] at q
          have e1 := (hok b _ q).1
          rw [e] at e1
          cases e1
          exact (hok' b _ (un.frzs b _ _ q)).1
        · exact absurd h1 nb
    have grown : ∀ b ∈ cs.map (·.2), ∃ more : Array Value, s'.heap.get? b = some { cls := .none, data := .fields more } := fun b hb => by
      obtain ⟨p, hp, rfl⟩ := List.mem_map.mp hb
      obtain ⟨more, z⟩ := un.tbls p.2 #[] (A0.tab p hp)
      exact ⟨_, hok' p.2 _ z⟩
    refine ⟨rfl, ⟨fun b o e => ?_, fun b o e => ?_⟩, os, bare⟩
    · by_cases hb : b ∈ cs.map (·.2)
      · obtain ⟨more, hm⟩ := grown b hb
        obtain ⟨p, hp, rfl⟩ := List.mem_map.mp hb
        rw [hT p hp] at e
        cases e
        exact .inr (.inl ⟨((C p hp).tab (hT p hp)).isCodeTable, rfl, #[], more, rfl, by rw [Array.empty_append]; exact hm⟩)
      · exact .inl (kept b o hb e)
    · by_cases hb : b ∈ cs.map (·.2)
      · obtain ⟨more, hm⟩ := grown b hb
        exact ⟨_, hm⟩
      · exact ⟨o, kept b o hb e⟩
theorem endT_call {ns : List Int} (KX : K.In s.heap) (hns : s.heap.Ns mainGlobals mg) (hb : s.heap.Ns builtinsNs mb) (hbb : ∀ x : Str, x ≠ "__name__" → mb x = bootBuiltins x) (hlim : s.heap.NoLimit) (hg : s.gens = #[])
    (hT : ∀ p ∈ cs, s.heap.get? p.2 = some tab0) (nT : ∀ p ∈ cs, K.lookup p.2 = none) (C : ∀ p ∈ cs, PySem.W.CodeHd s.heap p.1 p.2)
    (hbm : ∃ (bm : Addr) (ob : Obj), mg "__builtins__" = some (.ref bm) ∧ bm ≠ builtinsNs ∧ s.heap.get? bm = some ob ∧ ob.cls = .type "module" ∧ ob.dict = some builtinsNs ∧ ob.data = .plain)
    (ha : s.heap.get? a = some { cls := .type "list", data := .seq vs.toArray }) (hi : IntsAre vs ns) (hl : ns.length ≤ sizeLine) (hr : Room k callerA)
    (F : ∀ base : Heap, K.In base → base.Ns mainGlobals mg → (∀ p ∈ cs, TabB base mg p.1 p.2) → ∃ fd, FnG P w K mg base CX0 k fa fd [x] sp ∧ L2.Binds K fd [x] [])
    (hsp : ∀ H : Hp, (∀ p ∈ cs, H p.2 = some (.tbl #[])) → SqL K H a (ns.map V.int) → sp [.ref a] H (fun v _ => v = .bl true) fun _ _ _ => False) :
    codeAny (model P w) callerA (.call (.ref fa) ⟨[.ref a], []⟩) (fun r s' => r = .ok (.ret (.bool true)) ∧ PySem.OldK s.heap s'.heap ∧ s'.os = s.os ∧ AllBare s'.gens) s := by
  have rv := vals_ints hi
  have memT : ∀ p ∈ cs, p.2 ∈ cs.map (·.2) := fun p hp => List.mem_map.mpr ⟨p, hp, rfl⟩
  have isT : ∀ {b}, b ∈ cs.map (·.2) → s.heap.get? b = some tab0 := fun {b} hb => by
    obtain ⟨p, hp, rfl⟩ := List.mem_map.mp hb
    exact hT p hp
  have aT : a ∉ cs.map (·.2) := fun z => by
    have q := isT z
    rw [ha] at q
    cases q
  let L : Obj := { cls := .type "list", data := .seq vs.toArray }
  cases hk : K.lookup a with
  | some o =>
    have e := (KX a o hk).symm.trans ha
    cases e
    refine endT_at (H := fun b => if b ∈ cs.map (·.2) then some (.tbl #[]) else none) KX hns hb hbb hlim hg hT nT C hbm ha hr F ⟨fun b o e => ?_, fun p hp => if_pos (memT p hp)⟩ (fun b u z => ?_) (hsp _ (fun p hp => if_pos (memT p hp)) (.inr ⟨_, vs.toArray, _, hk, rfl, rfl, rfl, by rw [List.size_toArray, hi.length]; exact hl, by simpa using rv⟩))
    · try dsimp only at e
      split at e
      · rename_i h
        exact .inr ⟨h, (Option.some.inj e).symm⟩
      · cases e
    · try dsimp only at z
      split at z
      · rename_i h
        cases z
        exact isT h
      · cases z
  | none =>
    refine endT_at (H := fun b => if b = a then some (.frz L (.lst (ns.map V.int))) else if b ∈ cs.map (·.2) then some (.tbl #[]) else none) KX hns hb hbb hlim hg hT nT C hbm ha hr F ⟨fun b o e => ?_, fun p hp => ?_⟩ (fun b u z => ?_) (hsp _ (fun p hp => ?_) (.inl (.inr ⟨L, if_pos rfl⟩)))
    · try dsimp only at e
      split at e
      · rename_i h
        exact .inl ⟨h, hk, _, _, (Option.some.inj e).symm⟩
      · split at e
        · rename_i h
          exact .inr ⟨h, (Option.some.inj e).symm⟩
        · cases e
    · try dsimp only
      rw [if_neg (show ¬ p.2 = a from fun z => aT (by rw [← z]; exact memT p hp)), if_pos (memT p hp)]
    · try dsimp only at z
      split at z
      · rename_i h
        cases z
        rw [h]
        exact ⟨ha, by rw [List.length_map]; exact hl, vs, _, rv, ha⟩
      · split at z
        · rename_i h
          cases z
          exact isT h
        · cases z
    · try dsimp only
      rw [if_neg (show ¬ p.2 = a from fun z => aT (by rw [← z]; exact memT p hp)), if_pos (memT p hp)]
theorem walk_ofGT {l : PySem.W.OpenLaw} {n : Nat} {q : Program} {loose : List Str} {XP : (Str → Option Value) → Heap → Prop} {YP : World → Heap → Prop} {d : DefRec} (hn : l.most = some n) (hn2 : n ≤ sizeLine) (hdf : d.params.defaults = []) (hr : Room k callerA)
    (F : ∀ (w : World) (mg : Str → Option Value) (fa : Addr) (h : Heap), YP w h → h.Ns mainGlobals mg → mg d.name = some (.ref fa) →
      ∃ (K : PySem.W.Frag) (cs : List (Addr × Addr)) (sp : Sp), K.In h ∧ (∀ p ∈ cs, h.get? p.2 = some tab0) ∧ (∀ p ∈ cs, K.lookup p.2 = none) ∧ (∀ p ∈ cs, PySem.W.CodeHd h p.1 p.2) ∧
        (∀ (H : Hp) (a : Addr) (ns : List Int), ns.length ≤ n → (∀ p ∈ cs, H p.2 = some (.tbl #[])) → SqL K H a (ns.map V.int) → sp [.ref a] H (fun v _ => v = .bl true) fun _ _ _ => False) ∧
        ∀ base : Heap, K.In base → base.Ns mainGlobals mg → (∀ p ∈ cs, TabB base mg p.1 p.2) → ∃ fd, FnG l.prog w K mg base CX0 k fa fd [x] sp ∧ L2.Binds K fd [x] []) :
    PySem.W.WalkO q loose XP YP l.row.toRowW d [] (fun f vs => PySem.call f vs) := by
  refine Att.attach_call hn hdf fun w s₀ s₁ mg mb fa o pm cd doc a vs ns G Y ho hd hcd hmg hobj hints hlen hg => ?_
  obtain ⟨K, cs, sp, KX, hT, nT, C, hsp, hF⟩ := F w mg fa _ Y G.T.g hmg
  exact endT_call KX G.T.g G.T.b G.T.builtins G.T.nolimit hg hT nT C G.T.bmain hobj hints (Nat.le_trans hlen hn2) hr hF fun H hH hS => hsp H a ns hlen hH hS
end
end EqX

set_option Elab.async false
set_option linter.all false
set_option maxRecDepth 100000
set_option maxHeartbeats 4000000
/-! A Hook that reads own error classes too. -/
namespace EqX
open PySem PySem.Spec PyProof.Rows L2 PySem.EqX PySem.HandSPX
/-! ### what is asked of such a class -/
def clsB (K : PySem.W.Frag) (C : Addr) : Bool := match K.lookup C with
  | some ⟨.type "type", _, .cls cd, sl⟩ => (match cd.mro, sl.toList with
    | .ref c :: bm, [_, _, _, _, some (.builtin n), _] => decide (c = C) && (decide (n = "ValueError.__new__") && (!cd.hasDel && (cd.hasDict && refsVE bm)))
    | _, _ => false)
  | _ => false
theorem clsB_ok {K : PySem.W.Frag} {C : Addr} (h : clsB K C = true) : ∃ nm q N bs bm sn sub ab col dd k0 k1 k2 k3 k5, K.lookup C = some (excClassObj nm q C N bs bm true sn sub ab col dd k0 k1 k2 k3 k5 "ValueError.__new__") ∧ refsVE bm = true := by
  unfold clsB at h
  split at h
  · rename_i dd cd sl ho
    split at h
    · rename_i c bm k0 k1 k2 k3 n k5 hm hs
      simp only [Bool.and_eq_true, decide_eq_true_eq, Bool.not_eq_true'] at h
      obtain ⟨e1, e2, e3, e4, e5⟩ := h
      obtain ⟨nm, bs, mro, ns, qn, hd, sn, sub, ab, col, del⟩ := cd
      obtain ⟨l⟩ := sl
      dsimp only at hm hs e3 e4
      subst e1 e2 e3 e4 hm hs
      exact ⟨nm, qn, ns, bs, bm, sn, sub, ab, col, dd, k0, k1, k2, k3, k5, ho, e5⟩
    · cases h
  · cases h
def eclassB (K : PySem.W.Frag) (C : Addr) : Bool :=
  clsB K C && (decide (PySem.W.findIn K (.ref C) "__setattr__" = some (some (.builtin "object.__setattr__"))) && (decide (PySem.W.subIn K (.ref C) (.type "BaseException") = some true) && (decide (PySem.W.subIn K (.ref C) (.type "ValueError") = some true) &&
    (decide (PySem.W.typeIn K (.ref C) = some (.type "type")) && (PySem.W.keepIn K (.ref C) && (decide (PySem.W.mroIn K C (.ref C) = some true) && (decide (PySem.W.nsIn K cStatics "thirdparty.any" = some none) && decide (PySem.W.ks_superIn K C C "__init__" = some (some (.builtin "ValueError.__init__"))))))))))
theorem eclassB_ok {K : PySem.W.Frag} {C : Addr} (h : eclassB K C = true) : EClass K C := by
  unfold eclassB at h
  simp only [Bool.and_eq_true, decide_eq_true_eq] at h
  obtain ⟨h1, h2, h3, h4, h5, h6, h7, h8, h9⟩ := h
  exact ⟨clsB_ok h1, h2, h3, h4, h5, h6, h7, h8, h9⟩
def excCB (K : PySem.W.Frag) (D : Addr) : Bool :=
  decide (PySem.W.findIn K (.ref D) "__getattribute__" = some (some (.builtin "BaseException.__getattribute__"))) && (decide (PySem.W.findIn K (.ref D) "__getattr__" = some none) && (decide (PySem.W.subIn K (.ref D) (.type "BaseException") = some true) && (PySem.W.hasDictIn K D &&
    (decide (PySem.W.findIn K (.ref D) "__class__" = some (some (.builtin "object.__class__"))) && (decide (PySem.W.specialIn K (.builtin "object.__class__") "__get__" = some (some (.builtin "getset_descriptor.__get__"))) && (decide (PySem.W.takesIn K (.builtin "object.__class__") = some true) && decide (PySem.W.mroIn K D (.type "object") = some true)))))))
theorem excCB_ok {K : PySem.W.Frag} {D : Addr} (h : excCB K D = true) : ExcC K D := by
  unfold excCB at h
  simp only [Bool.and_eq_true, decide_eq_true_eq] at h
  obtain ⟨h1, h2, h3, h4, h5, h6, h7, h8⟩ := h
  exact ⟨h1, h2, h3, h4, h5, h6, h7, h8⟩
/-! ### an __init__ with the cell of its class -/
structure IniD where
  cls : Str
  qual : Str
  params : Arguments
  body : List Stmt
  scope : Scope
abbrev IniW : Type := Option (Str × Str × Arguments × FuncBody × Scope × Addr × List Str × Addr)
def iAd (K : PySem.W.Frag) (x : Str) : Addr := He.ma K (He.ga K x) "__init__"
def iniW (K : PySem.W.Frag) (x : Str) : IniW := match K.lookup (iAd K x) with
  | some ⟨_, _, .func fd, _⟩ => some (fd.name, fd.qualname, fd.params, fd.body, fd.scope, fd.globals, fd.closure.map (·.1), fd.builtins)
  | _ => none
def IniD.val (d : IniD) : IniW := some ("__init__", d.qual, d.params, .stmts d.body, d.scope, mainGlobals, ["__class__"], builtinsNs)
def iniB (file : Str) (K : PySem.W.Frag) (x qual : Str) : Bool :=
  decide (PySem.W.findIn K (.ref (He.ga K x)) "__init__" = some (some (.ref (iAd K x)))) && (decide (PySem.W.typeIn K (.ref (iAd K x)) = some (.type "function")) && (match K.lookup (iAd K x) with
  | some ⟨_, _, .func fd, _⟩ => (match fd.defaults, fd.kwdefaults, fd.code, fd.closure with
    | .none, .none, .ref cd, [(_, cc)] => PySem.W.codeIn K (.ref cd) qual && ((match K.lookup cd with
      | some ⟨_, _, .fields vs, _⟩ => (match (vs[2]? : Option Value) with
        | some (Value.str fl _) => file == fl
        | _ => false)
      | _ => false) && (match K.lookup cc with
      | some ⟨_, _, .cell (some (.ref c)), _⟩ => decide (c = He.ga K x)
      | _ => false))
    | _, _, _, _ => false)
  | _ => false))
theorem ini_ok {P : Program} {K : PySem.W.Frag} {d : IniD} (e : iniW K d.cls = d.val) (b : iniB P.main.file K d.cls d.qual = true) (ht : (P.main.scope.names.lookup ("super" : Str)).isSome = false) :
    ∃ fd, EInit P K (He.ga K d.cls) (iAd K d.cls) d.qual d.params d.body d.scope fd := by
  obtain ⟨b1, b⟩ := He.ba b
  obtain ⟨b2, b⟩ := He.ba b
  unfold iniW at e
  cases q : K.lookup (iAd K d.cls) with
  | none =>
    rw [q] at b
    cases b
  | some o =>
    obtain ⟨oc, od, dt, osl⟩ := o
    rw [q] at b e
    cases dt with
    | func fd =>
      obtain ⟨n1, n2, n3, n4, n5, n6, n7, n8, n9, n10, n11, n12, n13, n14, n15⟩ := fd
      have e2 : (some (n1, n2, n3, n4, n5, n6, n7.map (·.1), n15) : IniW) = (some (("__init__" : Str), d.qual, d.params, FuncBody.stmts d.body, d.scope, mainGlobals, [("__class__" : Str)], builtinsNs) : IniW) := e
      simp only [Option.some.injEq, Prod.mk.injEq] at e2
      obtain ⟨h1, h2, h3, h4, h5, h6, h7, h8⟩ := e2
      subst h1 h2 h3 h4 h5 h6 h8
      dsimp only at b
      split at b
      · rename_i cda nm cc
        obtain ⟨c1, c⟩ := He.ba b
        obtain ⟨c2, c3⟩ := He.ba c
        split at c2
        · rename_i ccl cdd vs ccs lcda
          split at c2
          · rename_i fl tf hv
            split at c3
            · rename_i cl cld cc' csl lcc
              have ec := of_decide_eq_true c3
              subst ec
              have en : nm = "__class__" := by
                have z : [nm] = [("__class__" : Str)] := h7
                exact (List.cons.inj z).1
              subst en
              exact ⟨_, ⟨of_decide_eq_true b1, of_decide_eq_true b2, ⟨oc, od, n10, n11, n12, n14, osl, cda, cc, ccl, cdd, vs, ccs, fl, tf, cl, cld, csl, rfl, q, c1, lcda, hv, c2, lcc⟩, ht⟩⟩
            · cases c3
          · cases c2
        · cases c2
      · cases b
    | _ => cases b
/-! ### the Hook -/
/-- what the names reach in all -/
def adsAll (n : Nat) (g : Addr → Option Obj) : List Addr := He.asD g n ++ [sysModules, cStatics]
/-- what these names reach alone -/
def adsOf (xs : List Str) (g : Addr → Option Obj) : Nat → List Addr
  | 0 => xs.filterMap fun x => match PySem.W.nsIn (He.frG g [mainGlobals]) mainGlobals x with
    | some (some (.ref a)) => some a
    | _ => none
  | k + 1 => He.growD g (adsOf xs g k)
def adsNamed (xs : List Str) (k : Nat) (g : Addr → Option Obj) : List Addr := [mainGlobals, sysModules, cStatics] ++ adsOf xs g k
structure HdE where
  ads : (Addr → Option Obj) → List Addr
  file : Str
  ck : List (PySem.W.Frag → Bool)
  fn : List He.DefD
  ini : List IniD
abbrev AlE : Type := Bool × List He.FnW × List IniW
def HdE.obs (h : HdE) (K : PySem.W.Frag) : AlE := (h.ck.all (fun c => c K) && (h.fn.all (fun d => d.ok K) && h.ini.all fun d => iniB h.file K d.cls d.qual), h.fn.map (fun d => He.fnW K d.at_), h.ini.map fun d => iniW K d.cls)
def HdE.val (h : HdE) : AlE := (true, h.fn.map He.DefD.val, h.ini.map IniD.val)
def HdE.Says (h : HdE) (K : PySem.W.Frag) : Prop := h.obs K = h.val
def HdE.fr (h : HdE) (g : Addr → Option Obj) : PySem.W.Frag := He.frG g (h.ads g)
def HdE.hook (h : HdE) : PySem.W.Hook where
  α := AlE
  obs := fun s => h.obs (h.fr s.heap.get?)
  val := fun _ => h.val
  says := fun _ hp => ∃ K : PySem.W.Frag, K.In hp ∧ h.Says K
  of := fun _ _ e => ⟨_, He.frG_in, e⟩
  keeps := fun _ _ _ ⟨K, hK, c⟩ k => ⟨K, PySem.W.Frag.In.keeps hK k, c⟩
def HdE.ob (h : HdE) (s : PySem.W.SharedT) : AlE := h.obs (h.fr (HandSHeadRun.getT s))
theorem HdE.ob_eq (h : HdE) (s : PySem.W.SharedT) : h.ob s = h.hook.obs s.abs := by
  have e : HandSHeadRun.getT s = s.abs.heap.get? := funext (HandSHeadRun.getT_eq s)
  show h.obs (h.fr (HandSHeadRun.getT s)) = h.obs (h.fr s.abs.heap.get?)
  rw [e] <;> rfl
section
variable {h : HdE} {K : PySem.W.Frag}
theorem HdE.Says.fact (c : h.Says K) (i : Nat) {f : PySem.W.Frag → Bool} (e : h.ck[i]? = some f := by rfl) : f K = true := by
  have z := (He.ba (show (h.ck.all (fun c => c K) && (h.fn.all (fun d => d.ok K) && h.ini.all fun d => iniB h.file K d.cls d.qual)) = true from congrArg (fun z : AlE => z.1) c)).1
  exact List.all_eq_true.mp z f (List.mem_of_getElem? e)
theorem HdE.Says.def_ (c : h.Says K) (i : Nat) {d : He.DefD} (e : h.fn[i]? = some d := by rfl) : ∃ fd, FunD K d.name d.qual d.params d.body d.scope (d.dvs K) (d.kws K) (He.fAd K d.at_) fd := by
  have z := (He.ba (He.ba (show (h.ck.all (fun c => c K) && (h.fn.all (fun d => d.ok K) && h.ini.all fun d => iniB h.file K d.cls d.qual)) = true from congrArg (fun z : AlE => z.1) c)).2).1
  have e1 : h.fn.map (fun d => He.fnW K d.at_) = h.fn.map He.DefD.val := congrArg (fun z : AlE => z.2.1) c
  have e2 : (_ : List _)[i]? = (_ : List _)[i]? := congrArg (fun l => l[i]?) e1
  rw [List.getElem?_map, List.getElem?_map, e] at e2
  exact He.DefD.funD (Option.some.inj e2) (List.all_eq_true.mp z d (List.mem_of_getElem? e))
theorem HdE.Says.ini_ {P : Program} (c : h.Says K) (hf : h.file = P.main.file) (ht : (P.main.scope.names.lookup ("super" : Str)).isSome = false) (i : Nat) {d : IniD} (e : h.ini[i]? = some d := by rfl) : ∃ fd, EInit P K (He.ga K d.cls) (iAd K d.cls) d.qual d.params d.body d.scope fd := by
  have z := (He.ba (He.ba (show (h.ck.all (fun c => c K) && (h.fn.all (fun d => d.ok K) && h.ini.all fun d => iniB h.file K d.cls d.qual)) = true from congrArg (fun z : AlE => z.1) c)).2).2
  have e1 : h.ini.map (fun d => iniW K d.cls) = h.ini.map IniD.val := congrArg (fun z : AlE => z.2.2) c
  have e2 : (_ : List _)[i]? = (_ : List _)[i]? := congrArg (fun l => l[i]?) e1
  rw [List.getElem?_map, List.getElem?_map, e] at e2
  have b := List.all_eq_true.mp z d (List.mem_of_getElem? e)
  rw [hf] at b
  exact ini_ok (Option.some.inj e2) b ht
end
/-! ### the run's equation in three -/
noncomputable section
open HandSHeadRun PySem.W in
theorem run_of3 {r : PySem.W.OpenRow} {q : Program} {H : PySem.W.Hook} {ob : PySem.W.SharedT → H.α} {M : Nat} {loose : List Str} {w : World}
    (a : ∀ os : OsState, (endF (stepQ (denQ tabQ) r.prog w) M r.prog w os).map (fun s => looksF r.prog (boot_heap w.params) s.abs) = some true)
    (b : ∀ os : OsState, (endF (stepQ (denQ tabQ) r.prog w) M r.prog w os).map (fun s => seenQ q loose (importedModules r.prog.main.body) (fun s => xlAt q [] s && recOk r.toRowW.records s) s.abs) = some (openGood q loose))
    (c : ∀ os : OsState, (endF (stepQ (denQ tabQ) r.prog w) M r.prog w os).map ob = some (H.val w)) : RunEq r q H ob M loose w := fun os => by
  have a := a os
  have b := b os
  have c := c os
  cases e : endF (stepQ (denQ tabQ) r.prog w) M r.prog w os with
  | none => rw [e] at a; cases a
  | some s =>
    rw [e] at a b c
    exact congrArg some (Prod.ext (Option.some.inj a) (Prod.ext (Option.some.inj b) (Option.some.inj c)))
end
end EqX

set_option Elab.async false
set_option linter.all false
set_option maxRecDepth 100000
set_option maxHeartbeats 4000000
/-! == and != by an own __eq__, whatever it answers, whatever stands at the right. -/
namespace EqX
open PySem PySem.Spec PyProof.Rows PySem.W
section
variable {prog : Program} {w : World} {A : Around} {E : Value → Shared → Prop} {s : Shared} {K : Frag} {x C f : Addr} {ox : Obj} {od : Option Obj} {b tb : Value}
theorem bound_ne {M : Model} {args : List Value} {Q : Option Value → Shared → Prop} (X : K.In s.heap) (I : InstAt s.heap x ox C od) (hs : findIn K (.ref C) "__ne__" = some (some (.builtin "object.__ne__")))
    (h : wpAny M A (call (.builtin "object.__ne__") (.ref x :: args)) (fun v => Q (some v)) E s) : wpAny M A (callSpecialIfBound? (.ref x) "__ne__" args) Q E s := by
  have fin : wpAny M A (call (.builtin "object.__ne__") ([.ref x] ++ args) >>= fun v => pure (some v)) Q E s := wpAny_bind (wpAny_mono h (fun v s' h' => wpAny_pure h') fun _ _ h' => h')
  simp only [callSpecialIfBound?, bindSpecialIfBound?]
  refine wpAny_holding (wpAny_bind (wpAny_bind (wpAny_bind (I.type.here ((looks_findIn X hs).here (wpAny_bind (wpAny_askSetting (wpAny_ite ?_))))))))
  have bd := PySem.F.cmp_object.ne.bind (.ref x)
  split
  · exact wpAny_bind (wpAny_of_eq bd (wpAny_pure (by exact fin)))
  · exact wpAny_tryCatch (wpAny_bind (wpAny_of_eq bd (wpAny_pure (by exact fin))))
theorem entry_ne (hu : A.units < cLine) (X : K.In s.heap) (I : InstAt s.heap x ox C od) (he : findIn K (.ref C) "__eq__" = some (some (.ref f))) (hf : isFn K (.ref f) = true) {Q : Fin → Shared → Prop}
    (h : wpAny (model prog w) A (call (.ref f) [.ref x, b]) (fun v s' => ∃ r, v = .bool r ∧ Q (.done (.ret (.bool (!r)))) s') E s) : wpAny (model prog w) A (Builtin.«object.__ne__» ⟨[.ref x, b], []⟩) Q E s := by
  unfold Builtin.«object.__ne__»
  repeat (first
    | with_reducible refine wpAny_cRoomFor hu ?_
    | (refine wpAny_bind (m := callSpecialIfBound? (.ref x) (Str.ofString "__eq__") [b]) (ifBound_K X I he hf (wpAny_mono h (fun v s' hr => by
          obtain ⟨r, rfl, hq⟩ := hr
          repeat (first | exact hq | exact wpAny_pure hq | exact wpAny_truthy_bool hq | (refine wpAny_bind (m := truthy (.bool _)) (wpAny_truthy_bool ?_)) | wp_step)) fun _ _ e => e)))
    | wp_step)
theorem ne_K {Q : Value → Shared → Prop} (hu : A.units + 1 < cLine) (X : K.In s.heap) (I : InstAt s.heap x ox C od) (hb : Looks (model prog w) s.heap (typeOf b) tb) (hn : notFirst K C tb = true) (he : findIn K (.ref C) "__eq__" = some (some (.ref f))) (hf : isFn K (.ref f) = true)
    (hne : findIn K (.ref C) "__ne__" = some (some (.builtin "object.__ne__"))) (hm : mroIn K C (.type "object") = some true)
    (h : wpAny (model prog w) A.in1 (call (.ref f) [.ref x, b]) (fun v s' => ∃ r, v = .bool r ∧ Q (.bool (!r)) s') E s) : wpAny (model prog w) A (richCompare .NotEq (.ref x) b) Q E s := by
  have one : wpAny (model prog w) A (tryCompare (.ref x) "__ne__" b) (fun r s' => ∃ v, r = some v ∧ Q v s') E s := by
    unfold tryCompare
    refine wpAny_bind (bound_ne X I hne (wpAny_call (codeAny_call_builtin PySem.F.cmp_object.ne.plain PySem.F.cmpEntry_ne (check_slot PySem.F.cmpKind_ne PySem.F.cmpSplit_ne (I.type.andThen (looks_mroIn X hm)) (PySem.F.cmpArgs_ne _ _) (entry_ne (by exact hu) X I he hf (wpAny_mono h (fun v s' hv => ?_) fun _ _ e => e))))))
    obtain ⟨r, rfl, q⟩ := hv
    first
      | exact ⟨r, rfl, wpAny_pure ⟨_, rfl, q⟩⟩
      | exact ⟨r, rfl, wpAny_pure (wpAny_pure ⟨_, rfl, q⟩)⟩
  have sub : subIn K tb (.ref C) = some false ∨ tb = .ref C := (Bool.or_eq_true_iff.mp hn).elim (fun e => .inr (beq_iff_eq.mp e)) fun e => .inl (beq_iff_eq.mp e)
  have fin : ∀ (r : Option Value) (s' : Shared), (∃ v, r = some v ∧ Q v s') → ∃ v, r = some v ∧ Q v s' := fun _ _ z => z
  unfold richCompare
  simp only [oneThing_ref]
  refine wpAny_holding (wpAny_bind (wpAny_cRoomFor (Nat.lt_of_succ_lt hu) (wpAny_bind (I.type.here (wpAny_bind (hb.here ?_))))))
  split
  · rename_i q
    have e : subIn K tb (.ref C) = some false := sub.resolve_right fun z => by rw [z] at q; simp at q
    refine wpAny_bind ((looks_subIn X e).here ?_)
    simp only [Bool.false_eq_true, if_false]
    refine wpAny_bind (wpAny_mono one (fun r s' z => ?_) fun _ _ e => e)
    obtain ⟨v, rfl, hq⟩ := z
    exact wpAny_pure hq
  · refine wpAny_bind (wpAny_pure ?_)
    simp only [Bool.false_eq_true, if_false]
    refine wpAny_bind (wpAny_mono one (fun r s' z => ?_) fun _ _ e => e)
    obtain ⟨v, rfl, hq⟩ := z
    exact wpAny_pure hq
end
open L2
/-- what is asked of the class for == and != -/
structure EqC (K : PySem.W.Frag) (C f : Addr) : Prop where
  eq : PySem.W.findIn K (.ref C) "__eq__" = some (some (.ref f))
  fn : PySem.W.isFn K (.ref f) = true
  ne : PySem.W.findIn K (.ref C) "__ne__" = some (some (.builtin "object.__ne__"))
  ob : PySem.W.mroIn K C (.type "object") = some true
  sub : ∀ t ∈ ["NoneType", "bool", "int", "str", "list", "tuple", "dict"], PySem.W.subIn K (.type t) (.ref C) = some false
/-- what stands at the right: something of a built-in type, or an instance of the same class -/
def RightOf (K : PySem.W.Frag) (H : Hp) (C : Addr) (y : V) : Prop := (∃ b dx fs, y = .ref b ∧ H b = some (.ins C dx fs)) ∨ ∃ t ∈ ["NoneType", "bool", "int", "str", "list", "tuple", "dict"], TyX K H y (.type t)
/-- o == e, o != e; sp: what the own __eq__ promises of the two -/
def rOwn (K : PySem.W.Frag) (C : Addr) (sp : Sp) (neg : Bool) : R2 := fun x y H Q => ∃ a dx fs, x = .ref a ∧ H a = some (.ins C dx fs) ∧ RightOf K H C y ∧ sp [x, y] H (fun v H' => ∃ r, v = .bl r ∧ Q (.bl (if neg then !r else r)) H') E0
section
variable {X : Cx} {C f : Addr} {fd : FuncData} {ps : List Str} {sp : Sp} {k : Nat}
theorem right_type {pins : List (Addr × Obj)} {σ : L2.St} {H : Hp} {s : Shared} {y : V} {u : Value} (I : Inv X pins σ H s) (T : EqC X.K C f) (ry : RelV y u) (h : RightOf X.K H C y) : ∃ tb, PySem.W.Looks (model X.prog X.w) s.heap (typeOf u) tb ∧ PySem.W.notFirst X.K C tb = true := by
  rcases h with ⟨b, dx, fs, rfl, hb⟩ | ⟨t, ht, hy⟩
  · cases ry
    obtain ⟨mB, J, _⟩ := ins_get I.hok hb
    obtain ⟨od, J, _⟩ := J.look
    exact ⟨_, J.type, by simp [PySem.W.notFirst]⟩
  · obtain ⟨P, kx, hp, _⟩ := kit_of I ry hy
    exact ⟨_, kx.ty _ _ I.kIn hp, by unfold PySem.W.notFirst; rw [T.sub t ht]; simp⟩
theorem own_run {pins : List (Addr × Obj)} {σ : L2.St} {H : Hp} {s : Shared} {x y : V} {v u : Value} {Q : VK} {A : Around} (F : FnOk X.prog X.w X.K X.mg X.base CX0 k f fd ps sp) (hb : Binds X.K fd ps []) (I : Inv X pins σ H s) (hr : Room k A) (hfr : A.frames = X.A.frames) (rx : RelV x v) (ry : RelV y u)
    (h : sp [x, y] H Q E0) : wpAny (model X.prog X.w) A (call (.ref f) [v, u]) (EP X pins σ Q) X.xe s := by
  have e0 : Env0 X.prog X.w X.K X.mg X.base A X.stack s H := by
    have e := I.env0
    exact ⟨by rw [hfr]; exact e.frames, e.mod, e.bs, e.bsz, e.funs, e.frf, e.hok, e.bare⟩
  have r2 : Vals [x, y] [v, u] := .cons rx (.cons ry .nil)
  have hl := F.len _ _ _ _ h
  have bd := hb s [v, u] I.kIn (by simpa using hl)
  rw [List.append_nil] at bd
  refine wpAny_call (codeAny_mono (F.run A X.stack s H ⟨[v, u], []⟩ [v, u] [x, y] Q E0 hr e0 bd r2 h) fun r s' hq => ?_)
  rcases r with er | (_ | _ | _ | w')
  · exact hq.elim
  · exact hq.elim
  · exact hq.elim
  · exact hq.elim
  · exact I.after hq
theorem op_own_eq (T : EqC X.K C f) (F : FnOk X.prog X.w X.K X.mg X.base CX0 k f fd ps sp) (hb : Binds X.K fd ps []) (hr : Room k X.A) : OpR X (compareOp .Eq) (rOwn X.K C sp false) := by
  intro pins s σ H x y v u Q I rx ry h
  obtain ⟨a, dx, fs, rfl, ha, hy, q⟩ := h
  obtain ⟨tb, L, nf⟩ := right_type I T ry hy
  cases rx
  obtain ⟨mA, J, _⟩ := ins_get I.hok ha
  obtain ⟨od, J, _⟩ := J.look
  obtain ⟨m, hF⟩ := I.fr
  show wpAny (model X.prog X.w) X.A (richCompare .Eq (.ref a) u) (EP X pins σ Q) X.xe s
  refine PySem.W.cmp_K (op := .Eq) hr.units0 hF I.ok.mod.kin J L nf T.eq T.fn (wpAny_mono (own_run F hb I hr rfl (x := .ref a) rfl ry q) (fun z s' hz => ?_) fun _ _ e => e)
  obtain ⟨z', H', I', rz, r, rfl, q'⟩ := hz
  cases rz
  exact ⟨.bl r, H', I', rfl, q'⟩
theorem op_own_ne (T : EqC X.K C f) (F : FnOk X.prog X.w X.K X.mg X.base CX0 k f fd ps sp) (hb : Binds X.K fd ps []) (hr : Room (k + 1) X.A) : OpR X (compareOp .NotEq) (rOwn X.K C sp true) := by
  intro pins s σ H x y v u Q I rx ry h
  obtain ⟨a, dx, fs, rfl, ha, hy, q⟩ := h
  obtain ⟨tb, L, nf⟩ := right_type I T ry hy
  cases rx
  obtain ⟨mA, J, _⟩ := ins_get I.hok ha
  obtain ⟨od, J, _⟩ := J.look
  have hr1 : Room k X.A.in1 := hr.in1
  show wpAny (model X.prog X.w) X.A (richCompare .NotEq (.ref a) u) (EP X pins σ Q) X.xe s
  refine ne_K (by have := hr.un; omega) I.kIn J L nf T.eq T.fn T.ne T.ob (wpAny_mono (own_run F hb I hr1 rfl (x := .ref a) rfl ry q) (fun z s' hz => ?_) fun _ _ e => e)
  obtain ⟨z', H', I', rz, r, rfl, q'⟩ := hz
  cases rz
  exact ⟨r, rfl, .bl (!r), H', I', rfl, q'⟩
end
end EqX

set_option Elab.async false
set_option linter.all false
set_option maxRecDepth 100000
set_option maxHeartbeats 4000000
/-! for i, x in enumerate(a tuple) -/
namespace EqX
open PySem PySem.Spec PyProof.Rows L2
/-- enumerate(v): the new iterator of v, then the enumerate object -/
theorem meets_enum1 {v : Value} {o : Obj} {Hq : Heap → Prop} (B : Begins v o Hq) :
    Meets (Builtin.«enumerate.__new__» ⟨[.type "enumerate", v], []⟩) (fun _ R s => Hq s.heap ∧
      R (.ok (.ret (.ref (s.heap.push o).objs.size))) { s with heap := (s.heap.push o).push { cls := .type "enumerate", data := .fields #[.none, .bool false, .ref s.heap.objs.size, rawInt 0, .none, .none] } }) :=
  .of_wp fun prog w A R s h => by
    obtain ⟨hp, g, d, tk, os⟩ := s
    obtain ⟨h1, h⟩ := h
    have hsub := sub_enumerate
    have q1 : ∀ {A' : Around} {E : Value → Shared → Prop} {Q : Value → Shared → Prop}, Q (.ref hp.objs.size) ⟨hp.push o, g, d, tk, os⟩ → wpAny (model prog w) A' (pyIter v) Q E ⟨hp, g, d, tk, os⟩ := fun q => B.iter prog w _ _ ⟨hp, g, d, tk, os⟩ _ h1 q
    wp_walk using q1
    refine wpAny_stack_any fun st => wpAny_pure ?_
    split
    · rename_i c _ _ _ _ _
      cases (c == Value.type "enumerate")
      · wp_walk using q1
        exact ⟨_, rfl, h⟩
      · wp_walk using q1
        exact ⟨_, rfl, h⟩
    · wp_walk using q1
      exact ⟨_, rfl, h⟩
theorem call_enum1 {prog : Program} {w : World} {A : Around} {E : Value → Shared → Prop} {s : Shared} {v : Value} {o : Obj} {Hq : Heap → Prop} {Q : Value → Shared → Prop} (B : Begins v o Hq) (h1 : Hq s.heap)
    (h : ∀ h', IsEnum h' (s.heap.objs.size + 1) s.heap.objs.size 0 .none → h'.get? s.heap.objs.size = some o → h'.objs.size = s.heap.objs.size + 2 → (∀ b u, s.heap.get? b = some u → h'.get? b = some u) → Q (.ref (s.heap.objs.size + 1)) { s with heap := h' }) :
    wpAny (model prog w) A (call (.type "enumerate") [v]) Q E s := by
  refine callType_new F.called_enumerate (by decide) (F.typeCall_enumerate_1 _) (F.newCall_enumerate_1 _) (fun obj => F.args_object_init_2 obj _) F.entry_enumerate_new (meets_enum1 B) ⟨h1, ?_⟩
  have hz : (s.heap.push o).objs.size = s.heap.objs.size + 1 := Heap.size_push ..
  show _ ∧ _
  rw [hz]
  have he : IsEnum ((s.heap.push o).push { cls := .type "enumerate", data := .fields #[.none, .bool false, .ref s.heap.objs.size, rawInt 0, .none, .none] }) (s.heap.objs.size + 1) s.heap.objs.size 0 .none := by
    have q := Heap.get?_push_size (s.heap.push o) (o := { cls := .type "enumerate", data := .fields #[.none, .bool false, .ref s.heap.objs.size, rawInt 0, .none, .none] }) rfl
    rw [hz] at q
    exact q
  exact ⟨⟨_, he, rfl⟩, h _ he (Heap.get?_push_of_some _ (Heap.get?_push_size _ B.free)) (by rw [Heap.size_push, hz]) fun b u x => Heap.get?_push_of_some _ (Heap.get?_push_of_some _ x)⟩
/-- the tuple at a, each item in a new pair -/
def ItEt (K : PySem.W.Frag) (a : Addr) : It :=
  ⟨fun i H => ∃ (xs : List V) (x : V), SqT K H a xs ∧ xs[i]? = some x, fun i H v H' => ∃ T x, v = .ref T ∧ H T = none ∧ H' = upd H T (.tup [.int (i : Nat), x]) ∧ ∀ xs, SqT K H a xs → xs[i]? = some x, fun i H => ∃ xs : List V, SqT K H a xs ∧ xs.length ≤ i⟩
theorem turn_enumT {P : Program} {w : World} {K : PySem.W.Frag} {elts : List Expr} {kk : Nat} {tpos : Pos} (a e it : Addr) :
    Turn P w K (.Tuple elts kk tpos) (ItEt K a) [e, it] e (fun i h => (∃ old, IsEnum h e it ((i : Nat) : Int) old) ∧ h.IsTupleIter it a i ∧ e ≠ it) where
  mem := by simp
  obj := fun i h st b hb => by
    obtain ⟨⟨old, he⟩, ⟨o, ho, hc, hd⟩, _⟩ := st
    rcases List.mem_cons.mp hb with z | z
    · rw [z]; exact ⟨_, he, fun v q => nomatch q⟩
    · rw [List.mem_singleton.mp z]; exact ⟨o, ho, fun v q => by rw [hd] at q; cases q⟩
  keep := fun i h h' st k => let ⟨⟨old, he⟩, hi, hne⟩ := st; ⟨⟨old, k e (by simp) _ he⟩, hi.at fun o q => k it (by simp) o q, hne⟩
  item := by
    intro X hP hw hK hc i pins s σ H E I hf st hg
    subst hP hw hK
    obtain ⟨⟨old, he⟩, hit, hne⟩ := st
    obtain ⟨xs, x, hq, hx⟩ := hg
    obtain ⟨its, rv, p, hz⟩ := I.tuple hq
    obtain ⟨u, hu, ru⟩ := rv.get hx
    have pt : s.heap.IsTuple a its.toArray := p
    obtain ⟨oa, ha, hac, na, had⟩ := id p
    have nai : a ≠ it := fun z => by
      obtain ⟨oi, e1, e2, e3⟩ := id hit
      rw [← z, ha] at e1
      cases e1
      rw [had] at e3
      cases e3
    have nae : e ≠ a := fun z => by
      have e1 : s.heap.get? e = some _ := he
      rw [z, ha] at e1
      cases e1
      cases had
    have D := Draws.tuple (prog := X.prog) (w := X.w) (A := X.A.in1) (I.ok.hd hc) it a nai its.toArray
    have hlt : i < its.toArray.size := by
      obtain ⟨z, _⟩ := List.getElem?_eq_some_iff.mp hu
      simpa using z
    refine wpAny_pyNext_enum_itemD D he ⟨hit, pt⟩ hlt hne (by simp [hne, nae]) fun y h' tk hy ho hst' hT hsz hk => ?_
    have ey : y = u := by
      have z : its.toArray[i]? = some u := by simpa using hu
      exact Option.some.inj (hy.symm.trans z)
    subst ey
    have hel : e < s.heap.objs.size := Heap.lt_size he
    refine ⟨_, rfl, wpAny_letOwnedTupleGo_enum (s := { s with heap := h', toks := tk + 1 }) ho fun h'' he' sb => ?_⟩
    have hT2 : h''.get? s.heap.objs.size = some { cls := .type "tuple", data := .seq #[.int i tk, y] } := (sb.2 _ (Nat.ne_of_gt hel)).trans hT
    have new : ObjOk X.prog X.w (upd H s.heap.objs.size (.tup [.int (i : Nat), x])) h'' s.heap.objs.size (.tup [.int (i : Nat), x]) :=
      ⟨by show 2 ≤ sizeLine; decide, [.int i tk, y], .cons ⟨_, rfl⟩ (.cons ru .nil), ⟨_, hT2, rfl, _, rfl⟩⟩
    have I1 : Inv X pins σ (upd H s.heap.objs.size (.tup [.int (i : Nat), x])) { s with heap := h'', toks := tk + 1 } :=
      I.turnedNew (ch := [e, it]) (fun b ob hb q => (sb.2 b (fun z => hb (by simp [z]))).trans (hk b ob (fun z => hb (by simp [z])) (fun z => hb (by simp [z])) q)) hf (Nat.le_refl _) new
    refine ⟨.ref s.heap.objs.size, _, I1, rfl, ⟨_, x, rfl, I.hok.fresh (Nat.le_refl _), rfl, fun ys hy => by rw [I.tuple_inj hy hq]; exact hx⟩, ⟨⟨y, ?_⟩, hst'.1.at fun o q => (sb.2 it (Ne.symm hne)).trans q, hne⟩, fun b hb => ?_⟩
    · have e1 : ((i + 1 : Nat) : Int) = (i : Int) + 1 := by omega
      rw [e1]
      exact he'
    · have hb' : b < s.heap.objs.size := by
        rcases List.mem_cons.mp hb with z | z
        · rw [z]; exact hel
        · obtain ⟨_, q, _⟩ := hit
          rw [List.mem_singleton.mp z]
          exact Heap.lt_size q
      rw [upd_ne (Nat.ne_of_lt hb')]
      exact (hf b hb).1
  done := by
    intro X hP hw hK hc i pins s σ H E I hf st hg
    subst hP hw hK
    obtain ⟨⟨old, he⟩, hit, hne⟩ := st
    obtain ⟨xs, hq, hx⟩ := hg
    obtain ⟨its, rv, p, hz⟩ := I.tuple hq
    obtain ⟨f0, f1, f2, f3, f4, f5⟩ := hf it (by simp)
    have hl := rv.length
    have hT : s.TypeIs (.ref e) "enumerate" := ⟨_, he, rfl⟩
    unfold pyNext
    refine wpAny_bind (wpAny_attempt (wpAny_callSpecial?_slot (name := Str.ofString "__next__") hT F.slot_enumerate_next (wpAny_call_entry F.slot_enumerate_next hT F.entry_enumerate_next ?_ (F.args_enumerate_next_1 _))))
    show wpAny _ _ (field (.ref e) 2 >>= _) _ _ _
    refine wpAny_bind (wpAny_field he rfl (x := .ref it) rfl (wpAny_bind (wpAny_nextOf_tuple_end (I.ok.hd hc) hit (show s.heap.IsTuple a its.toArray from p) (by simp; omega) fun h' x he' hx' => ?_)))
    obtain ⟨o, ho, hc'⟩ := hx'
    refine wpAny_bind (wpAny_isInstance (T := "StopIteration") (b := true) ⟨o, ho, hc'⟩ isSubtype_stop (wpAny_pure ?_))
    exact ⟨rfl, I.turned (t' := s.toks) (fun b o hb q => he' b o hb q) f0 f1 f3 f4 f5⟩
  self := fun A i s Q E st h => let ⟨⟨_, he⟩, _⟩ := st; wpAny_pyIter_enum he h
def iEnumT (K : PySem.W.Frag) (ta : TA) : TI := fun σ H R => ta σ H fun vs H1 => ∃ a xs, vs = [.ref a] ∧ SqT K H1 a xs ∧ R (ItEt K a) H1
theorem pi_enumT {X : Cx} {e : Expr} {ta : TA} {p pos tpos : Pos} {elts : List Expr} {kk : Nat} (hg : Gl X "enumerate") (hm : X.mg "enumerate" = none) (ha : PA X [e] ta) (hs : starEach [e] X.env = [(false, eval e X.env)] := by rfl) :
    PI X (.Tuple elts kk tpos) (.Call (.Name "enumerate" p) [e] [] pos) (iEnumT X.K ta) := by
  refine ⟨fun pins s σ H R I h => ?_⟩
  refine Call_ (ld_blt I hg hm boot_enumerate (PyProof.Rows.callWith_type1 (thn (ha.run pos pins s σ H _ I h) fun us s1 ⟨vs, H1, I1, r1, q1⟩ => ?_) hs rfl))
  obtain ⟨a, xs, ex, hq, q⟩ := q1
  subst ex
  cases r1 with
  | cons r rr =>
    cases rr
    cases r
    obtain ⟨its, rv, p', hz⟩ := I1.tuple hq
    refine call_enum1 (begins_tuple a its.toArray) (show s1.heap.IsTuple a its.toArray from p') fun h' he hit hsz hk => wpAny_pyIter_enum he ?_
    have I2 : Inv X pins σ H1 { s1 with heap := h' } := I1.kept (t' := s1.toks) hk
    refine ⟨s1.heap.objs.size + 1, [s1.heap.objs.size + 1, s1.heap.objs.size], _, _, H1, rfl, I2, turn_enumT a (s1.heap.objs.size + 1) s1.heap.objs.size, ⟨⟨.none, he⟩, ⟨_, hit, rfl, rfl⟩, Nat.succ_ne_self _⟩, fun b hb => ?_, q⟩
    have hle : s1.heap.objs.size ≤ b := by
      rcases List.mem_cons.mp hb with z | z
      · rw [z]; exact Nat.le_add_right _ _
      · rw [List.mem_singleton.mp z]; exact Nat.le_refl _
    exact I1.fpOk hle (I1.hok.fresh hle)
end EqX
namespace EqX
open PySem PySem.Spec PyProof.Rows L2
/-- a walk over enumerate(the tuple at a) -/
theorem for_enumT {K : PySem.W.Frag} {a : Addr} {xs : List V} {g : TG} {tb : TS} {D : Ends} {σ : L2.St} {H : Hp} (Pv : Nat → L2.St → Hp → Prop) (h0 : Pv 0 σ H) (hl : ∀ i σ H, i ≤ xs.length → Pv i σ H → SqT K H a xs)
    (hs : ∀ i x T σ H, xs[i]? = some x → H T = none → Pv i σ H → g (.ref T) σ (upd H T (.tup [.int (i : Nat), x])) fun σ2 H2 => tb { D with nx := Pv (i + 1), ct := Pv (i + 1), bk := D.nx } σ2 H2) (hd : ∀ σ H, Pv xs.length σ H → D.nx σ H) :
    ∃ W : Nat → Nat → L2.St → Hp → Prop, (∃ m, W 0 m σ H) ∧ ∀ i m σ H, W i m σ H →
      ((ItEt K a).stop i H ∧ D.nx σ H) ∨ ((ItEt K a).go i H ∧ ∃ N : L2.St → Hp → Prop, (∀ σ' H', N σ' H' → ∃ m', m' < m ∧ W (i + 1) m' σ' H') ∧ ∀ x H', (ItEt K a).yld i H x H' → g x σ H' fun σ2 H2 => tb { D with nx := N, ct := N, bk := D.nx } σ2 H2) := by
  refine ⟨fun i m σ H => m = xs.length - i ∧ i ≤ xs.length ∧ Pv i σ H, ⟨xs.length, by simp, Nat.zero_le _, h0⟩, ?_⟩
  rintro i m σ H ⟨rfl, hi, p⟩
  have q := hl i σ H hi p
  by_cases hlt : i < xs.length
  · refine .inr ⟨⟨xs, xs[i], q, by simp [hlt]⟩, Pv (i + 1), fun σ' H' p' => ⟨xs.length - (i + 1), by omega, rfl, hlt, p'⟩, fun v H' y => ?_⟩
    obtain ⟨T, x, rfl, hT, rfl, hx⟩ := y
    exact hs i x T σ H (hx xs q) hT p
  · have e : i = xs.length := by omega
    subst e
    exact .inl ⟨⟨xs, q, Nat.le_refl _⟩, hd σ H p⟩
end EqX

set_option Elab.async false
set_option linter.all false
set_option maxRecDepth 100000
set_option maxHeartbeats 4000000
/-! t[::-1], t a tuple -/
namespace HT
open PySem PySem.Spec PyProof.Rows
section
variable {prog : Program} {w : World} {A : Around} {E : Value → Shared → Prop} {s : Shared}
theorem eq_places (n : Nat) : Builtin.Slice.slicePlaces ((n : Int) - 1) (-1) (-1) = n := by
  unfold Builtin.Slice.slicePlaces
  rw [if_neg (by decide)]
  split
  · simp
  · simp
    omega
theorem eq_applied {sl : Addr} {n : Nat} {t : Tok} {Q : Int × Int × Nat → Shared → Prop} (hs : s.heap.IsSliceOf sl .none .none (.int (-1) t)) (h : Q ((n : Int) - 1, -1, n) s) : wpAny (model prog w) A (Builtin.Slice.sliceApplied (.ref sl) (pure (n : Int))) Q E s := by
  obtain ⟨os, hos, hcs, hds⟩ := id hs
  unfold Builtin.Slice.sliceApplied Builtin.Slice.sliceFields
  refine wpAny_bind (wpAny_bind (wpAny_field hos hds (x := .none) rfl (wpAny_bind (wpAny_field hos hds (x := .none) rfl (wpAny_bind (wpAny_field hos hds (x := .int (-1) t) rfl (wpAny_pure ?_)))))))
  refine wpAny_bind (slicePart_int ?_)
  show wpAny _ _ (if ((-1 : Int) == 0) = true then _ else _) _ _ s
  rw [if_neg (by decide)]
  refine wpAny_bind (slicePart_none (wpAny_bind (slicePart_none (wpAny_bind (wpAny_pure ?_)))))
  show wpAny _ _ (pure ((n : Int) - 1, (-1 : Int), Builtin.Slice.slicePlaces ((n : Int) - 1) (-1) (-1))) _ _ s
  rw [eq_places]
  exact wpAny_pure h
theorem eq_pick (xs : Array Value) : ((List.range xs.size).filterMap fun (k : Nat) => xs[(((xs.size : Int) - 1) + (k : Int) * (-1)).toNat]?) = xs.toList.reverse := by
  have e : (fun (k : Nat) => xs[(((xs.size : Int) - 1) + (k : Int) * (-1)).toNat]?) = (fun j => xs[j]?) ∘ fun k => xs.size - 1 - k := by
    funext k
    show _ = xs[xs.size - 1 - k]?
    rw [show (((xs.size : Int) - 1) + (k : Int) * (-1)).toNat = xs.size - 1 - k by omega]
  rw [e, ← List.filterMap_map, PySem.W.krv_range, List.filterMap_reverse, PySem.W.krv_all]
theorem getItem_tuple_rev {t sl : Addr} {items : Array Value} {u : Tok} {Q : Value → Shared → Prop} (ht : IsTup s.heap t items) (hs : s.heap.IsSliceOf sl .none .none (.int (-1) u))
    (h : Q (.ref s.heap.objs.size) { s with heap := s.heap.push { cls := .type "tuple", data := .seq items.toList.reverse.toArray } }) (hsz : items.size ≤ sizeLine) : wpAny (model prog w) A (getItem (.ref t) (.ref sl)) Q E s := by
  have fit : sizeOk (.seq items.toList.reverse.toArray) := by
    show items.toList.reverse.toArray.size ≤ sizeLine
    simpa using hsz
  obtain ⟨os, hos, hcs, hds⟩ := id hs
  have hTs : s.TypeIs (.ref sl) "slice" := ⟨os, hos, hcs⟩
  unfold getItem
  try with_reducible refine wpAny_holding ?_
  first | refine wpAny_bind (wpAny_pure ?_) | skip
  refine wpAny_bind (wpAny_sequenceKey ht.typeIs (by decide) (wpAny_bind (wpAny_callSpecial?_slot (name := Str.ofString "__getitem__") ht.typeIs PyProof.Rows.slot_tuple_getitem
    (wpAny_call_entry PyProof.Rows.slot_tuple_getitem ht.typeIs entry_tuple_getitem ?_ (args_tuple_getitem _ _)))))
  show wpAny _ _ (Builtin.Tuple.tupleItemsOf (.ref t) >>= _) _ _ s
  refine wpAny_bind (tupleItemsOf_ ht (wpAny_bind (wpAny_typeOf hTs ?_)))
  rw [if_pos (by decide)]
  refine wpAny_bind (eq_applied hs ?_)
  show wpAny _ _ (if (((items.size : Int) - 1) == 0 && (-1 : Int) == 1 && items.size == items.size) = true then _ else _) _ _ s
  rw [if_neg (by simp), eq_pick]
  first
    | exact wpAny_bind (m := Builtin.Tuple.tupleExact _) (wpAny_newObj_type (wpAny_pure ⟨_, rfl, wpAny_pure h⟩) fit)
    | exact wpAny_bind (m := Builtin.Tuple.tupleExact _) (wpAny_newObj_type (wpAny_bind (wpAny_pure (wpAny_pure ⟨_, rfl, wpAny_pure h⟩))) fit)
    | exact wpAny_bind (wpAny_bind (m := Builtin.Tuple.tupleExact _) (wpAny_newObj_type (wpAny_pure (wpAny_pure ⟨_, rfl, wpAny_pure h⟩)) fit))
    | exact wpAny_bind (wpAny_bind (m := Builtin.Tuple.tupleExact _) (wpAny_newObj_type (wpAny_pure ⟨_, rfl, wpAny_pure h⟩) fit))
end
end HT
namespace EqX
open PySem PySem.Spec PyProof.Rows L2
def tRevT (K : PySem.W.Frag) (te : TE) : TE := fun σ H Q => te σ H fun x H1 => ∃ a xs, x = .ref a ∧ SqT K H1 a xs ∧ ∀ p, H1 p = none → Q (.ref p) (upd H1 p (.tup xs.reverse))
theorem pe_revT {X : Cx} {e : Expr} {te : TE} {k : Nat} {p1 p2 p3 pos : Pos} (he : PE X e te) : PE X (.Subscript e (.Slice none none (some (.UnaryOp .USub (.Constant (.int 1) k p1) p2)) p3) pos) (tRevT X.K te) := by
  refine ⟨fun pins s σ H Q I h => ?_⟩
  refine Subscript_ (thn (he.run pins s σ H _ I h) fun v s1 ⟨x, H1, I1, r1, a, xs, ex, hx, q⟩ => ?_)
  subst ex
  cases r1
  have st : PO X (some (.UnaryOp .USub (.Constant (.int 1) k p1) p2)) (tPart (tUn (rU fun i => .int (-i)) (tC (.int 1)))) := po_some (pe_un un_neg pe_int)
  refine wpAny_Slice (thn (po_none.run pins s1 σ H1 (fun o H2 => o = none ∧ H2 = H1) I1 ⟨rfl, rfl⟩) fun vl s2 ⟨l, H2, I2, pl, el, e2⟩ => ?_)
  subst el e2
  refine thn (po_none.run pins s2 σ H2 (fun o H3 => o = none ∧ H3 = H2) I2 ⟨rfl, rfl⟩) fun vu s3 ⟨u, H3, I3, pu, eu, e3⟩ => ?_
  subst eu e3
  refine thn (st.run pins s3 σ H3 (fun o H4 => o = some (-1) ∧ H4 = H3) I3 ⟨1, rfl, -1, rfl, rfl, rfl⟩) fun vs s4 ⟨o, H4, I4, ps, eo, e4⟩ => ?_
  subst eo e4
  cases pl
  cases pu
  cases ps with
  | int i tk =>
    have I5 : Inv X pins σ H4 { s4 with heap := s4.heap.push { cls := .type "slice", data := .fields #[.none, .none, .int (-1) tk] } } := I4.kept (t' := s4.toks) fun b ob q => Heap.get?_push_of_some _ q
    obtain ⟨its, r, ht, hz⟩ := I5.tuple hx
    have hl := r.length
    show wpAny (model X.prog X.w) X.A (subscriptTail e (.Slice none none (some (.UnaryOp .USub (.Constant (.int 1) k p1) p2)) p3) (.ref a) (.ref s4.heap.objs.size)) (EP X pins σ Q) X.xe _
    refine tail_any (ops := [.ref a, .ref s4.heap.objs.size]) ht.typeIs (PyProof.Rows.slot_tuple_getitem.lookup) ?_ (by with_unfolding_all rfl)
    refine HT.getItem_tuple_rev ht (Heap.IsSliceOf.new _ .none .none (.int (-1) tk)) ?_ (by rw [List.size_toArray]; omega)
    refine ⟨.ref _, _, I5.laid (t' := s4.toks) (o := .tup xs.reverse) (fun b ob q => Heap.get?_push_of_some _ q) (Nat.le_refl _) ?_, rfl, q _ (I5.hok.fresh (Nat.le_refl _))⟩
    exact ⟨by rw [List.length_reverse]; exact hz, _, r.reverse, IsTup.new _ _⟩
end EqX

set_option Elab.async false
set_option linter.all false
set_option maxRecDepth 100000
set_option maxHeartbeats 4000000
/-! A lambda with parameters that captures nothing, handed to a def that calls it. -/
namespace EqX
open PySem PySem.Spec PyProof.Rows L2 LamX
/-- such a lambda called -/
theorem run_lam {CX : CXT} {P : Program} {w : World} {K : PySem.W.Frag} {mg : Str → Option Value} {base : Heap} {k : Nat} {f c' : Addr} {q : Str} {params : Arguments} {body : Expr} {scope : Scope} {pm ctv : Value} {N ps : List Str} (S : FnScope N ps scope)
    {A : Around} {outer : List Env} {s : Shared} {H : Hp} {us : List Value} {vs : List V} {Q : VK} {E : XK} {t : TE} (hf : s.heap.get? f = some (PySem.W.kla_obj "<lambda>" q params body scope [] pm c' ctv)) (hc : s.heap.CodeRec (.ref c') q) (hr : Room (k + 1) A)
    (e0 : Env0 P w K mg base A outer s H) (hb : bindArgs (PySem.W.kla_fn "<lambda>" q params body scope [] pm (.ref c') ctv) ⟨us, []⟩ = pure (ps.zip us)) (r : Vals vs us) (hl : vs.length = ps.length)
    (hbody : PE (cxOf CX P w K mg base N q scope f (.ref c') A outer s H E) body t) (h : t (L2.start N vs) H Q) : codeAny (model P w) A (.call (.ref f) ⟨us, []⟩) (CR CX outer P w H s Q E) s := by
  have lim : s.heap.NoLimit := e0.mod.nolimit.keeps fun b o e => (e0.bs b o e).1
  have kinds : ∀ y ∈ ps.zip us, scope.names.lookup y.1 = some .local ∨ (scope.names.lookup y.1 = some .cell ∧ ((cellsFrom (s.heap.objs.size + 1) scope.names []).lookup y.1).isSome = true) := fun y hy =>
    (S.par y.1 (List.of_mem_zip (a := y.1) (b := y.2) hy).1).imp id fun q => ⟨q, PySem.W.cellsFrom_some _ _ _ (.inl q)⟩
  refine PySem.W.kla_callFunE hr.depth hf rfl S.co S.gen rfl hc ?_
  rw [hb]
  refine wpAny_pure (wpAny_newFunctionEnv_cells S.kind kinds fun env he s1 x => ?_)
  subst he
  refine ⟨lim.keeps x.toInCall.keep, ?_⟩
  have I : Inv (cxOf CX P w K mg base N q scope f (.ref c') A outer s H E) [] (L2.start N vs) H s1 := inv_start S hr.hd e0 hl r x
  refine PySem.W.kla_codeExpr (wpAny_mono (hbody.run [] s1 (L2.start N vs) H Q I h) (fun v s' hq => ?_) fun e s' hs => hs)
  obtain ⟨v', H', J, rv, q⟩ := hq
  exact ⟨v', H', J.os, J.bare, J.base, J.hok, rv, q⟩
/-- a(e, ..) in the def that got such a lambda -/
def tLamF (i : Nat) (f c' : Addr) (q : Str) (sp : Sp) (ta : TA) : TE := fun σ H Q => σ[i]? = some (some (.ref f)) ∧ ta σ H fun vs H1 => H1 c' = some (CodeO c' q) ∧ sp vs H1 Q E0
section
variable {X : Cx} {f c' : Addr} {q : Str} {params : Arguments} {body : Expr} {scope : Scope} {pm ctv : Value} {N ps : List Str} {sp : Sp} {k i : Nat} {a : Str} {e : Expr} {es : List Expr} {ta : TA} {p pos : Pos}
/-- what such a lambda does, wherever it is called -/
def LamDo (P : Program) (w : World) (K : PySem.W.Frag) (mg : Str → Option Value) (base : Heap) (k : Nat) (f c' : Addr) (q : Str) (body : Expr) (scope : Scope) (N : List Str) (sp : Sp) : Prop :=
  ∀ (A : Around) (outer : List Env) (s : Shared) (H : Hp) (vs : List V) (Q : VK), Room k (A.deeper (envOfC q scope s.heap.objs.size f (.ref c'))) → sp vs H Q E0 → ∃ t, PE (cxOf CX0 P w K mg base N q scope f (.ref c') A outer s H E0) body t ∧ t (L2.start N vs) H Q
theorem pe_lamf (hN : X.N[i]? = some a) (hv : Vis X.env.scope a) (hex : X.ex = []) (hf : X.s_0.heap.get? f = some (PySem.W.kla_obj "<lambda>" q params body scope [] pm c' ctv)) (hfn : X.H_0 f = none) (hfr : f ∉ X.fs) (S : FnScope N ps scope) (hr : Room (k + 1) X.A)
    (len : ∀ vs H Q E, sp vs H Q E → vs.length = ps.length) (hb : ∀ us : List Value, us.length = ps.length → bindArgs (PySem.W.kla_fn "<lambda>" q params body scope [] pm (.ref c') ctv) ⟨us, []⟩ = pure (ps.zip us))
    (do_ : LamDo X.prog X.w X.K X.mg X.base k f c' q body scope N sp) (ha : PA X (e :: es) ta) (hd : (a == ("__debug__" : Str)) = false := by decide) (hcd : (a == ("__classdict__" : Str)) = false := by decide)
    (he : starEach (e :: es) X.env = (false, eval e X.env) :: starEach es X.env := by rfl) (hpl : (backTo pos (starEach es X.env)).any (·.1) = false := by rfl) : PE X (.Call (.Name a p) (e :: es) [] pos) (tLamF i f c' q sp ta) := by
  refine ⟨fun pins s σ H Q I h => ?_⟩
  obtain ⟨hs, h⟩ := h
  have there : ∀ {σ : L2.St} {H : Hp} {s : Shared}, Inv X pins σ H s → s.heap.get? f = some (PySem.W.kla_obj "<lambda>" q params body scope [] pm c' ctv) := fun {σ H s} I => I.base.keep f _ hf hfn hfr (by rw [hex]; exact List.not_mem_nil)
  refine wpAny_Call_Name_kw (thn ((pe_var (pos := p) (i := i) hN hv hd hcd).run pins s σ H (fun v H1 => v = .ref f ∧ H1 = H) I ⟨.ref f, hs, rfl, rfl⟩) fun u s1 ⟨v, H1, I1, r1, q1⟩ => ?_)
  obtain ⟨ev, eH⟩ := q1
  subst ev
  rw [eH] at I1
  obtain rfl : u = Value.ref f := r1
  refine PySem.W.callWith_F (first := []) ⟨_, _, _, _, there I1⟩ (thn (ha.run pos pins s1 σ H _ I1 h) fun us s2 ⟨vs, H2, I2, r2, hc, q2⟩ => ?_) he hpl
  have of2 := there I2
  refine ⟨⟨_, _, _, _, of2⟩, ?_⟩
  rw [List.nil_append]
  have hl := len _ _ _ _ q2
  obtain ⟨⟨oc, ws, t, e1, e2, e3⟩, _, _⟩ := (show ObjOk X.prog X.w H2 s2.heap c' (CodeO c' q) from I2.hok _ _ hc)
  obtain ⟨t', ht, hq⟩ := do_ X.A X.stack s2 H2 vs Q (hr.deeper _) q2
  refine wpAny_call (codeAny_mono (run_lam (CX := CX0) (E := E0) S of2 ⟨c', oc, ws, t, rfl, e1, e2, e3⟩ hr I2.env0 (hb us (r2.length.symm.trans hl)) r2 hl ht hq) fun r s' hq => ?_)
  rcases r with er | (_ | _ | _ | u)
  · exact hq.elim
  · exact hq.elim
  · exact hq.elim
  · exact hq.elim
  · exact I2.after hq
end
theorem clo_nil {cells : List (Str × Addr)} {names : List (Str × NameKind)} (h : ∀ y ∈ names, y.2 ≠ .free) : cloFrom cells names [] = [] := by
  cases e : cloFrom cells names [] with
  | nil => rfl
  | cons z zs =>
    obtain ⟨y, c⟩ := z
    have hm : (y, c) ∈ cloFrom cells names [] := by rw [e]; exact List.mem_cons_self
    rcases cloFrom_mem hm with q | ⟨q, _⟩
    · cases q
    · exact absurd rfl (h _ q)
/-- x(e, lambda ..): what x makes of its value and of the lambda's function at f -/
def tGive (T : List (Addr × Str)) (q : Str) (sp : Addr → Addr → V → Hp → VK → Prop) (te : TE) : TE := fun σ H Q => te σ H fun v H1 => Tabs T H1 ∧ ∀ f c' H2, ExtN H1 H2 → Tabs T H2 → H2 c' = some (CodeO c' q) → sp f c' v H2 Q
section
variable {X : Cx}
theorem pe_give {T : List (Addr × Str)} {x a1 a2 : Str} {g c P : Addr} {k : Nat} {pg : Arguments} {bg : List Stmt} {sg : Scope} {dV kV doc pm0 cdv ct oc : Value} {an od : Option Addr} {osl : Array (Option Value)} {Ng : List Str} {sp : Addr → Addr → V → Hp → VK → Prop}
    {params : Arguments} {body : Expr} {scope : Scope} {e : Expr} {te : TE} {p lpos pos : Pos} (hg : Gl X x) (hm : X.mg x = some (.ref g)) (hk : PySem.W.keepIn X.K (.ref g) = true)
    (lk : X.K.lookup g = some ⟨oc, od, .func (PySem.W.fnOf x x pg bg sg dV kV doc pm0 an cdv ct), osl⟩) (hcg : PySem.W.codeIn X.K cdv x = true) (hb : L2.Binds X.K (PySem.W.fnOf x x pg bg sg dV kV doc pm0 an cdv ct) [a1, a2] []) (Sg : FnScope Ng [a1, a2] sg)
    (TB : TabB X.base X.mg c P) (hcode : X.env.code = .ref c) (hmT : (P, X.env.qual ++ "<lambda>") ∈ T) (hu : ∀ p ∈ T, p.1 = P → p.2 = X.env.qual ++ "<lambda>") (hr : Room (k + 1) X.A) (hfree : ∀ y ∈ scope.names, y.2 ≠ .free) (hdef : defaultsOf params X.env = ([], []))
    (hbody : ∀ (f c' : Addr) (pm ctv : Value) (s : Shared) (H : Hp) (v : V) (Q : VK), s.heap.get? f = some (PySem.W.kla_obj "<lambda>" (X.env.qual ++ "<lambda>") params body scope [] pm c' ctv) → H f = none → f ∉ frs X.stack → Room k (X.A.deeper (envOfC x sg s.heap.objs.size g cdv)) →
      sp f c' v H Q → ∃ t, PSs (cxOf CX0 X.prog X.w X.K X.mg X.base Ng x sg g cdv X.A X.stack s H E0) bg t ∧ t { nx := fun _ H' => Q .non H', rt := Q } (L2.start Ng [v, .ref f]) H)
    (he : PE X e te) (hdb : (x == ("__debug__" : Str)) = false := by decide) (hst : starEach [e, .Lambda params body scope lpos] X.env = [(false, eval e X.env), (false, eval (.Lambda params body scope lpos) X.env)] := by rfl)
    (hst2 : starEach [.Lambda params body scope lpos] X.env = [(false, eval (.Lambda params body scope lpos) X.env)] := by rfl) :
    PE X (.Call (.Name x p) [e, .Lambda params body scope lpos] [] pos) (tGive T (X.env.qual ++ "<lambda>") sp te) := by
  refine ⟨fun pins s σ H Q I h => ?_⟩
  refine wpAny_Call_Name_kw (ld_glob I hg hm ?_ hdb)
  refine PySem.W.callWith_K (h₀ := X.base) I.ok.mod.kin hk ?_ (by rw [hst, hst2]) (by rw [hst2]; rfl)
  rw [hst]
  show wpAny _ _ (spliced ((false, eval e X.env) :: (false, eval (.Lambda params body scope lpos) X.env) :: [])) _ _ s
  refine Calls.spliced_cons (thn (he.run pins s σ H _ I h) fun u s1 ⟨v, H1, I1, rv, hT, q⟩ => ?_)
  refine Calls.spliced_cons (lam_make2 I1 TB hcode hmT hu hT hdef (fun y hy e => absurd e (hfree y hy)) fun f c' pm' ctv H2 s2 I2 eN T2 hf hfn hfr hco => ?_)
  refine Calls.spliced_nil ⟨I2.kIn, ?_⟩
  rw [clo_nil hfree] at hf
  have hq := q f c' H2 eN T2 hco
  have rc : codeAny (model X.prog X.w) X.A (.call (.ref g) ⟨[u, .ref f], []⟩) (CR CX0 X.stack X.prog X.w H2 s2 Q E0) s2 :=
    run_ofS (N := Ng) (ps := [a1, a2]) (us := [u, .ref f]) (vs := [v, .ref f]) lk hcg Sg hr I2.env0 (hb s2 [u, .ref f] I2.kIn rfl) (.cons rv (.cons rfl .nil)) rfl fun hr' => hbody f c' pm' ctv s2 H2 v Q hf hfn hfr hr' hq
  refine wpAny_call (codeAny_mono rc fun r s3 hq => ?_)
  rcases r with er | (_ | _ | _ | w')
  · exact hq.elim
  · exact hq.elim
  · exact hq.elim
  · exact hq.elim
  · exact I2.after hq
theorem pe_giveF {T : List (Addr × Str)} {x a1 a2 : Str} {st : Stmt} {c P : Addr} {k : Nat} {Ng : List Str} {sp : Addr → Addr → V → Hp → VK → Prop} {params : Arguments} {body : Expr} {scope : Scope} {e : Expr} {te : TE} {p lpos pos : Pos} (A : At X.K X.mg x st) (hg : Gl X x)
    (hb : ∀ (kV doc pm : Value) (an : Option Addr) (cdv : Value) (us : List Value), us.length = ([a1, a2] : List Str).length → ∀ ct, bindArgs (PySem.W.fnOf x x (defArgs st) (defBody st) (defScope st) .none kV doc pm an cdv ct) ⟨us, []⟩ = pure (([a1, a2] : List Str).zip us)) (Sg : FnScope Ng [a1, a2] (defScope st))
    (TB : TabB X.base X.mg c P) (hcode : X.env.code = .ref c) (hmT : (P, X.env.qual ++ "<lambda>") ∈ T) (hu : ∀ p ∈ T, p.1 = P → p.2 = X.env.qual ++ "<lambda>") (hr : Room (k + 1) X.A) (hfree : ∀ y ∈ scope.names, y.2 ≠ .free) (hdef : defaultsOf params X.env = ([], []))
    (hbody : ∀ (cdv : Value) (f c' : Addr) (pm ctv : Value) (s : Shared) (H : Hp) (v : V) (Q : VK), s.heap.get? f = some (PySem.W.kla_obj "<lambda>" (X.env.qual ++ "<lambda>") params body scope [] pm c' ctv) → H f = none → f ∉ frs X.stack → Room k (X.A.deeper (envOfC x (defScope st) s.heap.objs.size (He.ga X.K x) cdv)) →
      sp f c' v H Q → ∃ t, PSs (cxOf CX0 X.prog X.w X.K X.mg X.base Ng x (defScope st) (He.ga X.K x) cdv X.A X.stack s H E0) (defBody st) t ∧ t { nx := fun _ H' => Q .non H', rt := Q } (L2.start Ng [v, .ref f]) H)
    (he : PE X e te) (hdb : (x == ("__debug__" : Str)) = false := by decide) (hst : starEach [e, .Lambda params body scope lpos] X.env = [(false, eval e X.env), (false, eval (.Lambda params body scope lpos) X.env)] := by rfl)
    (hst2 : starEach [.Lambda params body scope lpos] X.env = [(false, eval (.Lambda params body scope lpos) X.env)] := by rfl) :
    PE X (.Call (.Name x p) [e, .Lambda params body scope lpos] [] pos) (tGive T (X.env.qual ++ "<lambda>") sp te) := by
  obtain ⟨fd, F⟩ := A.fn
  obtain ⟨oc, od, dV, kV, doc, pm, an, cdv, ct, osl, rfl, lk, hcd, hD, hK⟩ := F.ex
  have b : L2.Binds X.K _ [a1, a2] [] := F.bindsN fun kV doc pm an cdv ct us hl => hb kV doc pm an cdv us hl ct
  exact pe_give hg A.gm F.kp lk hcd b Sg TB hcode hmT hu hr hfree hdef (fun f c' pm' ctv s H v Q h1 h2 h3 h4 h5 => hbody cdv f c' pm' ctv s H v Q h1 h2 h3 h4 h5) he hdb hst hst2
end
end EqX

set_option Elab.async false
set_option linter.all false
set_option maxRecDepth 100000
set_option maxHeartbeats 4000000
/-! A def whose code object is known (it makes lambdas). -/
namespace EqX
open PySem PySem.Spec PyProof.Rows L2
structure AtC (K : PySem.W.Frag) (mg : Str → Option Value) (x : Str) (st : Stmt) (c : Addr) : Prop extends At K mg x st where
  code : ∀ oc od fd osl, K.lookup (He.ga K x) = some ⟨oc, od, .func fd, osl⟩ → fd.code = .ref c
section
variable {P : Program} {w : World} {K : PySem.W.Frag} {mg : Str → Option Value} {base : Heap} {CX : CXT} {k : Nat} {x : Str} {N ps : List Str} {sp : Sp} {st : Stmt} {c : Addr}
theorem dfC_of (A : AtC K mg x st c) (S : FnScope N ps (defScope st))
    (hb : ∀ (kV doc pm : Value) (an : Option Addr) (cdv ct : Value) (us : List Value), us.length = ps.length → bindArgs (PySem.W.fnOf x x (defArgs st) (defBody st) (defScope st) .none kV doc pm an cdv ct) ⟨us, []⟩ = pure (ps.zip us))
    (len : ∀ vs H Q E, sp vs H Q E → vs.length = ps.length)
    (hbody : ∀ (A : Around) (outer : List Env) (s : Shared) (H : Hp) (vs : List V) (Q : VK) (E : XK), Room k (A.deeper (envOfC x (defScope st) s.heap.objs.size (He.ga K x) (.ref c))) → sp vs H Q E →
      ∃ t, PSs (cxOf CX P w K mg base N x (defScope st) (He.ga K x) (.ref c) A outer s H E) (defBody st) t ∧ t { nx := fun _ H' => Q .non H', rt := Q } (start N vs) H) : Df P w K mg base CX (k + 1) x ps sp := by
  obtain ⟨fd, F⟩ := A.fn
  have b := F.bindsN hb
  obtain ⟨oc, od, dV, kV, doc, pm, an, cdv, ct, osl, rfl, lk, hcd, hD, hK⟩ := F.ex
  have e : cdv = .ref c := A.code _ _ _ _ lk
  subst e
  exact ⟨⟨_, ⟨len, fun A outer s H args us vs Q E hr e0 hb r hsp => LamX.run_ofS lk hcd S hr e0 hb r (len _ _ _ _ hsp) fun hr' => hbody A outer s H vs Q E hr' hsp⟩, b⟩, A.gm, F.kp⟩
theorem dfCG_of (A : AtC K mg x st c) (S : FnScope N ps (defScope st))
    (hb : ∀ (kV doc pm : Value) (an : Option Addr) (cdv ct : Value) (us : List Value), us.length = ps.length → bindArgs (PySem.W.fnOf x x (defArgs st) (defBody st) (defScope st) .none kV doc pm an cdv ct) ⟨us, []⟩ = pure (ps.zip us))
    (len : ∀ vs H Q E, sp vs H Q E → vs.length = ps.length)
    (hbody : ∀ (A : Around) (outer : List Env) (s : Shared) (H : Hp) (vs : List V) (Q : VK) (E : XK), Room k (A.deeper (envOfC x (defScope st) s.heap.objs.size (He.ga K x) (.ref c))) → A.guards = some [] → sp vs H Q E →
      ∃ t, PSs (cxOf CX P w K mg base N x (defScope st) (He.ga K x) (.ref c) A outer s H E) (defBody st) t ∧ t { nx := fun _ H' => Q .non H', rt := Q } (start N vs) H) : DfG P w K mg base CX (k + 1) x ps sp := by
  obtain ⟨fd, F⟩ := A.fn
  have b := F.bindsN hb
  obtain ⟨oc, od, dV, kV, doc, pm, an, cdv, ct, osl, rfl, lk, hcd, hD, hK⟩ := F.ex
  have e : cdv = .ref c := A.code _ _ _ _ lk
  subst e
  exact ⟨⟨_, ⟨len, fun A outer s H args us vs Q E hr hg e0 hb r hsp => LamX.run_ofS lk hcd S hr e0 hb r (len _ _ _ _ hsp) fun hr' => hbody A outer s H vs Q E hr' hg hsp⟩, b⟩, A.gm, F.kp⟩
end
end EqX

set_option Elab.async false
set_option linter.all false
set_option maxRecDepth 100000
set_option maxHeartbeats 4000000
/-! A def with defaults, called with the first parameters alone. -/
namespace EqX
open PySem PySem.Spec PyProof.Rows L2
structure AtV (K : PySem.W.Frag) (mg : Str → Option Value) (x : Str) (st : Stmt) (dvs : List V) : Prop where
  fn : ∃ fd, FunD K x x (defArgs st) (defBody st) (defScope st) dvs [] (He.ga K x) fd
  gm : mg x = some (.ref (He.ga K x))
/-- n values are given, the rest by default -/
structure DfV (P : Program) (w : World) (K : PySem.W.Frag) (mg : Str → Option Value) (base : Heap) (CX : CXT) (k : Nat) (x : Str) (ps : List Str) (dvs : List V) (sp : Sp) : Prop where
  ex : ∃ fd ds, FnOk P w K mg base CX k (He.ga K x) fd ps sp ∧ Binds K fd ps ds ∧ Vals dvs ds
  gm : mg x = some (.ref (He.ga K x))
  kp : PySem.W.keepIn K (.ref (He.ga K x)) = true
section
variable {X : Cx} {CX : CXT} {k : Nat} {x : Str} {ps : List Str} {dvs : List V} {sp : Sp} {E : XK} {p pos : Pos} {e : Expr} {es : List Expr} {t : TA}
theorem pe_dfV (D : DfV X.prog X.w X.K X.mg X.base CX0 k x ps dvs sp) (hr : Room k X.A) (ha : PA X (e :: es) t) (hg : Gl X x := by rfl) (hdb : (x == ("__debug__" : Str)) = false := by decide)
    (he : starEach (e :: es) X.env = (false, eval e X.env) :: starEach es X.env := by rfl) (hpl : (backTo pos (starEach es X.env)).any (·.1) = false := by rfl) : PE X (.Call (.Name x p) (e :: es) [] pos) (tCall sp dvs E0 t) := by
  obtain ⟨fd, ds, F, b, r⟩ := D.ex
  exact pe_call F hr hg D.gm D.kp b r pass0 ha hdb he hpl
end
end EqX

set_option Elab.async false
set_option linter.all false
set_option maxRecDepth 100000
set_option maxHeartbeats 4000000
/-! A method of an own class, told by its name; instances made. -/
namespace EqX
open PySem PySem.Spec PyProof.Rows L2
/-- where a method stands -/
structure AtM (K : PySem.W.Frag) (C : Addr) (m qual : Str) (st : Stmt) : Prop where
  fn : ∃ fd, FunD K m qual (defArgs st) (defBody st) (defScope st) [] [] (He.ma K C m) fd
  me : Meth K C m (He.ma K C m)
/-- the method keeps sp -/
structure DfM (P : Program) (w : World) (K : PySem.W.Frag) (mg : Str → Option Value) (base : Heap) (CX : CXT) (k : Nat) (C : Addr) (m : Str) (ps : List Str) (sp : Sp) : Prop where
  ex : ∃ fd, FnOk P w K mg base CX k (He.ma K C m) fd ps sp ∧ Binds K fd ps []
  me : Meth K C m (He.ma K C m)
section
variable {P : Program} {w : World} {K : PySem.W.Frag} {mg : Str → Option Value} {base : Heap} {CX : CXT} {k : Nat} {C : Addr} {m qual : Str} {N ps : List Str} {sp : Sp} {st : Stmt}
theorem dfM_of (A : AtM K C m qual st) (S : FnScope N ps (defScope st))
    (hb : ∀ (kV doc pm : Value) (an : Option Addr) (cdv ct : Value) (us : List Value), us.length = ps.length → bindArgs (PySem.W.fnOf m qual (defArgs st) (defBody st) (defScope st) .none kV doc pm an cdv ct) ⟨us, []⟩ = pure (ps.zip us))
    (len : ∀ vs H Q E, sp vs H Q E → vs.length = ps.length)
    (hbody : ∀ (f : Addr) (cdv : Value) (A : Around) (outer : List Env) (s : Shared) (H : Hp) (vs : List V) (Q : VK) (E : XK), Room k (A.deeper (envOfC qual (defScope st) s.heap.objs.size f cdv)) → sp vs H Q E →
      ∃ t, PSs (cxOf CX P w K mg base N qual (defScope st) f cdv A outer s H E) (defBody st) t ∧ t { nx := fun _ H' => Q .non H', rt := Q } (start N vs) H) : DfM P w K mg base CX (k + 1) C m ps sp := by
  obtain ⟨fd, F⟩ := A.fn
  have b := F.bindsN hb
  exact ⟨⟨fd, F.ok S len fun cdv A outer s H vs Q E hr h => hbody _ cdv A outer s H vs Q E hr h, b⟩, A.me⟩
end
section
variable {X : Cx} {CX : CXT} {k : Nat} {C : Addr} {m x : Str} {ps : List Str} {sp : Sp} {E : XK} {o e : Expr} {es : List Expr} {p pos apos : Pos} {ta : TE} {t : TA}
theorem pe_dfM {pl : Sem Bool} (D : DfM X.prog X.w X.K X.mg X.base CX k C m ps sp) (c : Cls X.K C) (hr : Room k X.A) (hx : Passes CX X E) (he : PE X o ta) (ha : PA X (e :: es) t)
    (hst : starEach (e :: es) X.env = (false, eval e X.env) :: starEach es X.env := by rfl) (hpl : (backTo pos (starEach es X.env)).any (·.1) = false := by rfl)
    (ht : eval (.Call (.Attribute o m apos) (e :: es) [] pos) X.env = (do
      let ov ← eval o X.env
      standAt apos.atName
      let (f, first) ← holding [ov] (getMethod ov m pl)
      callWith pos f first (backTo pos (starEach (e :: es) X.env)) (backToKw pos (keywordEach [] X.env))) := by rfl) :
    PE X (.Call (.Attribute o m apos) (e :: es) [] pos) (tMeth C m sp [] E ta t) := by
  obtain ⟨fd, F, b⟩ := D.ex
  exact pe_meth he c D.me F hr b .nil hx ha hst hpl ht
theorem pe_dfM0 {pl : Sem Bool} (D : DfM X.prog X.w X.K X.mg X.base CX k C m ps sp) (c : Cls X.K C) (hr : Room k X.A) (hx : Passes CX X E) (he : PE X o ta)
    (ht : eval (.Call (.Attribute o m apos) [] [] pos) X.env = (do
      let ov ← eval o X.env
      standAt apos.atName
      let (f, first) ← holding [ov] (getMethod ov m pl)
      callWith pos f first (backTo pos (starEach [] X.env)) (backToKw pos (keywordEach [] X.env))) := by rfl) :
    PE X (.Call (.Attribute o m apos) [] [] pos) (tMeth C m sp [] E ta tNil) := by
  obtain ⟨fd, F, b⟩ := D.ex
  exact pe_meth0 he c D.me F hr b .nil hx ht
/-- C(e, ..) -/
theorem pe_mk (D : DfM X.prog X.w X.K X.mg X.base CX k C "__init__" ps sp) (M : Mk X.K C (He.ma X.K C "__init__")) (hm : X.mg x = some (.ref C)) (hr : Room (k + 1) X.A) (hx : Passes CX X E) (ha : PA X (e :: es) t) (hg : Gl X x := by rfl)
    (hdb : (x == ("__debug__" : Str)) = false := by decide) (he : starEach (e :: es) X.env = (false, eval e X.env) :: starEach es X.env := by rfl) (hpl : (backTo pos (starEach es X.env)).any (·.1) = false := by rfl) :
    PE X (.Call (.Name x p) (e :: es) [] pos) (tMake C sp [] E t) := by
  obtain ⟨fd, F, b⟩ := D.ex
  exact pe_make M F hr hg hm b .nil hx ha hdb he hpl
end
section
variable {K : PySem.W.Frag} {H : Hp} {C : Addr} {m : Str} {sp : Sp} {E : XK} {σ : L2.St} {Q : VK} {ta te tv : TE} {t : TA} {D : Ends} {f : Str}
theorem w_meth (h : ta σ H fun x H1 => ∃ a dx fs, x = .ref a ∧ H1 a = some (.ins C dx fs) ∧ fs.lookup m = none ∧ t σ H1 fun vs H2 => sp (x :: vs) H2 Q E) : tMeth C m sp [] E ta t σ H Q := by
  show ta σ H fun x H1 => ∃ a dx fs, x = .ref a ∧ H1 a = some (.ins C dx fs) ∧ fs.lookup m = none ∧ t σ H1 fun vs H2 => sp (x :: (vs ++ [])) H2 Q E
  have e : (fun (x : V) (H1 : Hp) => ∃ a dx fs, x = .ref a ∧ H1 a = some (.ins C dx fs) ∧ fs.lookup m = none ∧ t σ H1 fun vs H2 => sp (x :: (vs ++ [])) H2 Q E) = fun x H1 => ∃ a dx fs, x = .ref a ∧ H1 a = some (.ins C dx fs) ∧ fs.lookup m = none ∧ t σ H1 fun vs H2 => sp (x :: vs) H2 Q E := by
    funext x H1
    simp only [List.append_nil]
  rw [e]
  exact h
theorem w_mk (h : t σ H fun vs H1 => ∀ x dx, H1 x = none → H1 dx = none → dx ≠ x → sp (.ref x :: vs) (upd (upd H1 dx (.own x)) x (.ins C dx [])) (fun v H2 => v = .non ∧ Q (.ref x) H2) E) : tMake C sp [] E t σ H Q := by
  show t σ H fun vs H1 => ∀ x dx, H1 x = none → H1 dx = none → dx ≠ x → sp (.ref x :: (vs ++ [])) (upd (upd H1 dx (.own x)) x (.ins C dx [])) (fun v H2 => v = .non ∧ Q (.ref x) H2) E
  simp only [List.append_nil]
  exact h
theorem w_fld {a dx : Addr} {fs : List (Str × V)} {v : V} (c : Cls K C) (n : NoAttr K C f) (h : te σ H fun x H1 => ∃ a dx fs v, x = .ref a ∧ H1 a = some (.ins C dx fs) ∧ fs.lookup f = some v ∧ Q v H1)
    (mono : ∀ Q Q' : VK, (∀ x H1, Q x H1 → Q' x H1) → te σ H Q → te σ H Q') : tFld K te f σ H Q := mono _ _ (fun x H1 ⟨a, dx, fs, v, e, h, l, q⟩ => ⟨a, C, dx, fs, v, e, h, c, n, l, q⟩) h
/-- x.f of a local x -/
theorem w_fldv {i : Nat} {a dx : Addr} {fs : List (Str × V)} {v : V} (hv : σ[i]? = some (some (.ref a))) (ha : H a = some (.ins C dx fs)) (c : Cls K C) (n : NoAttr K C f) (l : fs.lookup f = some v) (q : Q v H) : tFld K (tVar i) f σ H Q :=
  ⟨.ref a, hv, a, C, dx, fs, v, rfl, ha, c, n, l, q⟩
/-- x.f = value -/
theorem w_sfld {i : Nat} {a : Addr} (c : Cls K C) (n : NoAttr K C f) (hv : σ[i]? = some (some (.ref a))) (h : tv σ H fun y H1 => ∃ dx fs, H1 a = some (.ins C dx fs) ∧ fs.length < 1000 ∧ D.nx σ (upd H1 a (.ins C dx (putF f y fs))))
    (mono : ∀ Q Q' : VK, (∀ x H1, Q x H1 → Q' x H1) → tv σ H Q → tv σ H Q') : sFld K (tVar i) tv f D σ H := mono _ _ (fun y H1 ⟨dx, fs, h, l, q⟩ => ⟨.ref a, hv, a, C, dx, fs, rfl, h, c, n, l, q⟩) h
theorem w_sf (h : tv σ H fun y H1 => ta σ H1 fun x H2 => ∃ a C dx fs, x = .ref a ∧ H2 a = some (.ins C dx fs) ∧ Cls K C ∧ NoAttr K C f ∧ fs.length < 1000 ∧ D.nx σ (upd H2 a (.ins C dx (putF f y fs)))) : sFld K ta tv f D σ H := h
theorem w_fl (h : ta σ H fun x H1 => ∃ a C dx fs v, x = .ref a ∧ H1 a = some (.ins C dx fs) ∧ Cls K C ∧ NoAttr K C f ∧ fs.lookup f = some v ∧ Q v H1) : tFld K ta f σ H Q := h
end
end EqX

set_option Elab.async false
set_option linter.all false
set_option maxRecDepth 100000
set_option maxHeartbeats 4000000
/-! The Hook with tables of lambdas and dicts of words. -/
namespace EqX
open PySem PySem.Spec PyProof.Rows L2 PySem.EqX PySem.HandSPX
structure HdT extends HdE where
  tf : List He.Defn
  ts : List He.Tab
abbrev AlT2 : Type := AlE × Bool × List (Option (List (Option (Str × Int))))
def HdT.fr2 (h : HdT) (g : Addr → Option Obj) : PySem.W.Frag := He.frT g (h.ads g)
def HdT.at2 (h : HdT) (g : Addr → Option Obj) (K : PySem.W.Frag) : AlT2 := (h.toHdE.obs K, He.tabsB g h.tf K, h.ts.map fun t => He.dicW K (t.1 K))
def HdT.val2 (h : HdT) (w : World) : AlT2 := (h.toHdE.val, true, h.ts.map fun t => some (He.keysIn w.params t.2))
structure HdT.Tell (h : HdT) (w : World) (hp : Heap) (K : PySem.W.Frag) : Prop where
  e : h.toHdE.Says K
  hd : ∀ p ∈ h.tf, PySem.W.codeHdIn K (He.cT K p).1 (He.cT K p).2 = true
  out : ∀ p ∈ h.tf, K.lookup (He.cT K p).2 = none
  empty : ∀ p ∈ h.tf, hp.get? (He.cT K p).2 = some { cls := .none, data := .fields #[] }
  dic : h.ts.map (fun t => He.dicW K (t.1 K)) = h.ts.map fun t => some (He.keysIn w.params t.2)
theorem HdT.tell_of {h : HdT} {w : World} {hp : Heap} (e : h.at2 hp.get? (h.fr2 hp.get?) = h.val2 w) : h.Tell w hp (h.fr2 hp.get?) := by
  have e1 : h.toHdE.obs (h.fr2 hp.get?) = h.toHdE.val := congrArg (fun z : AlT2 => z.1) e
  have e2 : He.tabsB hp.get? h.tf (h.fr2 hp.get?) = true := congrArg (fun z : AlT2 => z.2.1) e
  have e3 : h.ts.map (fun t => He.dicW (h.fr2 hp.get?) (t.1 (h.fr2 hp.get?))) = h.ts.map fun t => some (He.keysIn w.params t.2) := congrArg (fun z : AlT2 => z.2.2) e
  have key : ∀ p ∈ h.tf, PySem.W.codeHdIn (h.fr2 hp.get?) (He.cT (h.fr2 hp.get?) p).1 (He.cT (h.fr2 hp.get?) p).2 = true ∧ ∃ o, hp.get? (He.cT (h.fr2 hp.get?) p).2 = some o ∧ He.emptyTab o = true := fun p hp' => by
    obtain ⟨h3, h4⟩ := He.ba (List.all_eq_true.mp e2 p hp')
    cases q : hp.get? (He.cT (h.fr2 hp.get?) p).2 with
    | none =>
      rw [q] at h4
      cases h4
    | some o =>
      rw [q] at h4
      exact ⟨h3, o, rfl, h4⟩
  refine ⟨e1, fun p hp' => (key p hp').1, fun p hp' => ?_, fun p hp' => ?_, e3⟩
  · obtain ⟨_, o, q, z⟩ := key p hp'
    exact He.frT_none q z
  · obtain ⟨_, o, q, z⟩ := key p hp'
    rw [q, He.emptyTab_eq z]
def HdT.hook2 (h : HdT) : PySem.W.Hook where
  α := AlT2
  obs := fun s => h.at2 s.heap.get? (h.fr2 s.heap.get?)
  val := fun w => h.val2 w
  says := fun w hp => ∃ K : PySem.W.Frag, K.In hp ∧ h.Tell w hp K
  of := fun _ _ e => ⟨_, He.frT_in, HdT.tell_of e⟩
  keeps := fun _ _ _ ⟨K, hK, c⟩ k => ⟨K, PySem.W.Frag.In.keeps hK k, ⟨c.e, c.hd, c.out, fun p hp => k _ _ (c.empty p hp), c.dic⟩⟩
def HdT.ob2 (h : HdT) (s : PySem.W.SharedT) : AlT2 := h.at2 (HandSHeadRun.getT s) (h.fr2 (HandSHeadRun.getT s))
theorem HdT.ob2_eq (h : HdT) (s : PySem.W.SharedT) : h.ob2 s = h.hook2.obs s.abs := by
  have e : HandSHeadRun.getT s = s.abs.heap.get? := funext (HandSHeadRun.getT_eq s)
  show h.at2 (HandSHeadRun.getT s) (h.fr2 (HandSHeadRun.getT s)) = h.at2 s.abs.heap.get? (h.fr2 s.abs.heap.get?)
  rw [e] <;> rfl
theorem HdT.Tell.tab {h : HdT} {w : World} {hp : Heap} {K : PySem.W.Frag} (c : h.Tell w hp K) (i : Nat) {t : He.Tab} (e : h.ts[i]? = some t := by rfl) : ∃ es n, KDict K w (t.1 K) es n := by
  have e2 : (h.ts.map fun t => He.dicW K (t.1 K))[i]? = (h.ts.map fun t => some (He.keysIn w.params t.2))[i]? := by rw [c.dic]
  rw [List.getElem?_map, List.getElem?_map, e] at e2
  exact He.dicW_ok (Option.some.inj e2)
/-- the code object of a def -/
theorem code_of {K : PySem.W.Frag} {x qual : Str} {params : Arguments} {body : List Stmt} {scope : Scope} {dvs : List V} {kws : List (Str × V)} {p : He.Defn} {fd : FuncData} (F : FunD K x qual params body scope dvs kws (He.fAd K p) fd) :
    ∀ oc od fd osl, K.lookup (He.fAd K p) = some ⟨oc, od, .func fd, osl⟩ → fd.code = .ref (He.codeOf K p) := fun oc od fd' osl lk => by
  obtain ⟨oc2, od2, dV, kV, doc, pm, an, cdv, ct, osl2, rfl, lk2, hcd, _, _⟩ := F.ex
  rw [lk2] at lk
  cases lk
  obtain ⟨c, rfl⟩ := He.codeIn_ref hcd
  exact congrArg Value.ref (He.codeOf_eq lk2 rfl).symm
end EqX

set_option Elab.async false
set_option linter.all false
set_option maxRecDepth 100000
set_option maxHeartbeats 4000000
namespace K11
open PySem PySem.Spec PyProof.Rows L2 EqX
/-! the words' steps, one after another -/
local macro_rules | `(tactic| walk_at "w") => `(tactic| (repeat (first
  | with_reducible refine w_seq ?_ | with_reducible refine w_asg ?_ | with_reducible refine w_ret ?_ | with_reducible exact w_retN ?_ | with_reducible refine w_drop ?_ | with_reducible refine w_ifs ?_ | with_reducible refine w_next ?_
  | with_reducible refine w_name ?_ | with_reducible refine w_gsub ?_ | ((with_reducible refine' w_var ?hx ?_); (case hx => exact rfl)) | with_reducible refine w_c ?_ | with_reducible refine w_op ?_ | with_reducible refine w_un ?_ | with_reducible refine w_cb ?_ | with_reducible refine w_call ?_
  | with_reducible refine w_nil ?_ | with_reducible refine w_cons ?_ | with_reducible refine w_test ?_ | with_reducible refine w_b ?_ | with_reducible refine w_bl ?_ | with_reducible refine w_not ?_ | with_reducible refine w_and ?_ | with_reducible refine w_or ?_
  | with_reducible refine w_notV ?_ | with_reducible refine w_blV ?_ | with_reducible refine w_I0 ?_ | ((with_reducible refine w_mulL ?_ ?_); · omega) | ((with_reducible refine w_mulR ?_ ?_); · omega) | ((with_reducible refine w_pow ?_ ?_); · decide)
  | with_reducible refine w_neg ?_ | ((with_reducible refine w_eq ?_ ?_); · exact rfl) | ((with_reducible refine w_ne ?_ ?_); · exact rfl) | with_reducible refine w_int1 ?_ | with_reducible refine w_abs ?_ | with_reducible refine w_max2 ?_ | with_reducible refine w_min2 ?_
  | with_reducible refine w_gcons ?_ | with_reducible refine w_gnil ?_ | with_reducible refine w_tup ?_ | with_reducible refine w_lst ?_ | with_reducible refine w_sl ?_ | with_reducible refine w_no ?_ | with_reducible refine w_part ?_ | with_reducible refine w_partI ?_ | with_reducible refine ⟨_, (rfl : V.int _ = V.int _), ?_⟩
  | with_reducible refine w_for ?_ | with_reducible refine w_iL ?_ | with_reducible refine w_iT ?_ | with_reducible refine w_iR ?_ | with_reducible refine w_yes ?_ | with_reducible refine w_setLc ?_ | with_reducible refine w_isB ?_)))

def top (i : Nat) : Stmt := PySem.Challenge.pw_equalworlds_k11_desks_undone_and_equal.main.body.getD i (.Pass ⟨0, 0, 0, 0⟩)
/-- the built-in names that the text leaves -/
structure Bt (K : PySem.W.Frag) (mg : Str → Option Value) : Prop where
  n_len : mg "len" = none
  n_int : mg "int" = none
  n_abs : mg "abs" = none
/-! ### the draws -/
abbrev s_purse : Stmt := top 175
abbrev s_take : Stmt := top 176
abbrev s_pick : Stmt := top 177
theorem sc__law_take : FnScope ["draws", "many", "figures", "seed", "turn"] ["draws", "many"] (defScope s_take) := ⟨rfl, rfl, rfl, by decide +kernel, rfl, by decide +kernel, by decide +kernel⟩
theorem sc__law_pick : FnScope ["draws", "some"] ["draws", "some"] (defScope s_pick) := ⟨rfl, rfl, rfl, by decide +kernel, rfl, by decide +kernel, by decide +kernel⟩
theorem sc__law_purse : FnScope ["cells", "at", "cell", "seed", "other"] ["cells", "at"] (defScope s_purse) := ⟨rfl, rfl, rfl, by decide +kernel, rfl, by decide +kernel, by decide +kernel⟩
theorem set_f {f s t v : Int} : (purseL f s t).set 0 (.int v) = purseL v s t := rfl
theorem set_s {f s t v : Int} : (purseL f s t).set 1 (.int v) = purseL f v t := rfl
theorem set_t {f s t v : Int} : (purseL f s t).set 2 (.int v) = purseL f s v := rfl
theorem df_take {P : Program} {w : World} {K : PySem.W.Frag} {mg : Str → Option Value} {base : Heap} (T : Bt K mg) (A : At K mg "_law_take" s_take) : Df P w K mg base CX0 1 "_law_take" ["draws", "many"] spTake := by
  refine df_of A sc__law_take (fun _ _ _ _ _ _ us hl => match us, hl with | [_, _], _ => rfl) (fun vs H Q E h => by obtain ⟨d, m, rfl, _⟩ := h; rfl) (fun f cdv A outer s H vs Q E hr h => ?_)
  refine ⟨_, (pss_cons (ps_asg (pv 0) (pg_unl rfl (pgs_cons (pg_name (i := 2) sc__law_take.nd rfl (Or.inl rfl)) (pgs_cons (pg_name (i := 3) sc__law_take.nd rfl (Or.inl rfl)) (pgs_cons (pg_name (i := 4) sc__law_take.nd rfl (Or.inl rfl)) pgs_nil)))))
      (pss_cons (ps_asg (pe_op op_mod (pe_callTy c_int1 (by rfl) T.n_int boot_int (pa_cons (pe_op op_add (pe_op op_add (pe_op op_mul (pv 3) (pe_op op_add pe_int (pe_op op_mul pe_int (pv 4)))) (pe_op op_mul pe_int (pv 4))) pe_int) pa_nil)) pe_int) (pg_sub (pv 0) pe_int set_list))
      (pss_cons (ps_asg (pe_op op_add (pv 4) pe_int) (pg_sub (pv 0) pe_int set_list))
      (pss_cons (ps_if (pt_cmpR op_gt (pv 2) pe_int (nomark _)) (pss_cons (ps_asg (pe_op op_fdiv (pe_callTy c_int1 (by rfl) T.n_int boot_int (pa_cons (pv 2) pa_nil)) (pv 1)) (pg_sub (pv 0) pe_int set_list))
      (pss_one (ps_ret (pe_op op_mod (pe_callTy c_int1 (by rfl) T.n_int boot_int (pa_cons (pv 2) pa_nil)) (pv 1))))) pss_nil)
      (pss_one (ps_ret (pe_op op_mod (pe_callTy c_int1 (by rfl) T.n_int boot_int (pa_cons (pe_op op_fdiv (pe_ix ix_list (pv 0) pe_int (fun _ _ => rfl)) pe_int) pa_nil)) (pv 1)))))))), ?_⟩
  obtain ⟨d, m, rfl, ⟨f, s, t, hd, f0, s0, s1⟩, m0, m1, q⟩ := h
  have s1' : s < 2147483549 := s1
  walk_at "w"
  refine w_unl (SqL.of hd) rfl ?_
  walk_at "w"
  refine w_I (by decide) ?_
  walk_at "w"
  refine w_setL hd rfl ?_
  walk_at "w"
  refine w_setL upd_same rfl ?_
  walk_at "w"
  have r0 : (0 : Int) ≤ (s * (79031 + 6 * t) + 42013 * t + 28211) % 2147483549 := Int.emod_nonneg _ (by decide)
  have r1 : (s * (79031 + 6 * t) + 42013 * t + 28211) % 2147483549 < bigM := Int.emod_lt_of_pos _ (by decide)
  refine w_dec (fun c => ?_) (fun c => ?_)
  · walk_at "w"
    refine w_I ⟨m0, by omega⟩ ?_
    walk_at "w"
    refine w_setL upd_same rfl ?_
    walk_at "w"
    refine w_I m0 ?_
    rw [upd_upd, upd_upd]
    exact q _ (f / m) _ (t + 1) (Int.emod_nonneg _ (by omega)) (Int.emod_lt_of_pos _ m0) (Int.ediv_nonneg f0 (by omega)) r0 r1
  · walk_at "w"
    refine w_ixL (SqL.of upd_same) rfl ?_
    walk_at "w"
    refine w_I ⟨by decide, by decide⟩ ?_
    walk_at "w"
    refine w_I m0 ?_
    rw [upd_upd]
    exact q _ f _ (t + 1) (Int.emod_nonneg _ (by omega)) (Int.emod_lt_of_pos _ m0) f0 r0 r1
theorem atI_get {xs : List V} {i : Int} (h0 : 0 ≤ i) (h1 : i < (xs.length : Int)) : ∃ v, atI xs i = some v ∧ v ∈ xs := by
  have hl : i.toNat < xs.length := by omega
  obtain ⟨v, hv⟩ : ∃ v, xs[i.toNat]? = some v := ⟨_, List.getElem?_eq_getElem hl⟩
  refine ⟨v, ?_, List.mem_of_getElem? hv⟩
  have e := atI_nat hv
  rw [show ((i.toNat : Nat) : Int) = i by omega] at e
  exact e
theorem df_pick {P : Program} {w : World} {K : PySem.W.Frag} {mg : Str → Option Value} {base : Heap} (T : Bt K mg) (A : At K mg "_law_pick" s_pick) (D__law_take : Df P w K mg base CX0 1 "_law_take" ["draws", "many"] spTake) :
    Df P w K mg base CX0 2 "_law_pick" ["draws", "some"] (spPick K) := by
  refine df_of A sc__law_pick (fun _ _ _ _ _ _ us hl => match us, hl with | [_, _], _ => rfl) (fun vs H Q E h => by obtain ⟨d, a, xs, rfl, _⟩ := h; rfl) (fun f cdv A outer s H vs Q E hrs h => ?_)
  refine ⟨_, (pss_one (ps_ret (pe_ix ix_seq (pv 1) (pe_df D__law_take (hrs.mono (by decide)) (pa_cons (pv 0) (pa_cons (pe_callB c_lenS (by rfl) T.n_len PySem.boot_len (pa_cons (pv 1) pa_nil)) pa_nil))) (fun _ _ => rfl)))), ?_⟩
  obtain ⟨d, a, xs, rfl, hp, hx, ne, nil, lt, q⟩ := h
  have lp : 0 < xs.length := by
    cases xs with
    | nil => exact absurd rfl nil
    | cons _ _ => exact Nat.succ_pos _
  have st : ∀ {o : HO}, SqL K H a xs ∨ SqT K H a xs → SqL K (upd H d o) a xs ∨ SqT K (upd H d o) a xs := fun {o} h => by
    rcases h with ((h | ⟨ob, h⟩) | h) | ((h | ⟨ob, h⟩) | h)
    · exact .inl (.inl (.inl (by rw [upd_ne ne]; exact h)))
    · exact .inl (.inl (.inr ⟨ob, by rw [upd_ne ne]; exact h⟩))
    · exact .inl (.inr h)
    · exact .inr (.inl (.inl (by rw [upd_ne ne]; exact h)))
    · exact .inr (.inl (.inr ⟨ob, by rw [upd_ne ne]; exact h⟩))
    · exact .inr (.inr h)
  walk_at "w"
  refine ⟨a, xs, rfl, hx, ?_⟩
  refine ⟨d, _, rfl, hp, by omega, by omega, fun r f s t r0 r1 f0 s0 s1 => ?_⟩
  obtain ⟨v, hv, hm⟩ := atI_get r0 r1
  rcases st hx with h | h
  · exact .inl ⟨a, xs, r, v, rfl, rfl, h, hv, q v f s t hm f0 s0 s1⟩
  · exact .inr (.inl ⟨a, xs, r, v, rfl, rfl, h, hv, q v f s t hm f0 s0 s1⟩)
theorem df_purse {P : Program} {w : World} {K : PySem.W.Frag} {mg : Str → Option Value} {base : Heap} (T : Bt K mg) (A : At K mg "_law_purse" s_purse) : Df P w K mg base CX0 1 "_law_purse" ["cells", "at"] (spPurse K) := by
  refine df_of A sc__law_purse (fun _ _ _ _ _ _ us hl => match us, hl with | [_, _], _ => rfl) (fun vs H Q E h => by obtain ⟨a, ns, i, rfl, _⟩ := h; rfl) (fun f cdv A outer s H vs Q E hrs h => ?_)
  refine ⟨_, PSs.nox (pss_cons (ps_set (i := 2) sc__law_purse.nd rfl (Or.inl rfl) (pe_ifExp (pt_cmpR op_lt (pv 1) (pe_callB c_lenS (by rfl) T.n_len PySem.boot_len (pa_cons (pv 0) pa_nil)) (nomark _)) (pe_ix ix_list (pv 0) (pv 1) (fun _ _ => rfl)) pe_int))
      (pss_cons (ps_set (i := 3) sc__law_purse.nd rfl (Or.inl rfl) (pe_op op_mod (pe_callTy c_int1 (by rfl) T.n_int boot_int (pa_cons (pe_op op_add (pe_op op_add (pe_op op_mul (pv 2) pe_int) (pe_op op_mul (pv 1) pe_int)) pe_int) pa_nil)) pe_int))
      (pss_cons (ps_for PassesOwn.never rfl (pi_list (pe_ifExp (pt_cmpR op_ge (pv 1) (pe_callB c_lenS (by rfl) T.n_len PySem.boot_len (pa_cons (pv 0) pa_nil)) (nomark _)) (pe_slice sl_list (pv 0) po_none (po_some pe_int)) (pe_lst pa_nil))) (pg_name (i := 4) sc__law_purse.nd rfl (Or.inl rfl)) (pss_one (ps_set (i := 3) sc__law_purse.nd rfl (Or.inl rfl) (pe_op op_mod (pe_callTy c_int1 (by rfl) T.n_int boot_int (pa_cons (pe_op op_add (pe_op op_mul (pv 3) pe_int) (pv 4)) pa_nil)) pe_int))))
      (pss_one (ps_ret (pe_lst (pa_cons (pe_ifExp (pt_cmpR op_ge (pe_callB c_abs (by rfl) T.n_abs (by decide +kernel) (pa_cons (pv 2) pa_nil)) (pe_op op_pow pe_int pe_int) (nomark _)) (pe_op op_mod (pe_callTy c_int1 (by rfl) T.n_int boot_int (pa_cons (pe_callB c_abs (by rfl) T.n_abs (by decide +kernel) (pa_cons (pv 2) pa_nil)) pa_nil)) (pe_op op_mulW (pe_op op_mulW (pe_op op_pow pe_int pe_int) (pe_op op_pow pe_int pe_int)) (pe_op op_pow pe_int pe_int))) pe_int) (pa_cons (pv 3) (pa_cons pe_int pa_nil))))))))), ?_⟩
  obtain ⟨a, ns, i, rfl, hx, hi, hl, q⟩ := h
  walk_at "w"
  refine w_mid (fun v => ∃ n : Int, v = .int n) (fun Q' hQ => ?_) (fun v hv => ?_)
  · refine w_if ?_
    walk_at "w"
    refine w_lenL hx ?_
    walk_at "w"
    refine w_dec (fun c => ?_) (fun c => ?_)
    · walk_at "w"
      obtain ⟨v, e, hm⟩ := atI_get (xs := ns.map V.int) (i := (i : Int)) (by omega) c
      obtain ⟨n, _, rfl⟩ := List.mem_map.mp hm
      exact w_ixL hx e (hQ _ ⟨n, rfl⟩)
    · exact hQ _ ⟨0, rfl⟩
  obtain ⟨n, rfl⟩ := hv
  walk_at "w"
  refine w_I (by decide) ?_
  walk_at "w"
  have r0 : (0 : Int) ≤ (n * 21001 + (i : Int) * 81017 + 2003) % 2147483549 := Int.emod_nonneg _ (by decide)
  have r1 : (n * 21001 + (i : Int) * 81017 + 2003) % 2147483549 < bigM := Int.emod_lt_of_pos _ (by decide)
  generalize (n * 21001 + (i : Int) * 81017 + 2003) % 2147483549 = s0 at r0 r1 ⊢
  have fin : ∀ (H1 : Hp) (n1 : Int) (o : Option V), Same H H1 → 0 ≤ n1 → n1 < bigM → tRet (tLst (tCons (tIf (tTest (tOp (rI0 fun i j => V.bl (decide (j ≤ i))) (tCB rAbs (tCons (tVar 2) tNil)) (tOp (rI CPow fun i j => V.int (i ^ j.toNat)) (tC (V.int 10)) (tC (V.int 18)))))
      (tOp (rI (fun _ j => 0 < j) fun i j => V.int (i % j)) (tCB rInt1 (tCons (tCB rAbs (tCons (tVar 2) tNil)) tNil))
        (tOp (rI CMulW fun i j => V.int (i * j)) (tOp (rI CMulW fun i j => V.int (i * j)) (tOp (rI CPow fun i j => V.int (i ^ j.toNat)) (tC (V.int 10)) (tC (V.int 64))) (tOp (rI CPow fun i j => V.int (i ^ j.toNat)) (tC (V.int 10)) (tC (V.int 64))))
          (tOp (rI CPow fun i j => V.int (i ^ j.toNat)) (tC (V.int 10)) (tC (V.int 64))))) (tC (V.int 0))) (tCons (tVar 3) (tCons (tC (V.int 0)) tNil))))
      { nx := fun _ H' => Q V.non H', rt := Q } [some (.ref a), some (.int i), some (.int n), some (.int n1), o] H1 := by
    intro H1 n1 o sm g0 g1
    refine w_ret (w_lst ?_)
    walk_at "w"
    refine w_mid (fun v => ∃ m : Int, 0 ≤ m ∧ v = .int m) (fun Q' hQ => ?_) (fun v hv => ?_)
    · refine w_if ?_
      walk_at "w"
      refine w_dec (fun c => ?_) (fun c => ?_)
      · walk_at "w"
        refine w_I (wide_mul (a := 300) (b := 300) (by decide +kernel) (by decide +kernel) (by decide) (by decide) (by decide)) ?_
        walk_at "w"
        refine w_I (wide_mul (a := 600) (b := 300) (by decide +kernel) (by decide +kernel) (by decide) (by decide) (by decide)) ?_
        refine w_I (by decide +kernel) ?_
        exact hQ _ ⟨_, Int.emod_nonneg _ (by decide +kernel), rfl⟩
      · exact hQ _ ⟨0, Int.le_refl _, rfl⟩
    · obtain ⟨m, m0, rfl⟩ := hv
      walk_at "w"
      refine ⟨len_ok (by show 3 ≤ 1000; decide), fun d hd => q d _ (sm.free hd) ⟨m, n1, 0, upd_same, m0, g0, g1⟩ (sm.trans fun b o e => ?_)⟩
      rw [upd_ne (fun z => by rw [z, hd] at e; cases e)]
      exact e
  refine w_midH (fun v H' => ∃ (p : Addr) (xs : List V), v = .ref p ∧ H p = none ∧ H' = upd H p (.lst xs) ∧ ∀ x ∈ xs, ∃ m : Int, x = .int m) (fun Q' hQ => ?_) (fun v H' hv => ?_)
  · refine w_if ?_
    walk_at "w"
    refine w_lenL hx ?_
    walk_at "w"
    refine w_dec (fun c => ?_) (fun c => ?_)
    · walk_at "w"
      refine w_slL hx fun p hp => ?_
      refine hQ _ _ ⟨p, _, rfl, hp, rfl, fun x hx => ?_⟩
      obtain ⟨m, _, rfl⟩ := List.mem_map.mp (List.mem_of_mem_drop (List.mem_of_mem_take hx))
      exact ⟨m, rfl⟩
    · walk_at "w"
      exact ⟨by decide, fun p hp => hQ _ _ ⟨p, [], rfl, hp, rfl, fun x hx => by cases hx⟩⟩
  obtain ⟨p, xs, rfl, hp, rfl, hxs⟩ := hv
  have sm : Same H (upd H p (.lst xs)) := fun b o e => by
    rw [upd_ne (fun z => by rw [z, hp] at e; cases e)]
    exact e
  refine w_forLv (fun _ σ' H' => H' = upd H p (.lst xs) ∧ ∃ (n1 : Int) (o : Option V), 0 ≤ n1 ∧ n1 < bigM ∧ σ' = [some (.ref a), some (.int i), some (.int n), some (.int n1), o]) (SqL.of upd_same) ⟨rfl, s0, none, r0, r1, rfl⟩ (fun _ _ _ _ h => by rw [h.1]; exact SqL.of upd_same) (fun j x σ' H' hj h => ?_) (fun σ' H' h => ?_)
  · obtain ⟨rfl, n1, o, g0, g1, rfl⟩ := h
    obtain ⟨m, rfl⟩ := hxs x (List.mem_of_getElem? hj)
    walk_at "w"
    refine w_I (by decide) ?_
    walk_at "w"
    exact ⟨rfl, _, _, Int.emod_nonneg _ (by decide), Int.emod_lt_of_pos _ (by decide), rfl⟩
  · obtain ⟨rfl, n1, o, g0, g1, rfl⟩ := h
    exact fin _ n1 o sm g0 g1

end K11

set_option Elab.async false
set_option linter.all false
set_option maxRecDepth 100000
set_option maxHeartbeats 0
namespace K11
open PySem PySem.Spec PyProof.Rows L2 LamX L2H HotX EqX PySem.EqX
/-! ### the top: what it leaves -/
def met : Stmt → Nat → Stmt
  | .ClassDef (body := b) .., j => b.getD j (.Pass ⟨0, 0, 0, 0⟩)
  | s, _ => s
def iniOf (i : Nat) : Stmt := match top i with
  | .ClassDef (body := b) .. => b.getD 0 (.Pass ⟨0, 0, 0, 0⟩)
  | _ => .Pass ⟨0, 0, 0, 0⟩
def dfD (x : Str) (st : Stmt) : He.DefD := ⟨(x, none), x, x, defArgs st, defBody st, defScope st, [], []⟩
def inD (x q : Str) (st : Stmt) : IniD := ⟨x, q, defArgs st, defBody st, defScope st⟩
def defNames : List Str := ["is_whole", "is_string", "is_row", "is_desk_row", "first_wrong", "check_rows", "is_number", "has_form", "check_deed", "reason_against", "rows_behind", "text_of_rows", "_law_purse", "_law_take", "_law_pick", "_law_same", "_law_move", "_law_said", "_law_is_so", "_law_page", "_law_deed", "_law_is_empty", "_law_run", "_law_are_equal", "_law_is_refused", "_law_right", "law"]
def clsNames : List Str := ["InvalidRows", "InvalidDeed", "Barred", "NothingToUndo", "TermError", "Desk"]
def freeNames : List Str := ["len", "int", "abs", "isinstance", "repr", "all", "range", "max", "min", "list", "str", "bool", "tuple", "enumerate", "super"]
def own0B (K : PySem.W.Frag) (x : Str) : Bool := PySem.W.excIn K (He.ga K x) PySem.HandSPX.veTail "ValueError.__new__" && (PySem.W.keepIn K (.ref (He.ga K x)) && (decide (PySem.W.subIn K (.ref (He.ga K x)) (.type "BaseException") = some true) && decide (PySem.W.typeIn K (.ref (He.ga K x)) = some (.type "type"))))
def sysB (K : PySem.W.Frag) : Bool := match K.lookup sysModules with
  | some o => decide (o.cls ≠ .type "list")
  | none => false
theorem sysB_ok {K : PySem.W.Frag} (h : sysB K = true) : ∃ o, K.lookup sysModules = some o ∧ o.cls ≠ .type "list" := by
  unfold sysB at h
  cases e : K.lookup sysModules with
  | none => rw [e] at h; cases h
  | some o => rw [e] at h; exact ⟨o, rfl, of_decide_eq_true h⟩
def nsInt (K : PySem.W.Frag) (a : Addr) (x : Str) (i : Int) : Bool := match PySem.W.nsIn K a x with
  | some (some (.int j _)) => decide (j = i)
  | _ => false
theorem nsInt_ok {K : PySem.W.Frag} {a : Addr} {x : Str} {i : Int} (h : nsInt K a x i = true) : ∃ t, PySem.W.nsIn K a x = some (some (.int i t)) := by
  unfold nsInt at h
  split at h
  · rename_i j t e
    rw [← of_decide_eq_true h]
    exact ⟨t, e⟩
  · cases h
def consts : List He.Fa := [.int "MOST_SIGNS" 200, .int "MOST_DESK" 30, .str "FULL" "full", .str "FAR" "far", .str "NONE" "none", .str "SAME" "same"]
def deskFa : List He.Fa := [.glo "Desk", .cls "Desk", .mkr "Desk", .noat "Desk" "rows", .noat "Desk" "begun", .noat "Desk" "deeds", .noat "Desk" "past", .noat "Desk" "__bool__", .noat "Desk" "__len__"] ++ (["__init__", "do", "undo", "text", "__eq__"] : List Str).map fun m => .meth "Desk" m
def rightTys : List String := ["NoneType", "bool", "int", "str", "list", "tuple", "dict"]
def isTys : List String := ["NoneType", "bool", "int", "str", "list", "tuple"]
def deskB (K : PySem.W.Frag) : Bool := decide (PySem.W.findIn K (.ref (He.ga K "Desk")) "__ne__" = some (some (.builtin "object.__ne__"))) && (decide (PySem.W.mroIn K (He.ga K "Desk") (.type "object") = some true) && (rightTys.all (fun t => decide (PySem.W.subIn K (.type t) (.ref (He.ga K "Desk")) = some false)) &&
  (decide (PySem.W.findIn K (.ref (He.ga K "Desk")) "__class__" = some (some (.builtin "object.__class__"))) && (decide (PySem.W.specialIn K (.builtin "object.__class__") "__get__" = some (some (.builtin "getset_descriptor.__get__"))) && (decide (PySem.W.takesIn K (.builtin "object.__class__") = some true) &&
  (isTys.all (fun t => decide (PySem.W.kitOne K (.type t) (.ref (He.ga K "Desk")) = some false)) && decide (PySem.W.kitOne K (.ref (He.ga K "Desk")) (.ref (He.ga K "Desk")) = some true)))))))
def hd : HdT := ⟨⟨adsNamed (defNames ++ clsNames ++ (["SIZES"] : List Str)) 3, PySem.Challenge.pw_equalworlds_k11_desks_undone_and_equal.main.file,
  [fun K => (defNames ++ clsNames ++ (["SIZES"] : List Str)).all fun x => (He.Fa.glo x).ok K, fun K => freeNames.all fun x => (He.Fa.free x).ok K, sysB, fun K => consts.all fun f => f.ok K,
    fun K => (["InvalidRows", "InvalidDeed", "Barred"] : List Str).all fun x => eclassB K (He.ga K x), fun K => own0B K "NothingToUndo", fun K => (["InvalidRows", "InvalidDeed", "Barred"] : List Str).all fun x => xfB K (He.ga K x),
    fun K => ([("InvalidRows", "index"), ("InvalidDeed", "index"), ("Barred", "reason")] : List (Str × Str)).all fun p => decide (PySem.W.findIn K (.ref (He.ga K p.1)) p.2 = some none), fun K => (["InvalidRows", "InvalidDeed", "Barred", "NothingToUndo"] : List Str).all fun x => decide (PySem.W.exmOne K (.ref (He.ga K x)) (.ref (He.ga K x)) = some true),
    fun K => deskFa.all fun f => f.ok K, deskB, fun K => nsInt K (He.ga K "SIZES") "put" 3 && (nsInt K (He.ga K "SIZES") "row" 3 && nsInt K (He.ga K "SIZES") "out" 2), fun K => decide ((He.cT K ("check_rows", none)).2 ≠ (He.cT K ("_law_run", none)).2)],
  [dfD "is_whole" (top 8),
    dfD "is_string" (top 10),
    dfD "is_row" (top 11),
    dfD "is_desk_row" (top 165),
    dfD "first_wrong" (top 12),
    dfD "check_rows" (top 166),
    ⟨("is_number", none), "is_number", "is_number", defArgs (top 9), defBody (top 9), defScope (top 9), [.int 0, .non], []⟩,
    dfD "has_form" (top 167),
    dfD "check_deed" (top 168),
    dfD "reason_against" (top 169),
    dfD "rows_behind" (top 170),
    dfD "text_of_rows" (top 171),
    dfD "_law_purse" (top 175),
    dfD "_law_take" (top 176),
    dfD "_law_pick" (top 177),
    dfD "_law_same" (top 178),
    dfD "_law_move" (top 179),
    dfD "_law_said" (top 180),
    dfD "_law_is_so" (top 181),
    dfD "_law_page" (top 182),
    dfD "_law_deed" (top 183),
    dfD "_law_is_empty" (top 184),
    dfD "_law_run" (top 185),
    dfD "_law_are_equal" (top 186),
    dfD "_law_is_refused" (top 187),
    dfD "_law_right" (top 188),
    dfD "law" (top 189),
    ⟨("Desk", some "__init__"), "__init__", "Desk.__init__", defArgs (met (top 173) 0), defBody (met (top 173) 0), defScope (met (top 173) 0), [], []⟩,
    ⟨("Desk", some "do"), "do", "Desk.do", defArgs (met (top 173) 1), defBody (met (top 173) 1), defScope (met (top 173) 1), [], []⟩,
    ⟨("Desk", some "undo"), "undo", "Desk.undo", defArgs (met (top 173) 2), defBody (met (top 173) 2), defScope (met (top 173) 2), [], []⟩,
    ⟨("Desk", some "text"), "text", "Desk.text", defArgs (met (top 173) 3), defBody (met (top 173) 3), defScope (met (top 173) 3), [], []⟩,
    ⟨("Desk", some "__eq__"), "__eq__", "Desk.__eq__", defArgs (met (top 173) 8), defBody (met (top 173) 8), defScope (met (top 173) 8), [], []⟩],
  [inD "InvalidRows" "InvalidRows.__init__" (iniOf 3), inD "InvalidDeed" "InvalidDeed.__init__" (iniOf 4), inD "Barred" "Barred.__init__" (iniOf 5)]⟩, [("check_rows", none), ("_law_run", none)], [(fun K => He.ga K "SIZES", ["put", "row", "out"])]⟩
abbrev R : PySem.W.OpenRow := PySem.W.OpenLaw.row PySem.Challenge.rw_equalworlds_k11_desks_undone_and_equal
def loose : List Str := (["_wall", "TermError", "InvalidRows", "InvalidDeed", "Barred", "NothingToUndo", "is_whole", "is_number", "is_string", "is_row", "first_wrong", "LETTERS", "FIGURES", "OTHERS", "BLANK", "ARROW", "MOST_LETTERS", "MOST_FIGURES", "OPERATIONS", "HEADS", "wrong_sign", "sort_of", "word_end", "row_words", "is_run_of", "is_letters_word", "is_any_name", "is_name_word", "is_any_number", "is_number_word"] : List Str) ++ (["MOST_PLACES_trees", "MOST_OWN", "MOST_TACTICS", "is_operation_row", "count_up_to", "term_at", "with_part", "built", "replaced", "MOST_OF", "MOST_OPERATIONS", "UNIT", "BACK", "USED_IN_LETS", "RULES", "names_of_row", "declared_by", "row_of", "names_of", "sayings_by", "saying_of", "show_of", "is_too_many", "may_be_used", "wrong_name", "MOST_DEEP", "MOST_SORTS", "SIGN", "FORM", "BETWEEN"] : List Str) ++ (["RowParser", "ReadRow", "column_behind", "read_by", "row_by", "MOST_PLACES_sortwork", "JOINED_sortwork", "signature_of", "signatures_by", "sort_in", "made_sort", "asked_of", "let_signature", "row_sort_is_wrong", "made_size", "added", "let_size", "let_sizes", "size_by", "is_great", "let_terms", "made_term", "put_in_lets", "put_in_by", "sides_by", "JOINED_plainwork", "SUM", "members_at", "is_unit_of", "members_of"] : List Str) ++ (["signed", "each_once", "counted", "counts_of", "turned_over", "nested", "members_by_counts", "ordered", "joined", "made_plain", "plain_in", "plain_by", "are_equal_by", "X", "Y", "Z", "RULES_OF", "STAND_INS", "rules_of", "stand_ins", "unit_of", "made", "sides_of_join", "sides_of_unit", "sides_of_back", "sides_of", "side_of", "told_letters", "Frame", "MOST_PLACES_scriptwork"] : List Str) ++ (["SHOWN", "EQUAL", "PARTED", "Bench", "stands_of", "bench_sides", "broken_at", "state_by", "NAME", "MANY", "SORT", "GREAT", "SCRIPT", "MOST_ROWS", "wrong_script", "wrong_behind", "wrong_column", "wrong_in", "ReadText", "rows_in", "read_text", "fault_by", "book_of", "MOST_DESK", "MOST_SIGNS", "SIZES", "FULL", "FAR", "NONE", "SAME"] : List Str) ++ (["FAULT", "STATES", "is_desk_row", "check_rows", "has_form", "check_deed", "reason_against", "rows_behind", "text_of_rows", "word_of", "Desk", "_law_purse", "_law_take", "_law_pick", "_law_same", "_law_move", "_law_said", "_law_is_so", "_law_page", "_law_deed", "_law_is_empty", "_law_run", "_law_are_equal", "_law_is_refused", "_law_right"] : List Str)
abbrev steps : Nat := 10000
open HandSHeadRun PySem.W in
theorem runF_a (w : World) (os : OsState) : (endF (stepQ (denQ tabQ) R.prog (w.withFollow "special-get-raises" false)) steps R.prog (w.withFollow "special-get-raises" false) os).map (fun s => looksF R.prog (boot_heap (w.withFollow "special-get-raises" false).params) s.abs) = some true := by
  kernel_rfl
open HandSHeadRun PySem.W in
theorem runF_b (w : World) (os : OsState) : (endF (stepQ (denQ tabQ) R.prog (w.withFollow "special-get-raises" false)) steps R.prog (w.withFollow "special-get-raises" false) os).map (fun s => seenQ (view R.prog [189]) loose (importedModules R.prog.main.body) (fun s => xlAt (view R.prog [189]) [] s && recOk R.toRowW.records s) s.abs) = some (openGood (view R.prog [189]) loose) := by
  kernel_rfl
open HandSHeadRun PySem.W in
theorem runF_c (w : World) (os : OsState) : (endF (stepQ (denQ tabQ) R.prog (w.withFollow "special-get-raises" false)) steps R.prog (w.withFollow "special-get-raises" false) os).map hd.ob2 = some (hd.hook2.val (w.withFollow "special-get-raises" false)) := by
  kernel_rfl
open HandSHeadRun PySem.W in
theorem runT_a (w : World) (os : OsState) : (endF (stepQ (denQ tabQ) R.prog (w.withFollow "special-get-raises" true)) steps R.prog (w.withFollow "special-get-raises" true) os).map (fun s => looksF R.prog (boot_heap (w.withFollow "special-get-raises" true).params) s.abs) = some true := by
  kernel_rfl
open HandSHeadRun PySem.W in
theorem runT_b (w : World) (os : OsState) : (endF (stepQ (denQ tabQ) R.prog (w.withFollow "special-get-raises" true)) steps R.prog (w.withFollow "special-get-raises" true) os).map (fun s => seenQ (view R.prog [189]) loose (importedModules R.prog.main.body) (fun s => xlAt (view R.prog [189]) [] s && recOk R.toRowW.records s) s.abs) = some (openGood (view R.prog [189]) loose) := by
  kernel_rfl
open HandSHeadRun PySem.W in
theorem runT_c (w : World) (os : OsState) : (endF (stepQ (denQ tabQ) R.prog (w.withFollow "special-get-raises" true)) steps R.prog (w.withFollow "special-get-raises" true) os).map hd.ob2 = some (hd.hook2.val (w.withFollow "special-get-raises" true)) := by
  kernel_rfl
theorem run (w : World) : HandSHeadRun.RunEq R (PySem.W.view R.prog [189]) hd.hook2 hd.ob2 steps loose w :=
  PySem.W.byRow2 "special-get-raises" (P := fun w => HandSHeadRun.RunEq R (PySem.W.view R.prog [189]) hd.hook2 hd.ob2 steps loose w) (fun w => run_of3 (runF_a w) (runF_b w) (runF_c w)) (fun w => run_of3 (runT_a w) (runT_b w) (runT_c w)) w
end K11

set_option Elab.async false
set_option linter.all false
set_option maxRecDepth 100000
set_option maxHeartbeats 4000000
/-! Own errors raised out of a def. -/
namespace EqX
open PySem PySem.Spec PyProof.Rows L2 PySem.EqX
section
variable {X : Cx} {e : Expr} {ta : TA} {te : TE} {p pos kpos pos' : Pos} {x f : Str} {k : Nat} {W : WX}
theorem ro_own1 (tk : Takes X W) (O : Own1 X.prog X.w X.K X.mg X.base x f) (hr : Room (k + 1) X.A) (ha : PA X [e] ta) (hc : X.calm = true := by rfl) (hg : Gl X x := by rfl) (hdb : (x == ("__debug__" : Str)) = false := by decide) (he : starEach [e] X.env = (false, eval e X.env) :: starEach [] X.env := by rfl) :
    PS X (.Raise (some (.Call (.Name x p) [e] [] pos)) none pos') (fun _ σ H => tMkO (He.ga X.K x) (spIni1 (He.ga X.K x) f) [] ta σ H fun cls d H' => W cls d σ H') := by
  obtain ⟨fI, fd, i, t, F, b, _⟩ := O.fn
  exact ps_raise hc tk (pmk_oex (EClass.oex O.T) i t (F k) hr b .nil pass0 hg O.gm ha hdb he rfl)
theorem pmk_ex0 {C : Addr} {bmB : List Value} {B newId initId : String} (F : ExcBaseFacts B newId initId bmB) (q : PySem.W.excIn X.K C bmB newId = true) (gC : X.mg x = some (.ref C)) (kC : PySem.W.keepIn X.K (.ref C) = true) (r : Raises X (.ref C)) (hg : Gl X x)
    (hdb : (x == ("__debug__" : Str)) = false := by decide) : PMk X (.Call (.Name x p) [] [] pos) (fun _ H Q => Q (.ref C) none H) := by
  intro pins s σ H Q I h
  refine wpAny_Call_Name_kw (ld_glob I hg gC ?_ hdb)
  refine PySem.W.callWith_K0 I.kIn kC ?_
  obtain ⟨bm, N, nm, qn, bs, hdct, sn, sub, ab, col, dd, k0, k1, k2, k3, k5, mN, hC, hN, hni, T⟩ := exc_obj I.kIn q
  refine wpAny_call_exc_subT F T hC hN hni (fun h' a hm => ?_) (by show 0 ≤ sizeLine; rw [sizeLine_eq]; omega)
  exact mk_of I hm r h (I.hok.gone hm.new)
theorem ro_own0 (tk : Takes X W) (O : Own0 X.K X.mg x) (hc : X.calm = true := by rfl) (hg : Gl X x := by rfl) (hdb : (x == ("__debug__" : Str)) = false := by decide) :
    PS X (.Raise (some (.Call (.Name x p) [] [] pos)) none pos') (fun _ σ H => W (.ref (He.ga X.K x)) none σ H) := ps_raise hc tk (pmk_ex0 F.excBase_ValueError O.ok O.gm O.kp (raises_own O.exC O.tyC) hg hdb)
end
theorem ra_is {σ : L2.St} {H : Hp} {ta : TA} {C : Addr} {f : Str} {v : V} {W : XK} (h : GvA ta σ H [Is v]) (q : ∀ d H1, Same H H1 → H d = none → H1 d = some (.xd [(f, v)]) → W (.ref C) (some d) H1) : tMkO C (spIni1 C f) [] ta σ H W :=
  h H _ (Same.refl _) fun vs H1 s1 h1 => by
    match vs, h1 with
    | [u], ⟨hu, _⟩ =>
      obtain rfl : u = v := hu
      refine ⟨by show 1 ≤ 1000; decide, fun a ha => ⟨a, u, rfl, upd_same, fun d hd ne => ⟨rfl, d, [(f, u)], upd_same, by rw [upd_ne ne, upd_same], ?_, ?_⟩⟩⟩
      · rw [upd_ne ne] at hd
        exact hd
      · refine q d _ (s1.trans (same_rais (H2 := H1) ha hd ne)) (s1.free ?_) upd_same
        rw [upd_ne ne] at hd
        exact hd
end EqX

set_option Elab.async false
set_option linter.all false
set_option maxRecDepth 100000
set_option maxHeartbeats 4000000
/-! Slices and sums of tuples, whether the whole of one or a new one: what is behind them. -/
namespace EqX
open PySem PySem.Spec PyProof.Rows L2
theorem same_newT {H : Hp} {p : Addr} {o : HO} (hp : H p = none) : Same H (upd H p o) := fun b ob e => by
  have : b ≠ p := fun z => by
    rw [z, hp] at e
    cases e
  simp [upd, this, e]
theorem cut_from (xs : List V) (n : Nat) : cutV xs (some (n : Int)) none = xs.drop n := by
  unfold cutV
  rw [HT.sIx_nat, HT.sIx_none]
  by_cases h : n ≤ xs.length
  · rw [Nat.min_eq_left h, List.take_of_length_le (by rw [List.length_drop]; exact Nat.le_refl _)]
  · rw [Nat.min_eq_right (by omega), List.drop_eq_nil_of_le (Nat.le_refl _), List.drop_eq_nil_of_le (by omega), List.take_nil]
theorem cut_to (xs : List V) (n : Nat) : cutV xs none (some (n : Int)) = xs.take n := by
  unfold cutV
  rw [HT.sIx_nat, HT.sIx_none, List.drop_zero, Nat.sub_zero]
  by_cases h : n ≤ xs.length
  · rw [Nat.min_eq_left h]
  · rw [Nat.min_eq_right (by omega), List.take_of_length_le (by omega), List.take_of_length_le (by omega)]
theorem cut_butLast (xs : List V) : cutV xs none (some (-1 : Int)) = xs.dropLast := by
  unfold cutV
  rw [HT.sIx_none, List.drop_zero, Nat.sub_zero]
  have : HT.sIx xs.length xs.length (some (-1)) = xs.length - 1 := by
    show (if (-1 : Int) < 0 then ((-1 : Int) + (xs.length : Int)).toNat else min (-1 : Int).toNat xs.length) = _
    rw [if_pos (by decide)]
    omega
  rw [this, List.dropLast_eq_take]
section
variable {K : PySem.W.Frag} {H : Hp} {a b : Addr} {xs ys : List V} {Q : VK}
theorem w_slT {lo hi : Option Int} (hs : SqT K H a xs) (q : ∀ r H', Same H H' → SqT K H' r (cutV xs lo hi) → Q (.ref r) H') : rSlA K (.ref a) lo hi H Q := by
  refine ⟨a, xs, rfl, hs, fun e => ?_, fun _ p hp => q p _ (same_newT hp) (SqT.of upd_same)⟩
  refine q a H (Same.refl H) ?_
  have : cutV xs lo hi = xs := by
    unfold cutV
    rw [e.1, e.2, List.drop_zero, Nat.sub_zero, List.take_length]
  rw [this]
  exact hs
theorem w_catT (ha : SqT K H a xs) (hb : SqT K H b ys) (hz : xs.length + ys.length ≤ sizeLine) (q : ∀ r H', Same H H' → SqT K H' r (xs ++ ys) → Q (.ref r) H') : rCatA K (.ref a) (.ref b) H Q := by
  refine ⟨a, b, xs, ys, rfl, rfl, ha, hb, hz, fun e => ?_, fun _ e => ?_, fun _ _ p hp => q p _ (same_newT hp) (SqT.of upd_same)⟩
  · subst e
    exact q b H (Same.refl H) hb
  · subst e
    refine q a H (Same.refl H) ?_
    rw [List.append_nil]
    exact ha
theorem sqT_sm {H' : Hp} (s : Same H H') (h : SqT K H a xs) : SqT K H' a xs := h.imp (fun z => z.imp (s _ _) fun ⟨ob, e⟩ => ⟨ob, s _ _ e⟩) id
theorem w_callD {sp : Sp} {E : XK} {dvs : List V} {tA : TA} {σ : L2.St} (h : tA σ H fun vs H1 => sp (vs ++ dvs) H1 Q E) : tCall sp dvs E tA σ H Q := h
theorem w_ifT {c : Bool} {A B : Prop} (hc : c = true) (h : A) : if c = true then A else B := by
  rw [hc]
  exact h
theorem w_ifF {c : Bool} {A B : Prop} (hc : c = false) (h : B) : if c = true then A else B := by
  rw [hc]
  exact h
end
/-- a comprehension over a tuple without a test: what each item gives -/
theorem w_lcTm {K : PySem.W.Frag} {H : Hp} {a : Addr} {xs : List V} {Q : VK} {g : TG} {te : TE} {vs : List Nat} {σ : L2.St} (f : V → V) (hs : SqT K H a xs) (hz : xs.length < sizeLine)
    (hb : ∀ x H', x ∈ xs → Same H H' → ∀ R : VK, (∀ H2, Same H' H2 → R (f x) H2) → g x (wipe σ vs) H' fun σ2 H2 => wipe σ2 vs = wipe σ vs ∧ te σ2 H2 R)
    (q : ∀ L H', H L = none → Same H H' → H' L = some (.lst (xs.map f)) → Q (.ref L) H') (D : Addr) (hD : H D = none) :
    ∃ W : Nat → Nat → Hp → Prop, (∃ m, W 0 m (upd H D (.lst []))) ∧ ∀ i m H, W i m H →
  ((Itt K a).stop i H ∧ Q (.ref D) H) ∨ ((Itt K a).go i H ∧ ∃ Nx : Hp → Prop, (∀ H', Nx H' → ∃ m', m' < m ∧ W (i + 1) m' H') ∧ ∀ x H', (Itt K a).yld i H x H' → g x (wipe σ vs) H' fun σ2 H2 => wipe σ2 vs = wipe σ vs ∧ tYes σ2 H2 fun b H3 =>
    if b = true then te σ2 H3 fun y H4 => ∃ acc, H4 D = some (.lst acc) ∧ acc.length < sizeLine ∧ Nx (upd H4 D (.lst (acc ++ [y]))) else Nx H3) := by
  refine lc_tup (fun i H' => Same H H' ∧ H' D = some (.lst ((xs.take i).map f))) ⟨same_newT hD, upd_same⟩ (fun i H' hi p => sqT_sm p.1 hs) (fun i x H' hx p => ?_) (fun H' p => ?_)
  · have hm := List.mem_of_getElem? hx
    obtain ⟨hl, hxe⟩ := List.getElem?_eq_some_iff.mp hx
    have key := hb x H' hm p.1 (fun y H4 => ∃ acc, H4 D = some (.lst acc) ∧ acc.length < sizeLine ∧ Same H (upd H4 D (.lst (acc ++ [y]))) ∧ (upd H4 D (.lst (acc ++ [y]))) D = some (.lst ((xs.take (i + 1)).map f))) (fun H2 s2 => ?_)
    · exact key
    · refine ⟨_, s2 _ _ p.2, ?_, fun b o e => ?_, ?_⟩
      · rw [List.length_map, List.length_take]
        omega
      · have : b ≠ D := fun z => by
          rw [z, hD] at e
          cases e
        have e2 := s2 _ _ (p.1 _ _ e)
        simp [upd, this, e2]
      · rw [upd_same, List.take_succ, hx, List.map_append]
        rfl
  · refine q D H' hD p.1 ?_
    have := p.2
    rw [List.take_length] at this
    exact this
def LcT (K : PySem.W.Frag) (g : TG) (te : TE) (vs : List Nat) (σ : L2.St) (Q : VK) (a : Addr) (H : Hp) : Prop := ∀ D, H D = none → ∃ W : Nat → Nat → Hp → Prop, (∃ m, W 0 m (upd H D (.lst []))) ∧ ∀ i m H, W i m H →
  ((Itt K a).stop i H ∧ Q (.ref D) H) ∨ ((Itt K a).go i H ∧ ∃ Nx : Hp → Prop, (∀ H', Nx H' → ∃ m', m' < m ∧ W (i + 1) m' H') ∧ ∀ x H', (Itt K a).yld i H x H' → g x (wipe σ vs) H' fun σ2 H2 => wipe σ2 vs = wipe σ vs ∧ tYes σ2 H2 fun b H3 =>
    if b = true then te σ2 H3 fun y H4 => ∃ acc, H4 D = some (.lst acc) ∧ acc.length < sizeLine ∧ Nx (upd H4 D (.lst (acc ++ [y]))) else Nx H3)
theorem w_lcT {K : PySem.W.Frag} {t0 : TE} {H : Hp} {Q : VK} {g : TG} {te : TE} {vs : List Nat} {σ : L2.St} (h : t0 σ H fun x H1 => ∃ a, x = .ref a ∧ (∃ xs, SqT K H1 a xs) ∧ LcT K g te vs σ Q a H1) : tLc (iTup K t0) g tYes te vs σ H Q := h
theorem lcT_of {K : PySem.W.Frag} {H : Hp} {a : Addr} {xs : List V} {Q : VK} {g : TG} {te : TE} {vs : List Nat} {σ : L2.St} (f : V → V) (hs : SqT K H a xs) (hz : xs.length < sizeLine)
    (hb : ∀ x H', x ∈ xs → Same H H' → ∀ R : VK, (∀ H2, Same H' H2 → R (f x) H2) → g x (wipe σ vs) H' fun σ2 H2 => wipe σ2 vs = wipe σ vs ∧ te σ2 H2 R)
    (q : ∀ L H', H L = none → Same H H' → H' L = some (.lst (xs.map f)) → Q (.ref L) H') : LcT K g te vs σ Q a H := fun D hD => w_lcTm f hs hz hb q D hD
theorem w_m1 {r : V → List V → Hp → VK → Prop} {to te : TE} {σ : L2.St} {H : Hp} {Q : VK} (h : to σ H fun x H1 => (∃ a, x = .str a) ∧ te σ H1 fun y H2 => r x [y] H2 Q) : tM1 r to te σ H Q := h
theorem sum_le {l : List Nat} {k : Nat} (h : ∀ x ∈ l, x ≤ k) : l.sum ≤ l.length * k := by
  induction l with
  | nil => simp
  | cons x l ih =>
    rw [List.sum_cons, List.length_cons, Nat.succ_mul]
    have := h x (by simp)
    have := ih fun y hy => h y (by simp [hy])
    omega
end EqX

set_option Elab.async false
set_option linter.all false
set_option maxRecDepth 100000
set_option maxHeartbeats 4000000
/-! C(k = e) of an own class, its __init__ told by name; the truth of an instance. -/
namespace EqX
open PySem PySem.Spec PyProof.Rows L2
/-- the same, called by keywords, too: all but the first -/
structure DfMK (P : Program) (w : World) (K : PySem.W.Frag) (mg : Str → Option Value) (base : Heap) (CX : CXT) (k : Nat) (C : Addr) (m : Str) (ps ks : List Str) (sp : Sp) : Prop where
  ex : ∃ fd, FnOk P w K mg base CX k (He.ma K C m) fd ps sp ∧ Binds K fd ps [] ∧ KBn K fd ps 1 ks (fun us ws => us ++ ws) (fun vs zs => vs ++ zs)
  me : Meth K C m (He.ma K C m)
section
variable {P : Program} {w : World} {K : PySem.W.Frag} {mg : Str → Option Value} {base : Heap} {CX : CXT} {k : Nat} {C : Addr} {m qual : Str} {N ps ks : List Str} {sp : Sp} {st : Stmt}
theorem DfMK.toM (D : DfMK P w K mg base CX k C m ps ks sp) : DfM P w K mg base CX k C m ps sp := ⟨let ⟨fd, F, b, _⟩ := D.ex; ⟨fd, F, b⟩, D.me⟩
theorem vals_app {vs zs : List V} {us ws : List Value} (h1 : Vals vs us) (h2 : Vals zs ws) : Vals (vs ++ zs) (us ++ ws) := by
  induction h1 with
  | nil => exact h2
  | cons r _ ih => exact .cons r ih
theorem dfMK_of (A : AtM K C m qual st) (S : FnScope N ps (defScope st))
    (hb : ∀ (kV doc pm : Value) (an : Option Addr) (cdv ct : Value) (us : List Value), us.length = ps.length → bindArgs (PySem.W.fnOf m qual (defArgs st) (defBody st) (defScope st) .none kV doc pm an cdv ct) ⟨us, []⟩ = pure (ps.zip us))
    (hk : ∀ (kV doc pm : Value) (an : Option Addr) (cdv ct : Value) (us ws : List Value), us.length = 1 → ws.length = ks.length → bindArgs (PySem.W.fnOf m qual (defArgs st) (defBody st) (defScope st) .none kV doc pm an cdv ct) ⟨us, ks.zip ws⟩ = pure (ps.zip (us ++ ws)))
    (len : ∀ vs H Q E, sp vs H Q E → vs.length = ps.length)
    (hbody : ∀ (f : Addr) (cdv : Value) (A : Around) (outer : List Env) (s : Shared) (H : Hp) (vs : List V) (Q : VK) (E : XK), Room k (A.deeper (envOfC qual (defScope st) s.heap.objs.size f cdv)) → sp vs H Q E →
      ∃ t, PSs (cxOf CX P w K mg base N qual (defScope st) f cdv A outer s H E) (defBody st) t ∧ t { nx := fun _ H' => Q .non H', rt := Q } (start N vs) H) : DfMK P w K mg base CX (k + 1) C m ps ks sp := by
  obtain ⟨fd, F⟩ := A.fn
  have b := F.bindsN hb
  refine ⟨⟨fd, F.ok S len fun cdv A outer s H vs Q E hr h => hbody _ cdv A outer s H vs Q E hr h, b, ?_⟩, A.me⟩
  obtain ⟨oc, od, dV, kV, doc, pm, an, cdv, ct, osl, rfl, lk, hcd, hD, hK⟩ := F.ex
  rcases hD with ⟨_, rfl⟩ | ⟨e, _⟩
  · exact ⟨fun s us ws _ l1 l2 => BindsTo.of_eq (hk kV doc pm an cdv ct us ws l1 l2), vals_app⟩
  · exact absurd rfl e
end
section
variable {X : Cx} {CX : CXT} {k : Nat} {C : Addr} {x : Str} {ps ks : List Str} {sp : Sp} {E : XK} {kws : List Keyword} {p pos : Pos} {tk : TA}
/-- C(k = e, ..) -/
theorem pe_mkK (D : DfMK X.prog X.w X.K X.mg X.base CX k C "__init__" ps ks sp) (M : Mk X.K C (He.ma X.K C "__init__")) (hm : X.mg x = some (.ref C)) (hr : Room (k + 1) X.A) (hx : Passes CX X E) (hkw : PK X kws tk) (hg : Gl X x := by rfl)
    (hall : (backToKw pos (keywordEach kws X.env)).all (·.1.isSome) = true := by rfl) (hks : (backToKw pos (keywordEach kws X.env)).filterMap (·.1) = ks := by rfl) (hdb : (x == ("__debug__" : Str)) = false := by decide)
    (hpl : ((backTo pos (starEach [] X.env)).any (·.1) || (backToKw pos (keywordEach kws X.env)).any (·.1.isNone)) = false := by rfl) :
    PE X (.Call (.Name x p) [] kws pos) (tMakeK C 0 ks.length sp (fun vs zs => vs ++ zs) E tNil tk) := by
  obtain ⟨fd, F, _, b⟩ := D.ex
  exact pe_makeK0 M F hr hg hm b hx hkw hall hks hdb hpl
end
/-! the truth of an instance -/
theorem truthy_inst {M : Model} {A : Around} {E : Value → Shared → Prop} {s : Shared} {K : PySem.W.Frag} {x C : Addr} {ox : Obj} {od : Option Obj} {Q : Bool → Shared → Prop} (X : K.In s.heap) (I : PySem.W.InstAt s.heap x ox C od)
    (hb : PySem.W.findIn K (.ref C) "__bool__" = some none) (hl : PySem.W.findIn K (.ref C) "__len__" = some none) (q : Q true s) : wpAny M A (truthy (.ref x)) Q E s := by
  unfold truthy callSpecial? specialOf
  refine wpAny_bind (wpAny_bind (wpAny_bind (I.type.here ((PySem.W.looks_findIn X hb).here (wpAny_pure ?_)))))
  refine wpAny_bind (wpAny_bind (I.type.here ((PySem.W.looks_findIn X hl).here ?_)))
  exact wpAny_pure q
section
variable {X : Cx}
/-- the truth of an own instance that has no way to tell it -/
theorem pt_inst {C : Addr} {e : Expr} {te : TE} (hb : PySem.W.findIn X.K (.ref C) "__bool__" = some none) (hl : PySem.W.findIn X.K (.ref C) "__len__" = some none) (he : PE X e te)
    (ht : ∀ whole, isTrue e X.env whole = (do let v ← whole; standAt e.pos; holding [v] (truthy v)) := by intro _; rfl) : PT X e (fun σ H Q => te σ H fun x H' => ∃ b dx fs, x = .ref b ∧ H' b = some (.ins C dx fs) ∧ Q true H') := by
  refine pt_truthR (r := fun x H' Q => ∃ b dx fs, x = .ref b ∧ H' b = some (.ins C dx fs) ∧ Q true H') he ?_ ht
  intro pins s σ H x v Q I rx h
  obtain ⟨b, dx, fs, rfl, hx, q⟩ := h
  cases rx
  obtain ⟨mA, J, _⟩ := ins_get I.hok hx
  obtain ⟨od, J, _⟩ := J.look
  exact truthy_inst I.kIn J hb hl ⟨H, I, q⟩
end
end EqX

set_option Elab.async false
set_option linter.all false
set_option maxRecDepth 100000
set_option maxHeartbeats 4000000
/-! What stays while objects told by name are changed: all else but the lambdas' tables; tuples in any case. -/
namespace EqX
open PySem PySem.Spec PyProof.Rows L2 LamX
structure Up (TT : List (Addr × Str)) (A : List Addr) (H H' : Hp) : Prop where
  keep : ∀ b o, H b = some o → b ∉ A → (∀ ps, o ≠ .tbl ps) → H' b = some o
  tup : ∀ b xs, H b = some (.tup xs) → H' b = some (.tup xs)
  frz : ∀ b o u, H b = some (.frz o u) → H' b = some (.frz o u)
  tabs : Tabs TT H → Tabs TT H'
section
variable {TT : List (Addr × Str)} {A B : List Addr} {H H1 H2 H' : Hp} {K : PySem.W.Frag} {a : Addr} {xs : List V}
theorem Up.refl : Up TT A H H := ⟨fun _ _ h _ _ => h, fun _ _ h => h, fun _ _ _ h => h, id⟩
theorem Up.trans (p : Up TT A H H1) (q : Up TT A H1 H2) : Up TT A H H2 :=
  ⟨fun b o h n t => q.keep b o (p.keep b o h n t) n t, fun b xs h => q.tup b xs (p.tup b xs h), fun b o u h => q.frz b o u (p.frz b o u h), fun t => q.tabs (p.tabs t)⟩
theorem Up.mono (p : Up TT A H H') (h : ∀ a ∈ A, a ∈ B) : Up TT B H H' := ⟨fun b o e n t => p.keep b o e (fun z => n (h b z)) t, p.tup, p.frz, p.tabs⟩
theorem Up.of (s : Same H H') : Up TT A H H' := ⟨fun b o h _ _ => s b o h, fun b xs h => s b _ h, fun b o u h => s b _ h, fun t => fun p hp => (t p hp).ext s⟩
theorem Up.ext (e : ExtN H H') (t : Tabs TT H → Tabs TT H') : Up TT A H H' := ⟨fun b o h _ n => e b o h n, fun b xs h => e b _ h (fun ps z => nomatch z), fun b o u h => e b _ h (fun ps z => nomatch z), t⟩
/-- an address that was free at first is forgotten -/
theorem Up.drop (p : Up TT (a :: A) H H') (n : H a = none) : Up TT A H H' := ⟨fun b o e nb t => p.keep b o e (fun z => by
  rcases List.mem_cons.mp z with z | z
  · rw [z, n] at e
    cases e
  · exact nb z) t, p.tup, p.frz, p.tabs⟩
theorem Up.rd {o : HO} (p : Up TT A H H') (h : Rd H a (.tup xs)) : Rd H' a (.tup xs) := h.imp (p.tup _ _) fun ⟨ob, e⟩ => ⟨ob, p.frz _ _ _ e⟩
theorem Up.seqT (p : Up TT A H H') (h : SqT K H a xs) : SqT K H' a xs := h.imp (fun z => z.imp (p.tup _ _) fun ⟨ob, e⟩ => ⟨ob, p.frz _ _ _ e⟩) id
/-- nothing stands there but perhaps a table -/
def Fr (H : Hp) (l : Addr) : Prop := ∀ o, H l = some o → ∃ ps, o = .tbl ps
theorem Up.fr {l : Addr} (p : Up TT A H H') (h : H' l = none) (n : l ∉ A) : Fr H l := fun o e => by
  refine Classical.byContradiction fun z => ?_
  have := p.keep l o e n fun ps q => z ⟨ps, q⟩
  rw [h] at this
  cases this
theorem Up.frr {l : Addr} (p : Up TT A H H') (h : Fr H' l) (n : l ∉ A) : Fr H l := fun o e => by
  refine Classical.byContradiction fun z => ?_
  have t : ∀ ps, o ≠ .tbl ps := fun ps q => z ⟨ps, q⟩
  obtain ⟨ps, q⟩ := h o (p.keep l o e n t)
  exact t ps q
theorem Up.dropF (p : Up TT (a :: A) H H') (n : Fr H a) : Up TT A H H' := ⟨fun b o e nb t => p.keep b o e (fun z => by
  rcases List.mem_cons.mp z with z | z
  · rw [z] at e
    obtain ⟨ps, q⟩ := n o e
    exact t ps q
  · exact nb z) t, p.tup, p.frz, p.tabs⟩
/-- an instance's or a list's change -/
def Mu (o : HO) : Prop := (∃ C dx fs, o = .ins C dx fs) ∨ ∃ xs, o = .lst xs
theorem mu_ne {o : HO} (h : H a = some o) (m : Mu o) {b : Addr} {o2 : HO} (e : H b = some o2) (n : ¬ Mu o2) : b ≠ a := fun z => by
  rw [z, h] at e
  cases e
  exact n m
theorem up_set {o o' : HO} (h : H a = some o) (m : Mu o) (ha : a ∈ A) : Up TT A H (upd H a o') := by
  have key : ∀ b o2, H b = some o2 → ¬ Mu o2 → upd H a o' b = some o2 := fun b o2 e n => by
    rw [upd_ne (mu_ne h m e n)]
    exact e
  refine ⟨fun b ob e nb _ => ?_, fun b xs e => key b _ e ?_, fun b ob u e => key b _ e ?_, fun t p hp => ?_⟩
  · rw [upd_ne (fun z => nb (by rw [z]; exact ha))]
    exact e
  · rintro (⟨_, _, _, z⟩ | ⟨_, z⟩) <;> cases z
  · rintro (⟨_, _, _, z⟩ | ⟨_, z⟩) <;> cases z
  · obtain ⟨ps, h1, h2, h3⟩ := t p hp
    refine ⟨ps, key _ _ h1 ?_, h2, fun pos cv hc => ?_⟩
    · rintro (⟨_, _, _, z⟩ | ⟨_, z⟩) <;> cases z
    · obtain ⟨c, e1, e2⟩ := h3 pos cv hc
      refine ⟨c, e1, key _ _ e2 ?_⟩
      rintro (⟨_, _, _, z⟩ | ⟨_, z⟩)
      · cases z
      · cases z
theorem mu_ins {C dx : Addr} {fs : List (Str × V)} : Mu (.ins C dx fs) := .inl ⟨C, dx, fs, rfl⟩
theorem mu_lst {ys : List V} : Mu (.lst ys) := .inr ⟨ys, rfl⟩
end
end EqX

set_option Elab.async false
set_option linter.all false
set_option maxRecDepth 100000
set_option maxHeartbeats 4000000
/-! try .. except x as n .. and further clauses: an exception that the first clause takes, or none. -/
namespace EqX
open PySem PySem.Spec PyProof.Rows L2 LamX
def wFirst (K : PySem.W.Frag) (c : Value) (i : Nat) (ts : Addr → Value → Option Addr → TS) (D : Ends) : WX := fun cls d σ H =>
  PySem.W.exmOne K cls c = some true ∧ ∀ a, H a = none → ts a cls d { nx := fun σ' H' => D.nx (σ'.set i none) H', rt := D.rt, bk := fun σ' H' => D.bk (σ'.set i none) H', ct := fun σ' H' => D.ct (σ'.set i none) H' } (σ.set i (some (.ref a))) H
section
variable {X : Cx} {x n : Str} {c : Value} {i : Nat} {body suite : List Stmt} {b₀ : Stmt} {np pos pos' : Pos} {rest : List ExceptHandler} {tb : WX → TS} {ts : Addr → Value → Option Addr → TS}
theorem ps_try_first (hs : X.stack = X.env :: X.outer) (hf : X.env.frame = some X.env.locals) (hN : X.N.Nodup) (hi : X.N[i]? = some n) (hln : X.env.kindOf n = some .local) (hc : Names X x c)
    (hb : ∀ (W : WX) (pn : List (Addr × Obj)) (xe : Value → Shared → Prop), Takes (X.tr pn xe) W → PSs (X.tr pn xe) body (tb W))
    (hsu : ∀ (a : Addr) (oe : Obj) (cls : Value) (d : Option Addr) (pn : List (Addr × Obj)), Zc cls d oe → (∃ vs, oe.data = .fields vs) → PSs (X.suite a ((a, oe) :: pn)) (b₀ :: suite) (ts a cls d)) :
    PS X (.Try body (.ExceptHandler (some (.Name x np)) (some n) (b₀ :: suite) pos' :: rest) [] [] pos) (fun D σ H => tb (wFirst X.K c i ts D) D σ H) := by
  refine ⟨fun pins s σ H D I h => ?_⟩
  have ok := I.ok
  have fr : X.A.frames = some (X.env :: X.outer) := by rw [ok.frames, hs]
  refine wpAny_Try_except (wpAny_mono ((hb (wFirst X.K c i ts D) (X.pn ++ pins) (fun e z => wpAny (model X.prog X.w) X.A (noteFrame e X.env) (fun _ z => wpAny (model X.prog X.w) X.A (setFlight e none) (fun _ z => wpAny (model X.prog X.w) X.A (handleBy e X.env (.ExceptHandler (some (.Name x np)) (some n) (b₀ :: suite) pos' :: rest)) (SP X pins D) X.xe z) X.xe z) X.xe z)
    (fun u s' xx => ?c1)).run [] s σ H D (I.toTry _) h) (fun f s1 hsp => ?c2) (fun _ _ he => he))
  case c2 =>
    cases f with
    | next => let ⟨σ', H', J', q⟩ := hsp; exact wpAny_execs_nil ⟨σ', H', J'.ofTry ok, q⟩
    | brk => let ⟨σ', H', J', q⟩ := hsp; exact ⟨σ', H', J'.ofTry ok, q⟩
    | cont => let ⟨σ', H', J', q⟩ := hsp; exact ⟨σ', H', J'.ofTry ok, q⟩
    | ret u => let ⟨v, σ', H', J', r, q⟩ := hsp; exact ⟨v, σ', H', J'.ofTry ok, r, q⟩
  case c1 =>
    obtain ⟨a, B, sI, p', σ', H', cls, d, rfl, J', nb, up, sky, na, os, ag, hb1, hyes⟩ := xx
    have J : Inv X pins σ' H' sI := J'.ofTry ok
    show wpAny (model X.prog X.w) X.A (noteFrame (.ref a) X.env) _ _ _
    refine Sky.land (L := X.env.locals) (outer := X.outer) (B := B) (Z := Zc cls d) Zc.steady fr hf (by rw [← hs]; exact sky) fun h3 fl3 up3 => ?_
    have J3 : Inv X pins σ' H' { s' with heap := h3 } := J.landed nb fl3.1 (up.trans up3) os ag
    obtain ⟨o3, v3, he3, hz3, hd3⟩ := fl3.there
    have nfr : a ∉ frs (X.env :: X.outer) := fun hm => by
      obtain ⟨_, o', e', hnf⟩ := fl3.2.2.1.mem hm
      rw [he3] at e'
      cases e'
      exact hnf _ hd3
    have nL : a ≠ X.env.locals := fun z => nfr (List.mem_filterMap.mpr ⟨X.env, List.mem_cons_self, by rw [hf, z]⟩)
    have nF : a ∉ X.fs := fun hm => by
      obtain ⟨e, he, q⟩ := List.mem_filterMap.mp hm
      exact nfr (List.mem_filterMap.mpr ⟨e, List.mem_cons_of_mem _ he, q⟩)
    have S3 := J3.suite he3 hd3 na nL nF
    have LM := PySem.W.exm_one (M := model X.prog X.w) J3.kIn (fun A Q E s k q => wpAny_typeOf_ref (k _ _ he3) (by rw [hz3.1]; exact q)) hb1
    have look : ∀ {Q : Value → Shared → Prop} {E : Value → Shared → Prop}, Q c { s' with heap := h3 } → wpAny (model X.prog X.w) (X.A.mark (some (.ref a))) (eval (.Name x np) X.env) Q E { s' with heap := h3 } := fun {Q E} q => by
      obtain ⟨hg, hdb, hm | ⟨hm, hv, hn⟩⟩ := hc
      · exact ld_glob (X := X.suite a ((a, o3) :: (X.pn ++ pins))) S3 hg hm q hdb
      · exact ld_blt (X := X.suite a ((a, o3) :: (X.pn ++ pins))) S3 hg hm hv q hn hdb
    refine wpAny_handleBy_cons (codeAny_handlers_test (look (LM.here (codeAny_handlers_suite_as (HandSPX.lands_againZ fl3 fun h4 fl4 up4 => ?_))))) (by intro q; cases q)
    have J4 : Inv X pins σ' H' { s' with heap := h4 } := J.landed nb fl4.1 ((up.trans up3).trans up4) os ag
    obtain ⟨o4, v4, he4, hz4, hd4⟩ := fl4.there
    refine store_ok (X := X.suite a ((a, o4) :: (X.pn ++ pins))) (v := .ref a) (J4.suite he4 hd4 na nL nF) hN hi (.inl hln) rfl (fun s5 S5 => ?_) (.inr hln)
    refine wpAny_mono ((hsu a o4 cls d (X.pn ++ pins) hz4 ⟨_, hd4⟩).run [] s5 _ H' _ S5 (hyes a na)) (fun f s6 hsp => ?_) (fun _ _ z => False.elim z)
    have fin : ∀ {σ6 : L2.St} {H6 : Hp} {Q : Shared → Prop}, Inv (X.suite a ((a, o4) :: (X.pn ++ pins))) [] σ6 H6 s6 → (∀ s7, Inv X pins (σ6.set i none) H6 s7 → Q s7) → wpAny (model X.prog X.w) X.A (do bindName X.env n .none; unbindBehindTheSuite X.env n pos') (fun _ s7 => Q s7) X.xe s6 := fun S6 hq => gone_ok (S6.unsuite ok) hN hi hln hq
    cases f with
    | next => let ⟨σ6, H6, S6, q6⟩ := hsp; exact fin S6 fun s7 J7 => ⟨_, _, J7, q6⟩
    | brk => let ⟨σ6, H6, S6, q6⟩ := hsp; exact fin S6 fun s7 J7 => ⟨_, _, J7, q6⟩
    | cont => let ⟨σ6, H6, S6, q6⟩ := hsp; exact fin S6 fun s7 J7 => ⟨_, _, J7, q6⟩
    | ret u => let ⟨v6, σ6, H6, S6, r6, q6⟩ := hsp; exact fin S6 fun s7 J7 => ⟨_, _, _, J7, r6, q6⟩
end
end EqX

set_option Elab.async false
set_option linter.all false
set_option maxRecDepth 100000
set_option maxHeartbeats 4000000
/-! A comprehension over a list whose test never holds. -/
namespace EqX
open PySem PySem.Spec PyProof.Rows L2 LamX
section
variable {TA : List (Addr × Str)} {K : PySem.W.Frag} {H H' : Hp} {a : Addr} {xs : List V} {Q : VK} {g : TG} {tt : TT} {te : TE} {vs : List Nat} {σ : L2.St}
theorem Up.seqL (u : Up TA [] H H') (h : SqL K H a xs) : SqL K H' a xs := h.imp (fun z => z.imp (fun e => u.keep _ _ e (by simp) fun _ z => nomatch z) fun ⟨ob, e⟩ => ⟨ob, u.frz _ _ _ e⟩) id
end
def LcL (K : PySem.W.Frag) (g : TG) (tt : TT) (te : TE) (vs : List Nat) (σ : L2.St) (Q : VK) (a : Addr) (H : Hp) : Prop := ∀ D, H D = none → ∃ W : Nat → Nat → Hp → Prop, (∃ m, W 0 m (upd H D (.lst []))) ∧ ∀ i m H, W i m H →
  ((Itl K a).stop i H ∧ Q (.ref D) H) ∨ ((Itl K a).go i H ∧ ∃ Nx : Hp → Prop, (∀ H', Nx H' → ∃ m', m' < m ∧ W (i + 1) m' H') ∧ ∀ x H', (Itl K a).yld i H x H' → g x (wipe σ vs) H' fun σ2 H2 => wipe σ2 vs = wipe σ vs ∧ tt σ2 H2 fun b H3 =>
    if b = true then te σ2 H3 fun y H4 => ∃ acc, H4 D = some (.lst acc) ∧ acc.length < sizeLine ∧ Nx (upd H4 D (.lst (acc ++ [y]))) else Nx H3)
theorem w_lcL {K : PySem.W.Frag} {t0 : TE} {H : Hp} {Q : VK} {g : TG} {tt : TT} {te : TE} {vs : List Nat} {σ : L2.St} (h : t0 σ H fun x H1 => ∃ a, x = .ref a ∧ (∃ xs, SqL K H1 a xs) ∧ LcL K g tt te vs σ Q a H1) : tLc (iList K t0) g tt te vs σ H Q := h
theorem lcL_none {TA : List (Addr × Str)} {K : PySem.W.Frag} {H : Hp} {a : Addr} {xs : List V} {Q : VK} {g : TG} {tt : TT} {te : TE} {vs : List Nat} {σ : L2.St} (hs : SqL K H a xs)
    (hb : ∀ x H', x ∈ xs → Up TA [] H H' → ∀ R : L2.St → Bool → Hp → Prop, (∀ σ2 H2, Up TA [] H' H2 → R σ2 false H2) → g x (wipe σ vs) H' fun σ2 H2 => wipe σ2 vs = wipe σ vs ∧ tt σ2 H2 (R σ2))
    (q : ∀ L H', H L = none → Up TA [] H H' → H' L = some (.lst []) → Q (.ref L) H') : LcL K g tt te vs σ Q a H := fun D hD => by
  refine lc_list (fun i H' => Up TA [] H H' ∧ H' D = some (.lst [])) ⟨Up.of (same_newT hD), upd_same⟩ (fun i H' hi p => p.1.seqL hs) (fun i x H' hx p => ?_) (fun H' p => q D H' hD p.1 p.2)
  refine hb x H' (List.mem_of_getElem? hx) p.1 (fun σ2 b H3 => if b = true then te σ2 H3 fun y H4 => ∃ acc, H4 D = some (.lst acc) ∧ acc.length < sizeLine ∧ _ else _) ?_
  intro σ2 H2 u
  exact w_false ⟨p.1.trans u, u.keep _ _ p.2 (by simp) (fun _ z => nomatch z)⟩
end EqX

set_option Elab.async false
set_option linter.all false
set_option maxRecDepth 100000
set_option maxHeartbeats 4000000
/-! C(e, ..) in a try, what is wished of an exception told of the names' values. -/
namespace EqX
open PySem PySem.Spec PyProof.Rows L2
def tMkS (C : Addr) (sp : Sp) (W : WX) (t : TA) : TE := fun σ H Q => tMake C sp [] (fun cls d H' => W cls d σ H') t σ H Q
section
variable {X : Cx} {k : Nat} {C : Addr} {x : Str} {ps : List Str} {sp : Sp} {W : WX} {e : Expr} {es : List Expr} {p pos : Pos} {t : TA}
theorem pe_mkS (D : DfM X.prog X.w X.K X.mg X.base (L2.CX X.prog X.w) k C "__init__" ps sp) (M : Mk X.K C (He.ma X.K C "__init__")) (hm : X.mg x = some (.ref C)) (hr : Room (k + 1) X.A) (tk : Takes X W) (ha : PA X (e :: es) t) (hg : Gl X x := by rfl)
    (hdb : (x == ("__debug__" : Str)) = false := by decide) (he : starEach (e :: es) X.env = (false, eval e X.env) :: starEach es X.env := by rfl) (hpl : (backTo pos (starEach es X.env)).any (·.1) = false := by rfl) :
    PE X (.Call (.Name x p) (e :: es) [] pos) (tMkS C sp W t) := by
  obtain ⟨fd, F, b⟩ := D.ex
  refine ⟨fun pins s σ H Q I h => wpAny_Call_Name_kw (ld_glob I hg hm (PySem.W.callWith_K (h₀ := X.base) I.ok.mod.kin M.kp (thn (ha.run pos pins s σ H _ I h) fun us s1 ⟨vs, H1, I1, r, q⟩ => ⟨I1.kIn, ?_⟩) he hpl) hdb)⟩
  have q0 := q (s1.heap.objs.size + 1) s1.heap.objs.size (I1.hok.fresh (Nat.le_succ _)) (I1.hok.fresh (Nat.le_refl _)) (Nat.ne_of_lt (Nat.lt_succ_self _))
  have J := Inv.made (C := C) I1
  rw [List.append_nil] at q0
  have rv : Vals (V.ref (s1.heap.objs.size + 1) :: vs) (Value.ref (s1.heap.objs.size + 1) :: us) := .cons rfl r
  have hl := (F.len _ _ _ _ q0).symm.trans rv.length
  have bd := b _ (Value.ref (s1.heap.objs.size + 1) :: us) J.kIn (by simpa using hl.symm)
  rw [List.append_nil] at bd
  refine wpAny_call (make_map (f := He.ma X.K C "__init__") I1.kIn M.makes M.init (beq_iff_eq.mp M.fn) (codeAny_mono (F.run _ X.stack _ _ ⟨_, []⟩ _ _ _ _ (hr.make C us []) (J.env0.make C us []) bd rv q0) fun w s' hq => ?_))
  rcases w with er | (_ | _ | _ | u)
  · exact tk er s' (XE.of_call J (fun _ _ _ z => z) hq)
  · exact hq.elim
  · exact hq.elim
  · exact hq.elim
  · obtain ⟨v, H', I3, rv3, ev, q3⟩ := J.after hq
    subst ev
    exact ⟨rv3, ⟨V.ref (s1.heap.objs.size + 1), H', I3, rfl, q3⟩⟩
end
end EqX

set_option Elab.async false
set_option linter.all false
set_option maxRecDepth 100000
set_option maxHeartbeats 4000000
/-! A string so many times. -/
namespace EqX
open PySem PySem.Spec PyProof.Rows L2
def repS (z : Str) (k : Nat) : Str := ⟨(List.replicate k z.cps).foldl (· ++ ·) #[]⟩
theorem rep_size (a : Array Nat) : ∀ (k : Nat) (acc : Array Nat), ((List.replicate k a).foldl (· ++ ·) acc).size = acc.size + k * a.size
  | 0, acc => by simp
  | k + 1, acc => by
    rw [List.replicate_succ, List.foldl_cons, rep_size a k, Array.size_append, Nat.succ_mul]
    omega
theorem repS_len (z : Str) (k : Nat) : (repS z k).length = k * z.length := by
  show ((List.replicate k z.cps).foldl (· ++ ·) #[]).size = _
  rw [rep_size]
  simp [Str.length]
def rRepStr : R2 := fun x y H Q => ∃ (z : Str) (k : Nat), x = .str z ∧ y = .int (k : Int) ∧ 2 ≤ k ∧ k ≤ 1000 ∧ 1 ≤ z.length ∧ z.length ≤ 1000 ∧ Q (.str (repS z k)) H
theorem op_repStr {X : Cx} : OpR X (binaryOp .Mult) rRepStr := by
  intro pins s σ H x y v u Q I rx ry h
  obtain ⟨z, k, rfl, rfl, k1, k2, z1, z2, q⟩ := h
  obtain ⟨t, rfl⟩ := rx
  obtain ⟨t', rfl⟩ := ry
  have n1 : ¬ ((k : Int) < 1) := by omega
  have n2 : ((k : Int) == 1 || z.length == 0) = false := by
    rw [Bool.or_eq_false_iff]
    exact ⟨beq_eq_false_iff_ne.mpr (by omega), beq_eq_false_iff_ne.mpr (by omega)⟩
  refine PySem.P.mul_str (by rw [decide_eq_false (by omega), decide_eq_false (by omega)]; rfl) ?_ ?_ ?_
  · intro _ _
    have h3 : (1000 : Int) ≤ (2 ^ 63 - 1) / (k : Int) := Int.le_ediv_of_mul_le (by omega) (by omega)
    omega
  · intro _ _
    have h1 : z.length * (k : Int).toNat ≤ 1000 * 1000 := Nat.mul_le_mul z2 (by omega)
    unfold Builtin.Str.tooLong
    refine decide_eq_false ?_
    show ¬ _ > 2 ^ 24
    omega
  · rw [if_neg n1, if_neg (by rw [n2]; decide)]
    refine ⟨?_, .str (repS z k), H, I.tok _, ⟨_, rfl⟩, q⟩
    show (repS z k).length ≤ _
    rw [repS_len]
    have h1 : k * z.length ≤ 1000 * 1000 := Nat.mul_le_mul k2 z2
    show _ ≤ 2 ^ 24
    omega
end EqX

set_option Elab.async false
set_option linter.all false
set_option maxRecDepth 100000
set_option maxHeartbeats 4000000
namespace K11
open PySem PySem.Spec PyProof.Rows L2 L2H HotX EqX
/-! the words' steps, one after another -/
local macro_rules | `(tactic| walk_at "w") => `(tactic| (repeat (first
  | with_reducible refine w_seq ?_ | with_reducible refine w_asg ?_ | with_reducible refine w_ret ?_ | with_reducible exact w_retN ?_ | with_reducible refine w_drop ?_ | with_reducible refine w_ifs ?_ | with_reducible refine w_next ?_
  | with_reducible refine w_name ?_ | with_reducible refine w_gsub ?_ | ((with_reducible refine' w_var ?hx ?_); (case hx => exact rfl)) | with_reducible refine w_c ?_ | with_reducible refine w_op ?_ | with_reducible refine w_un ?_ | with_reducible refine w_cb ?_ | with_reducible refine w_call ?_
  | with_reducible refine w_nil ?_ | with_reducible refine w_cons ?_ | with_reducible refine w_test ?_ | with_reducible refine w_b ?_ | with_reducible refine w_bl ?_ | with_reducible refine w_not ?_ | with_reducible refine w_and ?_ | with_reducible refine w_or ?_
  | with_reducible refine w_notV ?_ | with_reducible refine w_blV ?_ | with_reducible refine w_I0 ?_ | ((with_reducible refine w_mulL ?_ ?_); · omega) | ((with_reducible refine w_mulR ?_ ?_); · omega) | ((with_reducible refine w_pow ?_ ?_); · decide)
  | with_reducible refine w_neg ?_ | ((with_reducible refine w_eq ?_ ?_); · exact rfl) | ((with_reducible refine w_ne ?_ ?_); · exact rfl) | with_reducible refine w_int1 ?_ | with_reducible refine w_abs ?_ | with_reducible refine w_max2 ?_ | with_reducible refine w_min2 ?_
  | with_reducible refine w_gcons ?_ | with_reducible refine w_gnil ?_ | with_reducible refine w_tup ?_ | with_reducible refine w_lst ?_ | with_reducible refine w_sl ?_ | with_reducible refine w_no ?_ | with_reducible refine w_part ?_ | with_reducible refine w_partI ?_ | with_reducible refine ⟨_, (rfl : V.int _ = V.int _), ?_⟩
  | with_reducible refine w_for ?_ | with_reducible refine w_iL ?_ | with_reducible refine w_iT ?_ | with_reducible refine w_iR ?_ | with_reducible refine w_yes ?_ | with_reducible refine w_setLc ?_ | with_reducible refine w_isB ?_)))

/-! ### a row of a desk: at most 200 signs, no line end -/
def rwB (s : Str) : Bool := decide (s.length ≤ 200) && !decide (10 ∈ s.cps.toList)
def isRow : V → Bool
  | .str s => rwB s
  | _ => false
def tyNames : List String := ["NoneType", "bool", "int", "str", "list", "tuple"]
/-- a value of a known type -/
def Ty (K : PySem.W.Frag) (H : Hp) (x : V) (t : String) : Prop := TyX K H x (.type t) ∧ t ∈ tyNames
theorem kit_str {K : PySem.W.Frag} : ∀ t ∈ tyNames, PySem.W.kitOne K (.type t) (.type "str") = some (decide (t = "str")) := by
  intro t ht
  simp only [tyNames, List.mem_cons, List.not_mem_nil, or_false] at ht
  rcases ht with rfl | rfl | rfl | rfl | rfl | rfl <;> exact kit_ty (by decide +kernel)
theorem kit_int {K : PySem.W.Frag} : ∀ t ∈ tyNames, PySem.W.kitOne K (.type t) (.type "int") = some (decide (t = "int" ∨ t = "bool")) := by
  intro t ht
  simp only [tyNames, List.mem_cons, List.not_mem_nil, or_false] at ht
  rcases ht with rfl | rfl | rfl | rfl | rfl | rfl <;> exact kit_ty (by decide +kernel)
theorem kit_bool {K : PySem.W.Frag} : ∀ t ∈ tyNames, PySem.W.kitOne K (.type t) (.type "bool") = some (decide (t = "bool")) := by
  intro t ht
  simp only [tyNames, List.mem_cons, List.not_mem_nil, or_false] at ht
  rcases ht with rfl | rfl | rfl | rfl | rfl | rfl <;> exact kit_ty (by decide +kernel)
theorem kit_tuple {K : PySem.W.Frag} : ∀ t ∈ tyNames, PySem.W.kitOne K (.type t) (.type "tuple") = some (decide (t = "tuple")) := by
  intro t ht
  simp only [tyNames, List.mem_cons, List.not_mem_nil, or_false] at ht
  rcases ht with rfl | rfl | rfl | rfl | rfl | rfl <;> exact kit_ty (by decide +kernel)
theorem w_isi {K : PySem.W.Frag} {H : Hp} {x : V} {t : String} {n : String} {b : Bool} {Q : VK} (h : TyX K H x (.type t)) (e : PySem.W.kitOne K (.type t) (.type n) = some b) (q : Q (.bl b) H) : rIsi K [x, .ty n] H Q := ⟨x, .ty n, _, _, b, rfl, .ty n, h, e, q⟩
theorem pe_cI {X : Cx} {x : Str} {i : Int} {p : Pos} (h : ∃ t, X.mg x = some (.int i t)) (hg : Gl X x := by rfl) (hd : (x == ("__debug__" : Str)) = false := by decide) : PE X (.Name x p) (tC (.int i)) := h.elim fun t e => pe_glob hg e ⟨t, rfl⟩ hd
theorem pe_cS {X : Cx} {x z : Str} {p : Pos} (h : ∃ t, X.mg x = some (.str z t)) (hg : Gl X x := by rfl) (hd : (x == ("__debug__" : Str)) = false := by decide) : PE X (.Name x p) (tC (.str z)) := h.elim fun t e => pe_glob hg e ⟨t, rfl⟩ hd
/-- what the top leaves -/
structure Kd (P : Program) (w : World) (K : PySem.W.Frag) (mg : Str → Option Value) (base : Heap) : Prop extends Bt K mg where
  n_isinstance : mg "isinstance" = none
  n_str : mg "str" = none
  n_bool : mg "bool" = none
  n_tuple : mg "tuple" = none
  c_MOST_SIGNS : ∃ t, mg "MOST_SIGNS" = some (.int 200 t)
  c_MOST_DESK : ∃ t, mg "MOST_DESK" = some (.int 30 t)
  c_FULL : ∃ t, mg "FULL" = some (.str "full" t)
  c_FAR : ∃ t, mg "FAR" = some (.str "far" t)
  c_NONE : ∃ t, mg "NONE" = some (.str "none" t)
  c_SAME : ∃ t, mg "SAME" = some (.str "same" t)
abbrev s_is_whole : Stmt := top 8
abbrev s_is_string : Stmt := top 10
abbrev s_is_row : Stmt := top 11
abbrev s_is_desk_row : Stmt := top 165
theorem sc_is_whole : FnScope ["value"] ["value"] (defScope s_is_whole) := ⟨rfl, rfl, rfl, by decide +kernel, rfl, by decide +kernel, by decide +kernel⟩
theorem sc_is_string : FnScope ["value"] ["value"] (defScope s_is_string) := ⟨rfl, rfl, rfl, by decide +kernel, rfl, by decide +kernel, by decide +kernel⟩
theorem sc_is_row : FnScope ["value", "least", "most"] ["value", "least", "most"] (defScope s_is_row) := ⟨rfl, rfl, rfl, by decide +kernel, rfl, by decide +kernel, by decide +kernel⟩
theorem sc_is_desk_row : FnScope ["value"] ["value"] (defScope s_is_desk_row) := ⟨rfl, rfl, rfl, by decide +kernel, rfl, by decide +kernel, by decide +kernel⟩
def spWhole (K : PySem.W.Frag) : Sp := fun vs H Q _ => ∃ (x : V) (t : String), vs = [x] ∧ Ty K H x t ∧ Q (.bl (decide (t = "int"))) H
def spString (K : PySem.W.Frag) : Sp := fun vs H Q _ => ∃ (x : V) (t : String), vs = [x] ∧ Ty K H x t ∧ Q (.bl (decide (t = "str"))) H
section
variable {P : Program} {w : World} {K : PySem.W.Frag} {mg : Str → Option Value} {base : Heap}
theorem df_is_whole (T : Kd P w K mg base) (A : At K mg "is_whole" s_is_whole) : Df P w K mg base CX0 1 "is_whole" ["value"] (spWhole K) := by
  refine df_of A sc_is_whole (fun _ _ _ _ _ _ us hl => match us, hl with | [_], _ => rfl) (fun vs H Q E h => by obtain ⟨x, t, rfl, _⟩ := h; rfl) (fun f cdv A outer s H vs Q E hrs h => ?_)
  refine ⟨_, (pss_one (ps_ret (pe_and (pe_callB call_isi (by rfl) T.n_isinstance (by decide +kernel) (pa_cons (pv 0) (pa_cons (pe_bltn (v := .ty "int") (by rfl) T.n_int (by decide +kernel) rfl) pa_nil))) (pe_one (pe_not (pe_callB call_isi (by rfl) T.n_isinstance (by decide +kernel) (pa_cons (pv 0) (pa_cons (pe_bltn (v := .ty "bool") (by rfl) T.n_bool (by decide +kernel) rfl) pa_nil)))))))), ?_⟩
  obtain ⟨x, t, rfl, ⟨hx, ht⟩, q⟩ := h
  refine w_ret (w_andV ?_)
  walk_at "w"
  refine w_isi hx (kit_int t ht) (w_blV ?_)
  refine w_dec (fun c => ?_) (fun c => ?_)
  · walk_at "w"
    refine w_isi hx (kit_bool t ht) (w_blV ?_)
    have e : (!decide (t = "bool")) = decide (t = "int") := by
      rcases c with rfl | rfl <;> decide
    rw [e]
    exact q
  · have e : decide (t = "int") = false := decide_eq_false fun z => c (.inl z)
    rw [e] at q
    exact q
theorem df_is_string (T : Kd P w K mg base) (A : At K mg "is_string" s_is_string) : Df P w K mg base CX0 1 "is_string" ["value"] (spString K) := by
  refine df_of A sc_is_string (fun _ _ _ _ _ _ us hl => match us, hl with | [_], _ => rfl) (fun vs H Q E h => by obtain ⟨x, t, rfl, _⟩ := h; rfl) (fun f cdv A outer s H vs Q E hrs h => ?_)
  refine ⟨_, (pss_one (ps_ret (pe_callB call_isi (by rfl) T.n_isinstance (by decide +kernel) (pa_cons (pv 0) (pa_cons (pe_bltn (v := .ty "str") (by rfl) T.n_str (by decide +kernel) rfl) pa_nil))))), ?_⟩
  obtain ⟨x, t, rfl, ⟨hx, ht⟩, q⟩ := h
  walk_at "w"
  exact w_isi hx (kit_str t ht) q
/-! is_row(value, least, most) -/
def spIsRow (K : PySem.W.Frag) : Sp := fun vs H Q _ => ∃ (x : V) (t : String) (lo hi : Int), vs = [x, .int lo, .int hi] ∧ Ty K H x t ∧ (t = "tuple" → ∃ p xs, x = .ref p ∧ SqT K H p xs ∧ Q (.bl (decide (lo ≤ (xs.length : Int)) && decide ((xs.length : Int) ≤ hi))) H) ∧ (t ≠ "tuple" → Q (.bl false) H)
theorem df_is_row (T : Kd P w K mg base) (A : At K mg "is_row" s_is_row) : Df P w K mg base CX0 1 "is_row" ["value", "least", "most"] (spIsRow K) := by
  refine df_of A sc_is_row (fun _ _ _ _ _ _ us hl => match us, hl with | [_, _, _], _ => rfl) (fun vs H Q E h => by obtain ⟨x, t, lo, hi, rfl, _⟩ := h; rfl) (fun f cdv A outer s H vs Q E hrs h => ?_)
  refine ⟨_, (pss_one (ps_ret (pe_and (pe_callB call_isi (by rfl) T.n_isinstance (by decide +kernel) (pa_cons (pv 0) (pa_cons (pe_bltn (v := .ty "tuple") (by rfl) T.n_tuple (by decide +kernel) rfl) pa_nil))) (pe_one (pe_chain op_le op_le (pv 1) (pe_callB c_lenS (by rfl) T.n_len PySem.boot_len (pa_cons (pv 0) pa_nil)) (pv 2)))))), ?_⟩
  obtain ⟨x, t, lo, hi, rfl, ⟨hx, ht⟩, q1, q2⟩ := h
  refine w_ret (w_andV ?_)
  walk_at "w"
  refine w_isi hx (kit_tuple t ht) (w_blV ?_)
  refine w_dec (fun c => ?_) (fun c => ?_)
  · obtain ⟨p, xs, rfl, hp, q⟩ := q1 c
    refine w_var (by rfl) ?_
    walk_at "w"
    refine w_lenT hp ?_
    walk_at "w"
    refine w_dec (fun c => ?_) (fun c => ?_)
    · walk_at "w"
      rw [decide_eq_true c, Bool.true_and] at q
      exact q
    · rw [decide_eq_false c, Bool.false_and] at q
      exact q
  · exact q2 c
/-! is_desk_row(value) -/
def spDeskRow (K : PySem.W.Frag) : Sp := fun vs H Q _ => ∃ (x : V) (t : String), vs = [x] ∧ Ty K H x t ∧ (t = "str" → ∃ z, x = .str z ∧ z.length ≤ sizeLine) ∧ (t ≠ "str" → isRow x = false) ∧ Q (.bl (isRow x)) H
theorem df_is_desk_row (T : Kd P w K mg base) (A : At K mg "is_desk_row" s_is_desk_row) (D_is_string : Df P w K mg base CX0 1 "is_string" ["value"] (spString K)) : Df P w K mg base CX0 2 "is_desk_row" ["value"] (spDeskRow K) := by
  refine df_of A sc_is_desk_row (fun _ _ _ _ _ _ us hl => match us, hl with | [_], _ => rfl) (fun vs H Q E h => by obtain ⟨x, t, rfl, _⟩ := h; rfl) (fun f cdv A outer s H vs Q E hrs h => ?_)
  refine ⟨_, (pss_one (ps_ret (pe_and (pe_df D_is_string (hrs.mono (by decide)) (pa_cons (pv 0) pa_nil)) (pe_and (pe_cmpR op_le (pe_callB call_len_str (by rfl) T.n_len PySem.boot_len (pa_cons (pv 0) pa_nil)) (pe_cI T.c_MOST_SIGNS) (nomark _)) (pe_one (pe_cmpR op_notIn_sign pe_str (pv 0) (by rfl))))))), ?_⟩
  obtain ⟨x, t, rfl, hx, h1, h2, q⟩ := h
  refine w_ret (w_andV ?_)
  walk_at "w"
  refine ⟨x, t, rfl, hx, w_blV ?_⟩
  refine w_dec (fun c => ?_) (fun c => ?_)
  · obtain ⟨z, rfl, hz⟩ := h1 c
    refine w_andV ?_
    walk_at "w"
    refine ⟨z, rfl, hz, ?_⟩
    walk_at "w"
    have e : isRow (.str z) = (decide (z.length ≤ 200) && !decide (10 ∈ z.cps.toList)) := rfl
    rw [e] at q
    refine w_dec (fun c => ?_) (fun c => ?_)
    · walk_at "w"
      have c' : z.length ≤ 200 := by omega
      rw [decide_eq_true c', Bool.true_and] at q
      exact ⟨10, z, rfl, rfl, q⟩
    · have c' : ¬ z.length ≤ 200 := by omega
      rw [decide_eq_false c', Bool.false_and] at q
      exact q
  · rw [h2 c] at q
    exact q
end
end K11

set_option Elab.async false
set_option linter.all false
set_option maxRecDepth 100000
set_option maxHeartbeats 4000000
namespace K11
open PySem PySem.Spec PyProof.Rows L2 LamX EqX
/-! the words' steps, one after another -/
local macro_rules | `(tactic| walk_at "w") => `(tactic| (repeat (first
  | with_reducible refine w_seq ?_ | with_reducible refine w_asg ?_ | with_reducible refine w_ret ?_ | with_reducible exact w_retN ?_ | with_reducible refine w_drop ?_ | with_reducible refine w_ifs ?_ | with_reducible refine w_next ?_
  | with_reducible refine w_name ?_ | with_reducible refine w_gsub ?_ | ((with_reducible refine' w_var ?hx ?_); (case hx => exact rfl)) | with_reducible refine w_c ?_ | with_reducible refine w_op ?_ | with_reducible refine w_un ?_ | with_reducible refine w_cb ?_ | with_reducible refine w_call ?_
  | with_reducible refine w_nil ?_ | with_reducible refine w_cons ?_ | with_reducible refine w_test ?_ | with_reducible refine w_b ?_ | with_reducible refine w_bl ?_ | with_reducible refine w_not ?_ | with_reducible refine w_and ?_ | with_reducible refine w_or ?_
  | with_reducible refine w_notV ?_ | with_reducible refine w_blV ?_ | with_reducible refine w_I0 ?_ | ((with_reducible refine w_mulL ?_ ?_); · omega) | ((with_reducible refine w_mulR ?_ ?_); · omega) | ((with_reducible refine w_pow ?_ ?_); · decide)
  | with_reducible refine w_neg ?_ | ((with_reducible refine w_eq ?_ ?_); · exact rfl) | ((with_reducible refine w_ne ?_ ?_); · exact rfl) | with_reducible refine w_int1 ?_ | with_reducible refine w_abs ?_ | with_reducible refine w_max2 ?_ | with_reducible refine w_min2 ?_
  | with_reducible refine w_gcons ?_ | with_reducible refine w_gnil ?_ | with_reducible refine w_tup ?_ | with_reducible refine w_lst ?_ | with_reducible refine w_sl ?_ | with_reducible refine w_no ?_ | with_reducible refine w_part ?_ | with_reducible refine w_partI ?_ | with_reducible refine ⟨_, (rfl : V.int _ = V.int _), ?_⟩
  | with_reducible refine w_for ?_ | with_reducible refine w_iL ?_ | with_reducible refine w_iT ?_ | with_reducible refine w_iR ?_ | with_reducible refine w_yes ?_ | with_reducible refine w_setLc ?_ | with_reducible refine w_isB ?_)))

abbrev s_first_wrong : Stmt := top 12
abbrev s_check_rows : Stmt := top 166
theorem sc_first_wrong : FnScope ["value", "is_right", "index", "each"] ["value", "is_right"] (defScope s_first_wrong) := ⟨rfl, rfl, rfl, by decide +kernel, rfl, by decide +kernel, by decide +kernel⟩
theorem sc_check_rows : FnScope ["value", "wrong"] ["value"] (defScope s_check_rows) := ⟨rfl, rfl, rfl, by decide +kernel, rfl, by decide +kernel, by decide +kernel⟩
/-- the lambda in check_rows -/
def lamOf : Stmt → Arguments × Expr × Scope
  | .Assign _ (.Call _ [_, .Lambda p b s _] _ _) _ => (p, b, s)
  | _ => ({ posonlyargs := [], args := [], vararg := none, kwonlyargs := [], kw_defaults := [], kwarg := none, defaults := [] }, .Constant .none 0 ⟨0, 0, 0, 0⟩, { kind := .function, names := [], isGenerator := false, isCoroutine := false })
abbrev lamP : Arguments := (lamOf ((defBody s_check_rows).getD 1 (.Pass ⟨0, 0, 0, 0⟩))).1
abbrev lamB : Expr := (lamOf ((defBody s_check_rows).getD 1 (.Pass ⟨0, 0, 0, 0⟩))).2.1
abbrev lamS : Scope := (lamOf ((defBody s_check_rows).getD 1 (.Pass ⟨0, 0, 0, 0⟩))).2.2
theorem sc_lam : FnScope ["row", "ahead"] ["row", "ahead"] lamS := ⟨rfl, rfl, rfl, by decide +kernel, rfl, by decide +kernel, by decide +kernel⟩
abbrev lamQ : Str := "check_rows.<locals>.<lambda>"
/-- what first_wrong asks of the items, what it answers -/
def Item (K : PySem.W.Frag) (H : Hp) (x : V) : Prop := ∃ t, Ty K H x t ∧ (t = "str" → ∃ z, x = .str z ∧ z.length ≤ sizeLine) ∧ (t ≠ "str" → isRow x = false)
def wrongAt (xs : List V) : V := match xs.findIdx? (fun x => !isRow x) with
  | some i => .int i
  | none => .non
def spLam (K : PySem.W.Frag) : Sp := fun vs H Q _ => ∃ x y : V, vs = [x, y] ∧ Item K H x ∧ Q (.bl (isRow x)) H
theorem ty_same {K : PySem.W.Frag} {H H' : Hp} {x : V} {t : String} (s : Same H H') (h : Ty K H x t) : Ty K H' x t := by
  refine ⟨?_, h.2⟩
  obtain ⟨h, _⟩ := h
  cases h with
  | base b =>
    refine .base ?_
    cases b with
    | non => exact .non
    | bl y => exact .bl y
    | int i => exact .int i
    | str y => exact .str y
    | flt y => exact .flt y
    | lst e => exact .lst (s _ _ e)
    | frz e => exact .frz (s _ _ e)
    | tup e => exact .tup (s _ _ e)
    | dK e => exact .dK (s _ _ e)
    | dT e => exact .dT (s _ _ e)
  | byt b => exact .byt b
  | set e => exact .set (s _ _ e)
  | kList e c => exact .kList e c
  | kTuple e c => exact .kTuple e c
  | kDict e c => exact .kDict e c
  | fTuple e => exact .fTuple (s _ _ e)
  | fDict e => exact .fDict (s _ _ e)
theorem item_same {K : PySem.W.Frag} {H H' : Hp} {x : V} (s : Same H H') (h : Item K H x) : Item K H' x := let ⟨t, a, b⟩ := h; ⟨t, ty_same s a, b⟩
/-- first_wrong(value, ..) over such items -/
def spFirst (K : PySem.W.Frag) (f c' : Addr) (v : V) (H : Hp) (Q : VK) : Prop := H c' = some (CodeO c' lamQ) ∧ ∃ (p : Addr) (xs : List V), v = .ref p ∧ SqT K H p xs ∧ (∀ x ∈ xs, Item K H x) ∧ ∀ H', Same H H' → Q (wrongAt xs) H'
theorem rd_same {H H' : Hp} {a : Addr} {o : HO} (s : Same H H') (h : Rd H a o) : Rd H' a o := h.imp (s _ _) fun ⟨ob, e⟩ => ⟨ob, s _ _ e⟩
theorem sqT_same {K : PySem.W.Frag} {H H' : Hp} {a : Addr} {xs : List V} (s : Same H H') (h : SqT K H a xs) : SqT K H' a xs := h.imp (rd_same s) id
theorem same_new {H : Hp} {p : Addr} {o : HO} (hp : H p = none) : Same H (upd H p o) := EqX.same_new hp
theorem body_first {P : Program} {w : World} {K : PySem.W.Frag} {mg : Str → Option Value} {base : Heap} {g f c' : Addr} {cdv pm ctv : Value} {A : Around} {outer : List Env} {s : Shared} {H : Hp} {v : V} {Q : VK} {k : Nat} (n_enumerate : mg "enumerate" = none)
    (hf : s.heap.get? f = some (PySem.W.kla_obj "<lambda>" lamQ lamP lamB lamS [] pm c' ctv)) (hfn : H f = none) (hfr : f ∉ frs outer) (hrs : Room (k + 1) (A.deeper (envOfC "first_wrong" (defScope s_first_wrong) s.heap.objs.size g cdv)))
    (do_ : LamDo P w K mg base k f c' lamQ lamB lamS ["row", "ahead"] (spLam K)) (h : spFirst K f c' v H Q) :
    ∃ t, PSs (cxOf CX0 P w K mg base ["value", "is_right", "index", "each"] "first_wrong" (defScope s_first_wrong) g cdv A outer s H E0) (defBody s_first_wrong) t ∧ t { nx := fun _ H' => Q .non H', rt := Q } (L2.start ["value", "is_right", "index", "each"] [v, .ref f]) H := by
  have len : ∀ vs H Q E, spLam K vs H Q E → vs.length = (["row", "ahead"] : List Str).length := fun vs H Q E h => by
    obtain ⟨x, y, rfl, _⟩ := h
    rfl
  have hb : ∀ us : List Value, us.length = (["row", "ahead"] : List Str).length → bindArgs (PySem.W.kla_fn "<lambda>" lamQ lamP lamB lamS [] pm (.ref c') ctv) ⟨us, []⟩ = pure ((["row", "ahead"] : List Str).zip us) := fun us hl => match us, hl with
    | [_, _], _ => rfl
  refine ⟨_, PSs.nox (pss_cons (ps_for PassesOwn.never rfl (pi_enumT (by rfl) n_enumerate (pa_cons (pv 0) pa_nil)) (pg_tup rfl (pgs_cons (pg_name (i := 2) sc_first_wrong.nd rfl (Or.inl rfl)) (pgs_cons (pg_name (i := 3) sc_first_wrong.nd rfl (Or.inl rfl)) pgs_nil))) (pss_one (ps_if (pt_not (pt_val (pe_lamf (i := 1) rfl (.inl rfl) rfl hf hfn hfr sc_lam hrs len hb do_ (pa_cons (pv 3) (pa_cons (pe_slice sl_tupA (pv 0) po_none (po_some (pv 2))) pa_nil))))) (pss_one (ps_ret (pv 2))) pss_nil)))
      (pss_one (ps_ret pe_non))), ?_⟩
  obtain ⟨hc, p, xs, rfl, hp, hi, q⟩ := h
  have σe : L2.start ["value", "is_right", "index", "each"] [.ref p, .ref f] = [some (.ref p), some (.ref f), none, none] := rfl
  rw [σe]
  refine w_seq (w_for (w_cons (w_var (by rfl) (w_nil ⟨p, xs, rfl, hp, ?_⟩))))
  refine for_enumT (fun i σ' H' => Same H H' ∧ (∀ j x, j < i → xs[j]? = some x → isRow x = true) ∧ ∃ o2 o3, σ' = [some (.ref p), some (.ref f), o2, o3]) ⟨Same.refl _, fun j x hj => absurd hj (Nat.not_lt_zero _), none, none, rfl⟩ (fun _ _ _ _ h => sqT_same h.1 hp) (fun i x T σ' H' hx hT h => ?_) (fun σ' H' h => ?_)
  · obtain ⟨sm, old, o2, o3, rfl⟩ := h
    have s1 := same_new (o := .tup [.int (i : Nat), x]) hT
    have S1 := sm.trans s1
    have hm := List.mem_of_getElem? hx
    refine w_untup (SqT.of upd_same) (by rfl) (w_gcons (w_name (w_gcons (w_name (w_gnil ?_)))))
    refine w_ifs (w_not (w_b ⟨by rfl, w_cons (w_var (by rfl) (w_cons ?_))⟩))
    have fin : ∀ y H2, Same (upd H' T (.tup [.int (i : Nat), x])) H2 → H2 c' = some (CodeO c' lamQ) ∧ spLam K [x, y] H2 (fun v H1 => ∃ k_1, v = V.bl k_1 ∧ if (!k_1) = true then tRet (tVar 2) { nx := fun σ' H' => Same H H' ∧ (∀ j x, j < i + 1 → xs[j]? = some x → isRow x = true) ∧ ∃ o2 o3, σ' = [some (.ref p), some (.ref f), o2, o3], ct := fun σ' H' => Same H H' ∧ (∀ j x, j < i + 1 → xs[j]? = some x → isRow x = true) ∧ ∃ o2 o3, σ' = [some (.ref p), some (.ref f), o2, o3], bk := fun σ' H' => tRet (tC V.non) { nx := fun _ H' => Q .non H', rt := Q } σ' H', rt := Q } [some (.ref p), some (.ref f), some (.int (i : Nat)), some x] H1
        else Same H H1 ∧ (∀ j x, j < i + 1 → xs[j]? = some x → isRow x = true) ∧ ∃ o2 o3, [some (V.ref p), some (.ref f), some (.int (i : Nat)), some x] = [some (.ref p), some (.ref f), o2, o3]) E0 := by
      intro y H2 s2
      have S2 := S1.trans s2
      refine ⟨S2 _ _ hc, x, y, rfl, item_same S2 (hi x hm), _, rfl, ?_⟩
      cases e : isRow x with
      | true =>
        refine w_false ⟨S2, fun j z hj hz => ?_, _, _, rfl⟩
        by_cases h : j = i
        · rw [h, hx] at hz
          cases hz
          exact e
        · exact old j z (by omega) hz
      | false =>
        refine w_true (w_ret (w_var (by rfl) ?_))
        have ew : wrongAt xs = .int (i : Nat) := by
          have z : xs.findIdx? (fun x => !isRow x) = some i := by
            obtain ⟨hl, hxi⟩ := List.getElem?_eq_some_iff.mp hx
            rw [List.findIdx?_eq_some_iff_getElem]
            refine ⟨hl, by rw [hxi, e]; rfl, fun j hj => ?_⟩
            have hjl : j < xs.length := by omega
            rw [old j xs[j] hj (List.getElem?_eq_getElem hjl)]
            decide
          unfold wrongAt
          rw [z]
        rw [← ew]
        exact q _ S2
    refine w_sl (w_var (by rfl) (w_no (w_part (w_var (by rfl) ⟨_, rfl, ?_⟩))))
    refine ⟨p, xs, rfl, sqT_same S1 hp, ?_, ?_⟩
    · intro _
      exact w_nil (fin _ _ (Same.refl _))
    · intro _ r hr
      exact w_nil (fin _ _ (same_new hr))
  · obtain ⟨sm, old, o2, o3, rfl⟩ := h
    have ew : wrongAt xs = .non := by
      have z : xs.findIdx? (fun x => !isRow x) = none := by
        rw [List.findIdx?_eq_none_iff]
        intro x hx
        obtain ⟨j, hj, rfl⟩ := List.getElem_of_mem hx
        rw [old j xs[j] hj (List.getElem?_eq_getElem hj)]
        rfl
      unfold wrongAt
      rw [z]
    dsimp only
    refine w_ret (w_c ?_)
    rw [← ew]
    exact q _ sm
/-! check_rows(value) -/
section
variable {P : Program} {w : World} {K : PySem.W.Frag} {mg : Str → Option Value} {base : Heap}
theorem lam_do {k : Nat} {f c' : Addr} (D_is_desk_row : Df P w K mg base CX0 2 "is_desk_row" ["value"] (spDeskRow K)) (hk : 2 ≤ k := by decide) : LamDo P w K mg base k f c' lamQ lamB lamS ["row", "ahead"] (spLam K) := by
  intro A outer s H vs Q hr h
  obtain ⟨x, y, rfl, ⟨t, ht, h1, h2⟩, q⟩ := h
  refine ⟨_, pe_df D_is_desk_row (hr.mono hk) (pa_cons (pv 0) pa_nil), ?_⟩
  exact w_call (w_cons (w_var (by rfl) (w_nil ⟨x, t, rfl, ht, h1, h2, q⟩)))
end
end K11

set_option Elab.async false
set_option linter.all false
set_option maxRecDepth 100000
set_option maxHeartbeats 4000000
namespace K11
open PySem PySem.Spec PyProof.Rows L2 LamX EqX
/-! the words' steps, one after another -/
local macro_rules | `(tactic| walk_at "w") => `(tactic| (repeat (first
  | with_reducible refine w_seq ?_ | with_reducible refine w_asg ?_ | with_reducible refine w_ret ?_ | with_reducible exact w_retN ?_ | with_reducible refine w_drop ?_ | with_reducible refine w_ifs ?_ | with_reducible refine w_next ?_
  | with_reducible refine w_name ?_ | with_reducible refine w_gsub ?_ | ((with_reducible refine' w_var ?hx ?_); (case hx => exact rfl)) | with_reducible refine w_c ?_ | with_reducible refine w_op ?_ | with_reducible refine w_un ?_ | with_reducible refine w_cb ?_ | with_reducible refine w_call ?_
  | with_reducible refine w_nil ?_ | with_reducible refine w_cons ?_ | with_reducible refine w_test ?_ | with_reducible refine w_b ?_ | with_reducible refine w_bl ?_ | with_reducible refine w_not ?_ | with_reducible refine w_and ?_ | with_reducible refine w_or ?_
  | with_reducible refine w_notV ?_ | with_reducible refine w_blV ?_ | with_reducible refine w_I0 ?_ | ((with_reducible refine w_mulL ?_ ?_); · omega) | ((with_reducible refine w_mulR ?_ ?_); · omega) | ((with_reducible refine w_pow ?_ ?_); · decide)
  | with_reducible refine w_neg ?_ | ((with_reducible refine w_eq ?_ ?_); · exact rfl) | ((with_reducible refine w_ne ?_ ?_); · exact rfl) | with_reducible refine w_int1 ?_ | with_reducible refine w_abs ?_ | with_reducible refine w_max2 ?_ | with_reducible refine w_min2 ?_
  | with_reducible refine w_gcons ?_ | with_reducible refine w_gnil ?_ | with_reducible refine w_tup ?_ | with_reducible refine w_lst ?_ | with_reducible refine w_sl ?_ | with_reducible refine w_no ?_ | with_reducible refine w_part ?_ | with_reducible refine w_partI ?_ | with_reducible refine ⟨_, (rfl : V.int _ = V.int _), ?_⟩
  | with_reducible refine w_for ?_ | with_reducible refine w_iL ?_ | with_reducible refine w_iT ?_ | with_reducible refine w_iR ?_ | with_reducible refine w_yes ?_ | with_reducible refine w_setLc ?_ | with_reducible refine w_isB ?_)))

/-- what stays while a lambda is made: all but the tables -/
def Kept (TT : List (Addr × Str)) (H H' : Hp) : Prop := ExtN H H' ∧ Tabs TT H'
/-- the rows' fault, as check_rows tells it -/
def rowsFault (x : V) (xs : List V) : Option V := if xs.length ≤ 30 then (match xs.findIdx? (fun x => !isRow x) with
  | some i => some (.int (i : Nat))
  | none => none) else some .non
def spCheck (K : PySem.W.Frag) (TT : List (Addr × Str)) : Sp := fun vs H Q E => ∃ (x : V) (t : String), vs = [x] ∧ Ty K H x t ∧ Tabs TT H ∧
  (t ≠ "tuple" → ∀ d H', Kept TT H H' → H' d = some (.xd [("index", .non)]) → E (.ref (He.ga K "InvalidRows")) (some d) H') ∧
  (t = "tuple" → ∃ p xs, x = .ref p ∧ SqT K H p xs ∧ (∀ y ∈ xs, Item K H y) ∧ (∀ v, rowsFault x xs = some v → ∀ d H', Kept TT H H' → H' d = some (.xd [("index", v)]) → E (.ref (He.ga K "InvalidRows")) (some d) H') ∧
    (rowsFault x xs = none → ∀ H', Kept TT H H' → Q .non H'))
theorem tab_ne {o : HO} (h : ∀ ps, o ≠ .tbl ps) : ∀ ps, o ≠ .tbl ps := h
theorem rd_ext {H H' : Hp} {a : Addr} {o : HO} (e : ExtN H H') (n : ∀ ps, o ≠ .tbl ps) (h : Rd H a o) : Rd H' a o := h.imp (fun z => e _ _ z n) fun ⟨ob, z⟩ => ⟨ob, e _ _ z (fun ps q => nomatch q)⟩
theorem sqT_ext {K : PySem.W.Frag} {H H' : Hp} {a : Addr} {xs : List V} (e : ExtN H H') (h : SqT K H a xs) : SqT K H' a xs := h.imp (rd_ext e fun ps q => nomatch q) id
theorem sqL_ext {K : PySem.W.Frag} {H H' : Hp} {a : Addr} {xs : List V} (e : ExtN H H') (h : SqL K H a xs) : SqL K H' a xs := h.imp (rd_ext e fun ps q => nomatch q) id
theorem ty_ext {K : PySem.W.Frag} {H H' : Hp} {x : V} {t : String} (s : ExtN H H') (h : Ty K H x t) : Ty K H' x t := by
  refine ⟨?_, h.2⟩
  obtain ⟨h, _⟩ := h
  have n : ∀ {o : HO}, (∀ ps, o ≠ .tbl ps) → ∀ ps, o ≠ .tbl ps := fun h => h
  cases h with
  | base b =>
    refine .base ?_
    cases b with
    | non => exact .non
    | bl y => exact .bl y
    | int i => exact .int i
    | str y => exact .str y
    | flt y => exact .flt y
    | lst e => exact .lst (s _ _ e fun ps q => nomatch q)
    | frz e => exact .frz (s _ _ e fun ps q => nomatch q)
    | tup e => exact .tup (s _ _ e fun ps q => nomatch q)
    | dK e => exact .dK (s _ _ e fun ps q => nomatch q)
    | dT e => exact .dT (s _ _ e fun ps q => nomatch q)
  | byt b => exact .byt b
  | set e => exact .set (s _ _ e fun ps q => nomatch q)
  | kList e c => exact .kList e c
  | kTuple e c => exact .kTuple e c
  | kDict e c => exact .kDict e c
  | fTuple e => exact .fTuple (s _ _ e fun ps q => nomatch q)
  | fDict e => exact .fDict (s _ _ e fun ps q => nomatch q)
theorem item_ext {K : PySem.W.Frag} {H H' : Hp} {x : V} (s : ExtN H H') (h : Item K H x) : Item K H' x := let ⟨t, a, b⟩ := h; ⟨t, ty_ext s a, b⟩
theorem Kept.same {TT : List (Addr × Str)} {H H1 H2 : Hp} (k : Kept TT H H1) (s : Same H1 H2) : Kept TT H H2 := ⟨k.1.trans (ExtN.of s), k.2.ext s⟩
theorem Kept.refl {TT : List (Addr × Str)} {H : Hp} (t : Tabs TT H) : Kept TT H H := ⟨ExtN.refl H, t⟩
theorem w_give {T : List (Addr × Str)} {q : Str} {sp : Addr → Addr → V → Hp → VK → Prop} {te : TE} {σ : L2.St} {H : Hp} {Q : VK} (h : te σ H fun v H1 => Tabs T H1 ∧ ∀ f c' H2, ExtN H1 H2 → Tabs T H2 → H2 c' = some (CodeO c' q) → sp f c' v H2 Q) : tGive T q sp te σ H Q := h
section
variable {P : Program} {w : World} {K : PySem.W.Frag} {mg : Str → Option Value} {base : Heap} {TT : List (Addr × Str)} {c PT : Addr}
theorem df_check_rows (T : Kd P w K mg base) (o_InvalidRows : Own1 P w K mg base "InvalidRows" "index") (n_enumerate : mg "enumerate" = none) (A : AtC K mg "check_rows" s_check_rows c) (A_first : At K mg "first_wrong" s_first_wrong)
    (TB : TabB base mg c PT) (hmT : (PT, lamQ) ∈ TT) (hu : ∀ p ∈ TT, p.1 = PT → p.2 = lamQ)
    (D_is_row : Df P w K mg base CX0 1 "is_row" ["value", "least", "most"] (spIsRow K)) (D_is_desk_row : Df P w K mg base CX0 2 "is_desk_row" ["value"] (spDeskRow K)) :
    Df P w K mg base (L2.CX P w) 6 "check_rows" ["value"] (spCheck K TT) := by
  refine dfC_of A sc_check_rows (fun _ _ _ _ _ _ us hl => match us, hl with | [_], _ => rfl) (fun vs H Q E h => by obtain ⟨x, t, rfl, _⟩ := h; rfl) (fun A outer s H vs Q E hrs h => ?_)
  have tk := takes_of (X := cxOf (L2.CX P w) P w K mg base ["value", "wrong"] "check_rows" (defScope s_check_rows) (He.ga K "check_rows") (.ref c) A outer s H E) (E := E) rfl rfl rfl rfl
  refine ⟨_, (pss_cons (ps_if (pt_not (pt_val (pe_df D_is_row (hrs.mono (by decide)) (pa_cons (pv 0) (pa_cons pe_int (pa_cons (pe_cI T.c_MOST_DESK) pa_nil)))))) (pss_one (ro_own1 (k := 0) tk o_InvalidRows (hrs.mono (by decide)) (pa_cons pe_non pa_nil))) pss_nil)
      (pss_cons (ps_set (i := 1) sc_check_rows.nd rfl (Or.inl rfl) (pe_giveF (T := TT) A_first rfl (fun _ _ _ _ _ us hl _ => match us, hl with | [_, _], _ => rfl) sc_first_wrong TB rfl hmT hu (k := 4) (hrs.mono (by decide)) (by decide +kernel) rfl (fun cdv f c' pm ctv s H v Q hf hfn hfr hr hq => body_first (k := 3) n_enumerate hf hfn hfr hr (lam_do (k := 3) D_is_desk_row) hq) (pv 0)))
      (pss_one (ps_if (pt_cmpR op_notN (pv 1) pe_non (nomark _)) (pss_one (ro_own1 (k := 0) tk o_InvalidRows (hrs.mono (by decide)) (pa_cons (pv 1) pa_nil))) pss_nil)))), ?_⟩
  obtain ⟨x, t, rfl, hx, hT, q1, q2⟩ := h
  have σe : L2.start ["value", "wrong"] [x] = [some x, none] := rfl
  rw [σe]
  refine w_seq (w_ifs (w_not (w_b (w_call (w_cons (w_var (by rfl) (w_cons (w_c (w_cons (w_c (w_nil ?_)))))))))))
  refine ⟨x, t, 0, 30, rfl, hx, fun e => ?_, fun ne => ?_⟩
  · obtain ⟨p, xs, rfl, hp, hi, q3, q4⟩ := q2 e
    refine ⟨p, xs, rfl, hp, w_blV ?_⟩
    have e0 : decide ((0 : Int) ≤ (xs.length : Int)) = true := decide_eq_true (by omega)
    rw [e0, Bool.true_and]
    by_cases hl : xs.length ≤ 30
    · rw [decide_eq_true (p := (xs.length : Int) ≤ 30) (by omega)]
      refine w_false (w_next ?_)
      dsimp only
      refine w_seq (w_asg (w_give (w_var (by rfl) ⟨hT, fun f c' H2 eN T2 hc => ?_⟩)))
      refine ⟨hc, p, xs, rfl, sqT_ext eN hp, fun y hy => item_ext eN (hi y hy), fun H3 s3 => ?_⟩
      refine w_name ?_
      dsimp only
      refine w_ifs (w_test (w_op (w_var (by rfl) (w_c ⟨rfl, w_blV ?_⟩))))
      have K3 : Kept TT H H3 := ⟨eN.trans (ExtN.of s3), T2.ext s3⟩
      cases ew : xs.findIdx? (fun x => !isRow x) with
      | none =>
        have e1 : wrongAt xs = .non := by unfold wrongAt; rw [ew]
        rw [e1]
        rw [decide_eq_true (p := V.non = V.non) rfl]
        refine w_false (w_next ?_)
        refine q4 ?_ _ K3
        unfold rowsFault
        rw [if_pos hl, ew]
      | some i =>
        have e1 : wrongAt xs = .int (i : Nat) := by unfold wrongAt; rw [ew]
        rw [e1]
        rw [decide_eq_false (p := V.int (i : Nat) = V.non) (fun z => nomatch z)]
        refine w_true (ra_is (v := .int (i : Nat)) (gva_cons (gv_var (by rfl)) stab_is gva_nil) fun d H4 s4 _ h4 => ?_)
        refine q3 _ ?_ d _ (K3.same s4) h4
        unfold rowsFault
        rw [if_pos hl, ew]
    · rw [decide_eq_false (p := (xs.length : Int) ≤ 30) (by omega)]
      refine w_true (ra_is (v := .non) (gva_cons gv_c stab_is gva_nil) fun d H4 s4 _ h4 => ?_)
      refine q3 _ ?_ d _ ((Kept.refl hT).same s4) h4
      unfold rowsFault
      rw [if_neg hl]
  · refine w_blV ?_
    exact w_true (ra_is (v := .non) (gva_cons gv_c stab_is gva_nil) fun d H4 s4 _ h4 => q1 ne d _ ((Kept.refl hT).same s4) h4)
end
end K11

set_option Elab.async false
set_option linter.all false
set_option maxRecDepth 100000
set_option maxHeartbeats 4000000
namespace K11
open PySem PySem.Spec PyProof.Rows L2 LamX EqX
/-! the words' steps, one after another -/
local macro_rules | `(tactic| walk_at "w") => `(tactic| (repeat (first
  | with_reducible refine w_seq ?_ | with_reducible refine w_asg ?_ | with_reducible refine w_ret ?_ | with_reducible exact w_retN ?_ | with_reducible refine w_drop ?_ | with_reducible refine w_ifs ?_ | with_reducible refine w_next ?_
  | with_reducible refine w_name ?_ | with_reducible refine w_gsub ?_ | ((with_reducible refine' w_var ?hx ?_); (case hx => exact rfl)) | with_reducible refine w_c ?_ | with_reducible refine w_op ?_ | with_reducible refine w_un ?_ | with_reducible refine w_cb ?_ | with_reducible refine w_call ?_
  | with_reducible refine w_nil ?_ | with_reducible refine w_cons ?_ | with_reducible refine w_test ?_ | with_reducible refine w_b ?_ | with_reducible refine w_bl ?_ | with_reducible refine w_not ?_ | with_reducible refine w_and ?_ | with_reducible refine w_or ?_
  | with_reducible refine w_notV ?_ | with_reducible refine w_blV ?_ | with_reducible refine w_I0 ?_ | ((with_reducible refine w_mulL ?_ ?_); · omega) | ((with_reducible refine w_mulR ?_ ?_); · omega) | ((with_reducible refine w_pow ?_ ?_); · decide)
  | with_reducible refine w_neg ?_ | ((with_reducible refine w_eq ?_ ?_); · exact rfl) | ((with_reducible refine w_ne ?_ ?_); · exact rfl) | with_reducible refine w_int1 ?_ | with_reducible refine w_abs ?_ | with_reducible refine w_max2 ?_ | with_reducible refine w_min2 ?_
  | with_reducible refine w_gcons ?_ | with_reducible refine w_gnil ?_ | with_reducible refine w_tup ?_ | with_reducible refine w_lst ?_ | with_reducible refine w_sl ?_ | with_reducible refine w_no ?_ | with_reducible refine w_part ?_ | with_reducible refine w_partI ?_ | with_reducible refine ⟨_, (rfl : V.int _ = V.int _), ?_⟩
  | with_reducible refine w_for ?_ | with_reducible refine w_iL ?_ | with_reducible refine w_iT ?_ | with_reducible refine w_iR ?_ | with_reducible refine w_yes ?_ | with_reducible refine w_setLc ?_ | with_reducible refine w_isB ?_)))

abbrev s_is_number : Stmt := top 9
abbrev s_has_form : Stmt := top 167
abbrev s_check_deed : Stmt := top 168
abbrev s_reason_against : Stmt := top 169
abbrev s_rows_behind : Stmt := top 170
theorem sc_is_number : FnScope ["value", "low", "high"] ["value", "low", "high"] (defScope s_is_number) := ⟨rfl, rfl, rfl, by decide +kernel, rfl, by decide +kernel, by decide +kernel⟩
theorem sc_has_form : FnScope ["value"] ["value"] (defScope s_has_form) := ⟨rfl, rfl, rfl, by decide +kernel, rfl, by decide +kernel, by decide +kernel⟩
theorem sc_check_deed : FnScope ["value"] ["value"] (defScope s_check_deed) := ⟨rfl, rfl, rfl, by decide +kernel, rfl, by decide +kernel, by decide +kernel⟩
theorem sc_reason_against : FnScope ["rows", "deed"] ["rows", "deed"] (defScope s_reason_against) := ⟨rfl, rfl, rfl, by decide +kernel, rfl, by decide +kernel, by decide +kernel⟩
theorem sc_rows_behind : FnScope ["rows", "deed", "behind"] ["rows", "deed"] (defScope s_rows_behind) := ⟨rfl, rfl, rfl, by decide +kernel, rfl, by decide +kernel, by decide +kernel⟩
/-- a deed -/
inductive Dd where
  | put (i : Nat) (s : Str)
  | row (i : Nat) (s : Str)
  | out (i : Nat)
deriving DecidableEq
def Dd.vs : Dd → List V
  | .put i s => [.str "put", .int (i : Int), .str s]
  | .row i s => [.str "row", .int (i : Int), .str s]
  | .out i => [.str "out", .int (i : Int)]
def Dd.ok : Dd → Bool
  | .put _ s => rwB s
  | .row _ s => rwB s
  | .out _ => true
structure SizesK (K : PySem.W.Frag) (w : World) (mg : Str → Option Value) : Prop where
  gm : mg "SIZES" = some (.ref (He.ga K "SIZES"))
  d : ∃ es n, KDict K w (He.ga K "SIZES") es n
  put : ∃ t, PySem.W.nsIn K (He.ga K "SIZES") "put" = some (some (.int 3 t))
  row : ∃ t, PySem.W.nsIn K (He.ga K "SIZES") "row" = some (some (.int 3 t))
  out : ∃ t, PySem.W.nsIn K (He.ga K "SIZES") "out" = some (some (.int 2 t))
def spNumber : Sp := fun vs H Q _ => ∃ n : Int, vs = [.int n, .int 0, .non] ∧ 0 ≤ n ∧ Q (.bl true) H
section
variable {P : Program} {w : World} {K : PySem.W.Frag} {mg : Str → Option Value} {base : Heap}
theorem dv_is_number (A : AtV K mg "is_number" s_is_number [.int 0, .non]) (D_is_whole : Df P w K mg base CX0 1 "is_whole" ["value"] (spWhole K)) : DfV P w K mg base CX0 2 "is_number" ["value", "low", "high"] [.int 0, .non] spNumber := by
  obtain ⟨fd, F⟩ := A.fn
  obtain ⟨ds, rd, b⟩ := F.binds1 (ps := ["value", "low", "high"]) 1 0 (by simp) rfl (fun T kV doc pm an cdv ct us its h1 h2 => match us, its, h1, h2 with | [_], [_, _], _, _ => ⟨_, rfl, rfl⟩)
  refine ⟨⟨fd, ds, F.ok sc_is_number (fun vs H Q E h => by obtain ⟨n, rfl, _⟩ := h; rfl) (fun cdv A outer s H vs Q E hrs h => ?_), b, rd⟩, A.gm, F.kp⟩
  refine ⟨_, (pss_one (ps_ret (pe_and (pe_df D_is_whole (hrs.mono (by decide)) (pa_cons (pv 0) pa_nil)) (pe_and (pe_cmpR op_le (pv 1) (pv 0) (nomark _)) (pe_one (pe_or (pe_cmpR op_isN (pv 2) pe_non (nomark _)) (pe_one (pe_cmpR op_le (pv 0) (pv 2) (nomark _))))))))), ?_⟩
  obtain ⟨n, rfl, n0, q⟩ := h
  refine w_ret (w_andV (w_call (w_cons (w_var (by rfl) (w_nil ⟨.int n, "int", rfl, ⟨.base (.int n), by decide⟩, w_blV (w_true (w_andV (w_op (w_var (by rfl) (w_var (by rfl) (w_I0 (w_blV ?_)))))))⟩)))))
  rw [decide_eq_true n0]
  refine w_true (w_orV (w_op (w_var (by rfl) (w_c ⟨rfl, w_blV ?_⟩))))
  rw [decide_eq_true (p := V.non = V.non) rfl]
  exact w_true q
def spForm (K : PySem.W.Frag) : Sp := fun vs H Q _ => ∃ (a : Addr) (d : Dd), vs = [.ref a] ∧ H a = some (.tup d.vs) ∧ Q (.bl true) H
theorem df_has_form (T : Kd P w K mg base) (Z : SizesK K w mg) (A : At K mg "has_form" s_has_form) (D_is_string : Df P w K mg base CX0 1 "is_string" ["value"] (spString K)) : Df P w K mg base CX0 2 "has_form" ["value"] (spForm K) := by
  obtain ⟨es, n, D_sizes⟩ := Z.d
  refine df_of A sc_has_form (fun _ _ _ _ _ _ us hl => match us, hl with | [_], _ => rfl) (fun vs H Q E h => by obtain ⟨a, d, rfl, _⟩ := h; rfl) (fun f cdv A outer s H vs Q E hrs h => ?_)
  refine ⟨_, (pss_cons (ps_if (PW.pt (pw_or (pt_not (pt_val (pe_callB call_isi (by rfl) T.n_isinstance (by decide +kernel) (pa_cons (pv 0) (pa_cons (pe_bltn (v := .ty "tuple") (by rfl) T.n_tuple (by decide +kernel) rfl) pa_nil))))) (pw_or (pt_cmpR op_eq (pe_callB c_lenS (by rfl) T.n_len PySem.boot_len (pa_cons (pv 0) pa_nil)) pe_int (nomark _)) (pw_or1 (pt_not (pt_val (pe_df D_is_string (hrs.mono (by decide)) (pa_cons (pe_ix ix_tup (pv 0) pe_int (fun _ _ => rfl)) pa_nil)))))))) (pss_one (ps_ret pe_bl)) pss_nil)
      (pss_one (ps_ret (pe_and (pe_cmpR (op_in_kd D_sizes) (pe_ix ix_tup (pv 0) pe_int (fun _ _ => rfl)) (pe_glob (v := .ref (He.ga _ "SIZES")) (by rfl) Z.gm rfl) (by rfl)) (pe_one (pe_cmpR op_eq (pe_callB c_lenS (by rfl) T.n_len PySem.boot_len (pa_cons (pv 0) pa_nil)) (pe_ix ix_kdict (pe_glob (v := .ref (He.ga _ "SIZES")) (by rfl) Z.gm rfl) (pe_ix ix_tup (pv 0) pe_int (fun _ _ => rfl)) (fun _ _ => rfl)) (nomark _))))))), ?_⟩
  obtain ⟨a, d, rfl, ha, q⟩ := h
  have hs : SqT K H a d.vs := SqT.of ha
  have htt : TyX K H (.ref a) (.type "tuple") := .base (.tup ha)
  have σe : L2.start ["value"] [.ref a] = [some (.ref a)] := rfl
  rw [σe]
  refine w_seq (w_ifs (w_or (w_not (w_b (w_cb (w_cons (w_var (by rfl) (w_cons (w_c (w_nil (w_isi htt (kit_tuple "tuple" (by decide)) (w_blV ?_))))))))))))
  rw [decide_eq_true (p := "tuple" = "tuple") rfl]
  refine w_false (w_or (w_test (w_op (w_cb (w_cons (w_var (by rfl) (w_nil (w_lenT hs (w_c (w_eq rfl (w_blV ?_)))))))))))
  cases d with
  | put i z =>
    refine w_false (w_not (w_b (w_call (w_cons (w_op (w_var (by rfl) (w_c (w_ixT (v := .str "put") hs rfl (w_nil ⟨.str "put", "str", rfl, ⟨.base (.str _), by decide⟩, w_blV ?_⟩)))))))))
    rw [decide_eq_true (p := "str" = "str") rfl]
    refine w_false (w_next ?_)
    dsimp only
    refine w_ret (w_andV (w_op (w_op (w_var (by rfl) (w_c (w_ixT (v := .str "put") hs rfl (w_c ?_)))))))
    obtain ⟨t, e⟩ := Z.put
    refine ⟨"put", _, rfl, rfl, e, w_blV ?_⟩
    rw [Option.isSome_some]
    refine w_true ?_
    refine w_op (w_cb (w_cons (w_var (by rfl) (w_nil (w_lenT hs (w_op (w_c (w_op (w_var (by rfl) (w_c (w_ixT (v := .str "put") hs rfl ?_)))))))))))
    exact ⟨_, _, .int 3, rfl, rfl, ⟨_, _, _, D_sizes.at_, D_sizes.lit, e, t, rfl⟩, w_eq rfl q⟩
  | row i z =>
    refine w_false (w_not (w_b (w_call (w_cons (w_op (w_var (by rfl) (w_c (w_ixT (v := .str "row") hs rfl (w_nil ⟨.str "row", "str", rfl, ⟨.base (.str _), by decide⟩, w_blV ?_⟩)))))))))
    rw [decide_eq_true (p := "str" = "str") rfl]
    refine w_false (w_next ?_)
    dsimp only
    refine w_ret (w_andV (w_op (w_op (w_var (by rfl) (w_c (w_ixT (v := .str "row") hs rfl (w_c ?_)))))))
    obtain ⟨t, e⟩ := Z.row
    refine ⟨"row", _, rfl, rfl, e, w_blV ?_⟩
    rw [Option.isSome_some]
    refine w_true ?_
    refine w_op (w_cb (w_cons (w_var (by rfl) (w_nil (w_lenT hs (w_op (w_c (w_op (w_var (by rfl) (w_c (w_ixT (v := .str "row") hs rfl ?_)))))))))))
    exact ⟨_, _, .int 3, rfl, rfl, ⟨_, _, _, D_sizes.at_, D_sizes.lit, e, t, rfl⟩, w_eq rfl q⟩
  | out i =>
    refine w_false (w_not (w_b (w_call (w_cons (w_op (w_var (by rfl) (w_c (w_ixT (v := .str "out") hs rfl (w_nil ⟨.str "out", "str", rfl, ⟨.base (.str _), by decide⟩, w_blV ?_⟩)))))))))
    rw [decide_eq_true (p := "str" = "str") rfl]
    refine w_false (w_next ?_)
    dsimp only
    refine w_ret (w_andV (w_op (w_op (w_var (by rfl) (w_c (w_ixT (v := .str "out") hs rfl (w_c ?_)))))))
    obtain ⟨t, e⟩ := Z.out
    refine ⟨"out", _, rfl, rfl, e, w_blV ?_⟩
    rw [Option.isSome_some]
    refine w_true ?_
    refine w_op (w_cb (w_cons (w_var (by rfl) (w_nil (w_lenT hs (w_op (w_c (w_op (w_var (by rfl) (w_c (w_ixT (v := .str "out") hs rfl ?_)))))))))))
    exact ⟨_, _, .int 2, rfl, rfl, ⟨_, _, _, D_sizes.at_, D_sizes.lit, e, t, rfl⟩, w_eq rfl q⟩
end
end K11

set_option Elab.async false
set_option linter.all false
set_option maxRecDepth 100000
set_option maxHeartbeats 4000000
namespace K11
open PySem PySem.Spec PyProof.Rows L2 LamX EqX
/-! the words' steps, one after another -/
local macro_rules | `(tactic| walk_at "w") => `(tactic| (repeat (first
  | with_reducible refine w_seq ?_ | with_reducible refine w_asg ?_ | with_reducible refine w_ret ?_ | with_reducible exact w_retN ?_ | with_reducible refine w_drop ?_ | with_reducible refine w_ifs ?_ | with_reducible refine w_next ?_
  | with_reducible refine w_name ?_ | with_reducible refine w_gsub ?_ | ((with_reducible refine' w_var ?hx ?_); (case hx => exact rfl)) | with_reducible refine w_c ?_ | with_reducible refine w_op ?_ | with_reducible refine w_un ?_ | with_reducible refine w_cb ?_ | with_reducible refine w_call ?_
  | with_reducible refine w_nil ?_ | with_reducible refine w_cons ?_ | with_reducible refine w_test ?_ | with_reducible refine w_b ?_ | with_reducible refine w_bl ?_ | with_reducible refine w_not ?_ | with_reducible refine w_and ?_ | with_reducible refine w_or ?_
  | with_reducible refine w_notV ?_ | with_reducible refine w_blV ?_ | with_reducible refine w_I0 ?_ | ((with_reducible refine w_mulL ?_ ?_); · omega) | ((with_reducible refine w_mulR ?_ ?_); · omega) | ((with_reducible refine w_pow ?_ ?_); · decide)
  | with_reducible refine w_neg ?_ | ((with_reducible refine w_eq ?_ ?_); · exact rfl) | ((with_reducible refine w_ne ?_ ?_); · exact rfl) | with_reducible refine w_int1 ?_ | with_reducible refine w_abs ?_ | with_reducible refine w_max2 ?_ | with_reducible refine w_min2 ?_
  | with_reducible refine w_gcons ?_ | with_reducible refine w_gnil ?_ | with_reducible refine w_tup ?_ | with_reducible refine w_lst ?_ | with_reducible refine w_sl ?_ | with_reducible refine w_no ?_ | with_reducible refine w_part ?_ | with_reducible refine w_partI ?_ | with_reducible refine ⟨_, (rfl : V.int _ = V.int _), ?_⟩
  | with_reducible refine w_for ?_ | with_reducible refine w_iL ?_ | with_reducible refine w_iT ?_ | with_reducible refine w_iR ?_ | with_reducible refine w_yes ?_ | with_reducible refine w_setLc ?_ | with_reducible refine w_isB ?_)))

/-! the words' steps, reads of tuples and lists at hand, tests that are settled -/
local macro_rules | `(tactic| walk_at "g") => `(tactic| (repeat (first
  | with_reducible refine w_seq ?_ | with_reducible refine w_asg ?_ | with_reducible refine w_ret ?_ | with_reducible exact w_retN ?_ | with_reducible refine w_drop ?_ | with_reducible refine w_ifs ?_ | (with_reducible refine w_next ?_; try dsimp only)
  | with_reducible refine w_name ?_ | with_reducible refine w_gsub ?_ | ((with_reducible refine' w_var ?hx ?_); (case hx => exact rfl)) | with_reducible refine w_c ?_ | with_reducible refine w_op ?_ | with_reducible refine w_un ?_ | with_reducible refine w_cb ?_ | with_reducible refine w_call ?_
  | with_reducible refine w_nil ?_ | with_reducible refine w_cons ?_ | with_reducible refine w_test ?_ | with_reducible refine w_b ?_ | with_reducible refine w_bl ?_ | with_reducible refine w_not ?_ | with_reducible refine w_and ?_ | with_reducible refine w_or ?_
  | with_reducible refine w_notV ?_ | with_reducible refine w_blV ?_ | with_reducible refine w_I0 ?_ | ((with_reducible refine w_mulL ?_ ?_); · omega) | ((with_reducible refine w_mulR ?_ ?_); · omega) | ((with_reducible refine w_pow ?_ ?_); · decide)
  | with_reducible refine w_neg ?_ | ((with_reducible refine w_eq ?_ ?_); · exact rfl) | ((with_reducible refine w_ne ?_ ?_); · exact rfl) | with_reducible refine w_int1 ?_ | with_reducible refine w_abs ?_ | with_reducible refine w_max2 ?_ | with_reducible refine w_min2 ?_
  | with_reducible refine w_gcons ?_ | with_reducible refine w_gnil ?_ | with_reducible refine w_tup ?_ | with_reducible refine w_lst ?_ | with_reducible refine w_sl ?_ | with_reducible refine w_no ?_ | with_reducible refine w_part ?_ | with_reducible refine w_partI ?_ | with_reducible refine ⟨_, (rfl : V.int _ = V.int _), ?_⟩
  | with_reducible refine w_for ?_ | with_reducible refine w_iL ?_ | with_reducible refine w_iT ?_ | with_reducible refine w_iR ?_ | with_reducible refine w_yes ?_ | with_reducible refine w_setLc ?_ | with_reducible refine w_isB ?_
  | ((with_reducible refine' w_ixT (by assumption) ?hx ?_); (case hx => exact rfl)) | ((with_reducible refine' w_ixL (by assumption) ?hx ?_); (case hx => exact rfl)) | ((with_reducible refine w_lenT (by assumption) ?_)) | ((with_reducible refine w_lenL (by assumption) ?_)) | with_reducible refine w_callD ?_ | with_reducible refine w_if ?_ | with_reducible refine w_andV ?_ | with_reducible refine w_orV ?_
  | ((with_reducible refine w_ifT ?hx ?_); (case hx => rfl)) | ((with_reducible refine w_ifF ?hx ?_); (case hx => rfl)))))

def spDeed : Sp := fun vs H Q _ => ∃ (a : Addr) (d : Dd), vs = [.ref a] ∧ H a = some (.tup d.vs) ∧ d.ok = true ∧ Q .non H
def reasonD (rs : List Str) : Dd → V
  | .put i _ => if rs.length = 30 then .str "full" else if rs.length < i then .str "far" else .non
  | .row i s => if rs.length ≤ i then .str "none" else if rs[i]? = some s then .str "same" else .non
  | .out i => if rs.length ≤ i then .str "none" else .non
def behindD (rs : List Str) : Dd → List Str
  | .put i s => rs.take i ++ [s] ++ rs.drop i
  | .row i s => rs.take i ++ [s] ++ rs.drop (i + 1)
  | .out i => rs.take i ++ rs.drop (i + 1)
abbrev sv (rs : List Str) : List V := rs.map V.str
def spReason (K : PySem.W.Frag) : Sp := fun vs H Q _ => ∃ (p a : Addr) (rs : List Str) (d : Dd), vs = [.ref p, .ref a] ∧ SqT K H p (sv rs) ∧ H a = some (.tup d.vs) ∧ Q (reasonD rs d) H
def spBehind (K : PySem.W.Frag) : Sp := fun vs H Q _ => ∃ (p a : Addr) (rs : List Str) (d : Dd), vs = [.ref p, .ref a] ∧ SqT K H p (sv rs) ∧ H a = some (.tup d.vs) ∧ rs.length ≤ 30 ∧ ∀ r H', Same H H' → SqT K H' r (sv (behindD rs d)) → Q (.ref r) H'
section
variable {P : Program} {w : World} {K : PySem.W.Frag} {mg : Str → Option Value} {base : Heap}
theorem df_check_deed (T : Kd P w K mg base) (o_InvalidDeed : Own1 P w K mg base "InvalidDeed" "index") (A : At K mg "check_deed" s_check_deed)
    (D_has_form : Df P w K mg base CX0 2 "has_form" ["value"] (spForm K)) (D_is_number : DfV P w K mg base CX0 2 "is_number" ["value", "low", "high"] [.int 0, .non] spNumber)
    (D_is_desk_row : Df P w K mg base CX0 2 "is_desk_row" ["value"] (spDeskRow K)) : Df P w K mg base (L2.CX P w) 4 "check_deed" ["value"] spDeed := by
  refine df_of A sc_check_deed (fun _ _ _ _ _ _ us hl => match us, hl with | [_], _ => rfl) (fun vs H Q E h => by obtain ⟨a, d, rfl, _⟩ := h; rfl) (fun f cdv A outer s H vs Q E hrs h => ?_)
  have tk := takes_of (X := cxOf (L2.CX P w) P w K mg base ["value"] "check_deed" (defScope s_check_deed) f cdv A outer s H E) (E := E) rfl rfl rfl rfl
  refine ⟨_, (pss_cons (ps_if (pt_not (pt_val (pe_df D_has_form (hrs.mono (by decide)) (pa_cons (pv 0) pa_nil)))) (pss_one (ro_own1 (k := 0) tk o_InvalidDeed (hrs.mono (by decide)) (pa_cons pe_int pa_nil))) pss_nil)
      (pss_cons (ps_if (pt_not (pt_val (pe_dfV D_is_number (hrs.mono (by decide)) (pa_cons (pe_ix ix_tup (pv 0) pe_int (fun _ _ => rfl)) pa_nil)))) (pss_one (ro_own1 (k := 0) tk o_InvalidDeed (hrs.mono (by decide)) (pa_cons pe_int pa_nil))) pss_nil)
      (pss_one (ps_if (PW.pt (pw_and (pt_cmpR op_eq (pe_callB c_lenS (by rfl) T.n_len PySem.boot_len (pa_cons (pv 0) pa_nil)) pe_int (nomark _)) (pw_and1 (pt_not (pt_val (pe_df D_is_desk_row (hrs.mono (by decide)) (pa_cons (pe_ix ix_tup (pv 0) pe_int (fun _ _ => rfl)) pa_nil))))))) (pss_one (ro_own1 (k := 0) tk o_InvalidDeed (hrs.mono (by decide)) (pa_cons pe_int pa_nil))) pss_nil)))), ?_⟩
  obtain ⟨a, d, rfl, ha, hd, q⟩ := h
  have hs : SqT K H a d.vs := SqT.of ha
  have σe : L2.start ["value"] [.ref a] = [some (.ref a)] := rfl
  rw [σe]
  dsimp only [cxOf]
  walk_at "g"
  refine ⟨a, d, rfl, ha, ?_⟩
  cases d with
  | put i z =>
    have zl : z.length ≤ 200 := by
      have : rwB z = true := hd
      unfold rwB at this
      rw [Bool.and_eq_true, decide_eq_true_iff] at this
      exact this.1
    walk_at "g"
    refine ⟨(i : Int), rfl, Int.natCast_nonneg i, ?_⟩
    walk_at "g"
    refine ⟨.str z, "str", rfl, ⟨.base (.str _), by decide⟩, fun _ => ⟨z, rfl, Nat.le_trans zl (by decide)⟩, fun h => absurd rfl h, w_blV (w_ifF ?_ (w_next q))⟩
    show (!rwB z) = false
    rw [show rwB z = true from hd]
    rfl
  | row i z =>
    have zl : z.length ≤ 200 := by
      have : rwB z = true := hd
      unfold rwB at this
      rw [Bool.and_eq_true, decide_eq_true_iff] at this
      exact this.1
    walk_at "g"
    refine ⟨(i : Int), rfl, Int.natCast_nonneg i, ?_⟩
    walk_at "g"
    refine ⟨.str z, "str", rfl, ⟨.base (.str _), by decide⟩, fun _ => ⟨z, rfl, Nat.le_trans zl (by decide)⟩, fun h => absurd rfl h, w_blV (w_ifF ?_ (w_next q))⟩
    show (!rwB z) = false
    rw [show rwB z = true from hd]
    rfl
  | out i =>
    walk_at "g"
    refine ⟨(i : Int), rfl, Int.natCast_nonneg i, ?_⟩
    walk_at "g"
    exact q
theorem df_reason_against (T : Kd P w K mg base) (A : At K mg "reason_against" s_reason_against) : Df P w K mg base CX0 1 "reason_against" ["rows", "deed"] (spReason K) := by
  refine df_of A sc_reason_against (fun _ _ _ _ _ _ us hl => match us, hl with | [_, _], _ => rfl) (fun vs H Q E h => by obtain ⟨p, a, rs, d, rfl, _⟩ := h; rfl) (fun f cdv A outer s H vs Q E hrs h => ?_)
  refine ⟨_, (pss_cons (ps_if (pt_cmpR op_eq (pe_ix ix_tup (pv 1) pe_int (fun _ _ => rfl)) pe_str (nomark _)) (pss_cons (ps_if (pt_cmpR op_eq (pe_callB c_lenS (by rfl) T.n_len PySem.boot_len (pa_cons (pv 0) pa_nil)) (pe_cI T.c_MOST_DESK) (nomark _)) (pss_one (ps_ret (pe_cS T.c_FULL))) pss_nil)
      (pss_one (ps_ret (pe_ifExp (pt_cmpR op_gt (pe_ix ix_tup (pv 1) pe_int (fun _ _ => rfl)) (pe_callB c_lenS (by rfl) T.n_len PySem.boot_len (pa_cons (pv 0) pa_nil)) (nomark _)) (pe_cS T.c_FAR) pe_non)))) pss_nil)
      (pss_cons (ps_if (pt_cmpR op_ge (pe_ix ix_tup (pv 1) pe_int (fun _ _ => rfl)) (pe_callB c_lenS (by rfl) T.n_len PySem.boot_len (pa_cons (pv 0) pa_nil)) (nomark _)) (pss_one (ps_ret (pe_cS T.c_NONE))) pss_nil)
      (pss_one (ps_ret (pe_ifExp (PW.pt (pw_and (pt_cmpR op_eq (pe_ix ix_tup (pv 1) pe_int (fun _ _ => rfl)) pe_str (nomark _)) (pw_and1 (pt_cmpR op_eq (pe_ix ix_tup (pv 0) (pe_ix ix_tup (pv 1) pe_int (fun _ _ => rfl)) (fun _ _ => rfl)) (pe_ix ix_tup (pv 1) pe_int (fun _ _ => rfl)) (nomark _))))) (pe_cS T.c_SAME) pe_non))))), ?_⟩
  obtain ⟨p, a, rs, d, rfl, hp, ha, q⟩ := h
  have hs : SqT K H a d.vs := SqT.of ha
  have σe : L2.start ["rows", "deed"] [.ref p, .ref a] = [some (.ref p), some (.ref a)] := rfl
  rw [σe]
  dsimp only [cxOf]
  have ln : (sv rs).length = rs.length := List.length_map ..
  cases d with
  | put i z =>
    have q : Q (if rs.length = 30 then .str "full" else if rs.length < i then .str "far" else .non) H := q
    walk_at "g"
    refine w_ifb (fun e => ?_) (fun e => ?_)
    · have e1 := of_decide_eq_true e
      have e2 : rs.length = 30 := by
        injection e1 with e1
        omega
      rw [if_pos e2] at q
      walk_at "g"
      exact q
    · have e1 := of_decide_eq_false e
      have e2 : ¬ rs.length = 30 := fun z => e1 (by rw [ln, z]; rfl)
      rw [if_neg e2] at q
      walk_at "g"
      refine w_dec (fun c => ?_) (fun c => ?_)
      · rw [if_pos (by omega)] at q
        exact w_c q
      · rw [if_neg (by omega)] at q
        exact w_c q
  | row i z =>
    have q : Q (if rs.length ≤ i then .str "none" else if rs[i]? = some z then .str "same" else .non) H := q
    walk_at "g"
    refine w_dec (fun c => ?_) (fun c => ?_)
    · rw [if_pos (by omega)] at q
      exact w_ret (w_c q)
    · rw [if_neg (by omega)] at q
      have hi : i < rs.length := by omega
      have at_ : atI (sv rs) (i : Int) = some (.str rs[i]) := atI_nat (by
        rw [List.getElem?_map, List.getElem?_eq_getElem hi]
        rfl)
      walk_at "g"
      refine w_ixT hp at_ ?_
      walk_at "g"
      rw [List.getElem?_eq_getElem hi] at q
      refine w_ifb (fun e => ?_) (fun e => ?_)
      · have e1 := of_decide_eq_true e
        injection e1 with e1
        rw [if_pos (by rw [e1])] at q
        exact w_c q
      · have e1 := of_decide_eq_false e
        rw [if_neg (fun z => e1 (by injection z with z; rw [z]))] at q
        exact w_c q
  | out i =>
    have q : Q (if rs.length ≤ i then .str "none" else .non) H := q
    walk_at "g"
    refine w_dec (fun c => ?_) (fun c => ?_)
    · rw [if_pos (by omega)] at q
      exact w_ret (w_c q)
    · rw [if_neg (by omega)] at q
      walk_at "g"
      exact q
theorem df_rows_behind (T : Kd P w K mg base) (A : At K mg "rows_behind" s_rows_behind) : Df P w K mg base CX0 1 "rows_behind" ["rows", "deed"] (spBehind K) := by
  refine df_of A sc_rows_behind (fun _ _ _ _ _ _ us hl => match us, hl with | [_, _], _ => rfl) (fun vs H Q E h => by obtain ⟨p, a, rs, d, rfl, _⟩ := h; rfl) (fun f cdv A outer s H vs Q E hrs h => ?_)
  refine ⟨_, (pss_cons (ps_set (i := 2) sc_rows_behind.nd rfl (Or.inl rfl) (pe_ifExp (pt_cmpR op_eq (pe_ix ix_tup (pv 1) pe_int (fun _ _ => rfl)) pe_str (nomark _)) (pe_slice sl_tupA (pv 0) (po_some (pe_ix ix_tup (pv 1) pe_int (fun _ _ => rfl))) po_none) (pe_slice sl_tupA (pv 0) (po_some (pe_op op_add (pe_ix ix_tup (pv 1) pe_int (fun _ _ => rfl)) pe_int)) po_none)))
      (pss_one (ps_ret (pe_op op_catA (pe_op op_catA (pe_slice sl_tupA (pv 0) po_none (po_some (pe_ix ix_tup (pv 1) pe_int (fun _ _ => rfl)))) (pe_slice sl_tupA (pv 1) (po_some pe_int) po_none)) (pv 2))))), ?_⟩
  obtain ⟨p, a, rs, d, rfl, hp, ha, hl, q⟩ := h
  have hs : SqT K H a d.vs := SqT.of ha
  have σe : L2.start ["rows", "deed", "behind"] [.ref p, .ref a] = [some (.ref p), some (.ref a), none] := rfl
  rw [σe]
  dsimp only [cxOf]
  have ln : (sv rs).length = rs.length := List.length_map ..
  cases d with
  | put i z =>
    walk_at "g"
    refine w_slT hp fun r1 H1 s1 h1 => ?_
    rw [cut_from] at h1
    have hs1 := sqT_sm s1 hs
    have hp1 := sqT_sm s1 hp
    walk_at "g"
    refine w_slT hp1 fun r2 H2 s2 h2 => ?_
    rw [cut_to] at h2
    have hs2 := sqT_sm s2 hs1
    walk_at "g"
    refine w_slT hs2 fun r3 H3 s3 h3 => ?_
    have h3 : SqT K H3 r3 [.str z] := h3
    refine w_catT (sqT_sm s3 h2) h3 ?_ fun r4 H4 s4 h4 => ?_
    · rw [List.length_take, ln]
      show _ + 1 ≤ 2 ^ 24
      omega
    · walk_at "g"
      refine w_catT h4 (sqT_sm s4 (sqT_sm s3 (sqT_sm s2 h1))) ?_ fun r5 H5 s5 h5 => ?_
      · rw [List.length_append, List.length_take, List.length_drop, ln]
        show _ + 1 + _ ≤ 2 ^ 24
        omega
      · refine q r5 H5 ((((s1.trans s2).trans s3).trans s4).trans s5) ?_
        have e : sv (behindD rs (.put i z)) = List.take i (sv rs) ++ [V.str z] ++ List.drop i (sv rs) := by
          unfold behindD sv
          rw [List.map_append, List.map_append, List.map_take, List.map_drop]
          rfl
        rw [e]
        exact h5
  | row i z =>
    walk_at "g"
    refine w_slT hp fun r1 H1 s1 h1 => ?_
    rw [show ((i : Int) + 1) = ((i + 1 : Nat) : Int) from rfl, cut_from] at h1
    have hs1 := sqT_sm s1 hs
    have hp1 := sqT_sm s1 hp
    walk_at "g"
    refine w_slT hp1 fun r2 H2 s2 h2 => ?_
    rw [cut_to] at h2
    have hs2 := sqT_sm s2 hs1
    walk_at "g"
    refine w_slT hs2 fun r3 H3 s3 h3 => ?_
    have h3 : SqT K H3 r3 [.str z] := h3
    refine w_catT (sqT_sm s3 h2) h3 ?_ fun r4 H4 s4 h4 => ?_
    · rw [List.length_take, ln]
      show _ + 1 ≤ 2 ^ 24
      omega
    · walk_at "g"
      refine w_catT h4 (sqT_sm s4 (sqT_sm s3 (sqT_sm s2 h1))) ?_ fun r5 H5 s5 h5 => ?_
      · rw [List.length_append, List.length_take, List.length_drop, ln]
        show _ + 1 + _ ≤ 2 ^ 24
        omega
      · refine q r5 H5 ((((s1.trans s2).trans s3).trans s4).trans s5) ?_
        have e : sv (behindD rs (.row i z)) = List.take i (sv rs) ++ [V.str z] ++ List.drop (i + 1) (sv rs) := by
          unfold behindD sv
          rw [List.map_append, List.map_append, List.map_take, List.map_drop]
          rfl
        rw [e]
        exact h5
  | out i =>
    walk_at "g"
    refine w_slT hp fun r1 H1 s1 h1 => ?_
    rw [show ((i : Int) + 1) = ((i + 1 : Nat) : Int) from rfl, cut_from] at h1
    have hs1 := sqT_sm s1 hs
    have hp1 := sqT_sm s1 hp
    walk_at "g"
    refine w_slT hp1 fun r2 H2 s2 h2 => ?_
    rw [cut_to] at h2
    have hs2 := sqT_sm s2 hs1
    walk_at "g"
    refine w_slT hs2 fun r3 H3 s3 h3 => ?_
    have h3 : SqT K H3 r3 [] := h3
    refine w_catT (sqT_sm s3 h2) h3 ?_ fun r4 H4 s4 h4 => ?_
    · rw [List.length_take, ln]
      show _ + 0 ≤ 2 ^ 24
      omega
    · walk_at "g"
      refine w_catT h4 (sqT_sm s4 (sqT_sm s3 (sqT_sm s2 h1))) ?_ fun r5 H5 s5 h5 => ?_
      · rw [List.length_append, List.length_take, List.length_drop, ln]
        show _ + 0 + _ ≤ 2 ^ 24
        omega
      · refine q r5 H5 ((((s1.trans s2).trans s3).trans s4).trans s5) ?_
        have e : sv (behindD rs (.out i)) = List.take i (sv rs) ++ [] ++ List.drop (i + 1) (sv rs) := by
          unfold behindD sv
          rw [List.map_append, List.map_take, List.map_drop, List.append_nil]
        rw [e]
        exact h5
end
end K11

set_option Elab.async false
set_option linter.all false
set_option maxRecDepth 100000
set_option maxHeartbeats 4000000
namespace K11
open PySem PySem.Spec PyProof.Rows L2 LamX EqX
/-! the words' steps, one after another -/
local macro_rules | `(tactic| walk_at "w") => `(tactic| (repeat (first
  | with_reducible refine w_seq ?_ | with_reducible refine w_asg ?_ | with_reducible refine w_ret ?_ | with_reducible exact w_retN ?_ | with_reducible refine w_drop ?_ | with_reducible refine w_ifs ?_ | with_reducible refine w_next ?_
  | with_reducible refine w_name ?_ | with_reducible refine w_gsub ?_ | ((with_reducible refine' w_var ?hx ?_); (case hx => exact rfl)) | with_reducible refine w_c ?_ | with_reducible refine w_op ?_ | with_reducible refine w_un ?_ | with_reducible refine w_cb ?_ | with_reducible refine w_call ?_
  | with_reducible refine w_nil ?_ | with_reducible refine w_cons ?_ | with_reducible refine w_test ?_ | with_reducible refine w_b ?_ | with_reducible refine w_bl ?_ | with_reducible refine w_not ?_ | with_reducible refine w_and ?_ | with_reducible refine w_or ?_
  | with_reducible refine w_notV ?_ | with_reducible refine w_blV ?_ | with_reducible refine w_I0 ?_ | ((with_reducible refine w_mulL ?_ ?_); · omega) | ((with_reducible refine w_mulR ?_ ?_); · omega) | ((with_reducible refine w_pow ?_ ?_); · decide)
  | with_reducible refine w_neg ?_ | ((with_reducible refine w_eq ?_ ?_); · exact rfl) | ((with_reducible refine w_ne ?_ ?_); · exact rfl) | with_reducible refine w_int1 ?_ | with_reducible refine w_abs ?_ | with_reducible refine w_max2 ?_ | with_reducible refine w_min2 ?_
  | with_reducible refine w_gcons ?_ | with_reducible refine w_gnil ?_ | with_reducible refine w_tup ?_ | with_reducible refine w_lst ?_ | with_reducible refine w_sl ?_ | with_reducible refine w_no ?_ | with_reducible refine w_part ?_ | with_reducible refine w_partI ?_ | with_reducible refine ⟨_, (rfl : V.int _ = V.int _), ?_⟩
  | with_reducible refine w_for ?_ | with_reducible refine w_iL ?_ | with_reducible refine w_iT ?_ | with_reducible refine w_iR ?_ | with_reducible refine w_yes ?_ | with_reducible refine w_setLc ?_ | with_reducible refine w_isB ?_)))

/-! the words' steps, reads of tuples and lists at hand, tests that are settled -/
local macro_rules | `(tactic| walk_at "g") => `(tactic| (repeat (first
  | with_reducible refine w_seq ?_ | with_reducible refine w_asg ?_ | with_reducible refine w_ret ?_ | with_reducible exact w_retN ?_ | with_reducible refine w_drop ?_ | with_reducible refine w_ifs ?_ | (with_reducible refine w_next ?_; try dsimp only)
  | with_reducible refine w_name ?_ | with_reducible refine w_gsub ?_ | ((with_reducible refine' w_var ?hx ?_); (case hx => exact rfl)) | with_reducible refine w_c ?_ | with_reducible refine w_op ?_ | with_reducible refine w_un ?_ | with_reducible refine w_cb ?_ | with_reducible refine w_call ?_
  | with_reducible refine w_nil ?_ | with_reducible refine w_cons ?_ | with_reducible refine w_test ?_ | with_reducible refine w_b ?_ | with_reducible refine w_bl ?_ | with_reducible refine w_not ?_ | with_reducible refine w_and ?_ | with_reducible refine w_or ?_
  | with_reducible refine w_notV ?_ | with_reducible refine w_blV ?_ | with_reducible refine w_I0 ?_ | ((with_reducible refine w_mulL ?_ ?_); · omega) | ((with_reducible refine w_mulR ?_ ?_); · omega) | ((with_reducible refine w_pow ?_ ?_); · decide)
  | with_reducible refine w_neg ?_ | ((with_reducible refine w_eq ?_ ?_); · exact rfl) | ((with_reducible refine w_ne ?_ ?_); · exact rfl) | with_reducible refine w_int1 ?_ | with_reducible refine w_abs ?_ | with_reducible refine w_max2 ?_ | with_reducible refine w_min2 ?_
  | with_reducible refine w_gcons ?_ | with_reducible refine w_gnil ?_ | with_reducible refine w_tup ?_ | with_reducible refine w_lst ?_ | with_reducible refine w_sl ?_ | with_reducible refine w_no ?_ | with_reducible refine w_part ?_ | with_reducible refine w_partI ?_ | with_reducible refine ⟨_, (rfl : V.int _ = V.int _), ?_⟩
  | with_reducible refine w_for ?_ | with_reducible refine w_iL ?_ | with_reducible refine w_iT ?_ | with_reducible refine w_iR ?_ | with_reducible refine w_yes ?_ | with_reducible refine w_setLc ?_ | with_reducible refine w_isB ?_
  | ((with_reducible refine' w_ixT (by assumption) ?hx ?_); (case hx => exact rfl)) | ((with_reducible refine' w_ixL (by assumption) ?hx ?_); (case hx => exact rfl)) | ((with_reducible refine w_lenT (by assumption) ?_)) | ((with_reducible refine w_lenL (by assumption) ?_)) | with_reducible refine w_callD ?_ | with_reducible refine w_if ?_ | with_reducible refine w_andV ?_ | with_reducible refine w_orV ?_
  | ((with_reducible refine w_ifT ?hx ?_); (case hx => rfl)) | ((with_reducible refine w_ifF ?hx ?_); (case hx => rfl)))))

abbrev s_text_of_rows : Stmt := top 171
theorem sc_text_of_rows : FnScope ["rows", "row"] ["rows"] (defScope s_text_of_rows) := ⟨rfl, rfl, rfl, by decide +kernel, rfl, by decide +kernel, by decide +kernel⟩
/-- a text, whatever it is -/
def spText (K : PySem.W.Frag) : Sp := fun vs H Q _ => ∃ (p : Addr) (rs : List Str), vs = [.ref p] ∧ SqT K H p (sv rs) ∧ rs.length ≤ 30 ∧ (∀ z ∈ rs, z.length ≤ 200) ∧ ∀ z H', Same H H' → Q (.str z) H'
section
variable {P : Program} {w : World} {K : PySem.W.Frag} {mg : Str → Option Value} {base : Heap}
theorem df_text_of_rows (T : Kd P w K mg base) (A : At K mg "text_of_rows" s_text_of_rows) : Df P w K mg base CX0 1 "text_of_rows" ["rows"] (spText K) := by
  refine df_of A sc_text_of_rows (fun _ _ _ _ _ _ us hl => match us, hl with | [_], _ => rfl) (fun vs H Q E h => by obtain ⟨p, rs, rfl, _⟩ := h; rfl) (fun f cdv A outer s H vs Q E hrs h => ?_)
  refine ⟨_, (pss_one (ps_ret (pe_join pe_str (pe_lc (own := [("row", 1)]) (g := gName 1) (tt := tYes) (by rfl) sc_text_of_rows.nd (pi_tup (pv 0)) (blkOk_by (own := [("row", 1)]) (N := ["rows", "row"]) (sc := defScope s_text_of_rows) (by decide +kernel)) (fun _ _ _ _ _ => pg_name (i := 1) sc_text_of_rows.nd rfl (Or.inl rfl)) (fun _ _ _ _ _ => pts_nil) (fun _ _ _ _ _ => (pe_op op_add_str (pv 1) pe_str)))))), ?_⟩
  obtain ⟨p, rs, rfl, hp, hl, hz, q⟩ := h
  have σe : L2.start ["rows", "row"] [.ref p] = [some (.ref p), none] := rfl
  rw [σe]
  dsimp only [cxOf]
  let f : V → V := fun v => match v with
    | .str z => .str (z ++ "\n")
    | v => v
  refine w_ret (w_m1 (w_c ⟨⟨_, rfl⟩, w_lcT (w_var (by rfl) ⟨p, rfl, ⟨_, hp⟩, lcT_of f hp ?_ (fun x H' hx sm R hR => ?_) fun L H' hL sm hL' => ?_⟩)⟩))
  · rw [List.length_map]
    show rs.length < 2 ^ 24
    omega
  · obtain ⟨z, hz', rfl⟩ := List.mem_map.mp hx
    refine w_name ⟨rfl, ?_⟩
    have := hz z hz'
    refine w_op (w_var (by rfl) (w_c ⟨z, _, rfl, rfl, ?_, hR _ (Same.refl _)⟩))
    show z.length + 1 ≤ 2 ^ 24
    omega
  · refine ⟨_, L, rs.map (· ++ "\n"), rfl, rfl, .inl (SqL.of ?_), ?_, q _ _ sm⟩
    · rw [hL', List.map_map, List.map_map]
      rfl
    · rw [List.length_map, List.map_map]
      have h1 := sum_le (l := rs.map ((fun x : Str => x.length) ∘ (· ++ "\n"))) (k := 201) (fun x hx => by
        obtain ⟨z, hz', rfl⟩ := List.mem_map.mp hx
        have := hz z hz'
        show (z ++ "\n").length ≤ 201
        rw [PySem.Str.length_append]
        show z.length + 1 ≤ 201
        omega)
      rw [List.length_map] at h1
      have : (Str.ofString "").length = 0 := rfl
      rw [this]
      omega
end
end K11

set_option Elab.async false
set_option linter.all false
set_option maxRecDepth 100000
set_option maxHeartbeats 4000000
namespace K11
open PySem PySem.Spec PyProof.Rows L2 LamX EqX
/-! the words' steps, one after another -/
local macro_rules | `(tactic| walk_at "w") => `(tactic| (repeat (first
  | with_reducible refine w_seq ?_ | with_reducible refine w_asg ?_ | with_reducible refine w_ret ?_ | with_reducible exact w_retN ?_ | with_reducible refine w_drop ?_ | with_reducible refine w_ifs ?_ | with_reducible refine w_next ?_
  | with_reducible refine w_name ?_ | with_reducible refine w_gsub ?_ | ((with_reducible refine' w_var ?hx ?_); (case hx => exact rfl)) | with_reducible refine w_c ?_ | with_reducible refine w_op ?_ | with_reducible refine w_un ?_ | with_reducible refine w_cb ?_ | with_reducible refine w_call ?_
  | with_reducible refine w_nil ?_ | with_reducible refine w_cons ?_ | with_reducible refine w_test ?_ | with_reducible refine w_b ?_ | with_reducible refine w_bl ?_ | with_reducible refine w_not ?_ | with_reducible refine w_and ?_ | with_reducible refine w_or ?_
  | with_reducible refine w_notV ?_ | with_reducible refine w_blV ?_ | with_reducible refine w_I0 ?_ | ((with_reducible refine w_mulL ?_ ?_); · omega) | ((with_reducible refine w_mulR ?_ ?_); · omega) | ((with_reducible refine w_pow ?_ ?_); · decide)
  | with_reducible refine w_neg ?_ | ((with_reducible refine w_eq ?_ ?_); · exact rfl) | ((with_reducible refine w_ne ?_ ?_); · exact rfl) | with_reducible refine w_int1 ?_ | with_reducible refine w_abs ?_ | with_reducible refine w_max2 ?_ | with_reducible refine w_min2 ?_
  | with_reducible refine w_gcons ?_ | with_reducible refine w_gnil ?_ | with_reducible refine w_tup ?_ | with_reducible refine w_lst ?_ | with_reducible refine w_sl ?_ | with_reducible refine w_no ?_ | with_reducible refine w_part ?_ | with_reducible refine w_partI ?_ | with_reducible refine ⟨_, (rfl : V.int _ = V.int _), ?_⟩
  | with_reducible refine w_for ?_ | with_reducible refine w_iL ?_ | with_reducible refine w_iT ?_ | with_reducible refine w_iR ?_ | with_reducible refine w_yes ?_ | with_reducible refine w_setLc ?_ | with_reducible refine w_isB ?_)))

/-! the words' steps, reads of tuples and lists at hand, tests that are settled -/
local macro_rules | `(tactic| walk_at "g") => `(tactic| (repeat (first
  | with_reducible refine w_seq ?_ | with_reducible refine w_asg ?_ | with_reducible refine w_ret ?_ | with_reducible exact w_retN ?_ | with_reducible refine w_drop ?_ | with_reducible refine w_ifs ?_ | (with_reducible refine w_next ?_; try dsimp only)
  | with_reducible refine w_name ?_ | with_reducible refine w_gsub ?_ | ((with_reducible refine' w_var ?hx ?_); (case hx => exact rfl)) | with_reducible refine w_c ?_ | with_reducible refine w_op ?_ | with_reducible refine w_un ?_ | with_reducible refine w_cb ?_ | with_reducible refine w_call ?_
  | with_reducible refine w_nil ?_ | with_reducible refine w_cons ?_ | with_reducible refine w_test ?_ | with_reducible refine w_b ?_ | with_reducible refine w_bl ?_ | with_reducible refine w_not ?_ | with_reducible refine w_and ?_ | with_reducible refine w_or ?_
  | with_reducible refine w_notV ?_ | with_reducible refine w_blV ?_ | with_reducible refine w_I0 ?_ | ((with_reducible refine w_mulL ?_ ?_); · omega) | ((with_reducible refine w_mulR ?_ ?_); · omega) | ((with_reducible refine w_pow ?_ ?_); · decide)
  | with_reducible refine w_neg ?_ | ((with_reducible refine w_eq ?_ ?_); · exact rfl) | ((with_reducible refine w_ne ?_ ?_); · exact rfl) | with_reducible refine w_int1 ?_ | with_reducible refine w_abs ?_ | with_reducible refine w_max2 ?_ | with_reducible refine w_min2 ?_
  | with_reducible refine w_gcons ?_ | with_reducible refine w_gnil ?_ | with_reducible refine w_tup ?_ | with_reducible refine w_lst ?_ | with_reducible refine w_sl ?_ | with_reducible refine w_no ?_ | with_reducible refine w_part ?_ | with_reducible refine w_partI ?_ | with_reducible refine ⟨_, (rfl : V.int _ = V.int _), ?_⟩
  | with_reducible refine w_for ?_ | with_reducible refine w_iL ?_ | with_reducible refine w_iT ?_ | with_reducible refine w_iR ?_ | with_reducible refine w_yes ?_ | with_reducible refine w_setLc ?_ | with_reducible refine w_isB ?_
  | ((with_reducible refine' w_ixT (by assumption) ?hx ?_); (case hx => exact rfl)) | ((with_reducible refine' w_ixL (by assumption) ?hx ?_); (case hx => exact rfl)) | ((with_reducible refine w_lenT (by assumption) ?_)) | ((with_reducible refine w_lenL (by assumption) ?_)) | with_reducible refine w_callD ?_ | with_reducible refine w_if ?_ | with_reducible refine w_andV ?_ | with_reducible refine w_orV ?_
  | ((with_reducible refine w_ifT ?hx ?_); (case hx => rfl)) | ((with_reducible refine w_ifF ?hx ?_); (case hx => rfl)))))

abbrev s_Desk___init__ : Stmt := (met (top 173) 0)
abbrev s_Desk_do : Stmt := (met (top 173) 1)
abbrev s_Desk_undo : Stmt := (met (top 173) 2)
abbrev s_Desk_text : Stmt := (met (top 173) 3)
abbrev s_Desk___eq__ : Stmt := (met (top 173) 8)
theorem sc_Desk___init__ : FnScope ["self", "rows"] ["self", "rows"] (defScope s_Desk___init__) := ⟨rfl, rfl, rfl, by decide +kernel, rfl, by decide +kernel, by decide +kernel⟩
theorem sc_Desk_do : FnScope ["self", "deed", "reason"] ["self", "deed"] (defScope s_Desk_do) := ⟨rfl, rfl, rfl, by decide +kernel, rfl, by decide +kernel, by decide +kernel⟩
theorem sc_Desk_undo : FnScope ["self"] ["self"] (defScope s_Desk_undo) := ⟨rfl, rfl, rfl, by decide +kernel, rfl, by decide +kernel, by decide +kernel⟩
theorem sc_Desk_text : FnScope ["self"] ["self"] (defScope s_Desk_text) := ⟨rfl, rfl, rfl, by decide +kernel, rfl, by decide +kernel, by decide +kernel⟩
theorem sc_Desk___eq__ : FnScope ["self", "other"] ["self", "other"] (defScope s_Desk___eq__) := ⟨rfl, rfl, rfl, by decide +kernel, rfl, by decide +kernel, by decide +kernel⟩
/-! ### a desk -/
abbrev dkC (K : PySem.W.Frag) : Addr := He.ga K "Desk"
structure DkK (K : PySem.W.Frag) (mg : Str → Option Value) : Prop where
  gm : mg "Desk" = some (.ref (dkC K))
  cls : Cls K (dkC K)
  mkc : Mk K (dkC K) (He.ma K (dkC K) "__init__")
  na : ∀ f ∈ (["rows", "begun", "deeds", "past"] : List Str), NoAttr K (dkC K) f
  eqc : EqC K (dkC K) (He.ma K (dkC K) "__eq__")
  cl : PySem.W.findIn K (.ref (dkC K)) "__class__" = some (some (.builtin "object.__class__"))
  sp : PySem.W.specialIn K (.builtin "object.__class__") "__get__" = some (some (.builtin "getset_descriptor.__get__"))
  tk : PySem.W.takesIn K (.builtin "object.__class__") = some true
  is0 : ∀ t ∈ (["NoneType", "bool", "int", "str", "list", "tuple"] : List String), PySem.W.kitOne K (.type t) (.ref (dkC K)) = some false
  is1 : PySem.W.kitOne K (.ref (dkC K)) (.ref (dkC K)) = some true
  nb : PySem.W.findIn K (.ref (dkC K)) "__bool__" = some none
  nl : PySem.W.findIn K (.ref (dkC K)) "__len__" = some none
def Dt (H : Hp) (a : Addr) (d : Dd) : Prop := H a = some (.tup d.vs) ∧ d.ok = true
def Deeds (H : Hp) : List Addr → List Dd → Prop
  | [], [] => True
  | a :: as, d :: ds => Dt H a d ∧ Deeds H as ds
  | _, _ => False
def Rws (K : PySem.W.Frag) (H : Hp) : List Addr → List (List Str) → Prop
  | [], [] => True
  | a :: as, r :: rs => SqT K H a (sv r) ∧ Rws K H as rs
  | _, _ => False
abbrev dkF (r b e l : Addr) : List (Str × V) := [("rows", .ref r), ("begun", .ref b), ("deeds", .ref e), ("past", .ref l)]
structure DkA (K : PySem.W.Frag) (H : Hp) (x dx r b e l : Addr) (es vs : List Addr) (rs bs : List Str) (ds : List Dd) (ps : List (List Str)) : Prop where
  x : H x = some (.ins (dkC K) dx (dkF r b e l))
  r : SqT K H r (sv rs)
  b : SqT K H b (sv bs)
  e : SqT K H e (es.map V.ref)
  es : Deeds H es ds
  l : H l = some (.lst (vs.map V.ref))
  vs : Rws K H vs ps
/-- at x a desk with these rows, begun with these, these deeds, the rows ahead of each; its list of past rows at l -/
def Dk (K : PySem.W.Frag) (H : Hp) (x l : Addr) (rs bs : List Str) (ds : List Dd) (ps : List (List Str)) : Prop := ∃ dx r b e es vs, DkA K H x dx r b e l es vs rs bs ds ps
theorem Deeds.up {TT : List (Addr × Str)} {A : List Addr} {H H' : Hp} (u : Up TT A H H') : ∀ {es : List Addr} {ds : List Dd}, Deeds H es ds → Deeds H' es ds
  | [], [], _ => trivial
  | _ :: _, _ :: _, h => ⟨⟨u.tup _ _ h.1.1, h.1.2⟩, Deeds.up u h.2⟩
  | [], _ :: _, h => h.elim
  | _ :: _, [], h => h.elim
theorem Deeds.app {H : Hp} {a : Addr} {d : Dd} (q : Dt H a d) : ∀ {es : List Addr} {ds : List Dd}, Deeds H es ds → Deeds H (es ++ [a]) (ds ++ [d])
  | [], [], _ => ⟨q, trivial⟩
  | _ :: _, _ :: _, h => ⟨h.1, Deeds.app q h.2⟩
  | [], _ :: _, h => h.elim
  | _ :: _, [], h => h.elim
theorem Deeds.last {H : Hp} : ∀ {es : List Addr} {ds : List Dd}, Deeds H es ds → Deeds H es.dropLast ds.dropLast
  | [], [], _ => trivial
  | [_], [_], _ => trivial
  | _ :: _ :: _, _ :: _ :: _, h => ⟨h.1, Deeds.last h.2⟩
  | [_], _ :: _ :: _, h => h.2.elim
  | _ :: _ :: _, [_], h => h.2.elim
  | [], _ :: _, h => h.elim
  | _ :: _, [], h => h.elim
theorem Deeds.len {H : Hp} : ∀ {es : List Addr} {ds : List Dd}, Deeds H es ds → es.length = ds.length
  | [], [], _ => rfl
  | _ :: _, _ :: _, h => congrArg Nat.succ (Deeds.len h.2)
  | [], _ :: _, h => h.elim
  | _ :: _, [], h => h.elim
theorem Rws.up {K : PySem.W.Frag} {TT : List (Addr × Str)} {A : List Addr} {H H' : Hp} (u : Up TT A H H') : ∀ {es : List Addr} {ds : List (List Str)}, Rws K H es ds → Rws K H' es ds
  | [], [], _ => trivial
  | _ :: _, _ :: _, h => ⟨u.seqT h.1, Rws.up u h.2⟩
  | [], _ :: _, h => h.elim
  | _ :: _, [], h => h.elim
theorem Rws.app {K : PySem.W.Frag} {H : Hp} {a : Addr} {r : List Str} (q : SqT K H a (sv r)) : ∀ {es : List Addr} {ds : List (List Str)}, Rws K H es ds → Rws K H (es ++ [a]) (ds ++ [r])
  | [], [], _ => ⟨q, trivial⟩
  | _ :: _, _ :: _, h => ⟨h.1, Rws.app q h.2⟩
  | [], _ :: _, h => h.elim
  | _ :: _, [], h => h.elim
theorem Rws.len {K : PySem.W.Frag} {H : Hp} : ∀ {es : List Addr} {ds : List (List Str)}, Rws K H es ds → es.length = ds.length
  | [], [], _ => rfl
  | _ :: _, _ :: _, h => congrArg Nat.succ (Rws.len h.2)
  | [], _ :: _, h => h.elim
  | _ :: _, [], h => h.elim
/-- the last of the past -/
theorem Rws.back {K : PySem.W.Frag} {H : Hp} {r : List Str} : ∀ {es : List Addr} {ds : List (List Str)}, Rws K H es (ds ++ [r]) → ∃ es' a, es = es' ++ [a] ∧ Rws K H es' ds ∧ SqT K H a (sv r)
  | [], [], h => h.elim
  | [], _ :: _, h => h.elim
  | [a], [], h => ⟨[], a, rfl, trivial, h.1⟩
  | _ :: _ :: _, [], h => h.2.elim
  | e :: es, d :: ds, h => by
    obtain ⟨es', a, rfl, h1, h2⟩ := Rws.back (es := es) (ds := ds) h.2
    exact ⟨e :: es', a, rfl, ⟨h.1, h1⟩, h2⟩
section
variable {P : Program} {w : World} {K : PySem.W.Frag} {mg : Str → Option Value} {base : Heap} {TT : List (Addr × Str)}
/-! __init__ -/
def spInit (K : PySem.W.Frag) (TT : List (Addr × Str)) : Sp := fun vs H Q E => ∃ (x dx : Addr) (v : V) (t : String), vs = [.ref x, v] ∧ H x = some (.ins (dkC K) dx []) ∧ Ty K H v t ∧ Tabs TT H ∧
  (t ≠ "tuple" → ∀ d H', Kept TT H H' → H' d = some (.xd [("index", .non)]) → E (.ref (He.ga K "InvalidRows")) (some d) H') ∧
  (t = "tuple" → ∃ p xs, v = .ref p ∧ SqT K H p xs ∧ (∀ y ∈ xs, Item K H y) ∧ (∀ v', rowsFault v xs = some v' → ∀ d H', Kept TT H H' → H' d = some (.xd [("index", v')]) → E (.ref (He.ga K "InvalidRows")) (some d) H') ∧
    (rowsFault v xs = none → ∀ e l H', Up TT [x] H H' → Fr H l → l ≠ x → H' x = some (.ins (dkC K) dx (dkF p p e l)) → SqT K H' e [] → H' l = some (.lst []) → Q .non H'))
theorem df_init (T : Kd P w K mg base) (D : DkK K mg) (A : AtM K (dkC K) "__init__" "Desk.__init__" s_Desk___init__) (D_check_rows : Df P w K mg base (L2.CX P w) 6 "check_rows" ["value"] (spCheck K TT)) :
    DfMK P w K mg base (L2.CX P w) 7 (dkC K) "__init__" ["self", "rows"] ["rows"] (spInit K TT) := by
  refine dfMK_of A sc_Desk___init__ (fun _ _ _ _ _ _ us hl => match us, hl with | [_, _], _ => rfl) (fun _ _ _ _ _ _ us ws h1 h2 => match us, ws, h1, h2 with | [_], [_], _, _ => rfl) (fun vs H Q E h => by obtain ⟨x, dx, v, t, rfl, _⟩ := h; rfl) (fun f cdv A outer s H vs Q E hrs h => ?_)
  have tk := takes_of (X := cxOf (L2.CX P w) P w K mg base ["self", "rows"] "Desk.__init__" (defScope s_Desk___init__) f cdv A outer s H E) (E := E) rfl rfl rfl rfl
  refine ⟨_, (pss_cons (ps_expr (pe_dfX D_check_rows (hrs.mono (by decide)) (passes_call tk (fun _ _ _ _ h => h)) (pa_cons (pv 1) pa_nil)))
      (pss_cons (ps_fld (pv 0) (pv 1) rfl)
      (pss_cons (ps_fld (pv 0) (pv 1) rfl)
      (pss_cons (ps_fld (pv 0) (pe_tup pa_nil) rfl)
      (pss_one (ps_fld (pv 0) (pe_lst pa_nil) rfl)))))), ?_⟩
  obtain ⟨x, dx, v, t, rfl, hx, hv, hT, q1, q2⟩ := h
  have σe : L2.start ["self", "rows"] [.ref x, v] = [some (.ref x), some v] := rfl
  rw [σe]
  dsimp only [cxOf]
  refine w_seq (w_drop (w_call (w_cons (w_var (by rfl) (w_nil ⟨v, t, rfl, hv, hT, q1, fun e => ?_⟩)))))
  obtain ⟨p, xs, rfl, hp, hi, q3, q4⟩ := q2 e
  refine ⟨p, xs, rfl, hp, hi, q3, fun hn H1 k1 => ?_⟩
  have q := q4 hn
  have hx1 := k1.1 _ _ hx (fun ps z => nomatch z)
  have u1 : Up TT [x] H H1 := Up.ext k1.1 fun _ => k1.2
  have na := fun f h => D.na f h
  dsimp only
  refine w_seq (w_sf (w_var (by rfl) (w_var (by rfl) ⟨x, dkC K, dx, _, rfl, hx1, D.cls, na _ (by decide), by decide, ?_⟩)))
  have u2 := u1.trans (up_set (o' := .ins (dkC K) dx (putF "rows" (.ref p) [])) hx1 mu_ins List.mem_cons_self)
  dsimp only
  refine w_seq (w_sf (w_var (by rfl) (w_var (by rfl) ⟨x, dkC K, dx, _, rfl, upd_same, D.cls, na _ (by decide), (by show 1 < 1000; decide), ?_⟩)))
  dsimp only
  have u3 := u2.trans (up_set (o' := .ins (dkC K) dx (putF "begun" (.ref p) (putF "rows" (.ref p) []))) upd_same mu_ins List.mem_cons_self)
  refine w_seq (w_sf (w_tup (w_nil ⟨by decide, fun e he => w_var (by rfl) ⟨x, dkC K, dx, _, rfl, (same_newT he) _ _ upd_same, D.cls, na _ (by decide), (by show 2 < 1000; decide), ?_⟩⟩)))
  dsimp only
  have u4 := (u3.trans (Up.of (same_newT (o := .tup []) he))).trans (up_set (o' := .ins (dkC K) dx (putF "deeds" (.ref e) (putF "begun" (.ref p) (putF "rows" (.ref p) [])))) ((same_newT he) _ _ upd_same) mu_ins List.mem_cons_self)
  refine w_sf (w_lst (w_nil ⟨by decide, fun l hl => w_var (by rfl) ⟨x, dkC K, dx, _, rfl, (same_newT hl) _ _ upd_same, D.cls, na _ (by decide), (by show 3 < 1000; decide), ?_⟩⟩))
  have u5 := (u4.trans (Up.of (same_newT (o := .lst []) hl))).trans (up_set (o' := .ins (dkC K) dx (putF "past" (.ref l) (putF "deeds" (.ref e) (putF "begun" (.ref p) (putF "rows" (.ref p) []))))) ((same_newT hl) _ _ upd_same) mu_ins List.mem_cons_self)
  have nl : l ≠ x := fun z => by
    rw [z, upd_same] at hl
    cases hl
  have ne : e ≠ x := fun z => by
    rw [z, upd_same] at he
    cases he
  have nle : e ≠ l := fun z => by
    rw [← z, upd_ne ne, upd_same] at hl
    cases hl
  refine q e l _ u5 (u4.fr hl (by simpa using nl)) nl upd_same (SqT.of ?_) ?_
  · rw [upd_ne ne, upd_ne nle, upd_ne ne, upd_same]
  · rw [upd_ne nl, upd_same]
end
end K11

set_option Elab.async false
set_option linter.all false
set_option maxRecDepth 100000
set_option maxHeartbeats 4000000
namespace K11
open PySem PySem.Spec PyProof.Rows L2 LamX EqX
/-! the words' steps, one after another -/
local macro_rules | `(tactic| walk_at "w") => `(tactic| (repeat (first
  | with_reducible refine w_seq ?_ | with_reducible refine w_asg ?_ | with_reducible refine w_ret ?_ | with_reducible exact w_retN ?_ | with_reducible refine w_drop ?_ | with_reducible refine w_ifs ?_ | with_reducible refine w_next ?_
  | with_reducible refine w_name ?_ | with_reducible refine w_gsub ?_ | ((with_reducible refine' w_var ?hx ?_); (case hx => exact rfl)) | with_reducible refine w_c ?_ | with_reducible refine w_op ?_ | with_reducible refine w_un ?_ | with_reducible refine w_cb ?_ | with_reducible refine w_call ?_
  | with_reducible refine w_nil ?_ | with_reducible refine w_cons ?_ | with_reducible refine w_test ?_ | with_reducible refine w_b ?_ | with_reducible refine w_bl ?_ | with_reducible refine w_not ?_ | with_reducible refine w_and ?_ | with_reducible refine w_or ?_
  | with_reducible refine w_notV ?_ | with_reducible refine w_blV ?_ | with_reducible refine w_I0 ?_ | ((with_reducible refine w_mulL ?_ ?_); · omega) | ((with_reducible refine w_mulR ?_ ?_); · omega) | ((with_reducible refine w_pow ?_ ?_); · decide)
  | with_reducible refine w_neg ?_ | ((with_reducible refine w_eq ?_ ?_); · exact rfl) | ((with_reducible refine w_ne ?_ ?_); · exact rfl) | with_reducible refine w_int1 ?_ | with_reducible refine w_abs ?_ | with_reducible refine w_max2 ?_ | with_reducible refine w_min2 ?_
  | with_reducible refine w_gcons ?_ | with_reducible refine w_gnil ?_ | with_reducible refine w_tup ?_ | with_reducible refine w_lst ?_ | with_reducible refine w_sl ?_ | with_reducible refine w_no ?_ | with_reducible refine w_part ?_ | with_reducible refine w_partI ?_ | with_reducible refine ⟨_, (rfl : V.int _ = V.int _), ?_⟩
  | with_reducible refine w_for ?_ | with_reducible refine w_iL ?_ | with_reducible refine w_iT ?_ | with_reducible refine w_iR ?_ | with_reducible refine w_yes ?_ | with_reducible refine w_setLc ?_ | with_reducible refine w_isB ?_)))

/-! the words' steps, reads of tuples and lists at hand, tests that are settled -/
local macro_rules | `(tactic| walk_at "g") => `(tactic| (repeat (first
  | with_reducible refine w_seq ?_ | with_reducible refine w_asg ?_ | with_reducible refine w_ret ?_ | with_reducible exact w_retN ?_ | with_reducible refine w_drop ?_ | with_reducible refine w_ifs ?_ | (with_reducible refine w_next ?_; try dsimp only)
  | with_reducible refine w_name ?_ | with_reducible refine w_gsub ?_ | ((with_reducible refine' w_var ?hx ?_); (case hx => exact rfl)) | with_reducible refine w_c ?_ | with_reducible refine w_op ?_ | with_reducible refine w_un ?_ | with_reducible refine w_cb ?_ | with_reducible refine w_call ?_
  | with_reducible refine w_nil ?_ | with_reducible refine w_cons ?_ | with_reducible refine w_test ?_ | with_reducible refine w_b ?_ | with_reducible refine w_bl ?_ | with_reducible refine w_not ?_ | with_reducible refine w_and ?_ | with_reducible refine w_or ?_
  | with_reducible refine w_notV ?_ | with_reducible refine w_blV ?_ | with_reducible refine w_I0 ?_ | ((with_reducible refine w_mulL ?_ ?_); · omega) | ((with_reducible refine w_mulR ?_ ?_); · omega) | ((with_reducible refine w_pow ?_ ?_); · decide)
  | with_reducible refine w_neg ?_ | ((with_reducible refine w_eq ?_ ?_); · exact rfl) | ((with_reducible refine w_ne ?_ ?_); · exact rfl) | with_reducible refine w_int1 ?_ | with_reducible refine w_abs ?_ | with_reducible refine w_max2 ?_ | with_reducible refine w_min2 ?_
  | with_reducible refine w_gcons ?_ | with_reducible refine w_gnil ?_ | with_reducible refine w_tup ?_ | with_reducible refine w_lst ?_ | with_reducible refine w_sl ?_ | with_reducible refine w_no ?_ | with_reducible refine w_part ?_ | with_reducible refine w_partI ?_ | with_reducible refine ⟨_, (rfl : V.int _ = V.int _), ?_⟩
  | with_reducible refine w_for ?_ | with_reducible refine w_iL ?_ | with_reducible refine w_iT ?_ | with_reducible refine w_iR ?_ | with_reducible refine w_yes ?_ | with_reducible refine w_setLc ?_ | with_reducible refine w_isB ?_
  | ((with_reducible refine' w_ixT (by assumption) ?hx ?_); (case hx => exact rfl)) | ((with_reducible refine' w_ixL (by assumption) ?hx ?_); (case hx => exact rfl)) | ((with_reducible refine w_lenT (by assumption) ?_)) | ((with_reducible refine w_lenL (by assumption) ?_)) | with_reducible refine w_callD ?_ | with_reducible refine w_if ?_ | with_reducible refine w_andV ?_ | with_reducible refine w_orV ?_
  | ((with_reducible refine w_ifT ?hx ?_); (case hx => rfl)) | ((with_reducible refine w_ifF ?hx ?_); (case hx => rfl)))))

section
variable {P : Program} {w : World} {K : PySem.W.Frag} {mg : Str → Option Value} {base : Heap} {TT : List (Addr × Str)}
/-! do -/
def spDo (K : PySem.W.Frag) (TT : List (Addr × Str)) : Sp := fun vs H Q E => ∃ (x l a : Addr) (rs bs : List Str) (ds : List Dd) (ps : List (List Str)) (d : Dd), vs = [.ref x, .ref a] ∧ Dk K H x l rs bs ds ps ∧ Dt H a d ∧ rs.length ≤ 30 ∧ ds.length ≤ 1000 ∧ ps.length ≤ 1000 ∧
  (∀ s, reasonD rs d = .str s → ∀ dd H', Same H H' → H' dd = some (.xd [("reason", .str s)]) → E (.ref (He.ga K "Barred")) (some dd) H') ∧
  (reasonD rs d = .non → ∀ H', Up TT [x, l] H H' → Dk K H' x l (behindD rs d) bs (ds ++ [d]) (ps ++ [rs]) → Q .non H')
theorem df_do (T : Kd P w K mg base) (D : DkK K mg) (A : AtM K (dkC K) "do" "Desk.do" s_Desk_do) (o_Barred : Own1 P w K mg base "Barred" "reason") (D_check_deed : Df P w K mg base (L2.CX P w) 4 "check_deed" ["value"] spDeed)
    (D_reason_against : Df P w K mg base CX0 1 "reason_against" ["rows", "deed"] (spReason K)) (D_rows_behind : Df P w K mg base CX0 1 "rows_behind" ["rows", "deed"] (spBehind K)) :
    DfM P w K mg base (L2.CX P w) 5 (dkC K) "do" ["self", "deed"] (spDo K TT) := by
  refine dfM_of A sc_Desk_do (fun _ _ _ _ _ _ us hl => match us, hl with | [_, _], _ => rfl) (fun vs H Q E h => by obtain ⟨x, l, a, rs, bs, ds, ps, d, rfl, _⟩ := h; rfl) (fun f cdv A outer s H vs Q E hrs h => ?_)
  have tk := takes_of (X := cxOf (L2.CX P w) P w K mg base ["self", "deed", "reason"] "Desk.do" (defScope s_Desk_do) f cdv A outer s H E) (E := E) rfl rfl rfl rfl
  refine ⟨_, (pss_cons (ps_expr (pe_dfX D_check_deed (hrs.mono (by decide)) (passes_call tk (fun _ _ _ _ h => h)) (pa_cons (pv 1) pa_nil)))
      (pss_cons (ps_set (i := 2) sc_Desk_do.nd rfl (Or.inl rfl) (pe_df D_reason_against (hrs.mono (by decide)) (pa_cons (pe_fld (pv 0) rfl) (pa_cons (pv 1) pa_nil))))
      (pss_cons (ps_if (pt_cmpR op_notN (pv 2) pe_non (nomark _)) (pss_one (ro_own1 (k := 0) tk o_Barred (hrs.mono (by decide)) (pa_cons (pv 2) pa_nil))) pss_nil)
      (pss_cons (ps_expr (pe_bm PySem.F.plainAttrs_list PySem.F.slot_list_append PySem.F.type_list_append mt_append (pe_fld (pv 0) rfl) (pa_cons (pe_fld (pv 0) rfl) pa_nil)))
      (pss_cons (ps_fld (pv 0) (pe_df D_rows_behind (hrs.mono (by decide)) (pa_cons (pe_fld (pv 0) rfl) (pa_cons (pv 1) pa_nil))) rfl)
      (pss_one (ps_fld (pv 0) (pe_op op_catA (pe_fld (pv 0) rfl) (pe_tup (pa_cons (pv 1) pa_nil))) rfl))))))), ?_⟩
  obtain ⟨x, l, a, rs, bs, ds, ps, d, rfl, ⟨dx, r, b, e, es, vs, k⟩, hd, hl, zd, zp, q1, q2⟩ := h
  have σe : L2.start ["self", "deed", "reason"] [.ref x, .ref a] = [some (.ref x), some (.ref a), none] := rfl
  rw [σe]
  dsimp only [cxOf]
  have na := fun f h => D.na f h
  refine w_seq (w_drop (w_call (w_cons (w_var (by rfl) (w_nil ⟨a, d, rfl, hd.1, hd.2, ?_⟩)))))
  dsimp only
  refine w_seq (w_asg (w_call (w_cons (w_fl (w_var (by rfl) ⟨x, dkC K, dx, _, .ref r, rfl, k.x, D.cls, na _ (by decide), rfl, w_cons (w_var (by rfl) (w_nil ⟨r, a, rs, d, rfl, k.r, hd.1, ?_⟩))⟩)))))
  refine w_name ?_
  dsimp only
  refine w_seq (w_ifs (w_test (w_op (w_var (by rfl) (w_c ⟨rfl, w_blV ?_⟩)))))
  have two : (∃ s, reasonD rs d = .str s) ∨ reasonD rs d = .non := by
    cases d with
    | put i s => unfold reasonD; (repeat' split) <;> first | exact .inr rfl | exact .inl ⟨_, rfl⟩
    | row i s => unfold reasonD; (repeat' split) <;> first | exact .inr rfl | exact .inl ⟨_, rfl⟩
    | out i => unfold reasonD; (repeat' split) <;> first | exact .inr rfl | exact .inl ⟨_, rfl⟩
  rcases two with ⟨z, hz⟩ | hz
  · rw [hz]
    refine w_ifT (by rw [decide_eq_false (fun q => nomatch q)]; rfl) ?_
    exact ra_is (v := .str z) (gva_cons (gv_var (by rfl)) stab_is gva_nil) fun dd H4 s4 _ h4 => q1 z hz dd _ s4 h4
  · have q := q2 hz
    rw [hz]
    refine w_ifF (by rw [decide_eq_true rfl]; rfl) (w_next ?_)
    dsimp only
    refine w_seq (w_drop ?_)
    have nxl : x ≠ l := fun z => by
      have := k.x
      rw [z, k.l] at this
      cases this
    have hz1 : (vs.map V.ref).length < sizeLine := by
      rw [List.length_map, Rws.len k.vs]
      show ps.length < 2 ^ 24
      omega
    refine w_fl (w_var (by rfl) ⟨x, dkC K, dx, _, .ref l, rfl, k.x, D.cls, na _ (by decide), rfl, ?tl, w_cons (w_fl (w_var (by rfl) ⟨x, dkC K, dx, _, .ref r, rfl, k.x, D.cls, na _ (by decide), rfl, w_nil ⟨l, vs.map V.ref, .ref r, rfl, rfl, k.l, hz1, ?_⟩⟩))⟩)
    case tl => exact .inl ⟨rfl, _, SqL.of k.l⟩
    dsimp only
    have u1 : Up TT [x, l] H (upd H l (.lst (vs.map V.ref ++ [.ref r]))) := up_set k.l mu_lst (by simp)
    have hx1 : upd H l (.lst (vs.map V.ref ++ [.ref r])) x = some (.ins (dkC K) dx (dkF r b e l)) := by
      rw [upd_ne nxl]
      exact k.x
    refine w_seq (w_sf (w_call (w_cons (w_fl (w_var (by rfl) ⟨x, dkC K, dx, _, .ref r, rfl, hx1, D.cls, na _ (by decide), rfl, w_cons (w_var (by rfl) (w_nil ⟨r, a, rs, d, rfl, u1.seqT k.r, u1.tup _ _ hd.1, hl, fun r' H2 s2 hr' => ?_⟩))⟩)))))
    have hx2 := s2 _ _ hx1
    refine w_var (by rfl) ⟨x, dkC K, dx, _, rfl, hx2, D.cls, na _ (by decide), (by show 4 < 1000; decide), ?_⟩
    have u2 := u1.trans (Up.of (A := [x, l]) s2)
    have u3 := u2.trans (up_set (TT := TT) (A := [x, l]) (o' := .ins (dkC K) dx (dkF r' b e l)) hx2 mu_ins (by simp))
    dsimp only
    have he3 := u3.seqT k.e
    refine w_sf (w_op (w_fl (w_var (by rfl) ⟨x, dkC K, dx, _, .ref e, rfl, upd_same, D.cls, na _ (by decide), rfl, w_tup (w_cons (w_var (by rfl) (w_nil ⟨(by show 1 ≤ 2 ^ 24; decide), fun t1 ht1 => w_catT ((Up.of (TT := TT) (A := []) (same_newT ht1)).seqT he3) (SqT.of upd_same) ?lt fun e' H4 s4 he' => ?_⟩)))⟩)))
    case lt =>
      rw [List.length_map, Deeds.len k.es]
      show ds.length + 1 ≤ 2 ^ 24
      omega
    have u4 := u3.trans (Up.of (A := [x, l]) ((same_newT (o := .tup [.ref a]) ht1).trans s4))
    have hx4 := s4 _ _ ((same_newT (o := .tup [.ref a]) ht1) _ _ (upd_same (H := H2) (a := x) (o := .ins (dkC K) dx (dkF r' b e l))))
    refine w_var (by rfl) ⟨x, dkC K, dx, _, rfl, hx4, D.cls, na _ (by decide), (by show 4 < 1000; decide), ?_⟩
    have u5 := u4.trans (up_set (TT := TT) (A := [x, l]) (o' := .ins (dkC K) dx (dkF r' b e' l)) hx4 mu_ins (by simp))
    have v5 : Up TT [x, l] H2 _ := ((up_set (TT := TT) (A := [x, l]) (o' := .ins (dkC K) dx (dkF r' b e l)) hx2 mu_ins (by simp)).trans (Up.of (A := [x, l]) ((same_newT (o := .tup [.ref a]) ht1).trans s4))).trans (up_set (TT := TT) (A := [x, l]) (o' := .ins (dkC K) dx (dkF r' b e' l)) hx4 mu_ins (by simp))
    refine q _ u5 ⟨dx, r', b, e', es ++ [a], vs ++ [r], ⟨upd_same, v5.seqT hr', u5.seqT k.b, ?_, Deeds.app ⟨u5.tup _ _ hd.1, hd.2⟩ (k.es.up u5), ?_, Rws.app (u5.seqT k.r) (k.vs.up u5)⟩⟩
    · rw [List.map_append]
      exact (up_set (TT := TT) (A := [x, l]) (o' := .ins (dkC K) dx (dkF r' b e' l)) hx4 mu_ins (by simp)).seqT he'
    · rw [upd_ne (Ne.symm nxl), List.map_append]
      refine s4 _ _ (same_newT ht1 _ _ ?_)
      rw [upd_ne (Ne.symm nxl)]
      exact s2 _ _ upd_same
end
end K11

set_option Elab.async false
set_option linter.all false
set_option maxRecDepth 100000
set_option maxHeartbeats 4000000
namespace K11
open PySem PySem.Spec PyProof.Rows L2 LamX EqX
/-! the words' steps, one after another -/
local macro_rules | `(tactic| walk_at "w") => `(tactic| (repeat (first
  | with_reducible refine w_seq ?_ | with_reducible refine w_asg ?_ | with_reducible refine w_ret ?_ | with_reducible exact w_retN ?_ | with_reducible refine w_drop ?_ | with_reducible refine w_ifs ?_ | with_reducible refine w_next ?_
  | with_reducible refine w_name ?_ | with_reducible refine w_gsub ?_ | ((with_reducible refine' w_var ?hx ?_); (case hx => exact rfl)) | with_reducible refine w_c ?_ | with_reducible refine w_op ?_ | with_reducible refine w_un ?_ | with_reducible refine w_cb ?_ | with_reducible refine w_call ?_
  | with_reducible refine w_nil ?_ | with_reducible refine w_cons ?_ | with_reducible refine w_test ?_ | with_reducible refine w_b ?_ | with_reducible refine w_bl ?_ | with_reducible refine w_not ?_ | with_reducible refine w_and ?_ | with_reducible refine w_or ?_
  | with_reducible refine w_notV ?_ | with_reducible refine w_blV ?_ | with_reducible refine w_I0 ?_ | ((with_reducible refine w_mulL ?_ ?_); · omega) | ((with_reducible refine w_mulR ?_ ?_); · omega) | ((with_reducible refine w_pow ?_ ?_); · decide)
  | with_reducible refine w_neg ?_ | ((with_reducible refine w_eq ?_ ?_); · exact rfl) | ((with_reducible refine w_ne ?_ ?_); · exact rfl) | with_reducible refine w_int1 ?_ | with_reducible refine w_abs ?_ | with_reducible refine w_max2 ?_ | with_reducible refine w_min2 ?_
  | with_reducible refine w_gcons ?_ | with_reducible refine w_gnil ?_ | with_reducible refine w_tup ?_ | with_reducible refine w_lst ?_ | with_reducible refine w_sl ?_ | with_reducible refine w_no ?_ | with_reducible refine w_part ?_ | with_reducible refine w_partI ?_ | with_reducible refine ⟨_, (rfl : V.int _ = V.int _), ?_⟩
  | with_reducible refine w_for ?_ | with_reducible refine w_iL ?_ | with_reducible refine w_iT ?_ | with_reducible refine w_iR ?_ | with_reducible refine w_yes ?_ | with_reducible refine w_setLc ?_ | with_reducible refine w_isB ?_)))

/-! the words' steps, reads of tuples and lists at hand, tests that are settled -/
local macro_rules | `(tactic| walk_at "g") => `(tactic| (repeat (first
  | with_reducible refine w_seq ?_ | with_reducible refine w_asg ?_ | with_reducible refine w_ret ?_ | with_reducible exact w_retN ?_ | with_reducible refine w_drop ?_ | with_reducible refine w_ifs ?_ | (with_reducible refine w_next ?_; try dsimp only)
  | with_reducible refine w_name ?_ | with_reducible refine w_gsub ?_ | ((with_reducible refine' w_var ?hx ?_); (case hx => exact rfl)) | with_reducible refine w_c ?_ | with_reducible refine w_op ?_ | with_reducible refine w_un ?_ | with_reducible refine w_cb ?_ | with_reducible refine w_call ?_
  | with_reducible refine w_nil ?_ | with_reducible refine w_cons ?_ | with_reducible refine w_test ?_ | with_reducible refine w_b ?_ | with_reducible refine w_bl ?_ | with_reducible refine w_not ?_ | with_reducible refine w_and ?_ | with_reducible refine w_or ?_
  | with_reducible refine w_notV ?_ | with_reducible refine w_blV ?_ | with_reducible refine w_I0 ?_ | ((with_reducible refine w_mulL ?_ ?_); · omega) | ((with_reducible refine w_mulR ?_ ?_); · omega) | ((with_reducible refine w_pow ?_ ?_); · decide)
  | with_reducible refine w_neg ?_ | ((with_reducible refine w_eq ?_ ?_); · exact rfl) | ((with_reducible refine w_ne ?_ ?_); · exact rfl) | with_reducible refine w_int1 ?_ | with_reducible refine w_abs ?_ | with_reducible refine w_max2 ?_ | with_reducible refine w_min2 ?_
  | with_reducible refine w_gcons ?_ | with_reducible refine w_gnil ?_ | with_reducible refine w_tup ?_ | with_reducible refine w_lst ?_ | with_reducible refine w_sl ?_ | with_reducible refine w_no ?_ | with_reducible refine w_part ?_ | with_reducible refine w_partI ?_ | with_reducible refine ⟨_, (rfl : V.int _ = V.int _), ?_⟩
  | with_reducible refine w_for ?_ | with_reducible refine w_iL ?_ | with_reducible refine w_iT ?_ | with_reducible refine w_iR ?_ | with_reducible refine w_yes ?_ | with_reducible refine w_setLc ?_ | with_reducible refine w_isB ?_
  | ((with_reducible refine' w_ixT (by assumption) ?hx ?_); (case hx => exact rfl)) | ((with_reducible refine' w_ixL (by assumption) ?hx ?_); (case hx => exact rfl)) | ((with_reducible refine w_lenT (by assumption) ?_)) | ((with_reducible refine w_lenL (by assumption) ?_)) | with_reducible refine w_callD ?_ | with_reducible refine w_if ?_ | with_reducible refine w_andV ?_ | with_reducible refine w_orV ?_
  | ((with_reducible refine w_ifT ?hx ?_); (case hx => rfl)) | ((with_reducible refine w_ifF ?hx ?_); (case hx => rfl)))))

/-! ### rows and deeds as data -/
abbrev sO (r : List Str) : Prop := ∀ z ∈ r, PyData.strOk z = true
def rowD (r : List Str) : PyData := .tuple (r.map PyData.str)
def Dd.so : Dd → Bool
  | .put _ s => PyData.strOk s
  | .row _ s => PyData.strOk s
  | .out _ => true
def Dd.d : Dd → PyData
  | .put i s => .tuple [.str "put", .int (i : Int), .str s]
  | .row i s => .tuple [.str "row", .int (i : Int), .str s]
  | .out i => .tuple [.str "out", .int (i : Int)]
section
variable {K : PySem.W.Frag} {H : Hp}
theorem dp_strs : ∀ r : List Str, DpAll K H (r.map V.str) (r.map PyData.str)
  | [] => .nil
  | z :: r => .cons (.str z) (dp_strs r)
theorem dp_row {a : Addr} {r : List Str} (h : SqT K H a (sv r)) : Dp K H (.ref a) (rowD r) := .tup h (dp_strs r)
theorem dp_rws : ∀ {vs : List Addr} {ps : List (List Str)}, Rws K H vs ps → DpAll K H (vs.map V.ref) (ps.map rowD)
  | [], [], _ => .nil
  | _ :: _, _ :: _, h => .cons (dp_row h.1) (dp_rws h.2)
  | [], _ :: _, h => h.elim
  | _ :: _, [], h => h.elim
theorem dp_dd {a : Addr} {d : Dd} (h : H a = some (.tup d.vs)) : Dp K H (.ref a) d.d := by
  cases d with
  | put i s => exact .tup (SqT.of h) (.cons (.str _) (.cons (.int _) (.cons (.str _) .nil)))
  | row i s => exact .tup (SqT.of h) (.cons (.str _) (.cons (.int _) (.cons (.str _) .nil)))
  | out i => exact .tup (SqT.of h) (.cons (.str _) (.cons (.int _) .nil))
theorem dp_deeds : ∀ {es : List Addr} {ds : List Dd}, Deeds H es ds → DpAll K H (es.map V.ref) (ds.map Dd.d)
  | [], [], _ => .nil
  | _ :: _, _ :: _, h => .cons (dp_dd h.1.1) (dp_deeds h.2)
  | [], _ :: _, h => h.elim
  | _ :: _, [], h => h.elim
end
theorem lay_strs : ∀ {r : List Str}, sO r → PyData.canLayAll0 (r.map PyData.str) = true
  | [], _ => by rfl
  | z :: r, h => by
    have h1 := h z (by simp)
    have h2 := lay_strs (r := r) fun y hy => h y (by simp [hy])
    simp only [List.map_cons, PyData.canLayAll0, PyData.canLay0, h1, h2, Bool.and_self]
theorem lay_row {r : List Str} (h : sO r) : PyData.canLay0 (rowD r) = true := by
  unfold rowD
  simp only [PyData.canLay0]
  exact lay_strs h
theorem lay_rows : ∀ {ps : List (List Str)}, (∀ r ∈ ps, sO r) → PyData.canLayAll0 (ps.map rowD) = true
  | [], _ => by rfl
  | r :: ps, h => by
    have h1 := lay_row (h r (by simp))
    have h2 := lay_rows (ps := ps) fun y hy => h y (by simp [hy])
    simp only [List.map_cons, PyData.canLayAll0, h1, h2, Bool.and_self]
theorem lay_dd {d : Dd} (h : d.so = true) : PyData.canLay0 d.d = true := by
  cases d with
  | put i s =>
    have h : PyData.strOk s = true := h
    simp only [Dd.d, PyData.canLay0, PyData.canLayAll0, h, Bool.and_true, Bool.true_and]
    decide +kernel
  | row i s =>
    have h : PyData.strOk s = true := h
    simp only [Dd.d, PyData.canLay0, PyData.canLayAll0, h, Bool.and_true, Bool.true_and]
    decide +kernel
  | out i =>
    simp only [Dd.d, PyData.canLay0, PyData.canLayAll0, Bool.and_true, Bool.true_and]
    decide +kernel
theorem lay_deeds : ∀ {ds : List Dd}, (∀ d ∈ ds, d.so = true) → PyData.canLayAll0 (ds.map Dd.d) = true
  | [], _ => by rfl
  | d :: ds, h => by
    have h1 := lay_dd (h d (by simp))
    have h2 := lay_deeds (ds := ds) fun y hy => h y (by simp [hy])
    simp only [List.map_cons, PyData.canLayAll0, h1, h2, Bool.and_self]
theorem dep_strs : ∀ r : List Str, PyData.depthAll (r.map PyData.str) = 0
  | [] => by rfl
  | z :: r => by
    have h2 := dep_strs r
    simp only [List.map_cons, PyData.depthAll, PyData.depth, h2, Nat.max_self]
theorem dep_row (r : List Str) : PyData.depth (rowD r) = 1 := by
  unfold rowD
  simp only [PyData.depth, dep_strs]
theorem dep_rows : ∀ ps : List (List Str), PyData.depthAll (ps.map rowD) ≤ 1
  | [] => by decide +kernel
  | r :: ps => by
    have h2 := dep_rows ps
    simp only [List.map_cons, PyData.depthAll, dep_row]
    omega
theorem dep_dd (d : Dd) : PyData.depth d.d = 1 := by
  cases d <;> (simp only [Dd.d, PyData.depth, PyData.depthAll]; decide +kernel)
theorem dep_deeds : ∀ ds : List Dd, PyData.depthAll (ds.map Dd.d) ≤ 1
  | [] => by decide +kernel
  | d :: ds => by
    have h2 := dep_deeds ds
    simp only [List.map_cons, PyData.depthAll, dep_dd]
    omega
theorem eqv_str (x y : Str) : PyData.eqv (.str x) (.str y) = decide (x = y) := by
  simp only [PyData.eqv]
  by_cases h : x = y
  · rw [decide_eq_true h, h]
    exact beq_self_eq_true y
  · rw [decide_eq_false h]
    exact beq_eq_false_iff_ne.mpr h
theorem eqv_strs : ∀ r t : List Str, PyData.eqvAll (r.map PyData.str) (t.map PyData.str) = decide (r = t)
  | [], [] => by decide +kernel
  | [], _ :: _ => by simp [PyData.eqvAll]
  | _ :: _, [] => by simp [PyData.eqvAll]
  | x :: r, y :: t => by
    simp only [List.map_cons, PyData.eqvAll, eqv_str, eqv_strs r t, List.cons.injEq, Bool.decide_and]
theorem eqv_row (r t : List Str) : PyData.eqv (rowD r) (rowD t) = decide (r = t) := by
  unfold rowD
  simp only [PyData.eqv]
  exact eqv_strs r t
theorem eqv_int (i j : Nat) : PyData.eqv (.int (i : Int)) (.int (j : Int)) = decide (i = j) := by
  simp only [PyData.eqv]
  by_cases h : i = j
  · rw [decide_eq_true h, h]
    exact beq_self_eq_true _
  · rw [decide_eq_false h]
    exact beq_eq_false_iff_ne.mpr fun z => h (by omega)
theorem eqv_put (k l : Str) (i j : Nat) (s t : Str) : PyData.eqv (.tuple [.str k, .int (i : Int), .str s]) (.tuple [.str l, .int (j : Int), .str t]) = (decide (k = l) && (decide (i = j) && decide (s = t))) := by
  have h : PyData.eqv (.tuple [.str k, .int (i : Int), .str s]) (.tuple [.str l, .int (j : Int), .str t]) = (PyData.eqv (.str k) (.str l) && (PyData.eqv (.int (i : Int)) (.int (j : Int)) && (PyData.eqv (.str s) (.str t) && true))) := by
    rfl
  rw [h, eqv_str, eqv_int, eqv_str, Bool.and_true]
theorem eqv_out (k l : Str) (i j : Nat) : PyData.eqv (.tuple [.str k, .int (i : Int)]) (.tuple [.str l, .int (j : Int)]) = (decide (k = l) && decide (i = j)) := by
  have h : PyData.eqv (.tuple [.str k, .int (i : Int)]) (.tuple [.str l, .int (j : Int)]) = (PyData.eqv (.str k) (.str l) && (PyData.eqv (.int (i : Int)) (.int (j : Int)) && true)) := by
    rfl
  rw [h, eqv_str, eqv_int, Bool.and_true]
theorem eqv_po (k l : Str) (i j : Nat) (s : Str) : PyData.eqv (.tuple [.str k, .int (i : Int), .str s]) (.tuple [.str l, .int (j : Int)]) = false := by
  simp only [PyData.eqv, PyData.eqvAll, Bool.and_false]
theorem eqv_op (k l : Str) (i j : Nat) (s : Str) : PyData.eqv (.tuple [.str l, .int (j : Int)]) (.tuple [.str k, .int (i : Int), .str s]) = false := by
  simp only [PyData.eqv, PyData.eqvAll, Bool.and_false]
theorem eqv_dd (d e : Dd) : PyData.eqv d.d e.d = decide (d = e) := by
  cases d <;> cases e <;> unfold Dd.d <;> first | rw [eqv_put] | rw [eqv_out] | rw [eqv_po] | rw [eqv_op]
  · rw [decide_eq_true (p := ("put" : Str) = "put") rfl, Bool.true_and, ← Bool.decide_and]
    exact decide_eq_decide.mpr ⟨fun h => by rw [h.1, h.2], fun h => by injection h with a b; exact ⟨a, b⟩⟩
  · rw [decide_eq_false (p := ("put" : Str) = "row") (by decide), Bool.false_and]
    exact (decide_eq_false (fun z => nomatch z)).symm
  · exact (decide_eq_false (fun z => nomatch z)).symm
  · rw [decide_eq_false (p := ("row" : Str) = "put") (by decide), Bool.false_and]
    exact (decide_eq_false (fun z => nomatch z)).symm
  · rw [decide_eq_true (p := ("row" : Str) = "row") rfl, Bool.true_and, ← Bool.decide_and]
    exact decide_eq_decide.mpr ⟨fun h => by rw [h.1, h.2], fun h => by injection h with a b; exact ⟨a, b⟩⟩
  · exact (decide_eq_false (fun z => nomatch z)).symm
  · exact (decide_eq_false (fun z => nomatch z)).symm
  · exact (decide_eq_false (fun z => nomatch z)).symm
  · rw [decide_eq_true (p := ("out" : Str) = "out") rfl, Bool.true_and]
    exact decide_eq_decide.mpr ⟨fun h => by rw [h], fun h => by injection h⟩
theorem eqv_deeds : ∀ r t : List Dd, PyData.eqvAll (r.map Dd.d) (t.map Dd.d) = decide (r = t)
  | [], [] => by decide +kernel
  | [], _ :: _ => by simp [PyData.eqvAll]
  | _ :: _, [] => by simp [PyData.eqvAll]
  | x :: r, y :: t => by
    simp only [List.map_cons, PyData.eqvAll, eqv_dd, eqv_deeds r t, List.cons.injEq, Bool.decide_and]
end K11

set_option Elab.async false
set_option linter.all false
set_option maxRecDepth 100000
set_option maxHeartbeats 4000000
namespace K11
open PySem PySem.Spec PyProof.Rows L2 LamX EqX
/-! the words' steps, one after another -/
local macro_rules | `(tactic| walk_at "w") => `(tactic| (repeat (first
  | with_reducible refine w_seq ?_ | with_reducible refine w_asg ?_ | with_reducible refine w_ret ?_ | with_reducible exact w_retN ?_ | with_reducible refine w_drop ?_ | with_reducible refine w_ifs ?_ | with_reducible refine w_next ?_
  | with_reducible refine w_name ?_ | with_reducible refine w_gsub ?_ | ((with_reducible refine' w_var ?hx ?_); (case hx => exact rfl)) | with_reducible refine w_c ?_ | with_reducible refine w_op ?_ | with_reducible refine w_un ?_ | with_reducible refine w_cb ?_ | with_reducible refine w_call ?_
  | with_reducible refine w_nil ?_ | with_reducible refine w_cons ?_ | with_reducible refine w_test ?_ | with_reducible refine w_b ?_ | with_reducible refine w_bl ?_ | with_reducible refine w_not ?_ | with_reducible refine w_and ?_ | with_reducible refine w_or ?_
  | with_reducible refine w_notV ?_ | with_reducible refine w_blV ?_ | with_reducible refine w_I0 ?_ | ((with_reducible refine w_mulL ?_ ?_); · omega) | ((with_reducible refine w_mulR ?_ ?_); · omega) | ((with_reducible refine w_pow ?_ ?_); · decide)
  | with_reducible refine w_neg ?_ | ((with_reducible refine w_eq ?_ ?_); · exact rfl) | ((with_reducible refine w_ne ?_ ?_); · exact rfl) | with_reducible refine w_int1 ?_ | with_reducible refine w_abs ?_ | with_reducible refine w_max2 ?_ | with_reducible refine w_min2 ?_
  | with_reducible refine w_gcons ?_ | with_reducible refine w_gnil ?_ | with_reducible refine w_tup ?_ | with_reducible refine w_lst ?_ | with_reducible refine w_sl ?_ | with_reducible refine w_no ?_ | with_reducible refine w_part ?_ | with_reducible refine w_partI ?_ | with_reducible refine ⟨_, (rfl : V.int _ = V.int _), ?_⟩
  | with_reducible refine w_for ?_ | with_reducible refine w_iL ?_ | with_reducible refine w_iT ?_ | with_reducible refine w_iR ?_ | with_reducible refine w_yes ?_ | with_reducible refine w_setLc ?_ | with_reducible refine w_isB ?_)))

/-! the words' steps, reads of tuples and lists at hand, tests that are settled -/
local macro_rules | `(tactic| walk_at "g") => `(tactic| (repeat (first
  | with_reducible refine w_seq ?_ | with_reducible refine w_asg ?_ | with_reducible refine w_ret ?_ | with_reducible exact w_retN ?_ | with_reducible refine w_drop ?_ | with_reducible refine w_ifs ?_ | (with_reducible refine w_next ?_; try dsimp only)
  | with_reducible refine w_name ?_ | with_reducible refine w_gsub ?_ | ((with_reducible refine' w_var ?hx ?_); (case hx => exact rfl)) | with_reducible refine w_c ?_ | with_reducible refine w_op ?_ | with_reducible refine w_un ?_ | with_reducible refine w_cb ?_ | with_reducible refine w_call ?_
  | with_reducible refine w_nil ?_ | with_reducible refine w_cons ?_ | with_reducible refine w_test ?_ | with_reducible refine w_b ?_ | with_reducible refine w_bl ?_ | with_reducible refine w_not ?_ | with_reducible refine w_and ?_ | with_reducible refine w_or ?_
  | with_reducible refine w_notV ?_ | with_reducible refine w_blV ?_ | with_reducible refine w_I0 ?_ | ((with_reducible refine w_mulL ?_ ?_); · omega) | ((with_reducible refine w_mulR ?_ ?_); · omega) | ((with_reducible refine w_pow ?_ ?_); · decide)
  | with_reducible refine w_neg ?_ | ((with_reducible refine w_eq ?_ ?_); · exact rfl) | ((with_reducible refine w_ne ?_ ?_); · exact rfl) | with_reducible refine w_int1 ?_ | with_reducible refine w_abs ?_ | with_reducible refine w_max2 ?_ | with_reducible refine w_min2 ?_
  | with_reducible refine w_gcons ?_ | with_reducible refine w_gnil ?_ | with_reducible refine w_tup ?_ | with_reducible refine w_lst ?_ | with_reducible refine w_sl ?_ | with_reducible refine w_no ?_ | with_reducible refine w_part ?_ | with_reducible refine w_partI ?_ | with_reducible refine ⟨_, (rfl : V.int _ = V.int _), ?_⟩
  | with_reducible refine w_for ?_ | with_reducible refine w_iL ?_ | with_reducible refine w_iT ?_ | with_reducible refine w_iR ?_ | with_reducible refine w_yes ?_ | with_reducible refine w_setLc ?_ | with_reducible refine w_isB ?_
  | ((with_reducible refine' w_ixT (by assumption) ?hx ?_); (case hx => exact rfl)) | ((with_reducible refine' w_ixL (by assumption) ?hx ?_); (case hx => exact rfl)) | ((with_reducible refine w_lenT (by assumption) ?_)) | ((with_reducible refine w_lenL (by assumption) ?_)) | with_reducible refine w_callD ?_ | with_reducible refine w_if ?_ | with_reducible refine w_andV ?_ | with_reducible refine w_orV ?_
  | ((with_reducible refine w_ifT ?hx ?_); (case hx => rfl)) | ((with_reducible refine w_ifF ?hx ?_); (case hx => rfl)))))

section
variable {P : Program} {w : World} {K : PySem.W.Frag} {mg : Str → Option Value} {base : Heap} {TT : List (Addr × Str)}
def spUndo (K : PySem.W.Frag) (TT : List (Addr × Str)) : Sp := fun vs H Q E => ∃ (x l : Addr) (rs bs : List Str) (ds : List Dd) (ps : List (List Str)), vs = [.ref x] ∧ Dk K H x l rs bs ds ps ∧ (∀ r ∈ ps, sO r) ∧
  (ps = [] → ∀ H', Same H H' → E (.ref (He.ga K "NothingToUndo")) none H') ∧
  (∀ ps' r, ps = ps' ++ [r] → ∀ H', Up TT [x, l] H H' → Dk K H' x l r bs ds.dropLast ps' → Q .non H')
theorem df_undo (T : Kd P w K mg base) (D : DkK K mg) (A : AtM K (dkC K) "undo" "Desk.undo" s_Desk_undo) (z_NothingToUndo : Own0 K mg "NothingToUndo") :
    DfM P w K mg base (L2.CX P w) 5 (dkC K) "undo" ["self"] (spUndo K TT) := by
  refine dfM_of A sc_Desk_undo (fun _ _ _ _ _ _ us hl => match us, hl with | [_], _ => rfl) (fun vs H Q E h => by obtain ⟨x, l, rs, bs, ds, ps, rfl, _⟩ := h; rfl) (fun f cdv A outer s H vs Q E hrs h => ?_)
  have tk := takes_of (X := cxOf (L2.CX P w) P w K mg base ["self"] "Desk.undo" (defScope s_Desk_undo) f cdv A outer s H E) (E := E) rfl rfl rfl rfl
  refine ⟨_, (pss_cons (ps_if (pt_cmpR (op_eqD (Nat.lt_of_le_of_lt (Nat.add_le_add_left (by decide) _) hrs.un)) (pe_fld (pv 0) rfl) (pe_lst pa_nil) (nomark _)) (pss_one (ro_own0 tk z_NothingToUndo)) pss_nil)
      (pss_cons (ps_fld (pv 0) (pe_bm0 PySem.F.plainAttrs_list PySem.F.slot_list_pop PySem.F.type_list_pop mt_pop (pe_fld (pv 0) rfl)) rfl)
      (pss_one (ps_fld (pv 0) (pe_slice sl_tupA (pe_fld (pv 0) rfl) po_none (po_some (pe_un un_neg pe_int))) rfl)))), ?_⟩
  obtain ⟨x, l, rs, bs, ds, ps, rfl, ⟨dx, r, b, e, es, vs, k⟩, so, q1, q2⟩ := h
  have σe : L2.start ["self"] [.ref x] = [some (.ref x)] := rfl
  rw [σe]
  dsimp only [cxOf]
  have na := fun f h => D.na f h
  refine w_seq (w_ifs (w_test (w_op (w_fl (w_var (by rfl) ⟨x, dkC K, dx, _, .ref l, rfl, k.x, D.cls, na _ (by decide), rfl, w_lst (w_nil ⟨(by show 0 ≤ 2 ^ 24; decide), fun q hq => ?_⟩)⟩)))))
  have s1 : Same H (upd H q (.lst [])) := same_newT hq
  have u1 : Up TT [x, l] H (upd H q (.lst [])) := Up.of s1
  refine ⟨.list (ps.map rowD), .list [], .lst (SqL.of (s1 _ _ k.l)) (dp_rws (k.vs.up u1)), .lst (SqL.of upd_same) .nil, ?_, rfl, w_blV ?_⟩
  · unfold SeqAt.shaped
    rw [Bool.and_eq_true, decide_eq_true_iff]
    refine ⟨?_, ?_⟩
    · simp only [PyData.canLay0]
      exact lay_rows so
    · simp only [PyData.depth]
      have := dep_rows ps
      omega
  · cases ps with
    | nil =>
      refine w_ifT (by rfl) ?_
      exact q1 rfl _ s1
    | cons r0 ps0 =>
      refine w_ifF (by simp only [List.map_cons, PyData.eqv, PyData.eqvAll]) (w_next ?_)
      dsimp only
      obtain ⟨ps', r', hps⟩ : ∃ ps' r', r0 :: ps0 = ps' ++ [r'] := ⟨(r0 :: ps0).dropLast, (r0 :: ps0).getLast (by simp), (List.dropLast_concat_getLast (by simp)).symm⟩
      rw [hps] at k
      obtain ⟨vs', a', rfl, hv', ha'⟩ := Rws.back k.vs
      have nxl : x ≠ l := fun z => by
        have := k.x
        rw [z, k.l] at this
        cases this
      have hx1 := s1 _ _ k.x
      have hl1 := s1 _ _ k.l
      have hpop : ((vs' ++ [a']).map V.ref)[((vs' ++ [a']).map V.ref).length - 1]? = some (.ref a') := by simp
      have hdl : ((vs' ++ [a']).map V.ref).dropLast = vs'.map V.ref := by simp
      refine w_seq (w_sf (w_fl (w_var (by rfl) ⟨x, dkC K, dx, _, .ref l, rfl, hx1, D.cls, na _ (by decide), rfl, .inl ⟨rfl, _, SqL.of hl1⟩, l, _, .ref a', rfl, rfl, hl1, hpop, ?_⟩)))
      rw [hdl]
      have u2 := u1.trans (up_set (TT := TT) (A := [x, l]) (o' := .lst (vs'.map V.ref)) hl1 mu_lst (by simp))
      have hx2 : upd (upd H q (.lst [])) l (.lst (vs'.map V.ref)) x = some (.ins (dkC K) dx (dkF r b e l)) := by
        rw [upd_ne nxl]
        exact hx1
      refine w_var (by rfl) ⟨x, dkC K, dx, _, rfl, hx2, D.cls, na _ (by decide), (by show 4 < 1000; decide), ?_⟩
      have u3 := u2.trans (up_set (TT := TT) (A := [x, l]) (o' := .ins (dkC K) dx (dkF a' b e l)) hx2 mu_ins (by simp))
      dsimp only
      have he3 := u3.seqT k.e
      refine w_sf (w_sl (w_fl (w_var (by rfl) ⟨x, dkC K, dx, _, .ref e, rfl, upd_same, D.cls, na _ (by decide), rfl, w_no (w_part (w_un (w_c (w_neg ⟨-1, rfl, ?_⟩))))⟩)))
      refine w_slT he3 fun e' H4 s4 he' => ?_
      rw [cut_butLast] at he'
      have hx4 := s4 _ _ (upd_same (H := upd (upd H q (.lst [])) l (.lst (vs'.map V.ref))) (a := x) (o := .ins (dkC K) dx (dkF a' b e l)))
      refine w_var (by rfl) ⟨x, dkC K, dx, _, rfl, hx4, D.cls, na _ (by decide), (by show 4 < 1000; decide), ?_⟩
      have v := up_set (TT := TT) (A := [x, l]) (o' := .ins (dkC K) dx (dkF a' b e' l)) hx4 mu_ins (by simp)
      have u5 := (u3.trans (Up.of (A := [x, l]) s4)).trans v
      refine q2 ps' r' hps _ u5 ⟨dx, a', b, e', es.dropLast, vs', ⟨upd_same, u5.seqT ha', u5.seqT k.b, ?_, (k.es.last).up u5, ?_, hv'.up u5⟩⟩
      · have := v.seqT he'
        rw [List.map_dropLast] 
        exact this
      · rw [upd_ne (Ne.symm nxl)]
        refine s4 _ _ ?_
        rw [upd_ne (Ne.symm nxl)]
        exact upd_same
end
end K11

set_option Elab.async false
set_option linter.all false
set_option maxRecDepth 100000
set_option maxHeartbeats 4000000
namespace K11
open PySem PySem.Spec PyProof.Rows L2 LamX EqX
/-! the words' steps, one after another -/
local macro_rules | `(tactic| walk_at "w") => `(tactic| (repeat (first
  | with_reducible refine w_seq ?_ | with_reducible refine w_asg ?_ | with_reducible refine w_ret ?_ | with_reducible exact w_retN ?_ | with_reducible refine w_drop ?_ | with_reducible refine w_ifs ?_ | with_reducible refine w_next ?_
  | with_reducible refine w_name ?_ | with_reducible refine w_gsub ?_ | ((with_reducible refine' w_var ?hx ?_); (case hx => exact rfl)) | with_reducible refine w_c ?_ | with_reducible refine w_op ?_ | with_reducible refine w_un ?_ | with_reducible refine w_cb ?_ | with_reducible refine w_call ?_
  | with_reducible refine w_nil ?_ | with_reducible refine w_cons ?_ | with_reducible refine w_test ?_ | with_reducible refine w_b ?_ | with_reducible refine w_bl ?_ | with_reducible refine w_not ?_ | with_reducible refine w_and ?_ | with_reducible refine w_or ?_
  | with_reducible refine w_notV ?_ | with_reducible refine w_blV ?_ | with_reducible refine w_I0 ?_ | ((with_reducible refine w_mulL ?_ ?_); · omega) | ((with_reducible refine w_mulR ?_ ?_); · omega) | ((with_reducible refine w_pow ?_ ?_); · decide)
  | with_reducible refine w_neg ?_ | ((with_reducible refine w_eq ?_ ?_); · exact rfl) | ((with_reducible refine w_ne ?_ ?_); · exact rfl) | with_reducible refine w_int1 ?_ | with_reducible refine w_abs ?_ | with_reducible refine w_max2 ?_ | with_reducible refine w_min2 ?_
  | with_reducible refine w_gcons ?_ | with_reducible refine w_gnil ?_ | with_reducible refine w_tup ?_ | with_reducible refine w_lst ?_ | with_reducible refine w_sl ?_ | with_reducible refine w_no ?_ | with_reducible refine w_part ?_ | with_reducible refine w_partI ?_ | with_reducible refine ⟨_, (rfl : V.int _ = V.int _), ?_⟩
  | with_reducible refine w_for ?_ | with_reducible refine w_iL ?_ | with_reducible refine w_iT ?_ | with_reducible refine w_iR ?_ | with_reducible refine w_yes ?_ | with_reducible refine w_setLc ?_ | with_reducible refine w_isB ?_)))

/-! the words' steps, reads of tuples and lists at hand, tests that are settled -/
local macro_rules | `(tactic| walk_at "g") => `(tactic| (repeat (first
  | with_reducible refine w_seq ?_ | with_reducible refine w_asg ?_ | with_reducible refine w_ret ?_ | with_reducible exact w_retN ?_ | with_reducible refine w_drop ?_ | with_reducible refine w_ifs ?_ | (with_reducible refine w_next ?_; try dsimp only)
  | with_reducible refine w_name ?_ | with_reducible refine w_gsub ?_ | ((with_reducible refine' w_var ?hx ?_); (case hx => exact rfl)) | with_reducible refine w_c ?_ | with_reducible refine w_op ?_ | with_reducible refine w_un ?_ | with_reducible refine w_cb ?_ | with_reducible refine w_call ?_
  | with_reducible refine w_nil ?_ | with_reducible refine w_cons ?_ | with_reducible refine w_test ?_ | with_reducible refine w_b ?_ | with_reducible refine w_bl ?_ | with_reducible refine w_not ?_ | with_reducible refine w_and ?_ | with_reducible refine w_or ?_
  | with_reducible refine w_notV ?_ | with_reducible refine w_blV ?_ | with_reducible refine w_I0 ?_ | ((with_reducible refine w_mulL ?_ ?_); · omega) | ((with_reducible refine w_mulR ?_ ?_); · omega) | ((with_reducible refine w_pow ?_ ?_); · decide)
  | with_reducible refine w_neg ?_ | ((with_reducible refine w_eq ?_ ?_); · exact rfl) | ((with_reducible refine w_ne ?_ ?_); · exact rfl) | with_reducible refine w_int1 ?_ | with_reducible refine w_abs ?_ | with_reducible refine w_max2 ?_ | with_reducible refine w_min2 ?_
  | with_reducible refine w_gcons ?_ | with_reducible refine w_gnil ?_ | with_reducible refine w_tup ?_ | with_reducible refine w_lst ?_ | with_reducible refine w_sl ?_ | with_reducible refine w_no ?_ | with_reducible refine w_part ?_ | with_reducible refine w_partI ?_ | with_reducible refine ⟨_, (rfl : V.int _ = V.int _), ?_⟩
  | with_reducible refine w_for ?_ | with_reducible refine w_iL ?_ | with_reducible refine w_iT ?_ | with_reducible refine w_iR ?_ | with_reducible refine w_yes ?_ | with_reducible refine w_setLc ?_ | with_reducible refine w_isB ?_
  | ((with_reducible refine' w_ixT (by assumption) ?hx ?_); (case hx => exact rfl)) | ((with_reducible refine' w_ixL (by assumption) ?hx ?_); (case hx => exact rfl)) | ((with_reducible refine w_lenT (by assumption) ?_)) | ((with_reducible refine w_lenL (by assumption) ?_)) | with_reducible refine w_callD ?_ | with_reducible refine w_if ?_ | with_reducible refine w_andV ?_ | with_reducible refine w_orV ?_
  | ((with_reducible refine w_ifT ?hx ?_); (case hx => rfl)) | ((with_reducible refine w_ifF ?hx ?_); (case hx => rfl)))))

section
variable {P : Program} {w : World} {K : PySem.W.Frag} {mg : Str → Option Value} {base : Heap} {TT : List (Addr × Str)}
/-! text -/
def spTextM (K : PySem.W.Frag) : Sp := fun vs H Q _ => ∃ (x l : Addr) (rs bs : List Str) (ds : List Dd) (ps : List (List Str)), vs = [.ref x] ∧ Dk K H x l rs bs ds ps ∧ rs.length ≤ 30 ∧ (∀ z ∈ rs, z.length ≤ 200) ∧ ∀ z H', Same H H' → Q (.str z) H'
theorem df_text (D : DkK K mg) (A : AtM K (dkC K) "text" "Desk.text" s_Desk_text) (D_text_of_rows : Df P w K mg base CX0 1 "text_of_rows" ["rows"] (spText K)) :
    DfM P w K mg base CX0 2 (dkC K) "text" ["self"] (spTextM K) := by
  refine dfM_of A sc_Desk_text (fun _ _ _ _ _ _ us hl => match us, hl with | [_], _ => rfl) (fun vs H Q E h => by obtain ⟨x, l, rs, bs, ds, ps, rfl, _⟩ := h; rfl) (fun f cdv A outer s H vs Q E hrs h => ?_)
  refine ⟨_, (pss_one (ps_ret (pe_df D_text_of_rows (hrs.mono (by decide)) (pa_cons (pe_fld (pv 0) rfl) pa_nil)))), ?_⟩
  obtain ⟨x, l, rs, bs, ds, ps, rfl, ⟨dx, r, b, e, es, vs, k⟩, h1, h2, q⟩ := h
  have σe : L2.start ["self"] [.ref x] = [some (.ref x)] := rfl
  rw [σe]
  dsimp only [cxOf]
  have na := fun f h => D.na f h
  exact w_ret (w_call (w_cons (w_fl (w_var (by rfl) ⟨x, dkC K, dx, _, .ref r, rfl, k.x, D.cls, na _ (by decide), rfl, w_nil ⟨r, rs, rfl, k.r, h1, h2, q⟩⟩))))
/-! __eq__ -/
def spEq (K : PySem.W.Frag) : Sp := fun vs H Q _ => ∃ (x : Addr) (y : V), vs = [.ref x, y] ∧
  ((∃ (x' l l' : Addr) (rs rs' bs bs' : List Str) (ds ds' : List Dd) (ps ps' : List (List Str)), y = .ref x' ∧ Dk K H x l rs bs ds ps ∧ Dk K H x' l' rs' bs' ds' ps' ∧ sO bs ∧ sO bs' ∧ (∀ d ∈ ds, d.so = true) ∧ (∀ d ∈ ds', d.so = true) ∧
    ∀ H', Same H H' → Q (.bl (decide (bs = bs' ∧ ds = ds'))) H') ∨ ∃ t, Ty K H y t ∧ Q (.bl false) H)
theorem shaped_two {a b : PyData} (h1 : PyData.canLay0 a = true) (h2 : PyData.canLay0 b = true) (d1 : PyData.depth a ≤ 2) (d2 : PyData.depth b ≤ 2) : SeqAt.shaped (.tuple [a, b]) = true := by
  unfold SeqAt.shaped
  rw [Bool.and_eq_true, decide_eq_true_iff]
  refine ⟨?_, ?_⟩
  · simp only [PyData.canLay0, PyData.canLayAll0, h1, h2, Bool.and_self]
  · simp only [PyData.depth, PyData.depthAll]
    omega
theorem df_eq (T : Kd P w K mg base) (D : DkK K mg) (A : AtM K (dkC K) "__eq__" "Desk.__eq__" s_Desk___eq__) :
    DfM P w K mg base CX0 1 (dkC K) "__eq__" ["self", "other"] (spEq K) := by
  refine dfM_of A sc_Desk___eq__ (fun _ _ _ _ _ _ us hl => match us, hl with | [_, _], _ => rfl) (fun vs H Q E h => by obtain ⟨x, y, rfl, _⟩ := h; rfl) (fun f cdv A outer s H vs Q E hrs h => ?_)
  refine ⟨_, (pss_one (ps_ret (pe_and (pe_callB call_isi (by rfl) T.n_isinstance (by decide +kernel) (pa_cons (pv 1) (pa_cons (pe_glob (v := .ref (He.ga _ "Desk")) (by rfl) D.gm rfl) pa_nil))) (pe_one (pe_cmpR (op_eqD (Nat.lt_of_le_of_lt (Nat.add_le_add_left (by decide) _) hrs.un)) (pe_tup (pa_cons (pe_fld (pv 0) rfl) (pa_cons (pe_fld (pv 0) rfl) pa_nil))) (pe_tup (pa_cons (pe_fld (pv 1) rfl) (pa_cons (pe_fld (pv 1) rfl) pa_nil))) (nomark _)))))), ?_⟩
  obtain ⟨x, y, rfl, h⟩ := h
  have σe : L2.start ["self", "other"] [.ref x, y] = [some (.ref x), some y] := rfl
  rw [σe]
  dsimp only [cxOf]
  have na := fun f h => D.na f h
  rcases h with ⟨x', l, l', rs, rs', bs, bs', ds, ds', ps, ps', rfl, ⟨dx, r, b, e, es, vs, k⟩, ⟨dx', r', b', e', es', vs', k'⟩, so, so', od, od', q⟩ | ⟨t, ht, q⟩
  · refine w_ret (w_andV (w_cb (w_cons (w_var (by rfl) (w_cons (w_c (w_nil ⟨.ref x', .ref (dkC K), .ref (dkC K), .ref (dkC K), true, rfl, .own _, .base (.ins k'.x D.cls D.cl D.sp D.tk D.eqc.ob), D.is1, w_blV (w_true ?_)⟩)))))))
    refine w_op (w_tup (w_cons (w_fl (w_var (by rfl) ⟨x, dkC K, dx, _, .ref b, rfl, k.x, D.cls, na _ (by decide), rfl, w_cons (w_fl (w_var (by rfl) ⟨x, dkC K, dx, _, .ref e, rfl, k.x, D.cls, na _ (by decide), rfl, w_nil ⟨(by show 2 ≤ 2 ^ 24; decide), fun t1 h1 => ?_⟩⟩))⟩))))
    have s1 := same_newT (o := .tup [.ref b, .ref e]) h1
    have kx' := s1 _ _ k'.x
    refine w_tup (w_cons (w_fl (w_var (by rfl) ⟨x', dkC K, dx', _, .ref b', rfl, kx', D.cls, na _ (by decide), rfl, w_cons (w_fl (w_var (by rfl) ⟨x', dkC K, dx', _, .ref e', rfl, kx', D.cls, na _ (by decide), rfl, w_nil ⟨(by show 2 ≤ 2 ^ 24; decide), fun t2 h2 => ?_⟩⟩))⟩)))
    have s2 := same_newT (o := .tup [.ref b', .ref e']) h2
    have S := s1.trans s2
    have u : Up ([] : List (Addr × Str)) [] H _ := Up.of S
    refine ⟨.tuple [rowD bs, .tuple (ds.map Dd.d)], .tuple [rowD bs', .tuple (ds'.map Dd.d)], ?_, ?_, ?_, ?_, ?_⟩
    · exact .tup (SqT.of (s2 _ _ upd_same)) (.cons (dp_row (u.seqT k.b)) (.cons (.tup (u.seqT k.e) (dp_deeds (k.es.up u))) .nil))
    · exact .tup (SqT.of upd_same) (.cons (dp_row (u.seqT k'.b)) (.cons (.tup (u.seqT k'.e) (dp_deeds (k'.es.up u))) .nil))
    · refine shaped_two (lay_row so) ?_ (by rw [dep_row]; omega) ?_
      · simp only [PyData.canLay0]
        exact lay_deeds od
      · have := dep_deeds ds
        simp only [PyData.depth]
        omega
    · refine shaped_two (lay_row so') ?_ (by rw [dep_row]; omega) ?_
      · simp only [PyData.canLay0]
        exact lay_deeds od'
      · have := dep_deeds ds'
        simp only [PyData.depth]
        omega
    · have ev : PyData.eqv (.tuple [rowD bs, .tuple (ds.map Dd.d)]) (.tuple [rowD bs', .tuple (ds'.map Dd.d)]) = decide (bs = bs' ∧ ds = ds') := by
        have h : PyData.eqv (.tuple [rowD bs, .tuple (ds.map Dd.d)]) (.tuple [rowD bs', .tuple (ds'.map Dd.d)]) = (PyData.eqv (rowD bs) (rowD bs') && (PyData.eqvAll (ds.map Dd.d) (ds'.map Dd.d) && true)) := by rfl
        rw [h, eqv_row, eqv_deeds, Bool.and_true, Bool.decide_and]
      rw [ev]
      exact q _ S
  · refine w_ret (w_andV (w_cb (w_cons (w_var (by rfl) (w_cons (w_c (w_nil ⟨y, .ref (dkC K), .type t, .ref (dkC K), false, rfl, .own _, ht.1, D.is0 t ht.2, w_blV (w_false ?_)⟩)))))))
    exact q
end
end K11

set_option Elab.async false
set_option linter.all false
set_option maxRecDepth 100000
set_option maxHeartbeats 4000000
namespace K11
open PySem PySem.Spec PyProof.Rows L2 LamX EqX
/-! the words' steps, one after another -/
local macro_rules | `(tactic| walk_at "w") => `(tactic| (repeat (first
  | with_reducible refine w_seq ?_ | with_reducible refine w_asg ?_ | with_reducible refine w_ret ?_ | with_reducible exact w_retN ?_ | with_reducible refine w_drop ?_ | with_reducible refine w_ifs ?_ | with_reducible refine w_next ?_
  | with_reducible refine w_name ?_ | with_reducible refine w_gsub ?_ | ((with_reducible refine' w_var ?hx ?_); (case hx => exact rfl)) | with_reducible refine w_c ?_ | with_reducible refine w_op ?_ | with_reducible refine w_un ?_ | with_reducible refine w_cb ?_ | with_reducible refine w_call ?_
  | with_reducible refine w_nil ?_ | with_reducible refine w_cons ?_ | with_reducible refine w_test ?_ | with_reducible refine w_b ?_ | with_reducible refine w_bl ?_ | with_reducible refine w_not ?_ | with_reducible refine w_and ?_ | with_reducible refine w_or ?_
  | with_reducible refine w_notV ?_ | with_reducible refine w_blV ?_ | with_reducible refine w_I0 ?_ | ((with_reducible refine w_mulL ?_ ?_); · omega) | ((with_reducible refine w_mulR ?_ ?_); · omega) | ((with_reducible refine w_pow ?_ ?_); · decide)
  | with_reducible refine w_neg ?_ | ((with_reducible refine w_eq ?_ ?_); · exact rfl) | ((with_reducible refine w_ne ?_ ?_); · exact rfl) | with_reducible refine w_int1 ?_ | with_reducible refine w_abs ?_ | with_reducible refine w_max2 ?_ | with_reducible refine w_min2 ?_
  | with_reducible refine w_gcons ?_ | with_reducible refine w_gnil ?_ | with_reducible refine w_tup ?_ | with_reducible refine w_lst ?_ | with_reducible refine w_sl ?_ | with_reducible refine w_no ?_ | with_reducible refine w_part ?_ | with_reducible refine w_partI ?_ | with_reducible refine ⟨_, (rfl : V.int _ = V.int _), ?_⟩
  | with_reducible refine w_for ?_ | with_reducible refine w_iL ?_ | with_reducible refine w_iT ?_ | with_reducible refine w_iR ?_ | with_reducible refine w_yes ?_ | with_reducible refine w_setLc ?_ | with_reducible refine w_isB ?_)))

/-! the words' steps, reads of tuples and lists at hand, tests that are settled -/
local macro_rules | `(tactic| walk_at "g") => `(tactic| (repeat (first
  | with_reducible refine w_seq ?_ | with_reducible refine w_asg ?_ | with_reducible refine w_ret ?_ | with_reducible exact w_retN ?_ | with_reducible refine w_drop ?_ | with_reducible refine w_ifs ?_ | (with_reducible refine w_next ?_; try dsimp only)
  | with_reducible refine w_name ?_ | with_reducible refine w_gsub ?_ | ((with_reducible refine' w_var ?hx ?_); (case hx => exact rfl)) | with_reducible refine w_c ?_ | with_reducible refine w_op ?_ | with_reducible refine w_un ?_ | with_reducible refine w_cb ?_ | with_reducible refine w_call ?_
  | with_reducible refine w_nil ?_ | with_reducible refine w_cons ?_ | with_reducible refine w_test ?_ | with_reducible refine w_b ?_ | with_reducible refine w_bl ?_ | with_reducible refine w_not ?_ | with_reducible refine w_and ?_ | with_reducible refine w_or ?_
  | with_reducible refine w_notV ?_ | with_reducible refine w_blV ?_ | with_reducible refine w_I0 ?_ | ((with_reducible refine w_mulL ?_ ?_); · omega) | ((with_reducible refine w_mulR ?_ ?_); · omega) | ((with_reducible refine w_pow ?_ ?_); · decide)
  | with_reducible refine w_neg ?_ | ((with_reducible refine w_eq ?_ ?_); · exact rfl) | ((with_reducible refine w_ne ?_ ?_); · exact rfl) | with_reducible refine w_int1 ?_ | with_reducible refine w_abs ?_ | with_reducible refine w_max2 ?_ | with_reducible refine w_min2 ?_
  | with_reducible refine w_gcons ?_ | with_reducible refine w_gnil ?_ | with_reducible refine w_tup ?_ | with_reducible refine w_lst ?_ | with_reducible refine w_sl ?_ | with_reducible refine w_no ?_ | with_reducible refine w_part ?_ | with_reducible refine w_partI ?_ | with_reducible refine ⟨_, (rfl : V.int _ = V.int _), ?_⟩
  | with_reducible refine w_for ?_ | with_reducible refine w_iL ?_ | with_reducible refine w_iT ?_ | with_reducible refine w_iR ?_ | with_reducible refine w_yes ?_ | with_reducible refine w_setLc ?_ | with_reducible refine w_isB ?_
  | ((with_reducible refine' w_ixT (by assumption) ?hx ?_); (case hx => exact rfl)) | ((with_reducible refine' w_ixL (by assumption) ?hx ?_); (case hx => exact rfl)) | ((with_reducible refine w_lenT (by assumption) ?_)) | ((with_reducible refine w_lenL (by assumption) ?_)) | with_reducible refine w_callD ?_ | with_reducible refine w_if ?_ | with_reducible refine w_andV ?_ | with_reducible refine w_orV ?_
  | ((with_reducible refine w_ifT ?hx ?_); (case hx => rfl)) | ((with_reducible refine w_ifF ?hx ?_); (case hx => rfl)))))

/-! ### what is shown has a size -/
theorem txt_len : ∀ (ts : List Str) (k : Nat) (acc : Str), (textFrom k acc ts).length ≤ acc.length + piled ts
  | [], k, acc => Nat.le_add_right _ _
  | t :: r, k, acc => by
    have h := txt_len r (k + 1) (acc ++ (if k > 0 then ", " else "" : String) ++ t)
    have e : (acc ++ (if k > 0 then ", " else "" : String) ++ t).length ≤ acc.length + 2 + t.length := by
      rw [strLen_append, strLen_append]
      split
      · exact Nat.le_refl _
      · exact Nat.add_le_add_right (Nat.add_le_add_left (by decide) _) _
    rw [piled_cons]
    show (textFrom (k + 1) _ r).length ≤ _
    omega
theorem list_len (ts : List Str) : (listText ts).length ≤ piled ts + 2 := by
  unfold listText
  rw [strLen_append]
  have h := txt_len ts 0 "["
  have e1 : (Str.ofString "[").length = 1 := rfl
  have e2 : (Str.ofString "]").length = 1 := rfl
  rw [e1] at h
  rw [e2]
  omega
theorem tuple_len (ts : List Str) : (tupleText ts).length ≤ piled ts + 3 := by
  unfold tupleText
  rw [strLen_append, strLen_append]
  have e1 : (Str.ofString "(").length = 1 := rfl
  have e3 : ((if ts.length == 1 then ",)" else ")" : String) : Str).length ≤ 2 := by split <;> decide
  rw [e1]
  by_cases h : ts = []
  · subst h
    have : (Str.join ", " []).length = 0 := rfl
    rw [this]
    omega
  · have := join_length_add ts h
    omega
theorem piled_le {ts : List Str} {k : Nat} (h : ∀ t ∈ ts, t.length ≤ k) : piled ts ≤ ts.length * (k + 2) := by
  have := sum_le (l := ts.map fun t => t.length + 2) (k := k + 2) fun x hx => by
    obtain ⟨t, ht, rfl⟩ := List.mem_map.mp hx
    have := h t ht
    omega
  rw [List.length_map] at this
  exact this
/-! ### good rows, good deeds -/
/-- a row that may stand on a desk -/
def gS (z : Str) : Bool := rwB z && PyData.strOk z
abbrev gR (r : List Str) : Prop := r.length ≤ 30 ∧ ∀ z ∈ r, gS z = true
def Dd.ix : Dd → Nat
  | .put i _ => i
  | .row i _ => i
  | .out i => i
def gD (d : Dd) : Prop := d.ok = true ∧ d.so = true ∧ d.ix ≤ 100
theorem gS_len {z : Str} (h : gS z = true) : z.length ≤ 200 := by
  unfold gS rwB at h
  simp only [Bool.and_eq_true, decide_eq_true_eq] at h
  exact h.1.1
theorem gS_rw {z : Str} (h : gS z = true) : rwB z = true := (Bool.and_eq_true_iff.mp h).1
theorem gS_so {z : Str} (h : gS z = true) : PyData.strOk z = true := (Bool.and_eq_true_iff.mp h).2
theorem gR_so {r : List Str} (h : gR r) : sO r := fun z hz => gS_so (h.2 z hz)
theorem quote_len {z : Str} (h : PyData.strOk z = true) (l : z.length ≤ 200) : (reprText z).length ≤ 2002 := by
  have := PySem.StrLaws.reprText_len z fun c hc => by
    unfold PyData.strOk at h
    rw [← Array.all_toList] at h
    have := of_decide_eq_true (List.all_eq_true.mp h c hc)
    have e : (0x110000 : Nat) < 16 ^ 8 := by decide
    omega
  omega
theorem shA_str : ∀ r : List Str, PyData.shownAll (r.map PyData.str) = r.map reprText
  | [] => rfl
  | x :: r => by rw [List.map_cons, PyData.shownAll, PyData.shown, shA_str r, List.map_cons]
theorem shA_len {ds : List PyData} {k : Nat} (h : ∀ d ∈ ds, d.shown.length ≤ k) : piled (PyData.shownAll ds) ≤ ds.length * (k + 2) := by
  have e : PyData.shownAll ds = ds.map PyData.shown := by
    clear h
    induction ds with
    | nil => rfl
    | cons d ds ih => rw [PyData.shownAll, List.map_cons, ih]
  rw [e]
  have := piled_le (ts := ds.map PyData.shown) (k := k) fun t ht => by
    obtain ⟨d, hd, rfl⟩ := List.mem_map.mp ht
    exact h d hd
  rw [List.length_map] at this
  exact this
theorem row_len {r : List Str} (h : gR r) : (rowD r).shown.length ≤ 70000 := by
  unfold rowD
  rw [PyData.shown]
  have h1 := tuple_len (PyData.shownAll (r.map PyData.str))
  have h2 := shA_len (ds := r.map PyData.str) (k := 2002) fun d hd => by
    obtain ⟨z, hz, rfl⟩ := List.mem_map.mp hd
    rw [PyData.shown]
    exact quote_len (gS_so (h.2 z hz)) (gS_len (h.2 z hz))
  rw [List.length_map] at h2
  have := h.1
  omega
theorem ok_len {d : Dd} (h : gD d) : match d with
    | .put _ s => s.length ≤ 200
    | .row _ s => s.length ≤ 200
    | .out _ => True := by
  have h := h.1
  cases d with
  | put i s =>
    have h : rwB s = true := h
    unfold rwB at h
    rw [Bool.and_eq_true, decide_eq_true_iff] at h
    exact h.1
  | row i s =>
    have h : rwB s = true := h
    unfold rwB at h
    rw [Bool.and_eq_true, decide_eq_true_iff] at h
    exact h.1
  | out i => trivial
theorem int_len {i : Nat} (h : i ≤ 100) : (PyData.int (i : Int)).shown.length ≤ 2002 := by
  rw [PyData.shown]
  have := int_text_length_le10 (a := (i : Int)) (k := 4) (by decide) (by
    show (i : Int).natAbs < 10 ^ 4
    rw [Int.natAbs_natCast]
    exact Nat.lt_of_le_of_lt h (by decide))
  show (Str.ofString (toString (i : Int))).length ≤ _
  rw [PySem.ofString_length]
  omega
theorem deed_len {d : Dd} (h : gD d) : d.d.shown.length ≤ 7000 := by
  have h0 := ok_len h
  obtain ⟨_, h1, h2⟩ := h
  have key : ∀ ds : List PyData, ds.length ≤ 3 → (∀ d ∈ ds, d.shown.length ≤ 2002) → (PyData.tuple ds).shown.length ≤ 7000 := fun ds hl hd => by
    rw [PyData.shown]
    have a := tuple_len (PyData.shownAll ds)
    have b := shA_len hd
    have : ds.length * (2002 + 2) ≤ 3 * (2002 + 2) := Nat.mul_le_mul_right _ hl
    omega
  cases d with
  | put i s =>
    refine key _ (by simp) fun x hx => ?_
    simp only [List.mem_cons, List.not_mem_nil, or_false] at hx
    rcases hx with rfl | rfl | rfl
    · rw [PyData.shown]; exact quote_len (by decide +kernel) (by decide +kernel)
    · exact int_len h2
    · rw [PyData.shown]; exact quote_len h1 h0
  | row i s =>
    refine key _ (by simp) fun x hx => ?_
    simp only [List.mem_cons, List.not_mem_nil, or_false] at hx
    rcases hx with rfl | rfl | rfl
    · rw [PyData.shown]; exact quote_len (by decide +kernel) (by decide +kernel)
    · exact int_len h2
    · rw [PyData.shown]; exact quote_len h1 h0
  | out i =>
    refine key _ (by simp) fun x hx => ?_
    simp only [List.mem_cons, List.not_mem_nil, or_false] at hx
    rcases hx with rfl | rfl
    · rw [PyData.shown]; exact quote_len (by decide +kernel) (by decide +kernel)
    · exact int_len h2
theorem deeds_len {ds : List Dd} (h : ∀ d ∈ ds, gD d) (l : ds.length ≤ 100) : (PyData.tuple (ds.map Dd.d)).shown.length ≤ 800000 := by
  rw [PyData.shown]
  have a := tuple_len (PyData.shownAll (ds.map Dd.d))
  have b := shA_len (ds := ds.map Dd.d) (k := 7000) fun x hx => by
    obtain ⟨d, hd, rfl⟩ := List.mem_map.mp hx
    exact deed_len (h d hd)
  rw [List.length_map] at b
  have : ds.length * (7000 + 2) ≤ 100 * (7000 + 2) := Nat.mul_le_mul_right _ l
  omega
theorem show_strs : ∀ r : List Str, PyData.showableAll (r.map PyData.str) = true
  | [] => rfl
  | x :: r => by rw [List.map_cons, PyData.showableAll, PyData.showable, show_strs r]; rfl
theorem log_ok {i : Nat} (h : i ≤ 100) : PyData.showable (.int (i : Int)) = true := by
  rw [PyData.showable]
  refine decide_eq_true ?_
  rw [Int.natAbs_natCast]
  by_cases h0 : i = 0
  · rw [h0]; decide
  · exact (Nat.log2_lt h0).mpr (Nat.lt_of_le_of_lt h (Nat.lt_of_lt_of_le (by decide : 100 < 2 ^ 7) (Nat.pow_le_pow_right (n := 2) (i := 7) (j := 1920) (by decide) (by decide))))
theorem show_deeds : ∀ ds : List Dd, (∀ d ∈ ds, gD d) → PyData.showableAll (ds.map Dd.d) = true
  | [], _ => rfl
  | d :: ds, h => by
    have h1 := (h d (by simp)).2.2
    rw [List.map_cons, PyData.showableAll, show_deeds ds fun e he => h e (by simp [he]), Bool.and_true]
    cases d with
    | put i s => rw [Dd.d, PyData.showable, PyData.showableAll, PyData.showableAll, PyData.showableAll, PyData.showableAll, show PyData.showable (.int (i : Int)) = true from log_ok h1]; rfl
    | row i s => rw [Dd.d, PyData.showable, PyData.showableAll, PyData.showableAll, PyData.showableAll, PyData.showableAll, show PyData.showable (.int (i : Int)) = true from log_ok h1]; rfl
    | out i => rw [Dd.d, PyData.showable, PyData.showableAll, PyData.showableAll, PyData.showableAll, show PyData.showable (.int (i : Int)) = true from log_ok h1]; rfl
theorem shows_two {r : List Str} {ds : List Dd} (h : gR r) (hd : ∀ d ∈ ds, gD d) (l : ds.length ≤ 100) : Shows (.list [rowD r, .tuple (ds.map Dd.d)]) := by
  refine ⟨?_, ?_, ?_⟩
  · rw [PyData.showable, PyData.showableAll, PyData.showableAll, PyData.showableAll, PyData.showable, show_deeds ds hd]
    unfold rowD
    rw [PyData.showable, show_strs]
    rfl
  · have := dep_deeds ds
    have := dep_row r
    simp only [PyData.depth, PyData.depthAll]
    omega
  · rw [PyData.shown]
    have a := list_len (PyData.shownAll [rowD r, .tuple (ds.map Dd.d)])
    have b := shA_len (ds := [rowD r, .tuple (ds.map Dd.d)]) (k := 800000) fun x hx => by
      simp only [List.mem_cons, List.not_mem_nil, or_false] at hx
      rcases hx with rfl | rfl
      · exact Nat.le_trans (row_len h) (by decide)
      · exact deeds_len hd l
    have e : ([rowD r, .tuple (ds.map Dd.d)] : List PyData).length = 2 := rfl
    rw [e] at b
    show _ ≤ 2 ^ 24
    omega
section
variable {K : PySem.W.Frag} {H : Hp}
theorem dz_strs : ∀ r : List Str, DzAll K H (r.map V.str) (r.map PyData.str)
  | [] => .nil
  | z :: r => .cons (.str z) (dz_strs r)
theorem dz_row {a : Addr} {r : List Str} (h : SqT K H a (sv r)) : Dz K H (.ref a) (rowD r) := .tup h (dz_strs r)
theorem dz_dd {a : Addr} {d : Dd} (h : H a = some (.tup d.vs)) : Dz K H (.ref a) d.d := by
  cases d with
  | put i s => exact .tup (SqT.of h) (.cons (.str _) (.cons (.int _) (.cons (.str _) .nil)))
  | row i s => exact .tup (SqT.of h) (.cons (.str _) (.cons (.int _) (.cons (.str _) .nil)))
  | out i => exact .tup (SqT.of h) (.cons (.str _) (.cons (.int _) .nil))
theorem dz_deeds : ∀ {es : List Addr} {ds : List Dd}, Deeds H es ds → DzAll K H (es.map V.ref) (ds.map Dd.d)
  | [], [], _ => .nil
  | _ :: _, _ :: _, h => .cons (dz_dd h.1.1) (dz_deeds h.2)
  | [], _ :: _, h => h.elim
  | _ :: _, [], h => h.elim
theorem dz_two {p e l : Addr} {r : List Str} {es : List Addr} {ds : List Dd} (hl : SqL K H l [.ref p, .ref e]) (hr : SqT K H p (sv r)) (he : SqT K H e (es.map V.ref)) (hd : Deeds H es ds) : Dz K H (.ref l) (.list [rowD r, .tuple (ds.map Dd.d)]) :=
  .lst hl (.cons (dz_row hr) (.cons (.tup he (dz_deeds hd)) .nil))
end
/-- what the law's own defs ask of the top besides -/
structure Kl (P : Program) (w : World) (K : PySem.W.Frag) (mg : Str → Option Value) (base : Heap) : Prop extends Kd P w K mg base where
  n_repr : mg "repr" = none
  n_all : mg "all" = none
  n_range : mg "range" = none
  n_max : mg "max" = none
  n_min : mg "min" = none
  n_list : mg "list" = none
  sysm : ∃ o, K.lookup sysModules = some o ∧ o.cls ≠ .type "list"
abbrev s__law_same : Stmt := top 178
abbrev s__law_move : Stmt := top 179
abbrev s__law_said : Stmt := top 180
abbrev s__law_is_so : Stmt := top 181
theorem sc__law_same : FnScope ["told", "due"] ["told", "due"] (defScope s__law_same) := ⟨rfl, rfl, rfl, by decide +kernel, rfl, by decide +kernel, by decide +kernel⟩
theorem sc__law_move : FnScope ["rows", "deed"] ["rows", "deed"] (defScope s__law_move) := ⟨rfl, rfl, rfl, by decide +kernel, rfl, by decide +kernel, by decide +kernel⟩
theorem sc__law_said : FnScope ["act", "e"] ["act"] (defScope s__law_said) := ⟨rfl, rfl, rfl, by decide +kernel, rfl, by decide +kernel, by decide +kernel⟩
theorem sc__law_is_so : FnScope ["desk", "rows", "deeds_here"] ["desk", "rows", "deeds_here"] (defScope s__law_is_so) := ⟨rfl, rfl, rfl, by decide +kernel, rfl, by decide +kernel, by decide +kernel⟩
section
variable {P : Program} {w : World} {K : PySem.W.Frag} {mg : Str → Option Value} {base : Heap}
/-! _law_same -/
def spSame (K : PySem.W.Frag) : Sp := fun vs H Q _ => ∃ (x y : V) (d : PyData), vs = [x, y] ∧ Dz K H x d ∧ Dz K H y d ∧ Shows d ∧ Q (.bl true) H
theorem df_same (T : Kl P w K mg base) (A : At K mg "_law_same" s__law_same) : DfG P w K mg base CX0 1 "_law_same" ["told", "due"] (spSame K) := by
  refine dfG_of A sc__law_same (fun _ _ _ _ _ _ us hl => match us, hl with | [_, _], _ => rfl) (fun vs H Q E h => by obtain ⟨x, y, d, rfl, _⟩ := h; rfl) (fun f cdv A outer s H vs Q E hrs hgd0 h => ?_)
  have hgd : (A.deeper (envOfC "_law_same" (defScope s__law_same) s.heap.objs.size f cdv)).guards = some [] := hgd0
  have hr := hrs
  refine ⟨_, (pss_one (ps_ret (pe_cmpR op_eq (pe_callB (call_repr hr hgd T.sysm) (by rfl) T.n_repr (by decide +kernel) (pa_cons (pv 0) pa_nil)) (pe_callB (call_repr hr hgd T.sysm) (by rfl) T.n_repr (by decide +kernel) (pa_cons (pv 1) pa_nil)) (nomark _)))), ?_⟩
  obtain ⟨x, y, d, rfl, hx, hy, hs, q⟩ := h
  have σe : L2.start ["told", "due"] [x, y] = [some x, some y] := rfl
  rw [σe]
  dsimp only [cxOf]
  walk_at "g"
  refine ⟨x, d, rfl, hx, hs, ?_⟩
  walk_at "g"
  refine ⟨y, d, rfl, hy, hs, ?_⟩
  walk_at "g"
  rw [decide_eq_true rfl]
  exact q
/-! _law_is_so -/
def spSo (K : PySem.W.Frag) : Sp := fun vs H Q _ => ∃ (x p e l : Addr) (rs bs : List Str) (es : List Addr) (ds : List Dd) (ps : List (List Str)), vs = [.ref x, .ref p, .ref e] ∧ Dk K H x l rs bs ds ps ∧ SqT K H p (sv rs) ∧ SqT K H e (es.map V.ref) ∧ Deeds H es ds ∧ gR rs ∧ (∀ d ∈ ds, gD d) ∧ ds.length ≤ 100 ∧
  ∀ H', Same H H' → Q (.bl true) H'
theorem df_is_so (T : Kl P w K mg base) (D : DkK K mg) (A : At K mg "_law_is_so" s__law_is_so) (D__law_same : DfG P w K mg base CX0 1 "_law_same" ["told", "due"] (spSame K)) : DfG P w K mg base CX0 2 "_law_is_so" ["desk", "rows", "deeds_here"] (spSo K) := by
  refine dfG_of A sc__law_is_so (fun _ _ _ _ _ _ us hl => match us, hl with | [_, _, _], _ => rfl) (fun vs H Q E h => by obtain ⟨x, p, e, l, rs, bs, es, ds, ps, rfl, _⟩ := h; rfl) (fun f cdv A outer s H vs Q E hrs hgd0 h => ?_)
  have hgd : (A.deeper (envOfC "_law_is_so" (defScope s__law_is_so) s.heap.objs.size f cdv)).guards = some [] := hgd0
  refine ⟨_, (pss_one (ps_ret (pe_dfG D__law_same (hrs.mono (by decide)) hgd (pa_cons (pe_lst (pa_cons (pe_fld (pv 0) rfl) (pa_cons (pe_fld (pv 0) rfl) pa_nil))) (pa_cons (pe_lst (pa_cons (pv 1) (pa_cons (pv 2) pa_nil))) pa_nil))))), ?_⟩
  obtain ⟨x, p, e, l, rs, bs, es, ds, ps, rfl, ⟨dx, r, b, e', es', vs, k⟩, hp, he, hde, gr, gd, dl, q⟩ := h
  have σe : L2.start ["desk", "rows", "deeds_here"] [.ref x, .ref p, .ref e] = [some (.ref x), some (.ref p), some (.ref e)] := rfl
  rw [σe]
  dsimp only [cxOf]
  have na := fun f h => D.na f h
  refine w_ret (w_call (w_cons (w_lst (w_cons (w_fl (w_var (by rfl) ⟨x, dkC K, dx, _, .ref r, rfl, k.x, D.cls, na _ (by decide), rfl, w_cons (w_fl (w_var (by rfl) ⟨x, dkC K, dx, _, .ref e', rfl, k.x, D.cls, na _ (by decide), rfl, w_nil ⟨(by show 2 ≤ 2 ^ 24; decide), fun t1 h1 => ?_⟩⟩))⟩))))))
  have s1 := same_newT (o := .lst [.ref r, .ref e']) h1
  refine w_cons (w_lst (w_cons (w_var (by rfl) (w_cons (w_var (by rfl) (w_nil ⟨(by show 2 ≤ 2 ^ 24; decide), fun t2 h2 => ?_⟩))))))
  have s2 := same_newT (o := .lst [.ref p, .ref e]) h2
  have S := s1.trans s2
  have u : Up ([] : List (Addr × Str)) [] H _ := Up.of S
  exact w_nil ⟨_, _, .list [rowD rs, .tuple (ds.map Dd.d)], rfl, dz_two (SqL.of (s2 _ _ upd_same)) (u.seqT k.r) (u.seqT k.e) (k.es.up u), dz_two (SqL.of upd_same) (u.seqT hp) (u.seqT he) (hde.up u), shows_two gr gd dl, q _ S⟩
/-! _law_move -/
def spMove (K : PySem.W.Frag) : Sp := fun vs H Q _ => ∃ (p a : Addr) (rs : List Str) (d : Dd), vs = [.ref p, .ref a] ∧ SqT K H p (sv rs) ∧ H a = some (.tup d.vs) ∧ rs.length ≤ 30 ∧
  (∀ s, reasonD rs d = .str s → ∀ H', Same H H' → Q (.str s) H') ∧ (reasonD rs d = .non → ∀ r H', Same H H' → SqT K H' r (sv (behindD rs d)) → Q (.ref r) H')
theorem df_move (T : Kl P w K mg base) (A : At K mg "_law_move" s__law_move) : Df P w K mg base CX0 1 "_law_move" ["rows", "deed"] (spMove K) := by
  refine df_of A sc__law_move (fun _ _ _ _ _ _ us hl => match us, hl with | [_, _], _ => rfl) (fun vs H Q E h => by obtain ⟨p, a, rs, d, rfl, _⟩ := h; rfl) (fun f cdv A outer s H vs Q E hrs h => ?_)
  refine ⟨_, (pss_cons (ps_if (pt_cmpR op_eq (pe_ix ix_tup (pv 1) pe_int (fun _ _ => rfl)) pe_str (nomark _)) (pss_cons (ps_if (pt_cmpR op_gt (pe_callB c_lenS (by rfl) T.n_len PySem.boot_len (pa_cons (pv 0) pa_nil)) pe_int (nomark _)) (pss_one (ps_ret pe_str)) pss_nil)
      (pss_one (ps_ret (pe_ifExp (pt_cmpR op_le (pe_ix ix_tup (pv 1) pe_int (fun _ _ => rfl)) (pe_callB c_lenS (by rfl) T.n_len PySem.boot_len (pa_cons (pv 0) pa_nil)) (nomark _)) (pe_op op_catA (pe_op op_catA (pe_slice sl_tupA (pv 0) po_none (po_some (pe_ix ix_tup (pv 1) pe_int (fun _ _ => rfl)))) (pe_tup (pa_cons (pe_ix ix_tup (pv 1) pe_int (fun _ _ => rfl)) pa_nil))) (pe_slice sl_tupA (pv 0) (po_some (pe_ix ix_tup (pv 1) pe_int (fun _ _ => rfl))) po_none)) pe_str)))) pss_nil)
      (pss_cons (ps_if (pt_cmpR op_ge (pe_ix ix_tup (pv 1) pe_int (fun _ _ => rfl)) (pe_callB c_lenS (by rfl) T.n_len PySem.boot_len (pa_cons (pv 0) pa_nil)) (nomark _)) (pss_one (ps_ret pe_str)) pss_nil)
      (pss_cons (ps_if (pt_cmpR op_eq (pe_ix ix_tup (pv 1) pe_int (fun _ _ => rfl)) pe_str (nomark _)) (pss_one (ps_ret (pe_op op_catA (pe_slice sl_tupA (pv 0) po_none (po_some (pe_ix ix_tup (pv 1) pe_int (fun _ _ => rfl)))) (pe_slice sl_tupA (pv 0) (po_some (pe_op op_add (pe_ix ix_tup (pv 1) pe_int (fun _ _ => rfl)) pe_int)) po_none)))) pss_nil)
      (pss_one (ps_ret (pe_ifExp (pt_cmpR op_ne (pe_ix ix_tup (pv 0) (pe_ix ix_tup (pv 1) pe_int (fun _ _ => rfl)) (fun _ _ => rfl)) (pe_ix ix_tup (pv 1) pe_int (fun _ _ => rfl)) (nomark _)) (pe_op op_catA (pe_op op_catA (pe_slice sl_tupA (pv 0) po_none (po_some (pe_ix ix_tup (pv 1) pe_int (fun _ _ => rfl)))) (pe_tup (pa_cons (pe_ix ix_tup (pv 1) pe_int (fun _ _ => rfl)) pa_nil))) (pe_slice sl_tupA (pv 0) (po_some (pe_op op_add (pe_ix ix_tup (pv 1) pe_int (fun _ _ => rfl)) pe_int)) po_none)) pe_str)))))), ?_⟩
  obtain ⟨p, a, rs, d, rfl, hp, ha, hl, q1, q2⟩ := h
  have hs : SqT K H a d.vs := SqT.of ha
  have σe : L2.start ["rows", "deed"] [.ref p, .ref a] = [some (.ref p), some (.ref a)] := rfl
  rw [σe]
  dsimp only [cxOf]
  have ln : (sv rs).length = rs.length := List.length_map ..
  cases d with
  | put i z =>
    have e : sv (behindD rs (.put i z)) = List.take i (sv rs) ++ [V.str z] ++ List.drop i (sv rs) := by
      unfold behindD sv
      rw [List.map_append, List.map_append, List.map_take, List.map_drop]
      rfl
    walk_at "g"
    refine w_dec (fun c => ?_) (fun c => ?_)
    · refine w_ret (w_c (q1 "full" ?_ _ (Same.refl _)))
      unfold reasonD
      dsimp only
      rw [if_pos (by omega)]
    · walk_at "g"
      refine w_dec (fun c => ?_) (fun c => ?_)
      · walk_at "g"
        refine w_slT hp fun r2 H2 s2 h2 => ?_
        rw [cut_to] at h2
        have hs2 := sqT_sm s2 hs
        walk_at "g"
        refine ⟨(by show 1 ≤ 2 ^ 24; decide), fun t ht => ?_⟩
        have st := same_newT (o := .tup [.str z]) ht
        refine w_catT (sqT_sm st h2) (SqT.of upd_same) ?_ fun r4 H4 s4 h4 => ?_
        · rw [List.length_take, ln]
          show _ + 1 ≤ 2 ^ 24
          omega
        have S4 := (s2.trans st).trans s4
        have hs4 := sqT_sm S4 hs
        walk_at "g"
        refine w_slT (sqT_sm S4 hp) fun r5 H5 s5 h5 => ?_
        rw [cut_from] at h5
        refine w_catT (sqT_sm s5 h4) h5 ?_ fun r6 H6 s6 h6 => q2 ?_ r6 H6 ((S4.trans s5).trans s6) (by rw [e]; exact h6)
        · rw [List.length_append, List.length_take, List.length_drop, ln]
          show _ + 1 + _ ≤ 2 ^ 24
          omega
        · unfold reasonD
          dsimp only
          rw [if_neg (by omega), if_neg (by omega)]
      · refine w_c (q1 "far" ?_ _ (Same.refl _))
        unfold reasonD
        dsimp only
        rw [if_neg (by omega), if_pos (by omega)]
  | row i z =>
    have e : sv (behindD rs (.row i z)) = List.take i (sv rs) ++ [V.str z] ++ List.drop (i + 1) (sv rs) := by
      unfold behindD sv
      rw [List.map_append, List.map_append, List.map_take, List.map_drop]
      rfl
    walk_at "g"
    refine w_dec (fun c => ?_) (fun c => ?_)
    · refine w_ret (w_c (q1 "none" ?_ _ (Same.refl _)))
      unfold reasonD
      dsimp only
      rw [if_pos (by omega)]
    · have hi : i < rs.length := by omega
      have at_ : atI (sv rs) (i : Int) = some (.str rs[i]) := atI_nat (by
        rw [List.getElem?_map, List.getElem?_eq_getElem hi]
        rfl)
      walk_at "g"
      refine w_ixT hp at_ ?_
      walk_at "g"
      have re : reasonD rs (.row i z) = if rs[i] = z then .str "same" else .non := by
        unfold reasonD
        dsimp only
        rw [if_neg (by omega), List.getElem?_eq_getElem hi]
        simp only [Option.some.injEq]
      refine w_ifb (fun e0 => ?_) (fun e0 => ?_)
      · have ne : rs[i] ≠ z := fun y => by
          rw [y, decide_eq_true rfl] at e0
          cases e0
        walk_at "g"
        refine w_slT hp fun r2 H2 s2 h2 => ?_
        rw [cut_to] at h2
        have hs2 := sqT_sm s2 hs
        walk_at "g"
        refine ⟨(by show 1 ≤ 2 ^ 24; decide), fun t ht => ?_⟩
        have st := same_newT (o := .tup [.str z]) ht
        refine w_catT (sqT_sm st h2) (SqT.of upd_same) ?_ fun r4 H4 s4 h4 => ?_
        · rw [List.length_take, ln]
          show _ + 1 ≤ 2 ^ 24
          omega
        have S4 := (s2.trans st).trans s4
        have hs4 := sqT_sm S4 hs
        walk_at "g"
        refine w_slT (sqT_sm S4 hp) fun r5 H5 s5 h5 => ?_
        rw [show ((i : Int) + 1) = ((i + 1 : Nat) : Int) from rfl, cut_from] at h5
        refine w_catT (sqT_sm s5 h4) h5 ?_ fun r6 H6 s6 h6 => q2 (by rw [re, if_neg ne]) r6 H6 ((S4.trans s5).trans s6) (by rw [e]; exact h6)
        · rw [List.length_append, List.length_take, List.length_drop, ln]
          show _ + 1 + _ ≤ 2 ^ 24
          omega
      · have eq : rs[i] = z := Classical.byContradiction fun y => by
          have : ¬ (V.str rs[i] = V.str z) := fun h => y (by injection h)
          rw [decide_eq_false this] at e0
          cases e0
        exact w_c (q1 "same" (by rw [re, if_pos eq]) _ (Same.refl _))
  | out i =>
    have e : sv (behindD rs (.out i)) = List.take i (sv rs) ++ List.drop (i + 1) (sv rs) := by
      unfold behindD sv
      rw [List.map_append, List.map_take, List.map_drop]
    walk_at "g"
    refine w_dec (fun c => ?_) (fun c => ?_)
    · refine w_ret (w_c (q1 "none" ?_ _ (Same.refl _)))
      unfold reasonD
      dsimp only
      rw [if_pos (by omega)]
    · walk_at "g"
      refine w_slT hp fun r2 H2 s2 h2 => ?_
      rw [cut_to] at h2
      have hs2 := sqT_sm s2 hs
      walk_at "g"
      refine w_slT (sqT_sm s2 hp) fun r5 H5 s5 h5 => ?_
      rw [show ((i : Int) + 1) = ((i + 1 : Nat) : Int) from rfl, cut_from] at h5
      refine w_catT (sqT_sm s5 h2) h5 ?_ fun r6 H6 s6 h6 => q2 ?_ r6 H6 ((s2.trans s5).trans s6) (by rw [e]; exact h6)
      · rw [List.length_take, List.length_drop, ln]
        show _ + _ ≤ 2 ^ 24
        omega
      · unfold reasonD
        dsimp only
        rw [if_neg (by omega)]
end
end K11

set_option Elab.async false
set_option linter.all false
set_option maxRecDepth 100000
set_option maxHeartbeats 4000000
namespace K11
open PySem PySem.Spec PyProof.Rows L2 LamX EqX
/-! the words' steps, one after another -/
local macro_rules | `(tactic| walk_at "w") => `(tactic| (repeat (first
  | with_reducible refine w_seq ?_ | with_reducible refine w_asg ?_ | with_reducible refine w_ret ?_ | with_reducible exact w_retN ?_ | with_reducible refine w_drop ?_ | with_reducible refine w_ifs ?_ | with_reducible refine w_next ?_
  | with_reducible refine w_name ?_ | with_reducible refine w_gsub ?_ | ((with_reducible refine' w_var ?hx ?_); (case hx => exact rfl)) | with_reducible refine w_c ?_ | with_reducible refine w_op ?_ | with_reducible refine w_un ?_ | with_reducible refine w_cb ?_ | with_reducible refine w_call ?_
  | with_reducible refine w_nil ?_ | with_reducible refine w_cons ?_ | with_reducible refine w_test ?_ | with_reducible refine w_b ?_ | with_reducible refine w_bl ?_ | with_reducible refine w_not ?_ | with_reducible refine w_and ?_ | with_reducible refine w_or ?_
  | with_reducible refine w_notV ?_ | with_reducible refine w_blV ?_ | with_reducible refine w_I0 ?_ | ((with_reducible refine w_mulL ?_ ?_); · omega) | ((with_reducible refine w_mulR ?_ ?_); · omega) | ((with_reducible refine w_pow ?_ ?_); · decide)
  | with_reducible refine w_neg ?_ | ((with_reducible refine w_eq ?_ ?_); · exact rfl) | ((with_reducible refine w_ne ?_ ?_); · exact rfl) | with_reducible refine w_int1 ?_ | with_reducible refine w_abs ?_ | with_reducible refine w_max2 ?_ | with_reducible refine w_min2 ?_
  | with_reducible refine w_gcons ?_ | with_reducible refine w_gnil ?_ | with_reducible refine w_tup ?_ | with_reducible refine w_lst ?_ | with_reducible refine w_sl ?_ | with_reducible refine w_no ?_ | with_reducible refine w_part ?_ | with_reducible refine w_partI ?_ | with_reducible refine ⟨_, (rfl : V.int _ = V.int _), ?_⟩
  | with_reducible refine w_for ?_ | with_reducible refine w_iL ?_ | with_reducible refine w_iT ?_ | with_reducible refine w_iR ?_ | with_reducible refine w_yes ?_ | with_reducible refine w_setLc ?_ | with_reducible refine w_isB ?_)))

/-! the words' steps, reads of tuples and lists at hand, tests that are settled -/
local macro_rules | `(tactic| walk_at "g") => `(tactic| (repeat (first
  | with_reducible refine w_seq ?_ | with_reducible refine w_asg ?_ | with_reducible refine w_ret ?_ | with_reducible exact w_retN ?_ | with_reducible refine w_drop ?_ | with_reducible refine w_ifs ?_ | (with_reducible refine w_next ?_; try dsimp only)
  | with_reducible refine w_name ?_ | with_reducible refine w_gsub ?_ | ((with_reducible refine' w_var ?hx ?_); (case hx => exact rfl)) | with_reducible refine w_c ?_ | with_reducible refine w_op ?_ | with_reducible refine w_un ?_ | with_reducible refine w_cb ?_ | with_reducible refine w_call ?_
  | with_reducible refine w_nil ?_ | with_reducible refine w_cons ?_ | with_reducible refine w_test ?_ | with_reducible refine w_b ?_ | with_reducible refine w_bl ?_ | with_reducible refine w_not ?_ | with_reducible refine w_and ?_ | with_reducible refine w_or ?_
  | with_reducible refine w_notV ?_ | with_reducible refine w_blV ?_ | with_reducible refine w_I0 ?_ | ((with_reducible refine w_mulL ?_ ?_); · omega) | ((with_reducible refine w_mulR ?_ ?_); · omega) | ((with_reducible refine w_pow ?_ ?_); · decide)
  | with_reducible refine w_neg ?_ | ((with_reducible refine w_eq ?_ ?_); · exact rfl) | ((with_reducible refine w_ne ?_ ?_); · exact rfl) | with_reducible refine w_int1 ?_ | with_reducible refine w_abs ?_ | with_reducible refine w_max2 ?_ | with_reducible refine w_min2 ?_
  | with_reducible refine w_gcons ?_ | with_reducible refine w_gnil ?_ | with_reducible refine w_tup ?_ | with_reducible refine w_lst ?_ | with_reducible refine w_sl ?_ | with_reducible refine w_no ?_ | with_reducible refine w_part ?_ | with_reducible refine w_partI ?_ | with_reducible refine ⟨_, (rfl : V.int _ = V.int _), ?_⟩
  | with_reducible refine w_for ?_ | with_reducible refine w_iL ?_ | with_reducible refine w_iT ?_ | with_reducible refine w_iR ?_ | with_reducible refine w_yes ?_ | with_reducible refine w_setLc ?_ | with_reducible refine w_isB ?_
  | ((with_reducible refine' w_ixT (by assumption) ?hx ?_); (case hx => exact rfl)) | ((with_reducible refine' w_ixL (by assumption) ?hx ?_); (case hx => exact rfl)) | ((with_reducible refine w_lenT (by assumption) ?_)) | ((with_reducible refine w_lenL (by assumption) ?_)) | with_reducible refine w_callD ?_ | with_reducible refine w_if ?_ | with_reducible refine w_andV ?_ | with_reducible refine w_orV ?_
  | ((with_reducible refine w_ifT ?hx ?_); (case hx => rfl)) | ((with_reducible refine w_ifF ?hx ?_); (case hx => rfl)))))

/-- an own class of errors that is caught -/
structure Cth (K : PySem.W.Frag) (mg : Str → Option Value) (x : Str) : Prop where
  gm : mg x = some (.ref (He.ga K x))
  ex : PySem.W.exmOne K (.ref (He.ga K x)) (.ref (He.ga K x)) = some true
structure CthF (K : PySem.W.Frag) (mg : Str → Option Value) (x f : Str) : Prop extends Cth K mg x where
  xf : XfC K (He.ga K x)
  nf : PySem.W.findIn K (.ref (He.ga K x)) f = some none
/-- what stands in so many slots -/
def tLen (n : Nat) (te : TE) : TE := fun σ H Q => σ.length = n → te σ H Q
theorem pe_len {X : Cx} {e : Expr} {te : TE} {n : Nat} (h : PE X e te) (hn : X.N.length = n := by rfl) : PE X e (tLen n te) := ⟨fun pins s σ H Q I q => h.run pins s σ H Q I (q (I.len.trans hn))⟩
/-! _law_said -/
def TTsaid (CB : Addr) : (XK → Hp → VK → Prop) → Hp → VK → Prop := fun tl H Q => tl (fun cls d H' => cls = .ref CB ∧ ∃ dd v, d = some dd ∧ H' dd = some (.xd [("reason", v)]) ∧ Q v H') H (fun v H1 => rIsN v .non H1 fun x H2 => ∃ k, x = .bl k ∧ if k = true then Q (.str "done") H2 else Q (.str "told") H2)
theorem said_gives {X : Cx} {g : Addr} {cdg : Value} {q : Str} (C : CthF X.K X.mg "Barred" "reason") : GivesTo X ["act", "e"] "_law_said" (defScope s__law_said) g cdg (defBody s__law_said) "act" q (TTsaid (He.ga X.K "Barred")) := by
  intro f c' s H Q tl act hc h
  have gl : Gl (cxOf C8.CX0 X.prog X.w X.K X.mg X.base ["act", "e"] "_law_said" (defScope s__law_said) g cdg X.A X.stack s H C8.E0).nox "Barred" := by rfl
  refine ⟨_, pss_one (ps_try_first (X := (cxOf C8.CX0 X.prog X.w X.K X.mg X.base ["act", "e"] "_law_said" (defScope s__law_said) g cdg X.A X.stack s H C8.E0).nox) (c := .ref (He.ga X.K "Barred")) (i := 1)
    (ts := fun a cls d => tRet (tLen 2 (tXf a cls d (He.ga X.K "Barred") "reason" (tVar 1))))
    (tb := fun W D σ H => ∃ Ech : XK, (∀ cls d σ' H', Ech cls d H' → W cls d σ' H') ∧ tRet (tIf (tTest (tOp rIsN (fun σZ HZ Q => σZ[0]? = some (some (.ref f)) ∧ HZ c' = some (CodeO c' q) ∧ tl Ech HZ Q) (tC .non))) (tC (.str "done")) (tC (.str "told"))) D σ H)
    rfl rfl sc__law_said.nd rfl rfl ⟨gl, by decide, .inl C.gm⟩ (fun W pn xe tk => ?_) (fun a oe cls d pn hz hd => pss_one (ps_ret (pe_len (pe_xf (X := (cxOf C8.CX0 X.prog X.w X.K X.mg X.base ["act", "e"] "_law_said" (defScope s__law_said) g cdg X.A X.stack s H C8.E0).nox) (C := He.ga X.K "Barred") C.xf C.nf hz hd (pv 1)))))), ?_⟩
  · refine ⟨fun pins s' σ H' D I h' => ?_⟩
    obtain ⟨Ech, hW, h3⟩ := h'
    exact (pss_one (ps_ret (pe_ifExp (pt_cmpR op_isN1 (act W pn xe Ech _ _ tk hW) pe_non (nomark _)) pe_str pe_str))).run pins s' σ H' D I h3
  · refine ⟨fun cls d H' => cls = .ref (He.ga X.K "Barred") ∧ ∃ dd v, d = some dd ∧ H' dd = some (.xd [("reason", v)]) ∧ Q v H', fun cls d σ' H' z => ?_, ?_⟩
    · obtain ⟨rfl, dd, v, rfl, hd, q⟩ := z
      refine ⟨C.ex, fun a na hl => ?_⟩
      have h2 : (σ'.set 1 (some (V.ref a))).length = 2 := hl
      rw [List.length_set] at h2
      refine ⟨.ref a, ?_, rfl, rfl, dd, _, v, rfl, hd, rfl, q⟩
      rw [List.getElem?_set_self (by omega)]
    · refine w_ret (w_if (w_test (w_op ⟨rfl, hc, ?_⟩)))
      exact h
/-! _law_is_empty -/
abbrev s__law_is_empty : Stmt := top 184
theorem sc__law_is_empty : FnScope ["desk"] ["desk"] (defScope s__law_is_empty) := ⟨rfl, rfl, rfl, by decide +kernel, rfl, by decide +kernel, by decide +kernel⟩
section
variable {P : Program} {w : World} {K : PySem.W.Frag} {mg : Str → Option Value} {base : Heap} {TT : List (Addr × Str)}
def spEmpty (K : PySem.W.Frag) : Sp := fun vs H Q _ => ∃ (x l : Addr) (rs bs : List Str) (ds : List Dd), vs = [.ref x] ∧ Dk K H x l rs bs ds [] ∧ ∀ H', Same H H' → Q (.bl true) H'
theorem df_is_empty (D : DkK K mg) (C : Cth K mg "NothingToUndo") (A : At K mg "_law_is_empty" s__law_is_empty) (D_undo : DfM P w K mg base (L2.CX P w) 5 (dkC K) "undo" ["self"] (spUndo K TT)) :
    Df P w K mg base CX0 6 "_law_is_empty" ["desk"] (spEmpty K) := by
  refine df_of A sc__law_is_empty (fun _ _ _ _ _ _ us hl => match us, hl with | [_], _ => rfl) (fun vs H Q E h => by obtain ⟨x, l, rs, bs, ds, rfl, _⟩ := h; rfl) (fun f cdv A outer s H vs Q E hrs h => ?_)
  refine ⟨_, pss_one (ps_try_only (c := .ref (He.ga K "NothingToUndo")) (Wout := fun _ _ _ _ => False)
    (tb := fun W D σ H => ∃ Ech : XK, (∀ cls d σ' H', Ech cls d H' → W cls d σ' H') ∧ tSeq (tDrop (tMeth (dkC K) "undo" (spUndo K TT) [] Ech (tVar 0) tNil)) (tRet (tC (.bl false))) D σ H)
    rfl rfl ⟨by rfl, by decide, .inl C.gm⟩ L2.takes0 (fun W pn xe tk hp => ?_) (fun a oe cls d pn hz hd => pss_one (ps_ret pe_bl))), ?_⟩
  · refine ⟨fun pins s' σ H' E' I h' => ?_⟩
    obtain ⟨Ech, hW, h3⟩ := h'
    exact (pss_cons (ps_expr (pe_dfM0 D_undo D.cls (hrs.mono (by decide)) (passes_call tk hW) (pv 0))) (pss_one (ps_ret pe_bl))).run pins s' σ H' E' I h3
  · obtain ⟨x, l, rs, bs, ds, rfl, k, q⟩ := h
    refine ⟨fun cls d H' => cls = .ref (He.ga K "NothingToUndo") ∧ Q (.bl true) H', fun cls d σ' H' z => ?_, ?_⟩
    · obtain ⟨rfl, z⟩ := z
      exact ⟨true, C.ex, fun _ a na => w_ret (w_c z), fun z => by cases z⟩
    have k' := k
    obtain ⟨dx, r, b, e, es, vs, kk⟩ := k
    have σe : L2.start ["desk"] [.ref x] = [some (.ref x)] := rfl
    rw [σe]
    refine w_seq (w_drop (w_meth (w_var (by rfl) ⟨x, dx, _, rfl, kk.x, rfl, w_nil ⟨x, l, rs, bs, ds, [], rfl, k', fun r hr => (by cases hr), fun _ H' s' => ?_, fun ps' r e => ?_⟩⟩)))
    · exact ⟨rfl, q _ s'⟩
    · have := congrArg List.length e
      simp at this
end
end K11

set_option Elab.async false
set_option linter.all false
set_option maxRecDepth 100000
set_option maxHeartbeats 4000000
namespace K11
open PySem PySem.Spec PyProof.Rows L2 LamX EqX
/-! the words' steps, one after another -/
local macro_rules | `(tactic| walk_at "w") => `(tactic| (repeat (first
  | with_reducible refine w_seq ?_ | with_reducible refine w_asg ?_ | with_reducible refine w_ret ?_ | with_reducible exact w_retN ?_ | with_reducible refine w_drop ?_ | with_reducible refine w_ifs ?_ | with_reducible refine w_next ?_
  | with_reducible refine w_name ?_ | with_reducible refine w_gsub ?_ | ((with_reducible refine' w_var ?hx ?_); (case hx => exact rfl)) | with_reducible refine w_c ?_ | with_reducible refine w_op ?_ | with_reducible refine w_un ?_ | with_reducible refine w_cb ?_ | with_reducible refine w_call ?_
  | with_reducible refine w_nil ?_ | with_reducible refine w_cons ?_ | with_reducible refine w_test ?_ | with_reducible refine w_b ?_ | with_reducible refine w_bl ?_ | with_reducible refine w_not ?_ | with_reducible refine w_and ?_ | with_reducible refine w_or ?_
  | with_reducible refine w_notV ?_ | with_reducible refine w_blV ?_ | with_reducible refine w_I0 ?_ | ((with_reducible refine w_mulL ?_ ?_); · omega) | ((with_reducible refine w_mulR ?_ ?_); · omega) | ((with_reducible refine w_pow ?_ ?_); · decide)
  | with_reducible refine w_neg ?_ | ((with_reducible refine w_eq ?_ ?_); · exact rfl) | ((with_reducible refine w_ne ?_ ?_); · exact rfl) | with_reducible refine w_int1 ?_ | with_reducible refine w_abs ?_ | with_reducible refine w_max2 ?_ | with_reducible refine w_min2 ?_
  | with_reducible refine w_gcons ?_ | with_reducible refine w_gnil ?_ | with_reducible refine w_tup ?_ | with_reducible refine w_lst ?_ | with_reducible refine w_sl ?_ | with_reducible refine w_no ?_ | with_reducible refine w_part ?_ | with_reducible refine w_partI ?_ | with_reducible refine ⟨_, (rfl : V.int _ = V.int _), ?_⟩
  | with_reducible refine w_for ?_ | with_reducible refine w_iL ?_ | with_reducible refine w_iT ?_ | with_reducible refine w_iR ?_ | with_reducible refine w_yes ?_ | with_reducible refine w_setLc ?_ | with_reducible refine w_isB ?_)))

/-! the words' steps, reads of tuples and lists at hand, tests that are settled -/
local macro_rules | `(tactic| walk_at "g") => `(tactic| (repeat (first
  | with_reducible refine w_seq ?_ | with_reducible refine w_asg ?_ | with_reducible refine w_ret ?_ | with_reducible exact w_retN ?_ | with_reducible refine w_drop ?_ | with_reducible refine w_ifs ?_ | (with_reducible refine w_next ?_; try dsimp only)
  | with_reducible refine w_name ?_ | with_reducible refine w_gsub ?_ | ((with_reducible refine' w_var ?hx ?_); (case hx => exact rfl)) | with_reducible refine w_c ?_ | with_reducible refine w_op ?_ | with_reducible refine w_un ?_ | with_reducible refine w_cb ?_ | with_reducible refine w_call ?_
  | with_reducible refine w_nil ?_ | with_reducible refine w_cons ?_ | with_reducible refine w_test ?_ | with_reducible refine w_b ?_ | with_reducible refine w_bl ?_ | with_reducible refine w_not ?_ | with_reducible refine w_and ?_ | with_reducible refine w_or ?_
  | with_reducible refine w_notV ?_ | with_reducible refine w_blV ?_ | with_reducible refine w_I0 ?_ | ((with_reducible refine w_mulL ?_ ?_); · omega) | ((with_reducible refine w_mulR ?_ ?_); · omega) | ((with_reducible refine w_pow ?_ ?_); · decide)
  | with_reducible refine w_neg ?_ | ((with_reducible refine w_eq ?_ ?_); · exact rfl) | ((with_reducible refine w_ne ?_ ?_); · exact rfl) | with_reducible refine w_int1 ?_ | with_reducible refine w_abs ?_ | with_reducible refine w_max2 ?_ | with_reducible refine w_min2 ?_
  | with_reducible refine w_gcons ?_ | with_reducible refine w_gnil ?_ | with_reducible refine w_tup ?_ | with_reducible refine w_lst ?_ | with_reducible refine w_sl ?_ | with_reducible refine w_no ?_ | with_reducible refine w_part ?_ | with_reducible refine w_partI ?_ | with_reducible refine ⟨_, (rfl : V.int _ = V.int _), ?_⟩
  | with_reducible refine w_for ?_ | with_reducible refine w_iL ?_ | with_reducible refine w_iT ?_ | with_reducible refine w_iR ?_ | with_reducible refine w_yes ?_ | with_reducible refine w_setLc ?_ | with_reducible refine w_isB ?_
  | ((with_reducible refine' w_ixT (by assumption) ?hx ?_); (case hx => exact rfl)) | ((with_reducible refine' w_ixL (by assumption) ?hx ?_); (case hx => exact rfl)) | ((with_reducible refine w_lenT (by assumption) ?_)) | ((with_reducible refine w_lenL (by assumption) ?_)) | with_reducible refine w_callD ?_ | with_reducible refine w_if ?_ | with_reducible refine w_andV ?_ | with_reducible refine w_orV ?_
  | ((with_reducible refine w_ifT ?hx ?_); (case hx => rfl)) | ((with_reducible refine w_ifF ?hx ?_); (case hx => rfl)))))

abbrev s__law_deed : Stmt := top 183
theorem sc__law_deed : FnScope ["draws", "rows", "more", "way", "at", "row"] ["draws", "rows", "more"] (defScope s__law_deed) := ⟨rfl, rfl, rfl, by decide +kernel, rfl, by decide +kernel, by decide +kernel⟩
theorem purse_up {TT : List (Addr × Str)} {H : Hp} {d : Addr} {f s t : Int} {A : List Addr} (h : Purse H d) (m : d ∈ A) : Up TT A H (upd H d (.lst (purseL f s t))) := let ⟨_, _, _, e, _⟩ := h; up_set e mu_lst m
theorem purse_new {H : Hp} {d : Addr} {f s t : Int} (f0 : 0 ≤ f) (s0 : 0 ≤ s) (s1 : s < bigM) : Purse (upd H d (.lst (purseL f s t))) d := ⟨f, s, t, upd_same, f0, s0, s1⟩
theorem purse_same {H H' : Hp} {d : Addr} (s : Same H H') (p : Purse H d) : Purse H' d := let ⟨f, s0, t, e, r⟩ := p; ⟨f, s0, t, s _ _ e, r⟩
section
variable {P : Program} {w : World} {K : PySem.W.Frag} {mg : Str → Option Value} {base : Heap} {TT : List (Addr × Str)}
theorem w_par {i j : Nat} {ta : TA} {D : Ends} {σ : L2.St} {H : Hp} (h : ta σ H fun vs H1 => ∃ v w, vs = [v, w] ∧ D.nx ((σ.set i (some v)).set j (some w)) H1) : tPar i j ta D σ H := h
theorem w_take {d : Addr} {m : Int} {H : Hp} {Q : VK} {E : XK} (h : Purse H d) (m0 : 0 < m) (m1 : m < 1000000) (q : ∀ (r : Nat) H', (r : Int) < m → Up TT [d] H H' → Purse H' d → Q (.int r) H') : spTake [.ref d, .int m] H Q E :=
  ⟨d, m, rfl, h, m0, m1, fun r f s t r0 r1 f0 s0 s1 => by
    have e : r = ((r.toNat : Nat) : Int) := by omega
    rw [e]
    exact q r.toNat _ (by omega) (purse_up h (by simp)) (purse_new f0 s0 s1)⟩
theorem w_pick {d a : Addr} {xs : List V} {H : Hp} {Q : VK} {E : XK} (h : Purse H d) (hs : SqL K H a xs ∨ SqT K H a xs) (n : a ≠ d) (ne : xs ≠ []) (l : xs.length < 1000000) (q : ∀ v H', v ∈ xs → Up TT [d] H H' → Purse H' d → Q v H') : spPick K [.ref d, .ref a] H Q E :=
  ⟨d, a, xs, rfl, h, hs, n, ne, l, fun v f s t hv f0 s0 s1 => q v _ hv (purse_up h (by simp)) (purse_new f0 s0 s1)⟩
def spDeedL (K : PySem.W.Frag) (TT : List (Addr × Str)) : Sp := fun vs H Q _ => ∃ (d p m : Addr) (rs ms : List Str), vs = [.ref d, .ref p, .ref m] ∧ Purse H d ∧ SqT K H p (sv rs) ∧ gR rs ∧ H m = some (.lst (sv ms)) ∧ m ≠ d ∧ ms ≠ [] ∧ ms.length ≤ 1000 ∧ (∀ z ∈ ms, gS z = true) ∧
  ∀ t D H', Up TT [d] H H' → Purse H' d → H' t = some (.tup D.vs) → gD D → Q (.ref t) H'
theorem df_deed (T : Kl P w K mg base) (A : At K mg "_law_deed" s__law_deed) (D__law_take : Df P w K mg base CX0 1 "_law_take" ["draws", "many"] spTake) (D__law_pick : Df P w K mg base CX0 2 "_law_pick" ["draws", "some"] (spPick K)) :
    Df P w K mg base CX0 3 "_law_deed" ["draws", "rows", "more"] (spDeedL K TT) := by
  refine df_of A sc__law_deed (fun _ _ _ _ _ _ us hl => match us, hl with | [_, _, _], _ => rfl) (fun vs H Q E h => by obtain ⟨d, p, m, rs, ms, rfl, _⟩ := h; rfl) (fun f cdv A outer s H vs Q E hrs h => ?_)
  refine ⟨_, (pss_cons (ps_par (i := 3) (j := 4) (by rfl) sc__law_deed.nd rfl rfl (by decide) rfl rfl (pa_cons (pe_df D__law_take (hrs.mono (by decide)) (pa_cons (pv 0) (pa_cons pe_int pa_nil))) (pa_cons (pe_df D__law_take (hrs.mono (by decide)) (pa_cons (pv 0) (pa_cons (pe_op op_add (pe_callB c_lenS (by rfl) T.n_len PySem.boot_len (pa_cons (pv 1) pa_nil)) pe_int) pa_nil))) pa_nil)) (by rfl))
      (pss_cons (ps_set (i := 5) sc__law_deed.nd rfl (Or.inl rfl) (pe_ifExp (pt_cmpR op_gt (pe_callB c_lenS (by rfl) T.n_len PySem.boot_len (pa_cons (pv 1) pa_nil)) pe_int (nomark _)) (pe_df D__law_pick (hrs.mono (by decide)) (pa_cons (pv 0) (pa_cons (pe_op op_cat (pv 2) (pe_callTy c_listS (by rfl) T.n_list (by decide +kernel) (pa_cons (pv 1) pa_nil))) pa_nil))) (pe_df D__law_pick (hrs.mono (by decide)) (pa_cons (pv 0) (pa_cons (pv 2) pa_nil)))))
      (pss_one (ps_ret (pe_ifExp (pt_cmpR op_eq (pv 3) pe_int (nomark _)) (pe_tup (pa_cons pe_str (pa_cons (pv 4) pa_nil))) (pe_tup (pa_cons (pe_ifExp (pt_cmpR op_lt (pv 3) pe_int (nomark _)) pe_str pe_str) (pa_cons (pv 4) (pa_cons (pv 5) pa_nil))))))))), ?_⟩
  obtain ⟨d, p, m, rs, ms, rfl, hd, hp, gr, hm, nm, ne, lm, gm, q⟩ := h
  have σe : L2.start ["draws", "rows", "more", "way", "at", "row"] [.ref d, .ref p, .ref m] = [some (.ref d), some (.ref p), some (.ref m), none, none, none] := rfl
  rw [σe]
  dsimp only [cxOf]
  have ln : (sv rs).length = rs.length := List.length_map ..
  have lms : (sv ms).length = ms.length := List.length_map ..
  refine w_seq (w_par ?_)
  walk_at "g"
  refine w_take (TT := TT) hd (by decide) (by decide) fun way H1 l1 u1 d1 => ?_
  have hp1 := u1.seqT hp
  walk_at "g"
  have gl := gr.1
  refine w_take (TT := TT) d1 (by omega) (by omega) fun at_ H2 l2 u2 d2 => ?_
  walk_at "g"
  refine ⟨_, _, rfl, ?_⟩
  dsimp only
  have U2 := u1.trans u2
  have hp2 := U2.seqT hp
  have hm2 := U2.keep m _ hm (by simpa using nm) (fun _ z => nomatch z)
  have ai : at_ ≤ 100 := by omega
  have fin : ∀ (z : Str) H3, gS z = true → Up TT [d] H H3 → Purse H3 d → gName 5 (.str z) [some (.ref d), some (.ref p), some (.ref m), some (.int (way : Int)), some (.int (at_ : Int)), none] H3 (fun σ H' => tRet (tIf (tTest (tOp rEq (tVar 3) (tC (.int 0)))) (tTup (tCons (tC (.str "out")) (tCons (tVar 4) tNil)))
      (tTup (tCons (tIf (tTest (tOp (rI0 fun i j => .bl (decide (i < j))) (tVar 3) (tC (.int 3)))) (tC (.str "put")) (tC (.str "row"))) (tCons (tVar 4) (tCons (tVar 5) tNil))))) { nx := fun _ H' => Q .non H', rt := Q } σ H') := by
    intro z H3 gz u3 d3
    refine w_name ?_
    walk_at "g"
    refine w_dec (fun c => ?_) (fun c => ?_)
    · walk_at "g"
      refine ⟨(by show 2 ≤ 2 ^ 24; decide), fun t ht => ?_⟩
      have st := same_newT (o := .tup [.str "out", .int (at_ : Int)]) ht
      exact q t (.out at_) _ (u3.trans (Up.of st)) (purse_same st d3) upd_same ⟨rfl, rfl, ai⟩
    · walk_at "g"
      refine w_dec (fun c => ?_) (fun c => ?_)
      · walk_at "g"
        refine ⟨(by show 3 ≤ 2 ^ 24; decide), fun t ht => ?_⟩
        have st := same_newT (o := .tup [.str "put", .int (at_ : Int), .str z]) ht
        exact q t (.put at_ z) _ (u3.trans (Up.of st)) (purse_same st d3) upd_same ⟨gS_rw gz, gS_so gz, ai⟩
      · walk_at "g"
        refine ⟨(by show 3 ≤ 2 ^ 24; decide), fun t ht => ?_⟩
        have st := same_newT (o := .tup [.str "row", .int (at_ : Int), .str z]) ht
        exact q t (.row at_ z) _ (u3.trans (Up.of st)) (purse_same st d3) upd_same ⟨gS_rw gz, gS_so gz, ai⟩
  walk_at "g"
  refine w_dec (fun c => ?_) (fun c => ?_)
  · walk_at "g"
    refine w_listT hp2 fun l hl => ?_
    have s3 := same_newT (o := .lst (sv rs)) hl
    refine ⟨m, l, sv ms, sv rs, rfl, rfl, s3 _ _ hm2, upd_same, (by rw [ln, lms]; show _ ≤ 2 ^ 24; omega), fun p4 h4 => ?_⟩
    have s4 := same_newT (o := .lst (sv ms ++ sv rs)) h4
    have S4 := s3.trans s4
    have d4 := purse_same S4 d2
    refine w_nil (w_pick (TT := TT) d4 (.inl (SqL.of upd_same)) (fun z => ?_) (fun z => ?_) (by rw [List.length_append, ln, lms]; omega) fun v H5 hv u5 d5 => ?_)
    · obtain ⟨_, _, _, e, _⟩ := purse_same s3 d2
      rw [← z, h4] at e
      cases e
    · have := congrArg List.length z
      rw [List.length_append, ln, lms, List.length_nil] at this
      exact ne (List.eq_nil_of_length_eq_zero (by omega))
    · have U5 := (U2.trans (Up.of S4)).trans u5
      rcases List.mem_append.mp hv with h | h
      · obtain ⟨z, hz, rfl⟩ := List.mem_map.mp h
        exact fin z H5 (gm z hz) U5 d5
      · obtain ⟨z, hz, rfl⟩ := List.mem_map.mp h
        exact fin z H5 (gr.2 z hz) U5 d5
  · walk_at "g"
    refine w_pick (TT := TT) d2 (.inl (SqL.of hm2)) nm (fun z => ?_) (by rw [lms]; omega) fun v H5 hv u5 d5 => ?_
    · exact ne (List.map_eq_nil_iff.mp z)
    · obtain ⟨z, hz, rfl⟩ := List.mem_map.mp hv
      exact fin z H5 (gm z hz) (U2.trans u5) d5
end
end K11

set_option Elab.async false
set_option linter.all false
set_option maxRecDepth 100000
set_option maxHeartbeats 4000000
namespace K11
open PySem PySem.Spec PyProof.Rows L2 LamX EqX
/-! ### the rows behind each of some deeds -/
def sts : List Str → List Dd → List (List Str)
  | b, [] => [b]
  | b, d :: ds => b :: sts (behindD b d) ds
def okP : List Str → List Dd → Prop
  | _, [] => True
  | b, d :: ds => reasonD b d = .non ∧ okP (behindD b d) ds
theorem sts_ne : ∀ (b : List Str) (ds : List Dd), sts b ds ≠ []
  | _, [] => by simp [sts]
  | _, _ :: _ => by simp [sts]
theorem sts_len : ∀ (b : List Str) (ds : List Dd), (sts b ds).length = ds.length + 1
  | _, [] => rfl
  | b, d :: ds => by rw [sts, List.length_cons, sts_len, List.length_cons]
theorem sts_snoc : ∀ {ds : List Dd} {b : List Str} {ps : List (List Str)} {r : List Str} {d : Dd}, sts b ds = ps ++ [r] → sts b (ds ++ [d]) = (ps ++ [r]) ++ [behindD r d]
  | [], b, ps, r, d, h => by
    cases ps with
    | nil =>
      rw [sts] at h
      obtain rfl : b = r := by simpa using h
      rfl
    | cons p ps =>
      have := congrArg List.length h
      simp [sts] at this
  | e :: ds, b, ps, r, d, h => by
    rw [sts] at h
    cases ps with
    | nil =>
      have := congrArg List.length h
      rw [List.length_cons, sts_len] at this
      simp at this
    | cons p ps =>
      rw [List.cons_append] at h
      injection h with h1 h2
      rw [List.cons_append, sts, sts_snoc h2, h1]
      rfl
theorem okP_snoc : ∀ {ds : List Dd} {b : List Str} {ps : List (List Str)} {r : List Str} {d : Dd}, okP b ds → sts b ds = ps ++ [r] → reasonD r d = .non → okP b (ds ++ [d])
  | [], b, ps, r, d, _, h, q => by
    cases ps with
    | nil =>
      rw [sts] at h
      obtain rfl : b = r := by simpa using h
      exact ⟨q, trivial⟩
    | cons p ps =>
      have := congrArg List.length h
      simp [sts] at this
  | e :: ds, b, ps, r, d, o, h, q => by
    rw [sts] at h
    cases ps with
    | nil =>
      have := congrArg List.length h
      rw [List.length_cons, sts_len] at this
      simp at this
    | cons p ps =>
      rw [List.cons_append] at h
      injection h with h1 h2
      exact ⟨o.1, okP_snoc o.2 h2 q⟩
theorem sts_init : ∀ {ds : List Dd} {b : List Str} {d : Dd}, sts b ds = (sts b (ds ++ [d])).dropLast
  | [], b, d => rfl
  | e :: ds, b, d => by
    rw [List.cons_append, sts, sts, sts_init (ds := ds) (b := behindD b e) (d := d), List.dropLast_cons_of_ne_nil (sts_ne _ _)]
theorem okP_init : ∀ {ds : List Dd} {b : List Str} {d : Dd}, okP b (ds ++ [d]) → okP b ds
  | [], _, _, _ => trivial
  | _ :: _, _, _, h => ⟨h.1, okP_init h.2⟩
/-- undone -/
theorem sts_undo {ds : List Dd} {b : List Str} {ps : List (List Str)} {r r' : List Str} (h : sts b ds = (ps ++ [r]) ++ [r']) : sts b ds.dropLast = ps ++ [r] := by
  have hl := congrArg List.length h
  rw [sts_len] at hl
  have ne : ds ≠ [] := fun z => by
    rw [z] at hl
    simp at hl
  have e := List.dropLast_concat_getLast ne
  rw [← e] at h
  rw [sts_init (d := ds.getLast ne), h, List.dropLast_concat]
theorem okP_undo {ds : List Dd} {b : List Str} (h : okP b ds) : okP b ds.dropLast := by
  by_cases ne : ds = []
  · rw [ne]
    trivial
  · have e := List.dropLast_concat_getLast ne
    rw [← e] at h
    exact okP_init h
theorem gR_behind {rs : List Str} {d : Dd} (h : gR rs) (g : gD d) (n : reasonD rs d = .non) : gR (behindD rs d) := by
  have gs : ∀ s, (rwB s = true) → PyData.strOk s = true → gS s = true := fun s a b => by
    unfold gS
    rw [a, b]
    rfl
  obtain ⟨h1, h2⟩ := h
  obtain ⟨g1, g2, _⟩ := g
  cases d with
  | put i s =>
    have n : (if rs.length = 30 then V.str "full" else if rs.length < i then .str "far" else .non) = .non := n
    have l1 : rs.length ≠ 30 := fun z => by
      rw [if_pos z] at n
      cases n
    refine ⟨?_, fun z hz => ?_⟩
    · unfold behindD
      simp only [List.length_append, List.length_take, List.length_drop, List.length_cons, List.length_nil]
      omega
    · unfold behindD at hz
      rcases List.mem_append.mp hz with hz | hz
      · rcases List.mem_append.mp hz with hz | hz
        · exact h2 z (List.mem_of_mem_take hz)
        · rw [List.mem_singleton.mp hz]
          exact gs s g1 g2
      · exact h2 z (List.mem_of_mem_drop hz)
  | row i s =>
    have n : (if rs.length ≤ i then V.str "none" else if rs[i]? = some s then .str "same" else .non) = .non := n
    have l1 : ¬ rs.length ≤ i := fun z => by
      rw [if_pos z] at n
      cases n
    refine ⟨?_, fun z hz => ?_⟩
    · unfold behindD
      simp only [List.length_append, List.length_take, List.length_drop, List.length_cons, List.length_nil]
      omega
    · unfold behindD at hz
      rcases List.mem_append.mp hz with hz | hz
      · rcases List.mem_append.mp hz with hz | hz
        · exact h2 z (List.mem_of_mem_take hz)
        · rw [List.mem_singleton.mp hz]
          exact gs s g1 g2
      · exact h2 z (List.mem_of_mem_drop hz)
  | out i =>
    refine ⟨?_, fun z hz => ?_⟩
    · unfold behindD
      simp only [List.length_append, List.length_take, List.length_drop]
      omega
    · unfold behindD at hz
      rcases List.mem_append.mp hz with hz | hz
      · exact h2 z (List.mem_of_mem_take hz)
      · exact h2 z (List.mem_of_mem_drop hz)
theorem two_reasons (rs : List Str) (d : Dd) : (∃ s, reasonD rs d = .str s) ∨ reasonD rs d = .non := by
  cases d with
  | put i s => unfold reasonD; (repeat' split) <;> first | exact .inr rfl | exact .inl ⟨_, rfl⟩
  | row i s => unfold reasonD; (repeat' split) <;> first | exact .inr rfl | exact .inl ⟨_, rfl⟩
  | out i => unfold reasonD; (repeat' split) <;> first | exact .inr rfl | exact .inl ⟨_, rfl⟩
section
variable {K : PySem.W.Frag} {TT : List (Addr × Str)} {A : List Addr} {H H' : Hp} {x l : Addr} {rs bs : List Str} {ds : List Dd} {ps : List (List Str)}
theorem Dk.up (u : Up TT A H H') (hx : x ∉ A) (hl : l ∉ A) : Dk K H x l rs bs ds ps → Dk K H' x l rs bs ds ps := fun ⟨dx, r, b, e, es, vs, k⟩ =>
  ⟨dx, r, b, e, es, vs, ⟨u.keep x _ k.x hx (fun _ z => nomatch z), u.seqT k.r, u.seqT k.b, u.seqT k.e, k.es.up u, u.keep l _ k.l hl (fun _ z => nomatch z), k.vs.up u⟩⟩
theorem Dk.same (s : Same H H') : Dk K H x l rs bs ds ps → Dk K H' x l rs bs ds ps := Dk.up (TT := []) (A := []) (Up.of s) (by simp) (by simp)
theorem Dk.lst (k : Dk K H x l rs bs ds ps) : ∃ xs, H l = some (.lst xs) := let ⟨_, _, _, _, _, _, k⟩ := k; ⟨_, k.l⟩
theorem Dk.ins (k : Dk K H x l rs bs ds ps) : ∃ dx fs, H x = some (.ins (dkC K) dx fs) := let ⟨_, _, _, _, _, _, k⟩ := k; ⟨_, _, k.x⟩
theorem ty_tup {a : Addr} {xs : List V} (h : SqT K H a xs) : TyX K H (.ref a) (.type "tuple") := by
  rcases h with (h | ⟨o, h⟩) | ⟨o, its, n, h1, h2, _⟩
  · exact .base (.tup h)
  · exact .fTuple h
  · exact .kTuple h1 h2
theorem Rws.snoc {H : Hp} {a : Addr} {r : List Str} : ∀ {es : List Addr} {ds : List (List Str)}, Rws K H (es ++ [a]) (ds ++ [r]) → Rws K H es ds ∧ SqT K H a (sv r)
  | [], [], h => ⟨trivial, h.1⟩
  | [], [_], h => h.2.elim
  | [], _ :: _ :: _, h => h.2.elim
  | [_], [], h => h.2.elim
  | _ :: _ :: _, [], h => h.2.elim
  | _ :: _, _ :: _, h => ⟨⟨h.1, (Rws.snoc h.2).1⟩, (Rws.snoc h.2).2⟩
end
end K11

set_option Elab.async false
set_option linter.all false
set_option maxRecDepth 100000
set_option maxHeartbeats 4000000
namespace K11
open PySem PySem.Spec PyProof.Rows L2 LamX EqX
/-! the words' steps, one after another -/
local macro_rules | `(tactic| walk_at "w") => `(tactic| (repeat (first
  | with_reducible refine w_seq ?_ | with_reducible refine w_asg ?_ | with_reducible refine w_ret ?_ | with_reducible exact w_retN ?_ | with_reducible refine w_drop ?_ | with_reducible refine w_ifs ?_ | with_reducible refine w_next ?_
  | with_reducible refine w_name ?_ | with_reducible refine w_gsub ?_ | ((with_reducible refine' w_var ?hx ?_); (case hx => exact rfl)) | with_reducible refine w_c ?_ | with_reducible refine w_op ?_ | with_reducible refine w_un ?_ | with_reducible refine w_cb ?_ | with_reducible refine w_call ?_
  | with_reducible refine w_nil ?_ | with_reducible refine w_cons ?_ | with_reducible refine w_test ?_ | with_reducible refine w_b ?_ | with_reducible refine w_bl ?_ | with_reducible refine w_not ?_ | with_reducible refine w_and ?_ | with_reducible refine w_or ?_
  | with_reducible refine w_notV ?_ | with_reducible refine w_blV ?_ | with_reducible refine w_I0 ?_ | ((with_reducible refine w_mulL ?_ ?_); · omega) | ((with_reducible refine w_mulR ?_ ?_); · omega) | ((with_reducible refine w_pow ?_ ?_); · decide)
  | with_reducible refine w_neg ?_ | ((with_reducible refine w_eq ?_ ?_); · exact rfl) | ((with_reducible refine w_ne ?_ ?_); · exact rfl) | with_reducible refine w_int1 ?_ | with_reducible refine w_abs ?_ | with_reducible refine w_max2 ?_ | with_reducible refine w_min2 ?_
  | with_reducible refine w_gcons ?_ | with_reducible refine w_gnil ?_ | with_reducible refine w_tup ?_ | with_reducible refine w_lst ?_ | with_reducible refine w_sl ?_ | with_reducible refine w_no ?_ | with_reducible refine w_part ?_ | with_reducible refine w_partI ?_ | with_reducible refine ⟨_, (rfl : V.int _ = V.int _), ?_⟩
  | with_reducible refine w_for ?_ | with_reducible refine w_iL ?_ | with_reducible refine w_iT ?_ | with_reducible refine w_iR ?_ | with_reducible refine w_yes ?_ | with_reducible refine w_setLc ?_ | with_reducible refine w_isB ?_)))

/-! the words' steps, reads of tuples and lists at hand, tests that are settled -/
local macro_rules | `(tactic| walk_at "g") => `(tactic| (repeat (first
  | with_reducible refine w_seq ?_ | with_reducible refine w_asg ?_ | with_reducible refine w_ret ?_ | with_reducible exact w_retN ?_ | with_reducible refine w_drop ?_ | with_reducible refine w_ifs ?_ | (with_reducible refine w_next ?_; try dsimp only)
  | with_reducible refine w_name ?_ | with_reducible refine w_gsub ?_ | ((with_reducible refine' w_var ?hx ?_); (case hx => exact rfl)) | with_reducible refine w_c ?_ | with_reducible refine w_op ?_ | with_reducible refine w_un ?_ | with_reducible refine w_cb ?_ | with_reducible refine w_call ?_
  | with_reducible refine w_nil ?_ | with_reducible refine w_cons ?_ | with_reducible refine w_test ?_ | with_reducible refine w_b ?_ | with_reducible refine w_bl ?_ | with_reducible refine w_not ?_ | with_reducible refine w_and ?_ | with_reducible refine w_or ?_
  | with_reducible refine w_notV ?_ | with_reducible refine w_blV ?_ | with_reducible refine w_I0 ?_ | ((with_reducible refine w_mulL ?_ ?_); · omega) | ((with_reducible refine w_mulR ?_ ?_); · omega) | ((with_reducible refine w_pow ?_ ?_); · decide)
  | with_reducible refine w_neg ?_ | ((with_reducible refine w_eq ?_ ?_); · exact rfl) | ((with_reducible refine w_ne ?_ ?_); · exact rfl) | with_reducible refine w_int1 ?_ | with_reducible refine w_abs ?_ | with_reducible refine w_max2 ?_ | with_reducible refine w_min2 ?_
  | with_reducible refine w_gcons ?_ | with_reducible refine w_gnil ?_ | with_reducible refine w_tup ?_ | with_reducible refine w_lst ?_ | with_reducible refine w_sl ?_ | with_reducible refine w_no ?_ | with_reducible refine w_part ?_ | with_reducible refine w_partI ?_ | with_reducible refine ⟨_, (rfl : V.int _ = V.int _), ?_⟩
  | with_reducible refine w_for ?_ | with_reducible refine w_iL ?_ | with_reducible refine w_iT ?_ | with_reducible refine w_iR ?_ | with_reducible refine w_yes ?_ | with_reducible refine w_setLc ?_ | with_reducible refine w_isB ?_
  | ((with_reducible refine' w_ixT (by assumption) ?hx ?_); (case hx => exact rfl)) | ((with_reducible refine' w_ixL (by assumption) ?hx ?_); (case hx => exact rfl)) | ((with_reducible refine w_lenT (by assumption) ?_)) | ((with_reducible refine w_lenL (by assumption) ?_)) | with_reducible refine w_callD ?_ | with_reducible refine w_if ?_ | with_reducible refine w_andV ?_ | with_reducible refine w_orV ?_
  | ((with_reducible refine w_ifT ?hx ?_); (case hx => rfl)) | ((with_reducible refine w_ifF ?hx ?_); (case hx => rfl)))))

abbrev s__law_run : Stmt := top 185
theorem sc__law_run : FnScope ["draws", "first", "more", "desk", "states", "deeds_here", "turn", "deed", "found"] ["draws", "first", "more", "desk"] (defScope s__law_run) := ⟨rfl, rfl, rfl, by decide +kernel, rfl, by decide +kernel, by decide +kernel⟩
abbrev lamQ2 : Str := "_law_run.<locals>.<lambda>"
theorem passN {X : Cx} : Passes (L2.CX X.prog X.w) X E0 := passes_call (W := fun _ _ _ _ => False) L2.takes0 (fun _ _ _ _ h => h)
theorem pe_said {X : Cx} {T : List (Addr × Str)} {c P : Addr} {k : Nat} {params : Arguments} {body : Expr} {scope : Scope} {t : XK → TE} {p lpos pos : Pos} (A : At X.K X.mg "_law_said" s__law_said) (C : CthF X.K X.mg "Barred" "reason") (hg : Gl X "_law_said")
    (TB : TabB X.base X.mg c P) (hcode : X.env.code = .ref c) (hmT : (P, X.env.qual ++ "<lambda>") ∈ T) (hu : ∀ p ∈ T, p.1 = P → p.2 = X.env.qual ++ "<lambda>") (hr : Room (k + 2) X.A) (L : LamS X.env.scope scope) (hdef : defaultsOf params X.env = ([], []))
    (hbind : ∀ (q : Str) (cl : List (Str × Addr)) (pm cv ctv : Value), bindArgs (PySem.W.kla_fn "<lambda>" q params body scope cl pm cv ctv) ⟨[], []⟩ = pure [])
    (hbody : ∀ (A : Around) (outer : List Env) (s : Shared) (H : Hp) (E : XK) (f c' : Addr), Room k (A.deeper (lamEnv X scope s.heap.objs.size f c')) → PE (lamCx X A outer s H E scope f c') body (t E)) :
    PE X (.Call (.Name "_law_said" p) [.Lambda params body scope lpos] [] pos) (tLam T (TTsaid (He.ga X.K "Barred")) t) := by
  obtain ⟨fd, F⟩ := A.fn
  obtain ⟨oc, od, dV, kV, doc, pm, an, cdv, ct, osl, rfl, lk, hcd, hD, hK⟩ := F.ex
  have b : L2.Binds X.K _ ["act"] [] := F.bindsN fun kV doc pm an cdv ct us hl => match us, hl with | [_], _ => rfl
  exact pe_lamcall (a := "act") hg A.gm F.kp lk hcd b sc__law_said rfl (.inl rfl) (said_gives C) TB hcode hmT hu hr L hdef hbind hbody
section
variable {P : Program} {w : World} {K : PySem.W.Frag} {mg : Str → Option Value} {base : Heap} {TT : List (Addr × Str)} {c PT : Addr}
structure RunS (K : PySem.W.Frag) (H : Hp) (x l L : Addr) (rs bs : List Str) (ds : List Dd) (ps : List (List Str)) (vs : List Addr) : Prop where
  dk : Dk K H x l rs bs ds ps
  L : H L = some (.lst (vs.map V.ref))
  vs : Rws K H vs (ps ++ [rs])
  gr : ∀ r ∈ ps ++ [rs], gR r
  gd : ∀ d ∈ ds, gD d
  st : sts bs ds = ps ++ [rs]
  ok : okP bs ds
  dl : ds.length ≤ 12
def spRun (K : PySem.W.Frag) (TT : List (Addr × Str)) : Sp := fun vs H Q _ => ∃ (d p m x l : Addr) (bs ms : List Str), vs = [.ref d, .ref p, .ref m, .ref x] ∧ Tabs TT H ∧ Purse H d ∧ SqT K H p (sv bs) ∧ gR bs ∧ H m = some (.lst (sv ms)) ∧ m ≠ d ∧ m ≠ l ∧ d ≠ l ∧ ms ≠ [] ∧ ms.length ≤ 1000 ∧ (∀ z ∈ ms, gS z = true) ∧
  Dk K H x l bs bs [] [] ∧ ∀ L rs ds ps ws H', Up TT [d, x, l] H H' → Fr H L → Purse H' d → RunS K H' x l L rs bs ds ps ws → Q (.ref L) H'
theorem purse_keep {A : List Addr} {H H' : Hp} {d : Addr} (u : Up TT A H H') (h : d ∉ A) : Purse H d → Purse H' d := fun ⟨f, s, t, e, r⟩ => ⟨f, s, t, u.keep d _ e h (fun _ z => nomatch z), r⟩
def RunI (K : PySem.W.Frag) (TT : List (Addr × Str)) (H : Hp) (d p m x l L : Addr) (bs : List Str) (i : Nat) (σ' : L2.St) (H' : Hp) : Prop :=
  ∃ (e : Addr) (es : List Addr) (rs : List Str) (ds : List Dd) (ps : List (List Str)) (ws : List Addr) (o6 o7 o8 : Option V), σ' = [some (.ref d), some (.ref p), some (.ref m), some (.ref x), some (.ref L), some (.ref e), o6, o7, o8] ∧ Up TT [L, d, x, l] H H' ∧ Tabs TT H' ∧ Purse H' d ∧
    RunS K H' x l L rs bs ds ps ws ∧ SqT K H' e (es.map V.ref) ∧ Deeds H' es ds ∧ ds.length ≤ i
theorem RunS.up {A : List Addr} {H H' : Hp} {x l L : Addr} {rs bs : List Str} {ds : List Dd} {ps : List (List Str)} {vs : List Addr} (R : RunS K H x l L rs bs ds ps vs) (u : Up TT A H H') (hx : x ∉ A) (hl : l ∉ A) (hL : L ∉ A) : RunS K H' x l L rs bs ds ps vs :=
  ⟨R.dk.up u hx hl, u.keep L _ R.L hL (fun _ z => nomatch z), R.vs.up u, R.gr, R.gd, R.st, R.ok, R.dl⟩
theorem RunI.same {H H1 H2 : Hp} {d p m x l L : Addr} {bs : List Str} {i : Nat} {σ : L2.St} (s : Same H1 H2) : RunI K TT H d p m x l L bs i σ H1 → RunI K TT H d p m x l L bs i σ H2 := fun ⟨e, es, rs, ds, ps, ws, o6, o7, o8, h1, h2, h3, h4, h5, h6, h7, h8⟩ =>
  ⟨e, es, rs, ds, ps, ws, o6, o7, o8, h1, h2.trans (Up.of s), h3.ext s, purse_same s h4, h5.up (TT := TT) (A := []) (Up.of s) (by simp) (by simp) (by simp), (Up.of (TT := TT) (A := []) s).seqT h6, h7.up (Up.of (TT := TT) (A := []) s), h8⟩
theorem w_seqG {t u : TS} {D : Ends} {σ : L2.St} {H : Hp} (S : L2.St → Hp → Prop) (hf : ∀ σ' H', S σ' H' → u D σ' H') (hm : (∀ σ' H', S σ' H' → u D σ' H') → t { D with nx := u D } σ H) : tSeq t u D σ H := hm hf
theorem at_last (ws : List Addr) (a : Addr) : atI ((ws ++ [a]).map V.ref) (-1) = some (.ref a) := by
  unfold atI ixN
  have hl : ((ws ++ [a]).map V.ref).length = ws.length + 1 := by simp
  rw [hl, if_neg (by omega)]
  have e : ((-1 : Int) + ((ws.length + 1 : Nat) : Int)).toNat = ws.length := by omega
  rw [if_pos (by omega), e]
  show ((ws ++ [a]).map V.ref)[ws.length]? = _
  simp
theorem df_run (T : Kl P w K mg base) (D : DkK K mg) (A : AtC K mg "_law_run" s__law_run c) (TB : TabB base mg c PT) (hmT : (PT, lamQ2) ∈ TT) (hu : ∀ p ∈ TT, p.1 = PT → p.2 = lamQ2) (A_said : At K mg "_law_said" s__law_said) (C_Barred : CthF K mg "Barred" "reason")
    (D__law_take : Df P w K mg base CX0 1 "_law_take" ["draws", "many"] spTake) (D__law_deed : Df P w K mg base CX0 3 "_law_deed" ["draws", "rows", "more"] (spDeedL K TT)) (D__law_move : Df P w K mg base CX0 1 "_law_move" ["rows", "deed"] (spMove K))
    (D__law_is_so : DfG P w K mg base CX0 2 "_law_is_so" ["desk", "rows", "deeds_here"] (spSo K)) (D_undo : DfM P w K mg base (L2.CX P w) 5 (dkC K) "undo" ["self"] (spUndo K TT)) (D_do : DfM P w K mg base (L2.CX P w) 5 (dkC K) "do" ["self", "deed"] (spDo K TT)) :
    DfG P w K mg base CX0 8 "_law_run" ["draws", "first", "more", "desk"] (spRun K TT) := by
  refine dfCG_of A sc__law_run (fun _ _ _ _ _ _ us hl => match us, hl with | [_, _, _, _], _ => rfl) (fun vs H Q E h => by obtain ⟨d, p, m, x, l, bs, ms, rfl, _⟩ := h; rfl) (fun A outer s H vs Q E hrs hgd0 h => ?_)
  have hgd : (A.deeper (envOfC "_law_run" (defScope s__law_run) s.heap.objs.size (He.ga K "_law_run") (.ref c))).guards = some [] := hgd0
  refine ⟨_, PSs.nox (pss_cons (ps_par (i := 4) (j := 5) (by rfl) sc__law_run.nd rfl rfl (by decide) rfl rfl (pa_cons (pe_lst (pa_cons (pv 1) pa_nil)) (pa_cons (pe_tup pa_nil) pa_nil)) (by rfl))
      (pss_cons (ps_for PassesOwn.never rfl (pi_range1 (by rfl) T.n_range (pa_cons pe_int pa_nil)) (pg_name (i := 6) sc__law_run.nd rfl (Or.inl rfl)) (pss_cons (ps_if (PW.pt (pw_and (pt_cmpR op_eq (pe_df D__law_take (hrs.mono (by decide)) (pa_cons (pv 0) (pa_cons pe_int pa_nil))) pe_int (nomark _)) (pw_and1 (pt_cmpR op_gt (pe_callB c_lenS (by rfl) T.n_len PySem.boot_len (pa_cons (pv 4) pa_nil)) pe_int (nomark _))))) (pss_cons (ps_if (pt_cmpR op_notN1 (pe_dfM0 D_undo D.cls (hrs.mono (by decide)) passN (pv 3)) pe_non (nomark _)) (pss_one (ps_ret pe_non)) pss_nil)
      (pss_cons (ps_expr (pe_bm0 PySem.F.plainAttrs_list PySem.F.slot_list_pop PySem.F.type_list_pop mt_pop (pv 4)))
      (pss_one (ps_set (i := 5) sc__law_run.nd rfl (Or.inl rfl) (pe_slice sl_tupA (pv 5) po_none (po_some (pe_un un_neg pe_int))))))) (pss_cons (ps_set (i := 7) sc__law_run.nd rfl (Or.inr rfl) (pe_df D__law_deed (hrs.mono (by decide)) (pa_cons (pv 0) (pa_cons (pe_ix ix_list (pv 4) (pe_un un_neg pe_int) (fun _ _ => rfl)) (pa_cons (pv 2) pa_nil)))))
      (pss_cons (ps_set (i := 8) sc__law_run.nd rfl (Or.inl rfl) (pe_df D__law_move (hrs.mono (by decide)) (pa_cons (pe_ix ix_list (pv 4) (pe_un un_neg pe_int) (fun _ _ => rfl)) (pa_cons (pv 7) pa_nil))))
      (pss_cons (ps_if (pt_cmpR op_ne (pe_said A_said C_Barred rfl TB rfl hmT hu (k := 5) (hrs.mono (by decide)) (lamS_by (sc := defScope s__law_run) (by decide +kernel)) rfl (fun _ _ _ _ _ => rfl) (t := fun E => tMeth (dkC K) "do" (spDo K TT) [] E (tVar 3) (tCons (tVar 7) tNil)) (fun A outer s H E f c' hr => pe_dfM D_do D.cls hr (passes_call (L2.takes_of rfl rfl rfl rfl) (fun _ _ _ _ h => h)) (pv 3) (pa_cons (pv 7) pa_nil))) (pe_ifExp (pt_val (pe_callB call_isi (by rfl) T.n_isinstance (by decide +kernel) (pa_cons (pv 8) (pa_cons (pe_bltn (v := .ty "str") (by rfl) T.n_str (by decide +kernel) rfl) pa_nil)))) (pv 8) pe_str) (nomark _)) (pss_one (ps_ret pe_non)) pss_nil)
      (pss_one (ps_if (pt_not (pt_val (pe_callB call_isi (by rfl) T.n_isinstance (by decide +kernel) (pa_cons (pv 8) (pa_cons (pe_bltn (v := .ty "str") (by rfl) T.n_str (by decide +kernel) rfl) pa_nil))))) (pss_cons (ps_expr (pe_bm PySem.F.plainAttrs_list PySem.F.slot_list_append PySem.F.type_list_append mt_append (pv 4) (pa_cons (pv 8) pa_nil)))
      (pss_one (ps_set (i := 5) sc__law_run.nd rfl (Or.inl rfl) (pe_op op_catA (pv 5) (pe_tup (pa_cons (pv 7) pa_nil)))))) pss_nil))))))
      (pss_one (ps_if (pt_not (pt_val (pe_dfG D__law_is_so (hrs.mono (by decide)) hgd (pa_cons (pv 3) (pa_cons (pe_ix ix_list (pv 4) (pe_un un_neg pe_int) (fun _ _ => rfl)) (pa_cons (pv 5) pa_nil)))))) (pss_one (ps_ret pe_non)) pss_nil))))
      (pss_one (ps_ret (pv 4))))), ?_⟩
  obtain ⟨d, p, m, x, l, bs, ms, rfl, hT, hd, hp, gb, hm, nmd, nml, ndl, ne, lm, gm, hk, q⟩ := h
  have σe : L2.start ["draws", "first", "more", "desk", "states", "deeds_here", "turn", "deed", "found"] [.ref d, .ref p, .ref m, .ref x] = [some (.ref d), some (.ref p), some (.ref m), some (.ref x), none, none, none, none, none] := rfl
  rw [σe]
  dsimp only [cxOf]
  have nLd : ∀ L, H L = none → L ≠ d ∧ L ≠ x ∧ L ≠ l ∧ L ≠ m := fun L hL => by
    obtain ⟨_, _, _, e1, _⟩ := hd
    obtain ⟨_, e2⟩ := hk.lst
    obtain ⟨_, _, e3⟩ := hk.ins
    refine ⟨fun z => ?_, fun z => ?_, fun z => ?_, fun z => ?_⟩ <;> rw [z] at hL
    · rw [hL] at e1; cases e1
    · rw [hL] at e3; cases e3
    · rw [hL] at e2; cases e2
    · rw [hL] at hm; cases hm
  have nxd : x ≠ d := fun z => by
    obtain ⟨_, _, _, e1, _⟩ := hd
    obtain ⟨_, _, e3⟩ := hk.ins
    rw [z, e1] at e3
    cases e3
  have nxl : x ≠ l := fun z => by
    obtain ⟨_, e2⟩ := hk.lst
    obtain ⟨_, _, e3⟩ := hk.ins
    rw [z, e2] at e3
    cases e3
  have nxm : m ≠ x := fun z => by
    obtain ⟨_, _, e3⟩ := hk.ins
    rw [z, e3] at hm
    cases hm
  refine w_seq (w_par ?_)
  walk_at "g"
  refine ⟨(by show 1 ≤ 2 ^ 24; decide), fun L hL => ?_⟩
  obtain ⟨nL1, nL2, nL3, nL4⟩ := nLd L hL
  have s1 := same_newT (o := .lst [.ref p]) hL
  walk_at "g"
  refine ⟨(by show 0 ≤ 2 ^ 24; decide), fun e0 he0 => ?_⟩
  have s2 := same_newT (o := .tup []) he0
  have S2 := s1.trans s2
  walk_at "g"
  refine ⟨_, _, rfl, ?_⟩
  dsimp only
  walk_at "g"
  refine ⟨12, rfl, by decide, by decide, ?_⟩
  refine for_range (lo := 0) (n := 12) (RunI K TT H d p m x l L bs) ?_ (fun i σ1 H1 hi h1 => ?_) (fun σ1 H1 h1 => ?_)
  · have uS : Up TT [L, d, x, l] H _ := Up.of S2
    refine ⟨e0, [], bs, [], [], [p], none, none, none, rfl, uS, hT.ext S2, purse_same S2 hd, ⟨hk.same S2, s2 _ _ upd_same, ⟨uS.seqT hp, trivial⟩, fun r hr => ?_, fun _ h => absurd h List.not_mem_nil, rfl, trivial, Nat.zero_le _⟩, SqT.of upd_same, trivial, Nat.le_refl _⟩
    rw [List.nil_append, List.mem_singleton] at hr
    rw [hr]
    exact gb
  · obtain ⟨e, es, rs, ds, ps, ws, o6, o7, o8, rfl, u1, T1, d1, R, he, hde, dl⟩ := h1
    refine w_name ?_
    refine w_seqG (RunI K TT H d p m x l L bs (i + 1)) (fun σ3 H3 g => ?_) (fun hf => ?_)
    · obtain ⟨e', es', rs', ds', ps', ws', o6', o7', o8', rfl, u3, T3, d3, R3, he3, hde3, dl3⟩ := id g
      obtain ⟨wsi, rv, hws, hwi, hrv⟩ := Rws.back R3.vs
      have hL3 : SqL K H3 L (ws'.map V.ref) := SqL.of R3.L
      have hat := at_last wsi rv
      rw [← hws] at hat
      refine w_ifs ?_
      walk_at "g"
      refine w_ixL hL3 hat ?_
      walk_at "g"
      refine ⟨x, rv, e', l, rs', bs, es', ds', ps', rfl, R3.dk, hrv, he3, hde3, R3.gr _ (by simp), R3.gd, by omega, fun H4 s4 => ?_⟩
      walk_at "g"
      exact g.same s4
    · have nLA : L ∉ [d] := by simpa using nL1
      have nxA : x ∉ [d] := by simpa using nxd
      have nlA : l ∉ [d] := by simpa using Ne.symm ndl
      obtain ⟨wsi, rv, hws, hwi0, hrv0⟩ := Rws.back R.vs
      have hat := at_last wsi rv
      rw [← hws] at hat
      refine w_ifs (w_midTH (fun b H2 => Up TT [d] H1 H2 ∧ Tabs TT H2 ∧ Purse H2 d ∧ (b = true → 1 < ws.length)) (fun QT hQ => ?_) fun b H2 ⟨u2, T2, d2, hb⟩ => ?_)
      · walk_at "g"
        refine w_take (TT := TT) d1 (by decide) (by decide) fun way H2 l2 u2 d2 => ?_
        have T2 := u2.tabs T1
        have hL2 : SqL K H2 L (ws.map V.ref) := SqL.of (u2.keep _ _ R.L nLA (fun _ z => nomatch z))
        walk_at "g"
        refine w_dec (fun c => ?_) (fun c => hQ _ _ ⟨u2, T2, d2, fun z => nomatch z⟩)
        walk_at "g"
        refine hQ _ _ ⟨u2, T2, d2, fun z => ?_⟩
        have := of_decide_eq_true z
        rw [List.length_map] at this
        omega
      · have R2 := R.up u2 nxA nlA nLA
        have he2 := u2.seqT he
        have hde2 := hde.up u2
        have U2 : Up TT [L, d, x, l] H H2 := u1.trans (u2.mono (by simp))
        refine w_ifb (fun hbt => ?_) (fun hbf => ?_)
        · have hlen := hb hbt
          have hpl : ws.length = ps.length + 1 := by
            have := R.vs.len
            rw [List.length_append] at this
            exact this
          obtain ⟨ps', r, hps⟩ : ∃ ps' r, ps = ps' ++ [r] := by
            have nn : ps ≠ [] := fun z => by
              rw [z] at hpl
              simp at hpl
              omega
            exact ⟨ps.dropLast, ps.getLast nn, (List.dropLast_concat_getLast nn).symm⟩
          subst hps
          have dk2 := R2.dk
          obtain ⟨dx, r1, b1, e1, es1, vs1, k⟩ := R2.dk
          walk_at "g"
          refine w_meth (w_var (by rfl) ⟨x, dx, _, rfl, k.x, rfl, w_nil ⟨x, l, rs, bs, ds, ps' ++ [r], rfl, dk2, fun r0 h0 => gR_so (R.gr r0 (List.mem_append_left _ h0)), fun z => absurd z (by simp), fun ps2 r2 hps2 H3 u3 k3 => ?_⟩⟩)
          obtain ⟨rfl, hr2⟩ := List.append_inj' hps2 rfl
          obtain rfl : r = r2 := by simpa using hr2
          have hL3 := u3.keep _ _ R2.L (by simp; exact ⟨nL2, nL3⟩) (fun _ z => nomatch z)
          walk_at "g"
          refine ⟨rfl, ?_⟩
          walk_at "g"
          have hpop : (ws.map V.ref)[(ws.map V.ref).length - 1]? = some (.ref rv) := by
            rw [hws]
            simp
          refine w_var (v := .ref L) (by rfl) ⟨.inl ⟨rfl, _, SqL.of hL3⟩, L, _, .ref rv, rfl, rfl, hL3, hpop, ?_⟩
          dsimp only
          have hdr : (ws.map V.ref).dropLast = wsi.map V.ref := by
            rw [hws]
            simp
          rw [hdr]
          have u4 : Up TT [L] _ _ := up_set (TT := TT) (A := [L]) (o' := .lst (wsi.map V.ref)) hL3 mu_lst (by simp)
          have he4 := u4.seqT (u3.seqT he2)
          refine w_asg (w_sl (w_var (by rfl) (w_no (w_part (w_un (w_c (w_neg ⟨-1, rfl, ?_⟩)))))))
          refine w_slT he4 fun e' H5 s5 he' => ?_
          rw [cut_butLast] at he'
          refine w_name (hf _ _ ?_)
          have u5 : Up TT [L, d, x, l] _ H5 := (u3.mono (by simp)).trans ((u4.mono (by simp)).trans (Up.of s5))
          have U5 := U2.trans u5
          have v5 : Up TT [L] _ H5 := u4.trans (Up.of s5)
          refine ⟨e', es.dropLast, r, ds.dropLast, ps', wsi, _, _, _, rfl, U5, U5.tabs hT, purse_same s5 (?_), ⟨k3.up v5 (by simpa using Ne.symm nL2) (by simpa using Ne.symm nL3), s5 _ _ upd_same, (hwi0.up u2).up u5, fun r0 h0 => R.gr r0 (List.mem_append_left _ h0), fun d0 h0 => R.gd d0 ((List.dropLast_sublist _).subset h0), sts_undo R.st, okP_undo R.ok, ?_⟩, ?_, hde2.last.up u5, ?_⟩
          · obtain ⟨f, s0, t, ed, r0⟩ := d2
            refine ⟨f, s0, t, ?_, r0⟩
            rw [upd_ne (Ne.symm nL1)]
            exact u3.keep _ _ ed (by simp; exact ⟨Ne.symm nxd, ndl⟩) (fun _ z => nomatch z)
          · rw [List.length_dropLast]
            have := R.dl
            omega
          · rw [List.map_dropLast]
            exact he'
          · rw [List.length_dropLast]
            omega
        · have hL2 : SqL K H2 L (ws.map V.ref) := SqL.of R2.L
          have hm1 := u1.keep m _ hm (by simp; exact ⟨Ne.symm nL4, nmd, nxm, nml⟩) (fun _ z => nomatch z)
          have hm2 := u2.keep m _ hm1 (by simpa using nmd) (fun _ z => nomatch z)
          have grs := R.gr rs (by simp)
          have gl := grs.1
          have pll : ps.length ≤ 1000 := by
            have := congrArg List.length R.st
            rw [sts_len, List.length_append, List.length_cons, List.length_nil] at this
            have := R.dl
            omega
          have dll := R.dl
          walk_at "g"
          refine w_ixL hL2 hat ?_
          walk_at "g"
          refine ⟨d, rv, m, rs, ms, rfl, d2, u2.seqT hrv0, grs, hm2, nmd, ne, lm, gm, fun t D3 H3 u3 d3 ht gD3 => ?_⟩
          have R3 := R2.up u3 nxA nlA nLA
          have hL3 : SqL K H3 L (ws.map V.ref) := SqL.of R3.L
          walk_at "g"
          refine w_ixL hL3 hat ?_
          walk_at "g"
          have hrv3 := u3.seqT (u2.seqT hrv0)
          refine ⟨rv, t, rs, D3, rfl, hrv3, ht, gl, fun z hz H4 s4 => ?_, fun hn r H4 s4 hr => ?_⟩
          · have T4 := (u3.tabs T2).ext s4
            walk_at "g"
            refine ⟨T4, fun H5 x5 T5 => ?_⟩
            have v5 : Up TT [] H3 H5 := (Up.of s4).trans (Up.ext x5 fun _ => T5)
            have R5 := R3.up v5 (by simp) (by simp) (by simp)
            have dk5 := R5.dk
            obtain ⟨dx, r1, b1, e1, es1, vs1, k⟩ := R5.dk
            refine w_meth (w_var (by rfl) ⟨x, dx, _, rfl, k.x, rfl, w_cons (w_var (by rfl) (w_nil ⟨x, l, t, rs, bs, ds, ps, D3, rfl, dk5, ⟨v5.tup _ _ ht, gD3.1⟩, gl, by omega, pll, fun z' hz' dd H6 s6 hd6 => ?_, fun hn H6 u6 k6 => ?_⟩))⟩)
            · rw [hz] at hz'
              obtain rfl : z = z' := by injection hz'
              refine ⟨rfl, dd, .str z, rfl, hd6, ?_⟩
              walk_at "g"
              refine w_isi (t := "str") (.base (.str _)) (kit_str "str" (by decide)) ⟨_, rfl, w_ifT (by decide) ?_⟩
              walk_at "g"
              refine w_ifF (by rw [decide_eq_true rfl]; rfl) ?_
              walk_at "g"
              refine w_isi (t := "str") (.base (.str _)) (kit_str "str" (by decide)) ⟨_, rfl, w_ifF (by decide) ?_⟩
              have V6 : Up TT [] H3 H6 := v5.trans (Up.of s6)
              refine hf _ _ ⟨e, es, rs, ds, ps, ws, _, _, _, rfl, (U2.trans (u3.mono (by simp))).trans (V6.mono (by simp)), V6.tabs (u3.tabs T2), purse_keep V6 (by simp) d3, R3.up V6 (by simp) (by simp) (by simp), V6.seqT (u3.seqT he2), (hde2.up u3).up V6, by omega⟩
            · rw [hz] at hn
              cases hn
          · have T4 := (u3.tabs T2).ext s4
            walk_at "g"
            refine ⟨T4, fun H5 x5 T5 => ?_⟩
            have w5 : Up TT [] H4 H5 := Up.ext x5 fun _ => T5
            have v5 : Up TT [] H3 H5 := (Up.of s4).trans w5
            have R5 := R3.up v5 (by simp) (by simp) (by simp)
            have dk5 := R5.dk
            obtain ⟨dx, r1, b1, e1, es1, vs1, k⟩ := R5.dk
            refine w_meth (w_var (by rfl) ⟨x, dx, _, rfl, k.x, rfl, w_cons (w_var (by rfl) (w_nil ⟨x, l, t, rs, bs, ds, ps, D3, rfl, dk5, ⟨v5.tup _ _ ht, gD3.1⟩, gl, by omega, pll, fun z' hz' dd H6 s6 hd6 => ?_, fun _ H6 u6 k6 => ?_⟩))⟩)
            · rw [hn] at hz'
              cases hz'
            · refine ⟨rfl, _, rfl, w_ifT (by decide) ?_⟩
              have hr6 := u6.seqT (w5.seqT hr)
              have nLx : L ∉ [x, l] := by simp; exact ⟨nL2, nL3⟩
              have hL6 := u6.keep _ _ R5.L nLx (fun _ z => nomatch z)
              have V6 : Up TT [x, l] H3 H6 := (v5.mono (by simp)).trans u6
              have ht6 := V6.tup _ _ ht
              walk_at "g"
              refine w_isi (t := "tuple") (ty_tup hr6) (kit_str "tuple" (by decide)) ⟨_, rfl, w_ifF (by decide) ?_⟩
              walk_at "g"
              refine w_isi (t := "tuple") (ty_tup hr6) (kit_str "tuple" (by decide)) ⟨_, rfl, w_ifT (by decide) ?_⟩
              walk_at "g"
              have lw : (ws.map V.ref).length < sizeLine := by
                have := R.vs.len
                rw [List.length_append, List.length_cons, List.length_nil] at this
                rw [List.length_map]
                show ws.length < 2 ^ 24
                omega
              refine w_var (v := .ref L) (by rfl) ⟨.inl ⟨rfl, _, SqL.of hL6⟩, w_cons (w_var (by rfl) (w_nil ⟨L, ws.map V.ref, .ref r, rfl, rfl, hL6, lw, ?_⟩))⟩
              dsimp only
              have u7 : Up TT [L] _ _ := up_set (TT := TT) (A := [L]) (o' := .lst (ws.map V.ref ++ [.ref r])) hL6 mu_lst (by simp)
              have he7 := u7.seqT (V6.seqT (u3.seqT he2))
              refine w_asg (w_op (w_var (by rfl) (w_tup (w_cons (w_var (by rfl) (w_nil ⟨(by show 1 ≤ 2 ^ 24; decide), fun t1 ht1 => ?_⟩))))))
              have s8 := same_newT (o := .tup [.ref t]) ht1
              refine w_catT (sqT_sm s8 he7) (SqT.of upd_same) ?_ fun e' H9 s9 he' => ?_
              · rw [List.length_map, hde.len]
                show ds.length + 1 ≤ 2 ^ 24
                omega
              · have S9 := s8.trans s9
                have v9 : Up TT [L] H6 H9 := u7.trans (Up.of S9)
                have V9 : Up TT [x, l, L] H3 H9 := (V6.mono (by simp)).trans (v9.mono (by simp))
                have U9 : Up TT [L, d, x, l] H H9 := U2.trans ((u3.mono (by simp)).trans (V9.mono fun a ha => by
                  simp only [List.mem_cons, List.not_mem_nil, or_false] at ha ⊢
                  rcases ha with h | h | h <;> simp [h]))
                refine w_name (hf _ _ ⟨e', es ++ [t], behindD rs D3, ds ++ [D3], ps ++ [rs], ws ++ [r], _, _, _, rfl, U9, U9.tabs hT, purse_keep V9 (by simp; exact ⟨Ne.symm nxd, ndl, Ne.symm nL1⟩) d3, ?_, ?_, ?_, ?_⟩)
                · refine ⟨k6.up v9 (by simpa using Ne.symm nL2) (by simpa using Ne.symm nL3), ?_, ?_, ?_, ?_, sts_snoc R.st, okP_snoc R.ok R.st hn, ?_⟩
                  · rw [List.map_append]
                    exact S9 _ _ upd_same
                  · exact Rws.app (v9.seqT hr6) (R3.vs.up V9)
                  · intro r0 h0
                    rcases List.mem_append.mp h0 with h0 | h0
                    · exact R.gr r0 h0
                    · rw [List.mem_singleton.mp h0]
                      exact gR_behind grs gD3 hn
                  · intro d0 h0
                    rcases List.mem_append.mp h0 with h0 | h0
                    · exact R.gd d0 h0
                    · rw [List.mem_singleton.mp h0]
                      exact gD3
                  · rw [List.length_append, List.length_cons, List.length_nil]
                    omega
                · rw [List.map_append]
                  exact he'
                · exact Deeds.app ⟨v9.tup _ _ ht6, gD3.1⟩ ((hde2.up u3).up V9)
                · rw [List.length_append, List.length_cons, List.length_nil]
                  omega
  · obtain ⟨e, es, rs, ds, ps, ws, o6, o7, o8, rfl, u1, T1, d1, R, he, hde, dl⟩ := h1
    exact w_ret (w_var (by rfl) (q L rs ds ps ws H1 (u1.drop hL) (fun o e => by rw [hL] at e; cases e) d1 R))
end
end K11

set_option Elab.async false
set_option linter.all false
set_option maxRecDepth 100000
set_option maxHeartbeats 4000000
namespace K11
open PySem PySem.Spec PyProof.Rows L2 LamX EqX
/-! the words' steps, one after another -/
local macro_rules | `(tactic| walk_at "w") => `(tactic| (repeat (first
  | with_reducible refine w_seq ?_ | with_reducible refine w_asg ?_ | with_reducible refine w_ret ?_ | with_reducible exact w_retN ?_ | with_reducible refine w_drop ?_ | with_reducible refine w_ifs ?_ | with_reducible refine w_next ?_
  | with_reducible refine w_name ?_ | with_reducible refine w_gsub ?_ | ((with_reducible refine' w_var ?hx ?_); (case hx => exact rfl)) | with_reducible refine w_c ?_ | with_reducible refine w_op ?_ | with_reducible refine w_un ?_ | with_reducible refine w_cb ?_ | with_reducible refine w_call ?_
  | with_reducible refine w_nil ?_ | with_reducible refine w_cons ?_ | with_reducible refine w_test ?_ | with_reducible refine w_b ?_ | with_reducible refine w_bl ?_ | with_reducible refine w_not ?_ | with_reducible refine w_and ?_ | with_reducible refine w_or ?_
  | with_reducible refine w_notV ?_ | with_reducible refine w_blV ?_ | with_reducible refine w_I0 ?_ | ((with_reducible refine w_mulL ?_ ?_); · omega) | ((with_reducible refine w_mulR ?_ ?_); · omega) | ((with_reducible refine w_pow ?_ ?_); · decide)
  | with_reducible refine w_neg ?_ | ((with_reducible refine w_eq ?_ ?_); · exact rfl) | ((with_reducible refine w_ne ?_ ?_); · exact rfl) | with_reducible refine w_int1 ?_ | with_reducible refine w_abs ?_ | with_reducible refine w_max2 ?_ | with_reducible refine w_min2 ?_
  | with_reducible refine w_gcons ?_ | with_reducible refine w_gnil ?_ | with_reducible refine w_tup ?_ | with_reducible refine w_lst ?_ | with_reducible refine w_sl ?_ | with_reducible refine w_no ?_ | with_reducible refine w_part ?_ | with_reducible refine w_partI ?_ | with_reducible refine ⟨_, (rfl : V.int _ = V.int _), ?_⟩
  | with_reducible refine w_for ?_ | with_reducible refine w_iL ?_ | with_reducible refine w_iT ?_ | with_reducible refine w_iR ?_ | with_reducible refine w_yes ?_ | with_reducible refine w_setLc ?_ | with_reducible refine w_isB ?_)))

/-! the words' steps, reads of tuples and lists at hand, tests that are settled -/
local macro_rules | `(tactic| walk_at "g") => `(tactic| (repeat (first
  | with_reducible refine w_seq ?_ | with_reducible refine w_asg ?_ | with_reducible refine w_ret ?_ | with_reducible exact w_retN ?_ | with_reducible refine w_drop ?_ | with_reducible refine w_ifs ?_ | (with_reducible refine w_next ?_; try dsimp only)
  | with_reducible refine w_name ?_ | with_reducible refine w_gsub ?_ | ((with_reducible refine' w_var ?hx ?_); (case hx => exact rfl)) | with_reducible refine w_c ?_ | with_reducible refine w_op ?_ | with_reducible refine w_un ?_ | with_reducible refine w_cb ?_ | with_reducible refine w_call ?_
  | with_reducible refine w_nil ?_ | with_reducible refine w_cons ?_ | with_reducible refine w_test ?_ | with_reducible refine w_b ?_ | with_reducible refine w_bl ?_ | with_reducible refine w_not ?_ | with_reducible refine w_and ?_ | with_reducible refine w_or ?_
  | with_reducible refine w_notV ?_ | with_reducible refine w_blV ?_ | with_reducible refine w_I0 ?_ | ((with_reducible refine w_mulL ?_ ?_); · omega) | ((with_reducible refine w_mulR ?_ ?_); · omega) | ((with_reducible refine w_pow ?_ ?_); · decide)
  | with_reducible refine w_neg ?_ | ((with_reducible refine w_eq ?_ ?_); · exact rfl) | ((with_reducible refine w_ne ?_ ?_); · exact rfl) | with_reducible refine w_int1 ?_ | with_reducible refine w_abs ?_ | with_reducible refine w_max2 ?_ | with_reducible refine w_min2 ?_
  | with_reducible refine w_gcons ?_ | with_reducible refine w_gnil ?_ | with_reducible refine w_tup ?_ | with_reducible refine w_lst ?_ | with_reducible refine w_sl ?_ | with_reducible refine w_no ?_ | with_reducible refine w_part ?_ | with_reducible refine w_partI ?_ | with_reducible refine ⟨_, (rfl : V.int _ = V.int _), ?_⟩
  | with_reducible refine w_for ?_ | with_reducible refine w_iL ?_ | with_reducible refine w_iT ?_ | with_reducible refine w_iR ?_ | with_reducible refine w_yes ?_ | with_reducible refine w_setLc ?_ | with_reducible refine w_isB ?_
  | ((with_reducible refine' w_ixT (by assumption) ?hx ?_); (case hx => exact rfl)) | ((with_reducible refine' w_ixL (by assumption) ?hx ?_); (case hx => exact rfl)) | ((with_reducible refine w_lenT (by assumption) ?_)) | ((with_reducible refine w_lenL (by assumption) ?_)) | with_reducible refine w_callD ?_ | with_reducible refine w_if ?_ | with_reducible refine w_andV ?_ | with_reducible refine w_orV ?_
  | ((with_reducible refine w_ifT ?hx ?_); (case hx => rfl)) | ((with_reducible refine w_ifF ?hx ?_); (case hx => rfl)))))

def rAdd : R2 := fun x y H Q => ∃ i j, x = .str i ∧ y = .str j ∧ i.length + j.length ≤ sizeLine ∧ Q (.str (i ++ j)) H
theorem op_addS {X : Cx} : OpR X (binaryOp .Add) rAdd := op_add_str
/-! ### strings put together: short, no line end -/
def litB (z : Str) : Bool := PyData.strOk z && !decide (10 ∈ z.cps.toList)
def Pz (n : Nat) (z : Str) : Prop := z.length ≤ n ∧ litB z = true
def P1 (k n : Nat) (z : Str) : Prop := Pz n z ∧ z.cps[1]? = some k
theorem litB_app {x y : Str} (h1 : litB x = true) (h2 : litB y = true) : litB (x ++ y) = true := by
  unfold litB PyData.strOk at *
  simp only [Bool.and_eq_true, Bool.not_eq_true', decide_eq_false_iff_not] at *
  have e : (x ++ y).cps = x.cps ++ y.cps := rfl
  rw [e]
  refine ⟨?_, ?_⟩
  · rw [Array.all_append, h1.1, h2.1]
    rfl
  · rw [Array.toList_append, List.mem_append]
    rintro (h | h)
    · exact h1.2 h
    · exact h2.2 h
theorem Pz.app {x y : Str} {n m : Nat} (h1 : Pz n x) (h2 : Pz m y) : Pz (n + m) (x ++ y) := by
  refine ⟨?_, litB_app h1.2 h2.2⟩
  rw [strLen_append]
  exact Nat.add_le_add h1.1 h2.1
theorem Pz.le {z : Str} {n m : Nat} (h : Pz n z) (l : n ≤ m) : Pz m z := ⟨Nat.le_trans h.1 l, h.2⟩
theorem P1.app {x y : Str} {n m k : Nat} (h1 : P1 k n x) (h2 : Pz m y) : P1 k (n + m) (x ++ y) := by
  refine ⟨h1.1.app h2, ?_⟩
  have e : (x ++ y).cps = x.cps ++ y.cps := rfl
  rw [e]
  obtain ⟨hl, _⟩ := Array.getElem?_eq_some_iff.mp h1.2
  rw [Array.getElem?_append_left hl]
  exact h1.2
theorem Pz.gS {z : Str} {n : Nat} (h : Pz n z) (l : n ≤ 200) : gS z = true := by
  obtain ⟨h1, h2⟩ := h
  unfold litB at h2
  unfold K11.gS rwB
  rw [Bool.and_eq_true] at h2 ⊢
  rw [Bool.and_eq_true, decide_eq_true_iff]
  exact ⟨⟨by omega, h2.2⟩, h2.1⟩
def GS (S : Str → Prop) (te : TE) (σ : L2.St) (H : Hp) : Prop := ∀ Q : VK, (∀ z, S z → Q (.str z) H) → te σ H Q
def GA (S : List Str → Prop) (t : TA) (σ : L2.St) (H : Hp) : Prop := ∀ Q : List V → Hp → Prop, (∀ zs, S zs → Q (sv zs) H) → t σ H Q
def GL (S : List Str → Prop) (te : TE) (σ : L2.St) (H : Hp) : Prop := ∀ Q : VK, (∀ p zs H', Same H H' → H p = none → H' p = some (.lst (sv zs)) → S zs → Q (.ref p) H') → te σ H Q
/-- so many such strings -/
def Al (k : Nat) (zs : List Str) : Prop := zs.length = k ∧ ∀ z ∈ zs, Pz 190 z
section
variable {σ : L2.St} {H : Hp} {te ta tb : TE} {t : TA} {S S1 S2 : Str → Prop} {n m k i : Nat} {z : Str}
theorem gs_le (h : GS (Pz n) te σ H) (l : n ≤ m) : GS (Pz m) te σ H := fun Q q => h Q fun z hz => q z (hz.le l)
theorem gs_c (h : litB z = true) : GS (Pz z.length) (tC (.str z)) σ H := fun Q q => q z ⟨Nat.le_refl _, h⟩
theorem gs_c1 (h : litB z = true) (e : z.cps[1]? = some k) : GS (P1 k z.length) (tC (.str z)) σ H := fun Q q => q z ⟨⟨Nat.le_refl _, h⟩, e⟩
theorem gs_v (e : σ[i]? = some (some (.str z))) (h : Pz n z) : GS (Pz n) (tVar i) σ H := fun Q q => ⟨.str z, e, q z h⟩
theorem gs_add (h1 : GS (Pz n) ta σ H) (h2 : GS (Pz m) tb σ H) (l : n + m ≤ 10000) : GS (Pz (n + m)) (tOp rAdd ta tb) σ H := fun Q q => h1 _ fun x hx => h2 _ fun y hy => ⟨x, y, rfl, rfl, by have := hx.1; have := hy.1; show _ ≤ 2 ^ 24; omega, q _ (hx.app hy)⟩
theorem gs_add1 (h1 : GS (P1 k n) ta σ H) (h2 : GS (Pz m) tb σ H) (l : n + m ≤ 10000) : GS (P1 k (n + m)) (tOp rAdd ta tb) σ H := fun Q q => h1 _ fun x hx => h2 _ fun y hy => ⟨x, y, rfl, rfl, by have := hx.1.1; have := hy.1; show _ ≤ 2 ^ 24; omega, q _ (hx.app hy)⟩
theorem ga_nil : GA (Al 0) tNil σ H := fun Q q => q [] ⟨rfl, fun _ h => absurd h List.not_mem_nil⟩
theorem ga_cons (h1 : GS (Pz n) te σ H) (l : n ≤ 190) (h2 : GA (Al k) t σ H) : GA (Al (k + 1)) (tCons te t) σ H := fun Q q => h1 _ fun x hx => h2 _ fun r hr => q (x :: r) ⟨by rw [List.length_cons, hr.1], fun z hz => by
  rcases List.mem_cons.mp hz with rfl | hz
  · exact hx.le l
  · exact hr.2 z hz⟩
theorem ga_cons1 {c : Nat} (h1 : GS (P1 c n) te σ H) (l : n ≤ 190) (h2 : GA (Al k) t σ H) : GA (fun zs => Al (k + 1) zs ∧ ∃ z r, zs = z :: r ∧ z.cps[1]? = some c) (tCons te t) σ H := fun Q q => h1 _ fun x hx => h2 _ fun r hr => q (x :: r) ⟨⟨by rw [List.length_cons, hr.1], fun z hz => by
  rcases List.mem_cons.mp hz with rfl | hz
  · exact hx.1.le l
  · exact hr.2 z hz⟩, x, r, rfl, hx.2⟩
theorem gl_lst {S : List Str → Prop} (h : GA S t σ H) (hs : ∀ zs, S zs → zs.length ≤ 100) : GL S (tLst t) σ H := fun Q q => h _ fun zs hz => ⟨by rw [List.length_map]; have := hs zs hz; show _ ≤ 2 ^ 24; omega, fun p hp => q p zs _ (same_newT hp) hp upd_same hz⟩
/-- more and more rows: the old list's variable, a new list -/
theorem gl_cat {S T U : List Str → Prop} {p : Addr} {zs : List Str} (e : σ[i]? = some (some (.ref p))) (hp : H p = some (.lst (sv zs))) (hz : S zs) (h : GL T tb σ H) (hu : ∀ b, T b → U (zs ++ b)) (l : zs.length ≤ 100) (hl : ∀ b, T b → b.length ≤ 100) :
    GL U (tOp rCat (tVar i) tb) σ H := fun Q q => ⟨.ref p, e, h _ fun b ys H' s nb hb ty => ⟨p, b, sv zs, sv ys, rfl, rfl, s _ _ hp, hb, (by rw [List.length_map, List.length_map]; have := hl ys ty; show _ ≤ 2 ^ 24; omega), fun r hr => by
      have e2 : sv zs ++ sv ys = sv (zs ++ ys) := (List.map_append ..).symm
      rw [e2]
      exact q r (zs ++ ys) _ (s.trans (same_newT hr)) (s.free hr) upd_same (hu ys ty)⟩⟩
theorem w_gl {S : List Str → Prop} {g : TG} {D : Ends} (h : GL S te σ H) (q : ∀ p zs H', Same H H' → H p = none → H' p = some (.lst (sv zs)) → S zs → g (.ref p) σ H' D.nx) : tAsg te g D σ H := h _ q
theorem w_gs {g : TG} {D : Ends} (h : GS S te σ H) (q : ∀ z, S z → g (.str z) σ H D.nx) : tAsg te g D σ H := h _ q
theorem Al.app {a b : List Str} {j : Nat} (h1 : Al j a) (h2 : Al k b) : Al (j + k) (a ++ b) := ⟨by rw [List.length_append, h1.1, h2.1], fun z hz => (List.mem_append.mp hz).elim (h1.2 z) (h2.2 z)⟩
end
end K11

set_option Elab.async false
set_option linter.all false
set_option maxRecDepth 100000
set_option maxHeartbeats 4000000
namespace K11
open PySem PySem.Spec PyProof.Rows L2 LamX EqX
/-! the words' steps, one after another -/
local macro_rules | `(tactic| walk_at "w") => `(tactic| (repeat (first
  | with_reducible refine w_seq ?_ | with_reducible refine w_asg ?_ | with_reducible refine w_ret ?_ | with_reducible exact w_retN ?_ | with_reducible refine w_drop ?_ | with_reducible refine w_ifs ?_ | with_reducible refine w_next ?_
  | with_reducible refine w_name ?_ | with_reducible refine w_gsub ?_ | ((with_reducible refine' w_var ?hx ?_); (case hx => exact rfl)) | with_reducible refine w_c ?_ | with_reducible refine w_op ?_ | with_reducible refine w_un ?_ | with_reducible refine w_cb ?_ | with_reducible refine w_call ?_
  | with_reducible refine w_nil ?_ | with_reducible refine w_cons ?_ | with_reducible refine w_test ?_ | with_reducible refine w_b ?_ | with_reducible refine w_bl ?_ | with_reducible refine w_not ?_ | with_reducible refine w_and ?_ | with_reducible refine w_or ?_
  | with_reducible refine w_notV ?_ | with_reducible refine w_blV ?_ | with_reducible refine w_I0 ?_ | ((with_reducible refine w_mulL ?_ ?_); · omega) | ((with_reducible refine w_mulR ?_ ?_); · omega) | ((with_reducible refine w_pow ?_ ?_); · decide)
  | with_reducible refine w_neg ?_ | ((with_reducible refine w_eq ?_ ?_); · exact rfl) | ((with_reducible refine w_ne ?_ ?_); · exact rfl) | with_reducible refine w_int1 ?_ | with_reducible refine w_abs ?_ | with_reducible refine w_max2 ?_ | with_reducible refine w_min2 ?_
  | with_reducible refine w_gcons ?_ | with_reducible refine w_gnil ?_ | with_reducible refine w_tup ?_ | with_reducible refine w_lst ?_ | with_reducible refine w_sl ?_ | with_reducible refine w_no ?_ | with_reducible refine w_part ?_ | with_reducible refine w_partI ?_ | with_reducible refine ⟨_, (rfl : V.int _ = V.int _), ?_⟩
  | with_reducible refine w_for ?_ | with_reducible refine w_iL ?_ | with_reducible refine w_iT ?_ | with_reducible refine w_iR ?_ | with_reducible refine w_yes ?_ | with_reducible refine w_setLc ?_ | with_reducible refine w_isB ?_)))

/-! the words' steps, reads of tuples and lists at hand, tests that are settled -/
local macro_rules | `(tactic| walk_at "g") => `(tactic| (repeat (first
  | with_reducible refine w_seq ?_ | with_reducible refine w_asg ?_ | with_reducible refine w_ret ?_ | with_reducible exact w_retN ?_ | with_reducible refine w_drop ?_ | with_reducible refine w_ifs ?_ | (with_reducible refine w_next ?_; try dsimp only)
  | with_reducible refine w_name ?_ | with_reducible refine w_gsub ?_ | ((with_reducible refine' w_var ?hx ?_); (case hx => exact rfl)) | with_reducible refine w_c ?_ | with_reducible refine w_op ?_ | with_reducible refine w_un ?_ | with_reducible refine w_cb ?_ | with_reducible refine w_call ?_
  | with_reducible refine w_nil ?_ | with_reducible refine w_cons ?_ | with_reducible refine w_test ?_ | with_reducible refine w_b ?_ | with_reducible refine w_bl ?_ | with_reducible refine w_not ?_ | with_reducible refine w_and ?_ | with_reducible refine w_or ?_
  | with_reducible refine w_notV ?_ | with_reducible refine w_blV ?_ | with_reducible refine w_I0 ?_ | ((with_reducible refine w_mulL ?_ ?_); · omega) | ((with_reducible refine w_mulR ?_ ?_); · omega) | ((with_reducible refine w_pow ?_ ?_); · decide)
  | with_reducible refine w_neg ?_ | ((with_reducible refine w_eq ?_ ?_); · exact rfl) | ((with_reducible refine w_ne ?_ ?_); · exact rfl) | with_reducible refine w_int1 ?_ | with_reducible refine w_abs ?_ | with_reducible refine w_max2 ?_ | with_reducible refine w_min2 ?_
  | with_reducible refine w_gcons ?_ | with_reducible refine w_gnil ?_ | with_reducible refine w_tup ?_ | with_reducible refine w_lst ?_ | with_reducible refine w_sl ?_ | with_reducible refine w_no ?_ | with_reducible refine w_part ?_ | with_reducible refine w_partI ?_ | with_reducible refine ⟨_, (rfl : V.int _ = V.int _), ?_⟩
  | with_reducible refine w_for ?_ | with_reducible refine w_iL ?_ | with_reducible refine w_iT ?_ | with_reducible refine w_iR ?_ | with_reducible refine w_yes ?_ | with_reducible refine w_setLc ?_ | with_reducible refine w_isB ?_
  | ((with_reducible refine' w_ixT (by assumption) ?hx ?_); (case hx => exact rfl)) | ((with_reducible refine' w_ixL (by assumption) ?hx ?_); (case hx => exact rfl)) | ((with_reducible refine w_lenT (by assumption) ?_)) | ((with_reducible refine w_lenL (by assumption) ?_)) | with_reducible refine w_callD ?_ | with_reducible refine w_if ?_ | with_reducible refine w_andV ?_ | with_reducible refine w_orV ?_
  | ((with_reducible refine w_ifT ?hx ?_); (case hx => rfl)) | ((with_reducible refine w_ifF ?hx ?_); (case hx => rfl)))))

abbrev s__law_page : Stmt := top 182
theorem sc__law_page : FnScope ["draws", "some", "found", "lap", "a", "f", "g", "e", "x", "y", "d", "rows", "inner", "more"] ["draws"] (defScope s__law_page) := ⟨rfl, rfl, rfl, by decide +kernel, rfl, by decide +kernel, by decide +kernel⟩
local macro_rules | `(tactic| walk_at "gsw") => `(tactic| first | exact gs_v (by exact rfl) (by assumption) | exact gs_c (by decide +kernel) | (refine' gs_add ?a ?b ?l; (case a => walk_at "gsw"); (case b => walk_at "gsw"); (case l => decide +kernel)))
local macro_rules | `(tactic| walk_at "gs1") => `(tactic| first | exact gs_c1 (by decide +kernel) (by decide +kernel) | (refine' gs_add1 ?a ?b ?l; (case a => walk_at "gs1"); (case b => walk_at "gsw"); (case l => decide +kernel)))
local macro_rules | `(tactic| walk_at "gaw") => `(tactic| first | exact ga_nil | (refine' ga_cons ?a ?l ?r; (case a => walk_at "gsw"); (case l => decide +kernel); (case r => walk_at "gaw")))
/-- the rows of a page: the first, the last -/
def Rw (k : Nat) (zs : List Str) : Prop := Al k zs ∧ ∃ z r, zs = z :: r ∧ z.cps[1]? = some 111
theorem Rw.app {a b : List Str} {j k : Nat} (h1 : Rw j a) (h2 : Al k b) : Rw (j + k) (a ++ b) := by
  obtain ⟨h, z, r, rfl, c⟩ := h1
  exact ⟨h.app h2, z, r ++ b, rfl, c⟩
def Rz (zs : List Str) : Prop := Rw 9 zs ∧ ∃ r z, zs = r ++ [z] ∧ z.cps[1]? = some 97
def spPage (TT : List (Addr × Str)) : Sp := fun vs H Q _ => ∃ d : Addr, vs = [.ref d] ∧ Purse H d ∧ ∀ t p m rs ms H', Up TT [d] H H' → Purse H' d → H' t = some (.tup [.ref p, .ref m]) → H' p = some (.tup (sv rs)) → H' m = some (.lst (sv ms)) → Fr H m → m ≠ d → Rz rs → Al 13 ms → Q (.ref t) H'
section
variable {P : Program} {w : World} {K : PySem.W.Frag} {mg : Str → Option Value} {base : Heap} {TT : List (Addr × Str)}
def PgI (TT : List (Addr × Str)) (H : Hp) (d S F : Addr) (i : Nat) (σ : L2.St) (H' : Hp) : Prop := ∃ (us fs : List Str) (o3 : Option V), σ = [some (.ref d), some (.ref S), some (.ref F), o3, none, none, none, none, none, none, none, none, none, none] ∧ Up TT [S, F, d] H H' ∧ Purse H' d ∧
  H' S = some (.lst (sv us)) ∧ H' F = some (.lst (sv fs)) ∧ us.length + i = 14 ∧ (∀ z ∈ us, Pz 8 z) ∧ fs.length = i ∧ ∀ z ∈ fs, Pz 8 z
def names : List Str := ["a", "b", "c", "f", "g", "h", "p", "q", "x", "y", "z", "join", "abcdefgh", "t"]
theorem names_ok : ∀ z ∈ names, Pz 8 z := show ∀ z ∈ names, z.length ≤ 8 ∧ litB z = true by decide +kernel
theorem erase_sv : ∀ (us : List Str) (r : Nat), (sv us).eraseIdx r = sv (us.eraseIdx r)
  | [], _ => rfl
  | _ :: _, 0 => rfl
  | u :: us, r + 1 => congrArg (V.str u :: ·) (erase_sv us r)
theorem ae_cons (e : Expr) (es : List Expr) (env : Env) : (assignEach (e :: es) env).length = (assignEach es env).length + 1 := by cases e <;> rfl
theorem ae_len : ∀ (es : List Expr) (env : Env), (assignEach es env).length = es.length
  | [], _ => rfl
  | e :: es, env => by rw [ae_cons, ae_len es env, List.length_cons]
theorem seven {fs : List Str} (h : fs.length = 7) : ∃ a f g e x y d, fs = [a, f, g, e, x, y, d] := match fs, h with
  | [a, f, g, e, x, y, d], _ => ⟨a, f, g, e, x, y, d, rfl⟩
theorem df_page (T : Kl P w K mg base) (A : At K mg "_law_page" s__law_page) (D__law_take : Df P w K mg base CX0 1 "_law_take" ["draws", "many"] spTake) : Df P w K mg base CX0 2 "_law_page" ["draws"] (spPage TT) := by
  refine df_of A sc__law_page (fun _ _ _ _ _ _ us hl => match us, hl with | [_], _ => rfl) (fun vs H Q E h => by obtain ⟨d, rfl, _⟩ := h; rfl) (fun f cdv A outer s H vs Q E hrs h => ?_)
  refine ⟨_, PSs.nox (pss_cons (ps_par (i := 1) (j := 2) (by rfl) sc__law_page.nd rfl rfl (by decide) rfl rfl (pa_cons (pe_lst (pa_cons pe_str (pa_cons pe_str (pa_cons pe_str (pa_cons pe_str (pa_cons pe_str (pa_cons pe_str (pa_cons pe_str (pa_cons pe_str (pa_cons pe_str (pa_cons pe_str (pa_cons pe_str (pa_cons pe_str (pa_cons pe_str (pa_cons pe_str pa_nil))))))))))))))) (pa_cons (pe_lst pa_nil) pa_nil)) (by rfl))
      (pss_cons (ps_for PassesOwn.never rfl (pi_range1 (by rfl) T.n_range (pa_cons pe_int pa_nil)) (pg_name (i := 3) sc__law_page.nd rfl (Or.inl rfl)) (pss_one (ps_expr (pe_bm PySem.F.plainAttrs_list PySem.F.slot_list_append PySem.F.type_list_append mt_append (pv 2) (pa_cons (pe_bm PySem.F.plainAttrs_list PySem.F.slot_list_pop PySem.F.type_list_pop mt_popAt (pv 1) (pa_cons (pe_df D__law_take (hrs.mono (by decide)) (pa_cons (pv 0) (pa_cons (pe_callB c_lenS (by rfl) T.n_len PySem.boot_len (pa_cons (pv 1) pa_nil)) pa_nil))) pa_nil)) pa_nil)))))
      (pss_cons (ps_asg (pv 2) (pg_unl (n := 7) (hn := ae_len _ _) rfl (pgs_cons (pg_name (i := 4) sc__law_page.nd rfl (Or.inl rfl)) (pgs_cons (pg_name (i := 5) sc__law_page.nd rfl (Or.inl rfl)) (pgs_cons (pg_name (i := 6) sc__law_page.nd rfl (Or.inl rfl)) (pgs_cons (pg_name (i := 7) sc__law_page.nd rfl (Or.inl rfl)) (pgs_cons (pg_name (i := 8) sc__law_page.nd rfl (Or.inl rfl)) (pgs_cons (pg_name (i := 9) sc__law_page.nd rfl (Or.inl rfl)) (pgs_cons (pg_name (i := 10) sc__law_page.nd rfl (Or.inl rfl)) pgs_nil)))))))))
      (pss_cons (ps_set (i := 11) sc__law_page.nd rfl (Or.inl rfl) (pe_lst (pa_cons (pe_op op_addS pe_str (pv 4)) (pa_cons (pe_op op_addS (pe_op op_addS (pe_op op_addS (pe_op op_addS (pe_op op_addS pe_str (pv 5)) pe_str) (pv 7)) pe_str) (pv 4)) (pa_cons (pe_op op_addS (pe_op op_addS (pe_op op_addS (pe_op op_addS (pe_op op_addS pe_str (pv 6)) pe_str) (pv 4)) pe_str) (pv 4)) pa_nil)))))
      (pss_cons (ps_set (i := 11) sc__law_page.nd rfl (Or.inl rfl) (pe_op op_cat (pv 11) (pe_lst (pa_cons (pe_op op_addS (pe_op op_addS (pe_op op_addS pe_str (pv 8)) pe_str) (pv 4)) (pa_cons (pe_op op_addS (pe_op op_addS (pe_op op_addS pe_str (pv 9)) pe_str) (pv 4)) pa_nil)))))
      (pss_cons (ps_set (i := 11) sc__law_page.nd rfl (Or.inl rfl) (pe_op op_cat (pv 11) (pe_lst (pa_cons (pe_op op_addS (pe_op op_addS (pe_op op_addS (pe_op op_addS pe_str (pv 10)) pe_str) (pv 5)) pe_str) pa_nil))))
      (pss_cons (ps_set (i := 11) sc__law_page.nd rfl (Or.inl rfl) (pe_op op_cat (pv 11) (pe_lst (pa_cons (pe_op op_addS (pe_op op_addS (pe_op op_addS (pe_op op_addS (pe_op op_addS (pe_op op_addS (pe_op op_addS (pe_op op_addS (pe_op op_addS (pe_op op_addS (pe_op op_addS (pe_op op_addS pe_str (pv 5)) pe_str) (pv 8)) pe_str) (pv 9)) pe_str) (pv 5)) pe_str) (pv 9)) pe_str) (pv 8)) pe_str) (pa_cons pe_str pa_nil)))))
      (pss_cons (ps_set (i := 12) sc__law_page.nd rfl (Or.inl rfl) (pe_op op_addS (pe_op op_addS (pe_op op_addS (pe_op op_addS (pe_op op_addS (pe_op op_addS (pe_op op_addS (pe_op op_addS (pe_op op_addS (pv 5) pe_str) (pv 8)) pe_str) (pv 5)) pe_str) (pv 7)) pe_str) (pv 8)) pe_str))
      (pss_cons (ps_set (i := 11) sc__law_page.nd rfl (Or.inl rfl) (pe_op op_cat (pv 11) (pe_lst (pa_cons (pe_op op_addS (pe_op op_addS (pe_op op_addS (pe_op op_addS (pe_op op_addS (pe_op op_addS (pe_op op_addS (pe_op op_addS (pe_op op_addS (pe_op op_addS pe_str (pv 6)) pe_str) (pv 10)) pe_str) (pv 8)) pe_str) (pv 6)) pe_str) (pv 12)) pe_str) pa_nil))))
      (pss_cons (ps_set (i := 13) sc__law_page.nd rfl (Or.inl rfl) (pe_lst (pa_cons (pe_op op_addS (pe_op op_addS (pe_op op_addS pe_str (pv 8)) pe_str) (pv 9)) (pa_cons (pe_op op_addS (pe_op op_addS (pe_op op_addS pe_str (pv 8)) pe_str) (pv 8)) (pa_cons pe_str (pa_cons pe_str pa_nil))))))
      (pss_cons (ps_set (i := 13) sc__law_page.nd rfl (Or.inl rfl) (pe_op op_cat (pv 13) (pe_lst (pa_cons (pe_op op_addS (pe_op op_addS (pe_op op_addS pe_str (pv 5)) pe_str) (pv 4)) (pa_cons (pe_op op_addS pe_str (pv 4)) (pa_cons (pe_op op_addS pe_str (pv 8)) pa_nil))))))
      (pss_cons (ps_set (i := 13) sc__law_page.nd rfl (Or.inl rfl) (pe_op op_cat (pv 13) (pe_lst (pa_cons pe_str (pa_cons pe_str (pa_cons (pe_op op_addS (pe_op op_addS (pe_op op_addS (pe_op op_addS (pe_op op_addS pe_str (pv 5)) pe_str) (pv 7)) pe_str) (pv 4)) pa_nil))))))
      (pss_cons (ps_set (i := 13) sc__law_page.nd rfl (Or.inl rfl) (pe_op op_cat (pv 13) (pe_lst (pa_cons (pe_op op_addS pe_str (pv 4)) (pa_cons pe_str (pa_cons (pe_op op_addS (pe_op op_addS (pe_op op_addS (pe_op op_addS (pe_op op_addS (pe_op op_addS pe_str (pv 7)) pe_str) (pv 6)) pe_str) (pv 7)) pe_str) pa_nil))))))
      (pss_one (ps_ret (pe_tup (pa_cons (pe_callTy c_tupS (by rfl) T.n_tuple (by decide +kernel) (pa_cons (pv 11) pa_nil)) (pa_cons (pv 13) pa_nil)))))))))))))))))), ?_⟩
  obtain ⟨d, rfl, hd, q⟩ := h
  have σe : L2.start ["draws", "some", "found", "lap", "a", "f", "g", "e", "x", "y", "d", "rows", "inner", "more"] [.ref d] = [some (.ref d), none, none, none, none, none, none, none, none, none, none, none, none, none] := rfl
  rw [σe]
  dsimp only [cxOf]
  refine w_seq (w_par ?_)
  walk_at "g"
  refine ⟨(by show 14 ≤ 2 ^ 24; decide), fun S hS => ?_⟩
  walk_at "g"
  refine ⟨(by show 0 ≤ 2 ^ 24; decide), fun F hF => ?_⟩
  walk_at "g"
  refine ⟨_, _, rfl, ?_⟩
  dsimp only
  have nSd : S ≠ d := fun z => by
    obtain ⟨_, _, _, e, _⟩ := hd
    rw [← z, hS] at e
    cases e
  have nFS : F ≠ S := fun z => by
    rw [z, upd_same] at hF
    cases hF
  have nFd : F ≠ d := fun z => by
    obtain ⟨_, _, _, e, _⟩ := hd
    rw [z, upd_ne (Ne.symm nSd), e] at hF
    cases hF
  walk_at "g"
  refine ⟨7, rfl, by decide, by decide, ?_⟩
  refine for_range (lo := 0) (n := 7) (PgI TT H d S F) ?_ (fun i σ1 H1 hi h1 => ?_) (fun σ1 H1 h1 => ?_)
  · have s1 := same_newT (o := .lst (sv names)) hS
    have s2 := same_newT (o := .lst []) hF
    have S2 := s1.trans s2
    exact ⟨names, [], none, rfl, Up.of S2, purse_same S2 hd, s2 _ _ upd_same, upd_same, rfl, names_ok, rfl, fun _ h => absurd h List.not_mem_nil⟩
  · obtain ⟨us, fs, o3, rfl, u1, d1, hS1, hF1, l1, g1, l2, g2⟩ := h1
    have hSL : SqL K H1 S (sv us) := SqL.of hS1
    have lus : (sv us).length = us.length := List.length_map ..
    have lfs : (sv fs).length = fs.length := List.length_map ..
    refine w_name ?_
    refine w_drop (w_var (v := .ref F) (by rfl) ⟨.inl ⟨rfl, _, SqL.of hF1⟩, w_cons (w_var (v := .ref S) (by rfl) ⟨.inl ⟨rfl, _, SqL.of hS1⟩, w_cons ?_⟩)⟩)
    walk_at "g"
    refine w_take (TT := TT) d1 (by omega) (by omega) fun r H2 lr u2 d2 => ?_
    have hS2 := u2.keep _ _ hS1 (by simpa using nSd) (fun _ z => nomatch z)
    have hr : r < us.length := by omega
    have hF2 := u2.keep _ _ hF1 (by simpa using nFd) (fun _ z => nomatch z)
    have hF3 : upd H2 S (.lst ((sv us).eraseIdx r)) F = some (.lst (sv fs)) := by
      rw [upd_ne nFS]
      exact hF2
    have sq : seqIndex? (r : Int) (sv us).length = some r := (ixN_seq (by
      unfold ixN
      rw [if_pos (by omega), if_pos (by omega)]
      rfl)).1
    refine w_nil ⟨S, sv us, (r : Int), r, .str us[r], rfl, rfl, hS2, (by omega), (by omega), sq, ?_, w_nil ⟨F, sv fs, .str us[r], rfl, rfl, hF3, (by rw [lfs]; show _ < 2 ^ 24; omega), ?_⟩⟩
    · rw [List.getElem?_map, List.getElem?_eq_getElem hr]
      rfl
    · have e1 : (sv us).eraseIdx r = sv (us.eraseIdx r) := (erase_sv us r)
      have e2 : sv fs ++ [.str us[r]] = sv (fs ++ [us[r]]) := by
        unfold sv
        rw [List.map_append]
        rfl
      rw [e1, e2]
      rw [e1] at hF3
      have v3 : Up TT [S, F, d] H2 _ := up_set (TT := TT) (A := [S, F, d]) (o' := .lst (sv (us.eraseIdx r))) hS2 mu_lst (by simp)
      have v4 : Up TT [S, F, d] _ _ := up_set (TT := TT) (A := [S, F, d]) (o' := .lst (sv (fs ++ [us[r]]))) hF3 mu_lst (by simp)
      refine ⟨us.eraseIdx r, fs ++ [us[r]], _, rfl, u1.trans ((u2.mono (by simp)).trans (v3.trans v4)), ?_, ?_, upd_same, ?_, fun z hz => g1 z ((List.eraseIdx_sublist ..).subset hz), ?_, fun z hz => ?_⟩
      · obtain ⟨f, s0, t, e, r0⟩ := d2
        refine ⟨f, s0, t, ?_, r0⟩
        rw [upd_ne (Ne.symm nFd), upd_ne (Ne.symm nSd)]
        exact e
      · rw [upd_ne (Ne.symm nFS), upd_same]
      · rw [List.length_eraseIdx, if_pos hr]
        omega
      · rw [List.length_append, List.length_cons, List.length_nil]
        omega
      · rcases List.mem_append.mp hz with hz | hz
        · exact g2 z hz
        · rw [List.mem_singleton.mp hz]
          exact g1 _ (List.getElem_mem hr)
  · obtain ⟨us, fs, o3, rfl, u1, d1, hS1, hF1, l1, g1, l2, g2⟩ := h1
    obtain ⟨a, f, g, e, x, y, dd, rfl⟩ := seven l2
    have pa : Pz 8 a := g2 a (by simp)
    have pf : Pz 8 f := g2 f (by simp)
    have pg : Pz 8 g := g2 g (by simp)
    have pe : Pz 8 e := g2 e (by simp)
    have px : Pz 8 x := g2 x (by simp)
    have py : Pz 8 y := g2 y (by simp)
    have pd : Pz 8 dd := g2 dd (by simp)
    dsimp only
    refine w_seq (w_asg (w_var (v := .ref F) (by rfl) ⟨F, _, rfl, SqL.of hF1, ?_, ?_⟩))
    · rfl
    clear g2
    refine w_gcons (w_name (w_gcons (w_name (w_gcons (w_name (w_gcons (w_name (w_gcons (w_name (w_gcons (w_name (w_gcons (w_name (w_gnil ?_))))))))))))))
    dsimp only [List.set]
    refine w_seq (w_gl (S := Rw 3) (gl_lst (ga_cons1 (gs_add1 (m := 8) (gs_c1 ?c1 ?c2) ?a1 ?l1) ?l2 ?r1) ?l3) fun p1 zs1 H2 s2 n2 h2 w2 => ?_)
    case c1 => decide +kernel
    case c2 => decide +kernel
    case a1 => walk_at "gsw"
    case l1 => decide +kernel
    case l2 => decide +kernel
    case r1 => walk_at "gaw"
    case l3 => exact fun zs h => by rw [h.1.1]; decide
    refine w_name ?_
    dsimp only [List.set]
    refine w_seq (w_gl (S := Rw 5) (gl_cat (T := Al 2) rfl h2 w2 (gl_lst ?r1 ?l3) ?u ?l4 ?l5) fun p2 zs2 H3 s3 n3 h3 w3 => ?_)
    case r1 => walk_at "gaw"
    case l3 => exact fun zs h => by rw [h.1]; decide
    case u => exact fun b hb => w2.app hb
    case l4 => rw [w2.1.1]; decide
    case l5 => exact fun b hb => by rw [hb.1]; decide
    refine w_name ?_
    dsimp only [List.set]
    refine w_seq (w_gl (S := Rw 6) (gl_cat (T := Al 1) rfl h3 w3 (gl_lst ?r1 ?l3) ?u ?l4 ?l5) fun p3 zs3 H4 s4 n4 h4 w4 => ?_)
    case r1 => walk_at "gaw"
    case l3 => exact fun zs h => by rw [h.1]; decide
    case u => exact fun b hb => w3.app hb
    case l4 => rw [w3.1.1]; decide
    case l5 => exact fun b hb => by rw [hb.1]; decide
    refine w_name ?_
    dsimp only [List.set]
    refine w_seq (w_gl (S := Rw 8) (gl_cat (T := Al 2) rfl h4 w4 (gl_lst ?r1 ?l3) ?u ?l4 ?l5) fun p4 zs4 H5 s5 n5 h5 w5 => ?_)
    case r1 => walk_at "gaw"
    case l3 => exact fun zs h => by rw [h.1]; decide
    case u => exact fun b hb => w4.app hb
    case l4 => rw [w4.1.1]; decide
    case l5 => exact fun b hb => by rw [hb.1]; decide
    refine w_name ?_
    dsimp only [List.set]
    refine' w_seq (w_gs (S := Pz 60) (gs_le ?a1 ?l1) fun inn pin => ?_)
    case a1 => walk_at "gsw"
    case l1 => decide +kernel
    refine w_name ?_
    dsimp only [List.set]
    refine' w_seq (w_gl (S := Rz) (gl_cat (T := fun zs => Al 1 zs ∧ ∃ z r, zs = z :: r ∧ z.cps[1]? = some 97) rfl h5 w5 (gl_lst (ga_cons1 ?b1 ?l2 ga_nil) ?l3) ?u ?l4 ?l5) fun p5 zs5 H6 s6 n6 h6 w6 => ?_)
    case b1 => walk_at "gs1"
    case l2 => decide +kernel
    case l3 => exact fun zs h => by rw [h.1.1]; decide
    case u =>
      rintro b ⟨hb, z, r, rfl, c⟩
      have hr : r = [] := List.eq_nil_of_length_eq_zero (by have := hb.1; rw [List.length_cons] at this; omega)
      subst hr
      exact ⟨w5.app hb, _, z, rfl, c⟩
    case l4 => rw [w5.1.1]; decide
    case l5 => exact fun b hb => by rw [hb.1.1]; decide
    refine w_name ?_
    dsimp only [List.set]
    refine w_seq (w_gl (S := Al 4) (gl_lst ?r1 ?l3) fun p6 zs6 H7 s7 n7 h7 w7 => ?_)
    case r1 => walk_at "gaw"
    case l3 => exact fun zs h => by rw [h.1]; decide
    refine w_name ?_
    dsimp only [List.set]
    refine w_seq (w_gl (S := Al 7) (gl_cat (T := Al 3) rfl h7 w7 (gl_lst ?r1 ?l3) ?u ?l4 ?l5) fun p7 zs7 H8 s8 n8 h8 w8 => ?_)
    case r1 => walk_at "gaw"
    case l3 => exact fun zs h => by rw [h.1]; decide
    case u => exact fun b hb => w7.app hb
    case l4 => rw [w7.1]; decide
    case l5 => exact fun b hb => by rw [hb.1]; decide
    refine w_name ?_
    dsimp only [List.set]
    refine w_seq (w_gl (S := Al 10) (gl_cat (T := Al 3) rfl h8 w8 (gl_lst ?r1 ?l3) ?u ?l4 ?l5) fun p8 zs8 H9 s9 n9 h9 w9 => ?_)
    case r1 => walk_at "gaw"
    case l3 => exact fun zs h => by rw [h.1]; decide
    case u => exact fun b hb => w8.app hb
    case l4 => rw [w8.1]; decide
    case l5 => exact fun b hb => by rw [hb.1]; decide
    refine w_name ?_
    dsimp only [List.set]
    refine w_seq (w_gl (S := Al 13) (gl_cat (T := Al 3) rfl h9 w9 (gl_lst ?r1 ?l3) ?u ?l4 ?l5) fun p9 zs9 H10 s10 n10 h10 w10 => ?_)
    case r1 => walk_at "gaw"
    case l3 => exact fun zs h => by rw [h.1]; decide
    case u => exact fun b hb => w9.app hb
    case l4 => rw [w9.1]; decide
    case l5 => exact fun b hb => by rw [hb.1]; decide
    refine w_name ?_
    dsimp only [List.set]
    have hF0 : H F = none := by
      rw [upd_ne nFS] at hF
      exact hF
    have S9 : Same H1 H9 := ((((((s2.trans s3).trans s4).trans s5).trans s6).trans s7).trans s8).trans s9
    have U9 : Up TT [d] H H9 := ((u1.trans (Up.of S9)).drop hS).drop hF0
    have d9 := purse_same S9 d1
    have nmd : p9 ≠ d := fun z => by
      obtain ⟨_, _, _, e, _⟩ := d9
      rw [← z, n10] at e
      cases e
    have fr : Fr H p9 := U9.fr n10 (by simpa using nmd)
    have hp5 : H10 p5 = some (.lst (sv zs5)) := s10 _ _ (s9 _ _ (s8 _ _ (s7 _ _ h6)))
    refine w_ret (w_tup (w_cons (w_cb (w_cons (w_var (v := .ref p5) (by rfl) (w_nil (w_tupL (SqL.of hp5) fun pt hpt => w_cons (w_var (v := .ref p9) (by rfl) (w_nil ⟨(by show 2 ≤ 2 ^ 24; decide), fun t ht => ?_⟩)))))))))
    have t1 := same_newT (o := .tup (sv zs5)) hpt
    have t2 := same_newT (o := .tup [.ref pt, .ref p9]) ht
    have ST := (s10.trans t1).trans t2
    exact q t pt p9 zs5 zs9 _ (U9.trans (Up.of ST)) (purse_same ST d9) upd_same (t2 _ _ upd_same) (t2 _ _ (t1 _ _ h10)) fr nmd w6 w10
end
end K11

set_option Elab.async false
set_option linter.all false
set_option maxRecDepth 100000
set_option maxHeartbeats 4000000
namespace K11
open PySem PySem.Spec PyProof.Rows L2 LamX EqX
/-! the words' steps, one after another -/
local macro_rules | `(tactic| walk_at "w") => `(tactic| (repeat (first
  | with_reducible refine w_seq ?_ | with_reducible refine w_asg ?_ | with_reducible refine w_ret ?_ | with_reducible exact w_retN ?_ | with_reducible refine w_drop ?_ | with_reducible refine w_ifs ?_ | with_reducible refine w_next ?_
  | with_reducible refine w_name ?_ | with_reducible refine w_gsub ?_ | ((with_reducible refine' w_var ?hx ?_); (case hx => exact rfl)) | with_reducible refine w_c ?_ | with_reducible refine w_op ?_ | with_reducible refine w_un ?_ | with_reducible refine w_cb ?_ | with_reducible refine w_call ?_
  | with_reducible refine w_nil ?_ | with_reducible refine w_cons ?_ | with_reducible refine w_test ?_ | with_reducible refine w_b ?_ | with_reducible refine w_bl ?_ | with_reducible refine w_not ?_ | with_reducible refine w_and ?_ | with_reducible refine w_or ?_
  | with_reducible refine w_notV ?_ | with_reducible refine w_blV ?_ | with_reducible refine w_I0 ?_ | ((with_reducible refine w_mulL ?_ ?_); · omega) | ((with_reducible refine w_mulR ?_ ?_); · omega) | ((with_reducible refine w_pow ?_ ?_); · decide)
  | with_reducible refine w_neg ?_ | ((with_reducible refine w_eq ?_ ?_); · exact rfl) | ((with_reducible refine w_ne ?_ ?_); · exact rfl) | with_reducible refine w_int1 ?_ | with_reducible refine w_abs ?_ | with_reducible refine w_max2 ?_ | with_reducible refine w_min2 ?_
  | with_reducible refine w_gcons ?_ | with_reducible refine w_gnil ?_ | with_reducible refine w_tup ?_ | with_reducible refine w_lst ?_ | with_reducible refine w_sl ?_ | with_reducible refine w_no ?_ | with_reducible refine w_part ?_ | with_reducible refine w_partI ?_ | with_reducible refine ⟨_, (rfl : V.int _ = V.int _), ?_⟩
  | with_reducible refine w_for ?_ | with_reducible refine w_iL ?_ | with_reducible refine w_iT ?_ | with_reducible refine w_iR ?_ | with_reducible refine w_yes ?_ | with_reducible refine w_setLc ?_ | with_reducible refine w_isB ?_)))

/-! the words' steps, reads of tuples and lists at hand, tests that are settled -/
local macro_rules | `(tactic| walk_at "g") => `(tactic| (repeat (first
  | with_reducible refine w_seq ?_ | with_reducible refine w_asg ?_ | with_reducible refine w_ret ?_ | with_reducible exact w_retN ?_ | with_reducible refine w_drop ?_ | with_reducible refine w_ifs ?_ | (with_reducible refine w_next ?_; try dsimp only)
  | with_reducible refine w_name ?_ | with_reducible refine w_gsub ?_ | ((with_reducible refine' w_var ?hx ?_); (case hx => exact rfl)) | with_reducible refine w_c ?_ | with_reducible refine w_op ?_ | with_reducible refine w_un ?_ | with_reducible refine w_cb ?_ | with_reducible refine w_call ?_
  | with_reducible refine w_nil ?_ | with_reducible refine w_cons ?_ | with_reducible refine w_test ?_ | with_reducible refine w_b ?_ | with_reducible refine w_bl ?_ | with_reducible refine w_not ?_ | with_reducible refine w_and ?_ | with_reducible refine w_or ?_
  | with_reducible refine w_notV ?_ | with_reducible refine w_blV ?_ | with_reducible refine w_I0 ?_ | ((with_reducible refine w_mulL ?_ ?_); · omega) | ((with_reducible refine w_mulR ?_ ?_); · omega) | ((with_reducible refine w_pow ?_ ?_); · decide)
  | with_reducible refine w_neg ?_ | ((with_reducible refine w_eq ?_ ?_); · exact rfl) | ((with_reducible refine w_ne ?_ ?_); · exact rfl) | with_reducible refine w_int1 ?_ | with_reducible refine w_abs ?_ | with_reducible refine w_max2 ?_ | with_reducible refine w_min2 ?_
  | with_reducible refine w_gcons ?_ | with_reducible refine w_gnil ?_ | with_reducible refine w_tup ?_ | with_reducible refine w_lst ?_ | with_reducible refine w_sl ?_ | with_reducible refine w_no ?_ | with_reducible refine w_part ?_ | with_reducible refine w_partI ?_ | with_reducible refine ⟨_, (rfl : V.int _ = V.int _), ?_⟩
  | with_reducible refine w_for ?_ | with_reducible refine w_iL ?_ | with_reducible refine w_iT ?_ | with_reducible refine w_iR ?_ | with_reducible refine w_yes ?_ | with_reducible refine w_setLc ?_ | with_reducible refine w_isB ?_
  | ((with_reducible refine' w_ixT (by assumption) ?hx ?_); (case hx => exact rfl)) | ((with_reducible refine' w_ixL (by assumption) ?hx ?_); (case hx => exact rfl)) | ((with_reducible refine w_lenT (by assumption) ?_)) | ((with_reducible refine w_lenL (by assumption) ?_)) | with_reducible refine w_callD ?_ | with_reducible refine w_if ?_ | with_reducible refine w_andV ?_ | with_reducible refine w_orV ?_
  | ((with_reducible refine w_ifT ?hx ?_); (case hx => rfl)) | ((with_reducible refine w_ifF ?hx ?_); (case hx => rfl)))))

abbrev s__law_are_equal : Stmt := top 186
theorem sc__law_are_equal : FnScope ["desk", "first", "again", "deed", "far", "odds", "each"] ["desk", "first"] (defScope s__law_are_equal) := ⟨rfl, rfl, rfl, by decide +kernel, rfl, by decide +kernel, by decide +kernel⟩
theorem op_deq {X : Cx} (D : DkK X.K X.mg) (De : DfM X.prog X.w X.K X.mg X.base CX0 1 (dkC X.K) "__eq__" ["self", "other"] (spEq X.K)) (hr : Room 1 X.A) : OpR X (compareOp .Eq) (rOwn X.K (dkC X.K) (spEq X.K) false) := by
  obtain ⟨fd, F, b⟩ := De.ex
  exact op_own_eq D.eqc F b hr
theorem op_dne {X : Cx} (D : DkK X.K X.mg) (De : DfM X.prog X.w X.K X.mg X.base CX0 1 (dkC X.K) "__eq__" ["self", "other"] (spEq X.K)) (hr : Room 2 X.A) : OpR X (compareOp .NotEq) (rOwn X.K (dkC X.K) (spEq X.K) true) := by
  obtain ⟨fd, F, b⟩ := De.ex
  exact op_own_ne D.eqc F b hr
theorem op_deqK {X : Cx} {K : PySem.W.Frag} (e : X.K = K) (D : DkK K X.mg) (De : DfM X.prog X.w K X.mg X.base CX0 1 (dkC K) "__eq__" ["self", "other"] (spEq K)) (hr : Room 1 X.A) : OpR X (compareOp .Eq) (rOwn K (dkC K) (spEq K) false) := by
  subst e
  exact op_deq D De hr
theorem op_dneK {X : Cx} {K : PySem.W.Frag} (e : X.K = K) (D : DkK K X.mg) (De : DfM X.prog X.w K X.mg X.base CX0 1 (dkC K) "__eq__" ["self", "other"] (spEq K)) (hr : Room 2 X.A) : OpR X (compareOp .NotEq) (rOwn K (dkC K) (spEq K) true) := by
  subst e
  exact op_dne D De hr
section
variable {P : Program} {w : World} {K : PySem.W.Frag} {mg : Str → Option Value} {base : Heap} {TT : List (Addr × Str)}
/-! ### a new desk -/
theorem items_ok {H : Hp} {rs : List Str} (g : gR rs) : ∀ y ∈ sv rs, Item K H y := fun y hy => by
  obtain ⟨z, hz, rfl⟩ := List.mem_map.mp hy
  exact ⟨"str", ⟨.base (.str z), by decide⟩, fun _ => ⟨z, rfl, Nat.le_trans (gS_len (g.2 z hz)) (by decide)⟩, fun h => absurd rfl h⟩
theorem fault_none {rs : List Str} {v : V} (g : gR rs) : rowsFault v (sv rs) = none := by
  unfold rowsFault
  have e : (sv rs).findIdx? (fun x => !isRow x) = none := by
    rw [List.findIdx?_eq_none_iff]
    intro y hy
    obtain ⟨z, hz, rfl⟩ := List.mem_map.mp hy
    show (!rwB z) = false
    rw [gS_rw (g.2 z hz)]
    rfl
  rw [if_pos (by rw [List.length_map]; exact g.1), e]
theorem w_desk {p : Addr} {rs : List Str} {H : Hp} {Q : VK} {E : XK} (hp : SqT K H p (sv rs)) (g : gR rs) (hT : Tabs TT H) (q : ∀ x l H', H x = none → Fr H l → l ≠ x → Up TT [] H H' → Tabs TT H' → Dk K H' x l rs rs [] [] → Q (.ref x) H') :
    ∀ x dx, H x = none → H dx = none → dx ≠ x → spInit K TT [.ref x, .ref p] (upd (upd H dx (.own x)) x (.ins (dkC K) dx [])) (fun v H2 => v = .non ∧ Q (.ref x) H2) E := by
  intro x dx hx hdx ne
  have s1 : Same H (upd H dx (.own x)) := same_newT hdx
  have hx1 : upd H dx (.own x) x = none := by
    rw [upd_ne (Ne.symm ne)]
    exact hx
  have s2 : Same H (upd (upd H dx (.own x)) x (.ins (dkC K) dx [])) := s1.trans (same_newT hx1)
  have hp2 := sqT_sm s2 hp
  refine ⟨x, dx, .ref p, "tuple", rfl, upd_same, ⟨ty_tup hp2, by decide⟩, hT.ext s2, fun h => absurd rfl h, fun _ => ⟨p, sv rs, rfl, hp2, items_ok g, fun v' hv' => ?_, fun _ e l H' u fr nl hx' he hl => ⟨rfl, ?_⟩⟩⟩
  · rw [fault_none g] at hv'
    cases hv'
  · have U : Up TT [] H H' := ((Up.of s2).trans u).drop hx
    have frl : Fr H l := fun o eo => fr o (s2 _ _ eo)
    exact q x l H' hx frl nl U (U.tabs hT) ⟨dx, p, p, e, [], [], ⟨hx', U.seqT hp, U.seqT hp, he, trivial, hl, trivial⟩⟩
def MkR (K : PySem.W.Frag) (TT : List (Addr × Str)) (Q : VK) (E : XK) (v : V) (H : Hp) : Prop := ∀ x dx, H x = none → H dx = none → dx ≠ x → spInit K TT [.ref x, v] (upd (upd H dx (.own x)) x (.ins (dkC K) dx [])) (fun v H2 => v = .non ∧ Q (.ref x) H2) E
theorem w_dkR {te : TE} {σ : L2.St} {H : Hp} {Q : VK} {E : XK} (h : te σ H (MkR K TT Q E)) : tMake (dkC K) (spInit K TT) [] E (tCons te tNil) σ H Q := h
theorem w_deskR {p : Addr} {rs : List Str} {H : Hp} {Q : VK} {E : XK} (hp : SqT K H p (sv rs)) (g : gR rs) (hT : Tabs TT H) (q : ∀ x l H', H x = none → Fr H l → l ≠ x → Up TT [] H H' → Tabs TT H' → Dk K H' x l rs rs [] [] → Q (.ref x) H') : MkR K TT Q E (.ref p) H := w_desk hp g hT q
/-- what is asked of the rows, what stands behind -/
def MkQ (K : PySem.W.Frag) (TT : List (Addr × Str)) (Q : VK) (v : V) (H : Hp) : Prop := ∃ p rs, v = .ref p ∧ SqT K H p (sv rs) ∧ gR rs ∧ Tabs TT H ∧ ∀ x l H', H x = none → Fr H l → l ≠ x → Up TT [] H H' → Tabs TT H' → Dk K H' x l rs rs [] [] → Q (.ref x) H'
theorem w_dk {te : TE} {σ : L2.St} {H : Hp} {Q : VK} {E : XK} (h : te σ H (MkQ K TT Q)) (mono : ∀ Q1 Q2 : VK, (∀ v H', Q1 v H' → Q2 v H') → te σ H Q1 → te σ H Q2) : tMake (dkC K) (spInit K TT) [] E (tCons te tNil) σ H Q :=
  mono _ _ (fun v H1 ⟨p, rs, e, hp, g, t, q⟩ => by
    subst e
    exact w_desk hp g t q) h
theorem w_dkv {σ : L2.St} {H : Hp} {Q : VK} {E : XK} {i : Nat} {p : Addr} {rs : List Str} (e : σ[i]? = some (some (.ref p))) (hp : SqT K H p (sv rs)) (g : gR rs) (t : Tabs TT H) (q : ∀ x l H', H x = none → Fr H l → l ≠ x → Up TT [] H H' → Tabs TT H' → Dk K H' x l rs rs [] [] → Q (.ref x) H') :
    tMake (dkC K) (spInit K TT) [] E (tCons (tVar i) tNil) σ H Q := w_dk ⟨.ref p, e, p, rs, rfl, hp, g, t, q⟩ fun _ _ h ⟨v, e, q⟩ => ⟨v, e, h _ _ q⟩
theorem w_dkk {σ : L2.St} {H : Hp} {Q : VK} {E : XK} {i : Nat} {p : Addr} {rs : List Str} (e : σ[i]? = some (some (.ref p))) (hp : SqT K H p (sv rs)) (g : gR rs) (t : Tabs TT H) (q : ∀ x l H', H x = none → Fr H l → l ≠ x → Up TT [] H H' → Tabs TT H' → Dk K H' x l rs rs [] [] → Q (.ref x) H') :
    tMakeK (dkC K) 0 1 (spInit K TT) (fun vs zs => vs ++ zs) E tNil (tCons (tVar i) tNil) σ H Q := ⟨.ref p, e, rfl, rfl, w_desk hp g t q⟩
/-! ### other rows -/
theorem far_ok {bs : List Str} (g : gR bs) (z : Rz bs) : (gR (bs.drop 1) ∧ bs.drop 1 ≠ bs) ∧ (gR bs.reverse ∧ bs.reverse ≠ bs) ∧ (gR [] ∧ [] ≠ bs) ∧ (gR (bs.dropLast ++ [("" : Str)]) ∧ bs.dropLast ++ [("" : Str)] ≠ bs) := by
  obtain ⟨⟨⟨hl, _⟩, z0, r, e0, c0⟩, r1, zl, e1, c1⟩ := z
  refine ⟨⟨⟨by rw [List.length_drop]; omega, fun y hy => g.2 y (List.mem_of_mem_drop hy)⟩, fun h => ?_⟩, ⟨⟨by rw [List.length_reverse]; exact g.1, fun y hy => g.2 y (List.mem_reverse.mp hy)⟩, fun h => ?_⟩, ⟨⟨by simp, fun y hy => absurd hy List.not_mem_nil⟩, fun h => ?_⟩,
    ⟨⟨by rw [List.length_append, List.length_dropLast, List.length_cons, List.length_nil]; omega, fun y hy => ?_⟩, fun h => ?_⟩⟩
  · have := congrArg List.length h
    rw [List.length_drop] at this
    omega
  · rw [e1, List.reverse_append] at h
    rw [← e1, e0] at h
    have : zl = z0 := by
      injection h
    rw [this, c0] at c1
    cases c1
  · rw [← h] at hl
    cases hl
  · rcases List.mem_append.mp hy with hy | hy
    · exact g.2 y ((List.dropLast_sublist _).subset hy)
    · rw [List.mem_singleton.mp hy]
      decide +kernel
  · rw [e1, List.dropLast_concat] at h
    have e := (List.append_inj' h rfl).2
    have : ("" : Str) = zl := by injection e
    rw [← this] at c1
    cases c1
/-! ### the deeds once more -/
theorem Deeds.get {H : Hp} : ∀ {es : List Addr} {ds : List Dd} {i : Nat} {a : Addr}, Deeds H es ds → es[i]? = some a → ∃ d, ds[i]? = some d ∧ Dt H a d
  | [], [], _, _, _, h => by cases h
  | [], _ :: _, _, _, h, _ => h.elim
  | _ :: _, [], _, _, h, _ => h.elim
  | e :: es, d :: ds, 0, a, h, g => by
    cases g
    exact ⟨d, rfl, h.1⟩
  | e :: es, d :: ds, i + 1, a, h, g => Deeds.get (es := es) (ds := ds) h.2 g
/-- so far on the way -/
structure Way (bs : List Str) (ds : List Dd) (i : Nat) (ps : List (List Str)) (r : List Str) : Prop where
  st : sts bs (ds.take i) = ps ++ [r]
  ok : okP r (ds.drop i)
  gr : gR r
theorem Way.zero {bs : List Str} {ds : List Dd} (o : okP bs ds) (g : gR bs) : Way bs ds 0 [] bs := ⟨rfl, o, g⟩
theorem Way.next {bs : List Str} {ds : List Dd} {i : Nat} {ps : List (List Str)} {r : List Str} {d : Dd} (W : Way bs ds i ps r) (h : ds[i]? = some d) (gd : gD d) : reasonD r d = .non ∧ ds.take (i + 1) = ds.take i ++ [d] ∧ Way bs ds (i + 1) (ps ++ [r]) (behindD r d) := by
  obtain ⟨hl, he⟩ := List.getElem?_eq_some_iff.mp h
  have e1 : ds.drop i = d :: ds.drop (i + 1) := by rw [List.drop_eq_getElem_cons hl, he]
  have e2 : ds.take (i + 1) = ds.take i ++ [d] := by rw [List.take_succ, h]; rfl
  have o := W.ok
  rw [e1] at o
  exact ⟨o.1, e2, ⟨by rw [e2]; exact sts_snoc W.st, o.2, gR_behind W.gr gd o.1⟩⟩
end
end K11

set_option Elab.async false
set_option linter.all false
set_option maxRecDepth 100000
set_option maxHeartbeats 4000000
namespace K11
open PySem PySem.Spec PyProof.Rows L2 LamX EqX
/-! the words' steps, one after another -/
local macro_rules | `(tactic| walk_at "w") => `(tactic| (repeat (first
  | with_reducible refine w_seq ?_ | with_reducible refine w_asg ?_ | with_reducible refine w_ret ?_ | with_reducible exact w_retN ?_ | with_reducible refine w_drop ?_ | with_reducible refine w_ifs ?_ | with_reducible refine w_next ?_
  | with_reducible refine w_name ?_ | with_reducible refine w_gsub ?_ | ((with_reducible refine' w_var ?hx ?_); (case hx => exact rfl)) | with_reducible refine w_c ?_ | with_reducible refine w_op ?_ | with_reducible refine w_un ?_ | with_reducible refine w_cb ?_ | with_reducible refine w_call ?_
  | with_reducible refine w_nil ?_ | with_reducible refine w_cons ?_ | with_reducible refine w_test ?_ | with_reducible refine w_b ?_ | with_reducible refine w_bl ?_ | with_reducible refine w_not ?_ | with_reducible refine w_and ?_ | with_reducible refine w_or ?_
  | with_reducible refine w_notV ?_ | with_reducible refine w_blV ?_ | with_reducible refine w_I0 ?_ | ((with_reducible refine w_mulL ?_ ?_); · omega) | ((with_reducible refine w_mulR ?_ ?_); · omega) | ((with_reducible refine w_pow ?_ ?_); · decide)
  | with_reducible refine w_neg ?_ | ((with_reducible refine w_eq ?_ ?_); · exact rfl) | ((with_reducible refine w_ne ?_ ?_); · exact rfl) | with_reducible refine w_int1 ?_ | with_reducible refine w_abs ?_ | with_reducible refine w_max2 ?_ | with_reducible refine w_min2 ?_
  | with_reducible refine w_gcons ?_ | with_reducible refine w_gnil ?_ | with_reducible refine w_tup ?_ | with_reducible refine w_lst ?_ | with_reducible refine w_sl ?_ | with_reducible refine w_no ?_ | with_reducible refine w_part ?_ | with_reducible refine w_partI ?_ | with_reducible refine ⟨_, (rfl : V.int _ = V.int _), ?_⟩
  | with_reducible refine w_for ?_ | with_reducible refine w_iL ?_ | with_reducible refine w_iT ?_ | with_reducible refine w_iR ?_ | with_reducible refine w_yes ?_ | with_reducible refine w_setLc ?_ | with_reducible refine w_isB ?_)))

/-! the words' steps, reads of tuples and lists at hand, tests that are settled -/
local macro_rules | `(tactic| walk_at "g") => `(tactic| (repeat (first
  | with_reducible refine w_seq ?_ | with_reducible refine w_asg ?_ | with_reducible refine w_ret ?_ | with_reducible exact w_retN ?_ | with_reducible refine w_drop ?_ | with_reducible refine w_ifs ?_ | (with_reducible refine w_next ?_; try dsimp only)
  | with_reducible refine w_name ?_ | with_reducible refine w_gsub ?_ | ((with_reducible refine' w_var ?hx ?_); (case hx => exact rfl)) | with_reducible refine w_c ?_ | with_reducible refine w_op ?_ | with_reducible refine w_un ?_ | with_reducible refine w_cb ?_ | with_reducible refine w_call ?_
  | with_reducible refine w_nil ?_ | with_reducible refine w_cons ?_ | with_reducible refine w_test ?_ | with_reducible refine w_b ?_ | with_reducible refine w_bl ?_ | with_reducible refine w_not ?_ | with_reducible refine w_and ?_ | with_reducible refine w_or ?_
  | with_reducible refine w_notV ?_ | with_reducible refine w_blV ?_ | with_reducible refine w_I0 ?_ | ((with_reducible refine w_mulL ?_ ?_); · omega) | ((with_reducible refine w_mulR ?_ ?_); · omega) | ((with_reducible refine w_pow ?_ ?_); · decide)
  | with_reducible refine w_neg ?_ | ((with_reducible refine w_eq ?_ ?_); · exact rfl) | ((with_reducible refine w_ne ?_ ?_); · exact rfl) | with_reducible refine w_int1 ?_ | with_reducible refine w_abs ?_ | with_reducible refine w_max2 ?_ | with_reducible refine w_min2 ?_
  | with_reducible refine w_gcons ?_ | with_reducible refine w_gnil ?_ | with_reducible refine w_tup ?_ | with_reducible refine w_lst ?_ | with_reducible refine w_sl ?_ | with_reducible refine w_no ?_ | with_reducible refine w_part ?_ | with_reducible refine w_partI ?_ | with_reducible refine ⟨_, (rfl : V.int _ = V.int _), ?_⟩
  | with_reducible refine w_for ?_ | with_reducible refine w_iL ?_ | with_reducible refine w_iT ?_ | with_reducible refine w_iR ?_ | with_reducible refine w_yes ?_ | with_reducible refine w_setLc ?_ | with_reducible refine w_isB ?_
  | ((with_reducible refine' w_ixT (by assumption) ?hx ?_); (case hx => exact rfl)) | ((with_reducible refine' w_ixL (by assumption) ?hx ?_); (case hx => exact rfl)) | ((with_reducible refine w_lenT (by assumption) ?_)) | ((with_reducible refine w_lenL (by assumption) ?_)) | with_reducible refine w_callD ?_ | with_reducible refine w_if ?_ | with_reducible refine w_andV ?_ | with_reducible refine w_orV ?_
  | ((with_reducible refine w_ifT ?hx ?_); (case hx => rfl)) | ((with_reducible refine w_ifF ?hx ?_); (case hx => rfl)))))

section
variable {P : Program} {w : World} {K : PySem.W.Frag} {mg : Str → Option Value} {base : Heap} {TT : List (Addr × Str)}
theorem w_eqD {neg : Bool} {H : Hp} {Q : VK} {x l x' l' : Addr} {rs bs rs' bs' : List Str} {ds ds' : List Dd} {ps ps' : List (List Str)} (h : Dk K H x l rs bs ds ps) (h' : Dk K H x' l' rs' bs' ds' ps') (so : sO bs) (so' : sO bs') (od : ∀ d ∈ ds, gD d) (od' : ∀ d ∈ ds', gD d)
    (q : ∀ H', Same H H' → Q (.bl (if neg = true then !decide (bs = bs' ∧ ds = ds') else decide (bs = bs' ∧ ds = ds'))) H') : rOwn K (dkC K) (spEq K) neg (.ref x) (.ref x') H Q := by
  obtain ⟨dx, fs, hx⟩ := h.ins
  obtain ⟨dx', fs', hx'⟩ := h'.ins
  exact ⟨x, dx, fs, rfl, hx, .inl ⟨x', dx', fs', rfl, hx'⟩, x, .ref x', rfl, .inl ⟨x', l, l', rs, rs', bs, bs', ds, ds', ps, ps', rfl, h, h', so, so', fun d hd => (od d hd).2.1, fun d hd => (od' d hd).2.1, fun H' s => ⟨_, rfl, q H' s⟩⟩⟩
theorem ty_right {t : String} (h : t ∈ tyNames) : t ∈ ["NoneType", "bool", "int", "str", "list", "tuple", "dict"] := by
  simp only [tyNames, List.mem_cons, List.not_mem_nil, or_false] at h ⊢
  rcases h with h | h | h | h | h | h <;> simp [h]
theorem w_eqO {neg : Bool} {H : Hp} {Q : VK} {x l : Addr} {rs bs : List Str} {ds : List Dd} {ps : List (List Str)} {y : V} {t : String} (h : Dk K H x l rs bs ds ps) (ht : Ty K H y t) (q : Q (.bl neg) H) : rOwn K (dkC K) (spEq K) neg (.ref x) y H Q := by
  obtain ⟨dx, fs, hx⟩ := h.ins
  refine ⟨x, dx, fs, rfl, hx, .inr ⟨t, ty_right ht.2, ht.1⟩, x, y, rfl, .inr ⟨t, ht, ⟨_, rfl, ?_⟩⟩⟩
  cases neg <;> exact q
def spAre (K : PySem.W.Frag) (TT : List (Addr × Str)) : Sp := fun vs H Q _ => ∃ (x p l : Addr) (rs bs : List Str) (ds : List Dd) (ps : List (List Str)), vs = [.ref x, .ref p] ∧ Tabs TT H ∧ Dk K H x l rs bs ds ps ∧ SqT K H p (sv bs) ∧ gR bs ∧ Rz bs ∧ gR rs ∧ (∀ d ∈ ds, gD d) ∧ okP bs ds ∧ ds.length ≤ 12 ∧
  ∀ H', Up TT [] H H' → Q (.bl true) H'
def AgI (K : PySem.W.Frag) (TT : List (Addr × Str)) (H : Hp) (x p x2 l2 : Addr) (bs : List Str) (ds : List Dd) (i : Nat) (σ' : L2.St) (H' : Hp) : Prop := ∃ (o3 : Option V) (r : List Str) (pi : List (List Str)), σ' = [some (.ref x), some (.ref p), some (.ref x2), o3, none, none, none] ∧ Up TT [x2, l2] H H' ∧ Dk K H' x2 l2 r bs (ds.take i) pi ∧ Way bs ds i pi r
def FarAt (K : PySem.W.Frag) (bs : List Str) (H : Hp) (v : V) : Prop := ∃ (a l : Addr) (fr : List Str), v = .ref a ∧ Dk K H a l fr fr [] [] ∧ gR fr ∧ fr ≠ bs
theorem FarAt.up {bs : List Str} {H H' : Hp} {v : V} (u : Up TT [] H H') : FarAt K bs H v → FarAt K bs H' v := fun ⟨a, l, fr, e, k, g, n⟩ => ⟨a, l, fr, e, k.up u (by simp) (by simp), g, n⟩
def FrI (TT : List (Addr × Str)) (Hl : Hp) (x p x2 : Addr) (o3 : Option V) (_ : Nat) (σ' : L2.St) (H' : Hp) : Prop := ∃ o4 : Option V, σ' = [some (.ref x), some (.ref p), some (.ref x2), o3, o4, none, none] ∧ Up TT [] Hl H'
theorem sts_good : ∀ {ds : List Dd} {b : List Str}, okP b ds → gR b → (∀ d ∈ ds, gD d) → ∀ r ∈ sts b ds, gR r
  | [], b, _, g, _, r, h => by
    rw [sts, List.mem_singleton] at h
    rw [h]
    exact g
  | d :: ds, b, o, g, gd, r, h => by
    rw [sts] at h
    rcases List.mem_cons.mp h with rfl | h
    · exact g
    · exact sts_good o.2 (gR_behind g (gd d (by simp)) o.1) (fun e he => gd e (by simp [he])) r h
theorem df_are (T : Kl P w K mg base) (D : DkK K mg) (A : At K mg "_law_are_equal" s__law_are_equal) (D_init : DfMK P w K mg base (L2.CX P w) 7 (dkC K) "__init__" ["self", "rows"] ["rows"] (spInit K TT))
    (D_do : DfM P w K mg base (L2.CX P w) 5 (dkC K) "do" ["self", "deed"] (spDo K TT)) (D_undo : DfM P w K mg base (L2.CX P w) 5 (dkC K) "undo" ["self"] (spUndo K TT)) (D_text : DfM P w K mg base CX0 2 (dkC K) "text" ["self"] (spTextM K))
    (D_eq : DfM P w K mg base CX0 1 (dkC K) "__eq__" ["self", "other"] (spEq K)) (D__law_same : DfG P w K mg base CX0 1 "_law_same" ["told", "due"] (spSame K)) : DfG P w K mg base CX0 9 "_law_are_equal" ["desk", "first"] (spAre K TT) := by
  refine dfG_of A sc__law_are_equal (fun _ _ _ _ _ _ us hl => match us, hl with | [_, _], _ => rfl) (fun vs H Q E h => by obtain ⟨x, p, l, rs, bs, ds, ps, rfl, _⟩ := h; rfl) (fun f cdv A outer s H vs Q E hrs hgd0 h => ?_)
  have hgd : (A.deeper (envOfC "_law_are_equal" (defScope s__law_are_equal) s.heap.objs.size f cdv)).guards = some [] := hgd0
  refine ⟨_, PSs.nox (pss_cons (ps_set (i := 2) sc__law_are_equal.nd rfl (Or.inl rfl) (pe_mkK D_init D.mkc D.gm (hrs.mono (by decide)) passN (pk_cons (pv 1) pk_nil)))
      (pss_cons (ps_for PassesOwn.never rfl (pi_tup (pe_fld (pv 0) rfl)) (pg_name (i := 3) sc__law_are_equal.nd rfl (Or.inl rfl)) (pss_one (ps_expr (pe_dfM D_do D.cls (hrs.mono (by decide)) passN (pv 2) (pa_cons (pv 3) pa_nil)))))
      (pss_cons (ps_if (pt_not (pt_val (pe_dfG D__law_same (hrs.mono (by decide)) hgd (pa_cons (pe_lst (pa_cons (pe_cmpR (op_deq D D_eq (hrs.mono (by decide))) (pv 0) (pv 2) (nomark _)) (pa_cons (pe_cmpR (op_deq D D_eq (hrs.mono (by decide))) (pv 2) (pv 0) (nomark _)) (pa_cons (pe_cmpR (op_dne D D_eq (hrs.mono (by decide))) (pv 0) (pv 2) (nomark _)) pa_nil)))) (pa_cons (pe_lst (pa_cons pe_bl (pa_cons pe_bl (pa_cons pe_bl pa_nil)))) pa_nil))))) (pss_one (ps_ret pe_bl)) pss_nil)
      (pss_cons (ps_for PassesOwn.never rfl (pi_list (pe_lst (pa_cons (pe_mk D_init.toM D.mkc D.gm (hrs.mono (by decide)) passN (pa_cons (pe_slice sl_tupA (pv 1) (po_some pe_int) po_none) pa_nil)) (pa_cons (pe_mk D_init.toM D.mkc D.gm (hrs.mono (by decide)) passN (pa_cons (pe_revT (pv 1)) pa_nil)) (pa_cons (pe_mk D_init.toM D.mkc D.gm (hrs.mono (by decide)) passN (pa_cons (pe_tup pa_nil) pa_nil)) (pa_cons (pe_mk D_init.toM D.mkc D.gm (hrs.mono (by decide)) passN (pa_cons (pe_op op_catA (pe_slice sl_tupA (pv 1) po_none (po_some (pe_un un_neg pe_int))) (pe_tup (pa_cons pe_str pa_nil))) pa_nil)) pa_nil)))))) (pg_name (i := 4) sc__law_are_equal.nd rfl (Or.inl rfl)) (pss_one (ps_if (PW.pt (pw_or (pt_cmpR (op_deq D D_eq (hrs.mono (by decide))) (pv 4) (pe_mk D_init.toM D.mkc D.gm (hrs.mono (by decide)) passN (pa_cons (pv 1) pa_nil)) (nomark _)) (pw_or1 (pt_not (pt_cmpR (op_dne D D_eq (hrs.mono (by decide))) (pv 4) (pe_mk D_init.toM D.mkc D.gm (hrs.mono (by decide)) passN (pa_cons (pv 1) pa_nil)) (nomark _)))))) (pss_one (ps_ret pe_bl)) pss_nil)))
      (pss_cons (ps_set (i := 5) sc__law_are_equal.nd rfl (Or.inl rfl) (pe_lst (pa_cons pe_non (pa_cons (pe_fld (pv 0) rfl) (pa_cons (pe_fld (pv 0) rfl) (pa_cons (pe_dfM0 D_text D.cls (hrs.mono (by decide)) pass0 (pv 0)) (pa_cons (pe_tup (pa_cons (pv 0) pa_nil)) (pa_cons pe_bl pa_nil))))))))
      (pss_cons (ps_if (PW.pt (pw_or (pt_cmpR (op_dne D D_eq (hrs.mono (by decide))) (pv 0) (pv 0) (nomark _)) (pw_or (pt_not (pt_inst D.nb D.nl (pv 0))) (pw_or1 (pt_cmpR (op_neD (Nat.lt_of_le_of_lt (Nat.add_le_add_left (by decide) _) hrs.un)) (pe_lc (own := [("each", 6)]) (g := gName 6) (by rfl) sc__law_are_equal.nd (pi_list (pv 5)) (blkOk_by (own := [("each", 6)]) (N := ["desk", "first", "again", "deed", "far", "odds", "each"]) (sc := defScope s__law_are_equal) (by decide +kernel)) (fun _ _ _ _ _ => (pg_name (i := 6) sc__law_are_equal.nd rfl (Or.inl rfl))) (fun _ _ _ _ _ => (pts_one (PW.pt (pw_or (pt_cmpR (op_deqK (K := K) rfl D D_eq (hrs.mono (by decide))) (pv 0) (pv 6) (nomark _)) (pw_or1 (pt_not (pt_cmpR (op_dneK (K := K) rfl D D_eq (hrs.mono (by decide))) (pv 0) (pv 6) (nomark _)))))))) (fun _ _ _ _ _ => (pv 6))) (pe_lst pa_nil) (nomark _)))))) (pss_one (ps_ret pe_bl)) pss_nil)
      (pss_cons (ps_if (pt_cmpR (op_neD (Nat.lt_of_le_of_lt (Nat.add_le_add_left (by decide) _) hrs.un)) (pe_fld (pv 2) rfl) (pe_tup pa_nil) (nomark _)) (pss_cons (ps_expr (pe_dfM0 D_undo D.cls (hrs.mono (by decide)) passN (pv 2)))
      (pss_one (ps_ret (pe_and (pe_cmpR (op_dne D D_eq (hrs.mono (by decide))) (pv 2) (pv 0) (nomark _)) (pe_one (pe_cmpR (op_dne D D_eq (hrs.mono (by decide))) (pv 0) (pv 2) (nomark _))))))) pss_nil)
      (pss_one (ps_ret (pe_cmpR (op_deq D D_eq (hrs.mono (by decide))) (pe_mk D_init.toM D.mkc D.gm (hrs.mono (by decide)) passN (pa_cons (pv 1) pa_nil)) (pv 0) (nomark _))))))))))), ?_⟩
  obtain ⟨x, p, l, rs, bs, ds, ps, rfl, hT, hk, hp, gb, rz, gr, gd, ok, dl, q⟩ := h
  have σe : L2.start ["desk", "first", "again", "deed", "far", "odds", "each"] [.ref x, .ref p] = [some (.ref x), some (.ref p), none, none, none, none, none] := rfl
  rw [σe]
  dsimp only [cxOf]
  have na := fun f h => D.na f h
  refine w_seq (w_asg (w_dkk (by rfl) hp gb hT fun x2 l2 H1 nx2 fl2 nxl2 u1 T1 k2 => ?_))
  refine w_name ?_
  dsimp only [List.set]
  have nxA : x ∉ [x2, l2] := by
    obtain ⟨_, _, hx⟩ := hk.ins
    simp only [List.mem_cons, List.not_mem_nil, or_false, not_or]
    refine ⟨fun z => ?_, fun z => ?_⟩
    · rw [z, nx2] at hx
      cases hx
    · rw [z] at hx
      obtain ⟨_, e⟩ := fl2 _ hx
      cases e
  have nlA : l ∉ [x2, l2] := by
    obtain ⟨_, hl⟩ := hk.lst
    simp only [List.mem_cons, List.not_mem_nil, or_false, not_or]
    refine ⟨fun z => ?_, fun z => ?_⟩
    · rw [z, nx2] at hl
      cases hl
    · rw [z] at hl
      obtain ⟨_, e⟩ := fl2 _ hl
      cases e
  have kk := hk
  obtain ⟨dx, r, b, e, es, vs, k⟩ := hk
  have k1 := u1.keep _ _ k.x (by simp) (fun _ z => nomatch z)
  have he1 := u1.seqT k.e
  have lens : es.length = ds.length := k.es.len
  refine w_seq (w_for (w_iT (w_fl (w_var (by rfl) ⟨x, dkC K, dx, _, .ref e, rfl, k1, D.cls, na _ (by decide), rfl, e, rfl, ⟨_, he1⟩, ?_⟩))))
  refine for_tup (xs := es.map V.ref) (AgI K TT H x p x2 l2 bs ds) ⟨none, bs, [], rfl, u1.mono (by simp), k2, Way.zero ok gb⟩ (fun i σ' H' _ h => by obtain ⟨_, _, _, _, u, _⟩ := h; exact u.seqT k.e) (fun i v σ' H' hv h => ?_) (fun σ' H' h => ?_)
  · obtain ⟨o3, ri, pi, rfl, u, ka, W⟩ := h
    rw [List.getElem?_map] at hv
    obtain ⟨a, ha, rfl⟩ : ∃ a, es[i]? = some a ∧ V.ref a = v := by
      cases h : es[i]? with
      | none => rw [h] at hv; cases hv
      | some a => rw [h] at hv; exact ⟨a, rfl, Option.some.inj hv⟩
    obtain ⟨d, hd, dt⟩ := Deeds.get (k.es.up u) ha
    have gdd := gd d (List.mem_of_getElem? hd)
    obtain ⟨rn, et, W2⟩ := W.next hd gdd
    have ka0 := ka
    obtain ⟨dx2, fs2, hx2⟩ := ka.ins
    obtain ⟨dx2, r2, b2, e2, es2, vs2, k2'⟩ := ka
    have lt : (ds.take i).length ≤ 1000 := by
      rw [List.length_take]
      omega
    have lp : pi.length ≤ 1000 := by
      have := congrArg List.length W.st
      rw [sts_len, List.length_append, List.length_cons, List.length_nil] at this
      omega
    refine w_name (w_drop (w_meth (w_var (v := .ref x2) (by rfl) ⟨x2, dx2, _, rfl, k2'.x, rfl, w_cons (w_var (v := .ref a) (by rfl) (w_nil ⟨x2, l2, a, ri, bs, ds.take i, pi, d, rfl, ka0, dt, W.gr.1, lt, lp, fun z hz => ?_, fun _ H2 u2 k2 => ?_⟩))⟩)))
    · rw [rn] at hz
      cases hz
    · refine ⟨_, _, _, rfl, u.trans u2, ?_, W2⟩
      rw [et]
      exact k2
  · obtain ⟨o3, rr2, p2, rfl, u, ka, W⟩ := h
    rw [List.length_map, lens, List.take_length] at ka
    rw [List.length_map, lens] at W
    have so : sO bs := gR_so gb
    have kx := kk.up u nxA nlA
    refine w_seq (w_ifs (w_not (w_b (w_call (w_cons (w_lst (w_cons (w_op (w_var (v := .ref x) (by rfl) (w_var (v := .ref x2) (by rfl) (w_eqD kx ka so so gd gd fun H3 s3 => ?_)))))))))))
    refine w_cons (w_op (w_var (v := .ref x2) (by rfl) (w_var (v := .ref x) (by rfl) (w_eqD (ka.same s3) (kx.same s3) so so gd gd fun H4 s4 => ?_))))
    refine w_cons (w_op (w_var (v := .ref x) (by rfl) (w_var (v := .ref x2) (by rfl) (w_eqD ((kx.same s3).same s4) ((ka.same s3).same s4) so so gd gd fun H5 s5 => ?_))))
    have S5 := (s3.trans s4).trans s5
    rw [decide_eq_true (⟨rfl, rfl⟩ : bs = bs ∧ ds = ds)]
    refine w_nil ⟨(by show 3 ≤ 2 ^ 24; decide), fun t1 h1 => ?_⟩
    have n1 := same_newT (o := .lst [.bl true, .bl true, .bl false]) h1
    walk_at "g"
    refine ⟨(by show 3 ≤ 2 ^ 24; decide), fun t2 h2 => ?_⟩
    have n2 := same_newT (o := .lst [.bl true, .bl true, .bl false]) h2
    refine w_nil ⟨_, _, .list [.bool true, .bool true, .bool false], rfl, .lst (SqL.of (n2 _ _ upd_same)) (.cons (.bl true) (.cons (.bl true) (.cons (.bl false) .nil))), .lst (SqL.of upd_same) (.cons (.bl true) (.cons (.bl true) (.cons (.bl false) .nil))), ⟨by decide +kernel, by decide +kernel, by decide +kernel⟩, true, rfl, w_ifF rfl ?_⟩
    have S7 := (S5.trans n1).trans n2
    have u7 : Up TT [x2, l2] H _ := u.trans (Up.of S7)
    have kx7 := kx.same S7
    have ka7 := ka.same S7
    have hp7 := u7.seqT hp
    have T7 := u7.tabs hT
    clear s3 s4 s5 n1 n2
    generalize hH : upd (upd _ t1 _) t2 _ = H7 at *
    clear hH
    refine w_next ?_
    dsimp only
    obtain ⟨⟨g1, d1⟩, ⟨g2, d2⟩, ⟨g3, d3⟩, ⟨g4, d4⟩⟩ := far_ok gb rz
    refine w_seq (w_for (w_iL (w_lst (w_cons (w_dkR (w_sl (w_var (v := .ref p) (by rfl) (w_part (w_c ⟨1, rfl, w_no (w_slT hp7 fun r1 Ha sa hr1 => ?_)⟩)))))))))
    rw [show (1 : Int) = ((1 : Nat) : Int) from rfl, cut_from, ← List.map_drop] at hr1
    refine w_deskR hr1 g1 (T7.ext sa) fun x3 l3 Hb nx3 fl3 nl3 ub Tb k3 => ?_
    have vb : Up TT [] H7 Hb := (Up.of sa).trans ub
    have f3 : FarAt K bs Hb (.ref x3) := ⟨x3, l3, _, rfl, k3, g1, d1⟩
    refine w_cons (w_dkR ⟨.ref p, (by rfl), p, _, rfl, vb.seqT hp7, fun r2 hr2 => ?_⟩)
    have sc := same_newT (o := .tup (sv bs).reverse) hr2
    refine w_deskR (rs := bs.reverse) (SqT.of (by rw [upd_same, show sv bs.reverse = (sv bs).reverse from List.map_reverse ..])) g2 (Tb.ext sc) fun x4 l4 Hd nx4 fl4 nl4 ud Td k4 => ?_
    have vd : Up TT [] Hb Hd := (Up.of sc).trans ud
    have f4 : FarAt K bs Hd (.ref x4) := ⟨x4, l4, _, rfl, k4, g2, d2⟩
    refine w_cons (w_dkR (w_tup (w_nil ⟨(by show 0 ≤ 2 ^ 24; decide), fun r3 hr3 => ?_⟩)))
    have se := same_newT (o := .tup []) hr3
    refine w_deskR (rs := []) (SqT.of upd_same) g3 (Td.ext se) fun x5 l5 Hf nx5 fl5 nl5 uf Tf k5 => ?_
    have vf : Up TT [] Hd Hf := (Up.of se).trans uf
    have f5 : FarAt K bs Hf (.ref x5) := ⟨x5, l5, _, rfl, k5, g3, d3⟩
    have hpf := vf.seqT (vd.seqT (vb.seqT hp7))
    refine w_cons (w_dkR (w_op (w_sl (w_var (v := .ref p) (by rfl) (w_no (w_part (w_un (w_c (w_neg ⟨-1, rfl, w_slT hpf fun r4 Hg sg hr4 => ?_⟩)))))))))
    rw [cut_butLast, ← List.map_dropLast] at hr4
    refine w_tup (w_cons (w_c (w_nil ⟨(by show 1 ≤ 2 ^ 24; decide), fun r5 hr5 => ?_⟩)))
    have sh := same_newT (o := .tup [.str ""]) hr5
    refine w_catT (sqT_sm sh hr4) (SqT.of upd_same) ?_ fun r6 Hi si hr6 => ?_
    · rw [List.length_map, List.length_dropLast]
      have := gb.1
      show _ + 1 ≤ 2 ^ 24
      omega
    have sj := (sg.trans sh).trans si
    refine w_deskR (rs := bs.dropLast ++ [("" : Str)]) (by rw [show sv (bs.dropLast ++ [("" : Str)]) = sv bs.dropLast ++ [.str ""] from List.map_append ..]; exact hr6) g4 (Tf.ext sj) fun x6 l6 Hk nx6 fl6 nl6 uk Tk k6 => ?_
    have vk : Up TT [] Hf Hk := (Up.of sj).trans uk
    have f6 : FarAt K bs Hk (.ref x6) := ⟨x6, l6, _, rfl, k6, g4, d4⟩
    have UV : Up TT [] H7 Hk := ((vb.trans vd).trans vf).trans vk
    have fars : ∀ v ∈ ([.ref x3, .ref x4, .ref x5, .ref x6] : List V), FarAt K bs Hk v := fun v hv => by
      simp only [List.mem_cons, List.not_mem_nil, or_false] at hv
      rcases hv with rfl | rfl | rfl | rfl
      · exact f3.up ((vd.trans vf).trans vk)
      · exact f4.up (vf.trans vk)
      · exact f5.up vk
      · exact f6
    refine w_nil ⟨(by show 4 ≤ 2 ^ 24; decide), fun L4 hL4 => ⟨L4, rfl, ⟨_, SqL.of upd_same⟩, ?_⟩⟩
    have sl := same_newT (o := .lst [.ref x3, .ref x4, .ref x5, .ref x6]) hL4
    have kxk := (kx7.up UV (by simp) (by simp)).same sl
    have kak := (ka7.up UV (by simp) (by simp)).same sl
    have hpk := sqT_sm sl (UV.seqT hp7)
    have Tl := Tk.ext sl
    have ul : Up TT [x2, l2] H (upd Hk L4 (.lst [.ref x3, .ref x4, .ref x5, .ref x6])) := (u7.trans (UV.mono (by simp))).trans (Up.of sl)
    have farl : ∀ v ∈ ([.ref x3, .ref x4, .ref x5, .ref x6] : List V), FarAt K bs (upd Hk L4 (.lst [.ref x3, .ref x4, .ref x5, .ref x6])) v := fun v hv => (fars v hv).up (TT := TT) (Up.of sl)
    have hLl : (upd Hk L4 (.lst [.ref x3, .ref x4, .ref x5, .ref x6])) L4 = some (.lst [.ref x3, .ref x4, .ref x5, .ref x6]) := upd_same
    generalize upd Hk L4 (.lst [.ref x3, .ref x4, .ref x5, .ref x6]) = Hl at *
    refine for_list (xs := [.ref x3, .ref x4, .ref x5, .ref x6]) (FrI TT Hl x p x2 o3) ⟨none, rfl, Up.refl⟩ (fun i σ' H' _ h => by obtain ⟨_, _, u⟩ := h; exact SqL.of (u.keep _ _ hLl (by simp) (fun _ z => nomatch z))) (fun i v σ' H' hv h => ?_) (fun σ' H' h => ?_)
    · obtain ⟨o4, rfl, ui⟩ := h
      obtain ⟨xf, lf, fr, rfl, kf, gf, nf⟩ := (farl v (List.mem_of_getElem? hv)).up ui
      have Ti := ui.tabs Tl
      have hpi := ui.seqT hpk
      refine w_name (w_ifs (w_or (w_test (w_op (w_var (v := .ref xf) (by rfl) (w_dkv (by rfl) hpi gb Ti fun x7 l7 Hm nx7 fl7 nl7 um Tm k7 => w_eqD (kf.up um (by simp) (by simp)) k7 (gR_so gf) so (fun _ h => absurd h List.not_mem_nil) (fun _ h => absurd h List.not_mem_nil) fun Hn sn => ?_))))))
      rw [decide_eq_false (fun z => nf z.1)]
      refine ⟨false, rfl, w_ifF rfl ?_⟩
      have un := um.trans (Up.of sn)
      refine w_not (w_test (w_op (w_var (v := .ref xf) (by rfl) (w_dkv (by rfl) (un.seqT hpi) gb (un.tabs Ti) fun x8 l8 Ho nx8 fl8 nl8 uo To k8 => w_eqD (kf.up (un.trans uo) (by simp) (by simp)) k8 (gR_so gf) so (fun _ h => absurd h List.not_mem_nil) (fun _ h => absurd h List.not_mem_nil) fun Hq sq => ?_))))
      rw [decide_eq_false (fun z => nf z.1)]
      refine ⟨true, rfl, w_ifF rfl (w_next ⟨_, rfl, ui.trans ((un.trans uo).trans (Up.of sq))⟩)⟩
    · obtain ⟨o4, rfl, ui⟩ := h
      have u9 : Up TT [x2, l2] H H' := ul.trans (ui.mono (by simp))
      have kx9 := kxk.up ui (by simp) (by simp)
      have ka9 := kak.up ui (by simp) (by simp)
      have hp9 := ui.seqT hpk
      have kx9' := kx9
      obtain ⟨dy, ry, by_, ey, esy, vsy, ky⟩ := kx9
      refine w_seq (w_asg (w_lst (w_cons (w_c (w_cons (w_fl (w_var (v := .ref x) (by rfl) ⟨x, dkC K, dy, _, .ref ry, rfl, ky.x, D.cls, na _ (by decide), rfl, w_cons (w_fl (w_var (v := .ref x) (by rfl) ⟨x, dkC K, dy, _, .ref ey, rfl, ky.x, D.cls, na _ (by decide), rfl, w_cons (w_meth (w_var (v := .ref x) (by rfl) ⟨x, dy, _, rfl, ky.x, rfl, w_nil ⟨x, l, rs, bs, ds, ps, rfl, kx9', gr.1, fun z hz => gS_len (gr.2 z hz), fun z Ha sa => ?_⟩⟩))⟩))⟩)))))))
      refine w_cons (w_tup (w_cons (w_var (v := .ref x) (by rfl) (w_nil ⟨(by show 1 ≤ 2 ^ 24; decide), fun t ht => ?_⟩))))
      have sb := same_newT (o := .tup [.ref x]) ht
      refine w_cons (w_c (w_nil ⟨(by show 6 ≤ 2 ^ 24; decide), fun L hL => ?_⟩))
      have sc := same_newT (o := .lst [.non, .ref ry, .ref ey, .str z, .ref t, .bl true]) hL
      have S := (sa.trans sb).trans sc
      have tys : ∀ v ∈ ([.non, .ref ry, .ref ey, .str z, .ref t, .bl true] : List V), ∃ t0, Ty K (upd (upd Ha t (.tup [.ref x])) L (.lst [.non, .ref ry, .ref ey, .str z, .ref t, .bl true])) v t0 := fun v hv => by
        simp only [List.mem_cons, List.not_mem_nil, or_false] at hv
        rcases hv with rfl | rfl | rfl | rfl | rfl | rfl
        · exact ⟨"NoneType", .base .non, by decide⟩
        · exact ⟨"tuple", ty_tup (sqT_sm S ky.r), by decide⟩
        · exact ⟨"tuple", ty_tup (sqT_sm S ky.e), by decide⟩
        · exact ⟨"str", .base (.str _), by decide⟩
        · exact ⟨"tuple", ty_tup (SqT.of (sc _ _ upd_same)), by decide⟩
        · exact ⟨"bool", .base (.bl _), by decide⟩
      have hLs : (upd (upd Ha t (.tup [.ref x])) L (.lst [.non, .ref ry, .ref ey, .str z, .ref t, .bl true])) L = some (.lst [.non, .ref ry, .ref ey, .str z, .ref t, .bl true]) := upd_same
      clear sc sb
      generalize upd (upd Ha t (.tup [.ref x])) L (.lst [.non, .ref ry, .ref ey, .str z, .ref t, .bl true]) = Hb at *
      have kxb := kx9'.same S
      have kab := ka9.same S
      have hpb := sqT_sm S hp9
      have ub := u9.trans (Up.of S)
      refine w_name ?_
      dsimp only [List.set]
      refine w_seq (w_ifs (w_or (w_test (w_op (w_var (v := .ref x) (by rfl) (w_var (v := .ref x) (by rfl) (w_eqD kxb kxb so so gd gd fun Hc sc => ?_)))))))
      rw [decide_eq_true (⟨rfl, rfl⟩ : bs = bs ∧ ds = ds)]
      refine ⟨false, rfl, w_ifF rfl ?_⟩
      have kxc := kxb.same sc
      obtain ⟨dc, fc, hxc⟩ := kxc.ins
      refine w_or (w_not ⟨.ref x, (by rfl), x, dc, fc, rfl, hxc, w_ifF rfl ?_⟩)
      refine w_test (w_op (w_lcL (w_var (v := .ref L) (by rfl) ⟨L, rfl, ⟨_, SqL.of (sc _ _ hLs)⟩, lcL_none (TA := TT) (SqL.of (sc _ _ hLs)) (fun v Hd hv ud R hR => ?_) fun L2 Hd nL2 ud hL2 => ?_⟩)))
      · obtain ⟨t0, ht⟩ := tys v hv
        have ht2 : Ty K Hd v t0 := ty_ext (fun b o h n => ud.keep b o h (by simp) n) (ty_same sc ht)
        have kxd := kxc.up ud (by simp) (by simp)
        exact w_name ⟨rfl, w_or (w_test (w_op (w_var (v := .ref x) (by rfl) (w_var (v := v) (by rfl) (w_eqO kxd ht2 ⟨false, rfl, w_ifF rfl (w_not (w_test (w_op (w_var (v := .ref x) (by rfl) (w_var (v := v) (by rfl) (w_eqO kxd ht2 ⟨true, rfl, hR _ _ Up.refl⟩))))))⟩)))))⟩
      · refine w_lst (w_nil ⟨(by show 0 ≤ 2 ^ 24; decide), fun L3 hL3 => ?_⟩)
        have se := same_newT (o := .lst []) hL3
        have ee : PyData.eqv (.list []) (.list []) = true := rfl
        refine ⟨.list [], .list [], .lst (SqL.of (se _ _ hL2)) .nil, .lst (SqL.of upd_same) .nil, by decide +kernel, by decide +kernel, ?_⟩
        rw [ee]
        refine ⟨false, rfl, w_ifF rfl (w_next ?_)⟩
        have ve : Up TT [] Hb (upd Hd L3 (.lst [])) := ((Up.of sc).trans ud).trans (Up.of se)
        generalize upd Hd L3 (.lst []) = He at *
        have kxe := kxb.up ve (by simp) (by simp)
        have kae := kab.up ve (by simp) (by simp)
        have hpe := ve.seqT hpb
        have ue := ub.trans (ve.mono (by simp))
        have fin : ∀ H', Up TT [x2, l2] H H' → Q (.bl true) H' := fun H' u => q H' ((u.drop nx2).dropF fl2)
        have kae' := kae
        obtain ⟨da, ra, ba, ea, esa, vsa, ka2⟩ := kae
        dsimp only
        refine w_seq (w_ifs (w_test (w_op (w_fl (w_var (v := .ref x2) (by rfl) ⟨x2, dkC K, da, _, .ref ea, rfl, ka2.x, D.cls, na _ (by decide), rfl, w_tup (w_nil ⟨(by show 0 ≤ 2 ^ 24; decide), fun t3 ht3 => ?_⟩)⟩)))))
        have sf := same_newT (o := .tup []) ht3
        have uf : Up TT [] He (upd He t3 (.tup [])) := Up.of sf
        have ef : PyData.eqv (.tuple (ds.map Dd.d)) (.tuple []) = decide (ds = []) := by
          have h : PyData.eqv (.tuple (ds.map Dd.d)) (.tuple []) = PyData.eqvAll (ds.map Dd.d) (([] : List Dd).map Dd.d) := rfl
          rw [h, eqv_deeds]
        refine ⟨.tuple (ds.map Dd.d), .tuple [], .tup (uf.seqT ka2.e) (dp_deeds (ka2.es.up uf)), .tup (SqT.of upd_same) .nil, ?_, by decide +kernel, ?_⟩
        · unfold SeqAt.shaped
          rw [Bool.and_eq_true, decide_eq_true_iff]
          refine ⟨?_, ?_⟩
          · simp only [PyData.canLay0]
            exact lay_deeds fun d hd => (gd d hd).2.1
          · have := dep_deeds ds
            simp only [PyData.depth]
            omega
        · rw [ef]
          refine ⟨_, rfl, ?_⟩
          by_cases hd0 : ds = []
          · refine w_ifF (by rw [decide_eq_true hd0]; rfl) (w_next ?_)
            refine w_ret (w_op (w_dkv (by rfl) (uf.seqT hpe) gb ((ue.trans (uf.mono (by simp))).tabs hT) fun x9 l9 Hg nx9 fl9 nl9 ug Tg k9 => w_var (v := .ref x) (by rfl) (w_eqD k9 ((kxe.up uf (by simp) (by simp)).up ug (by simp) (by simp)) so so (fun _ h => absurd h List.not_mem_nil) gd fun Hz sz => ?_)))
            rw [decide_eq_true (⟨rfl, hd0.symm⟩ : bs = bs ∧ [] = ds)]
            exact fin Hz (ue.trans (((uf.trans ug).trans (Up.of sz)).mono (by simp)))
          · refine w_ifT (by rw [decide_eq_false hd0]; rfl) ?_
            have sg := sts_good ok gb gd
            have stw := W.st
            rw [List.take_length] at stw
            have ne2 : p2 ≠ [] := fun z => by
              have := congrArg List.length stw
              rw [sts_len, z] at this
              exact hd0 (List.eq_nil_of_length_eq_zero (by simpa using this))
            have kaf := kae'.up uf (by simp) (by simp)
            have hxa : (upd He t3 (.tup [])) x2 = some (.ins (dkC K) da (dkF ra ba ea l2)) := sf _ _ ka2.x
            refine w_seq (w_drop (w_meth (w_var (v := .ref x2) (by rfl) ⟨x2, da, _, rfl, hxa, rfl, w_nil ⟨x2, l2, rr2, bs, ds, p2, rfl, kaf, fun r hr => gR_so (sg r (by rw [stw]; exact List.mem_append_left _ hr)), fun z => absurd z ne2, fun ps' r3 e3 Hg ug kg => ?_⟩⟩)))
            have kxg := (kxe.up uf (by simp) (by simp)).up ug nxA nlA
            have nd : ¬ (ds.dropLast = ds) := fun z => by
              have := congrArg List.length z
              rw [List.length_dropLast] at this
              exact hd0 (List.eq_nil_of_length_eq_zero (by omega))
            have gdd : ∀ d ∈ ds.dropLast, gD d := fun d h => gd d ((List.dropLast_sublist _).subset h)
            refine w_ret (w_andV (w_op (w_var (v := .ref x2) (by rfl) (w_var (v := .ref x) (by rfl) (w_eqD kg kxg so so gdd gd fun Hi si => ?_)))))
            rw [decide_eq_false (fun z => nd z.2)]
            refine ⟨true, rfl, w_ifT rfl (w_op (w_var (v := .ref x) (by rfl) (w_var (v := .ref x2) (by rfl) (w_eqD (kxg.same si) (kg.same si) so so gd gdd fun Hj sj => ?_))))⟩
            rw [decide_eq_false (fun z => nd z.2.symm)]
            exact fin Hj (ue.trans ((uf.mono (by simp)).trans (ug.trans (Up.of (si.trans sj)))))
end
end K11

set_option Elab.async false
set_option linter.all false
set_option maxRecDepth 100000
set_option maxHeartbeats 4000000
namespace K11
open PySem PySem.Spec PyProof.Rows L2 LamX EqX
/-! the words' steps, one after another -/
local macro_rules | `(tactic| walk_at "w") => `(tactic| (repeat (first
  | with_reducible refine w_seq ?_ | with_reducible refine w_asg ?_ | with_reducible refine w_ret ?_ | with_reducible exact w_retN ?_ | with_reducible refine w_drop ?_ | with_reducible refine w_ifs ?_ | with_reducible refine w_next ?_
  | with_reducible refine w_name ?_ | with_reducible refine w_gsub ?_ | ((with_reducible refine' w_var ?hx ?_); (case hx => exact rfl)) | with_reducible refine w_c ?_ | with_reducible refine w_op ?_ | with_reducible refine w_un ?_ | with_reducible refine w_cb ?_ | with_reducible refine w_call ?_
  | with_reducible refine w_nil ?_ | with_reducible refine w_cons ?_ | with_reducible refine w_test ?_ | with_reducible refine w_b ?_ | with_reducible refine w_bl ?_ | with_reducible refine w_not ?_ | with_reducible refine w_and ?_ | with_reducible refine w_or ?_
  | with_reducible refine w_notV ?_ | with_reducible refine w_blV ?_ | with_reducible refine w_I0 ?_ | ((with_reducible refine w_mulL ?_ ?_); · omega) | ((with_reducible refine w_mulR ?_ ?_); · omega) | ((with_reducible refine w_pow ?_ ?_); · decide)
  | with_reducible refine w_neg ?_ | ((with_reducible refine w_eq ?_ ?_); · exact rfl) | ((with_reducible refine w_ne ?_ ?_); · exact rfl) | with_reducible refine w_int1 ?_ | with_reducible refine w_abs ?_ | with_reducible refine w_max2 ?_ | with_reducible refine w_min2 ?_
  | with_reducible refine w_gcons ?_ | with_reducible refine w_gnil ?_ | with_reducible refine w_tup ?_ | with_reducible refine w_lst ?_ | with_reducible refine w_sl ?_ | with_reducible refine w_no ?_ | with_reducible refine w_part ?_ | with_reducible refine w_partI ?_ | with_reducible refine ⟨_, (rfl : V.int _ = V.int _), ?_⟩
  | with_reducible refine w_for ?_ | with_reducible refine w_iL ?_ | with_reducible refine w_iT ?_ | with_reducible refine w_iR ?_ | with_reducible refine w_yes ?_ | with_reducible refine w_setLc ?_ | with_reducible refine w_isB ?_)))

/-! the words' steps, reads of tuples and lists at hand, tests that are settled -/
local macro_rules | `(tactic| walk_at "g") => `(tactic| (repeat (first
  | with_reducible refine w_seq ?_ | with_reducible refine w_asg ?_ | with_reducible refine w_ret ?_ | with_reducible exact w_retN ?_ | with_reducible refine w_drop ?_ | with_reducible refine w_ifs ?_ | (with_reducible refine w_next ?_; try dsimp only)
  | with_reducible refine w_name ?_ | with_reducible refine w_gsub ?_ | ((with_reducible refine' w_var ?hx ?_); (case hx => exact rfl)) | with_reducible refine w_c ?_ | with_reducible refine w_op ?_ | with_reducible refine w_un ?_ | with_reducible refine w_cb ?_ | with_reducible refine w_call ?_
  | with_reducible refine w_nil ?_ | with_reducible refine w_cons ?_ | with_reducible refine w_test ?_ | with_reducible refine w_b ?_ | with_reducible refine w_bl ?_ | with_reducible refine w_not ?_ | with_reducible refine w_and ?_ | with_reducible refine w_or ?_
  | with_reducible refine w_notV ?_ | with_reducible refine w_blV ?_ | with_reducible refine w_I0 ?_ | ((with_reducible refine w_mulL ?_ ?_); · omega) | ((with_reducible refine w_mulR ?_ ?_); · omega) | ((with_reducible refine w_pow ?_ ?_); · decide)
  | with_reducible refine w_neg ?_ | ((with_reducible refine w_eq ?_ ?_); · exact rfl) | ((with_reducible refine w_ne ?_ ?_); · exact rfl) | with_reducible refine w_int1 ?_ | with_reducible refine w_abs ?_ | with_reducible refine w_max2 ?_ | with_reducible refine w_min2 ?_
  | with_reducible refine w_gcons ?_ | with_reducible refine w_gnil ?_ | with_reducible refine w_tup ?_ | with_reducible refine w_lst ?_ | with_reducible refine w_sl ?_ | with_reducible refine w_no ?_ | with_reducible refine w_part ?_ | with_reducible refine w_partI ?_ | with_reducible refine ⟨_, (rfl : V.int _ = V.int _), ?_⟩
  | with_reducible refine w_for ?_ | with_reducible refine w_iL ?_ | with_reducible refine w_iT ?_ | with_reducible refine w_iR ?_ | with_reducible refine w_yes ?_ | with_reducible refine w_setLc ?_ | with_reducible refine w_isB ?_
  | ((with_reducible refine' w_ixT (by assumption) ?hx ?_); (case hx => exact rfl)) | ((with_reducible refine' w_ixL (by assumption) ?hx ?_); (case hx => exact rfl)) | ((with_reducible refine w_lenT (by assumption) ?_)) | ((with_reducible refine w_lenL (by assumption) ?_)) | with_reducible refine w_callD ?_ | with_reducible refine w_if ?_ | with_reducible refine w_andV ?_ | with_reducible refine w_orV ?_
  | ((with_reducible refine w_ifT ?hx ?_); (case hx => rfl)) | ((with_reducible refine w_ifF ?hx ?_); (case hx => rfl)))))

abbrev s__law_is_refused : Stmt := top 187
theorem sc__law_is_refused : FnScope ["odd", "index", "e"] ["odd", "index"] (defScope s__law_is_refused) := ⟨rfl, rfl, rfl, by decide +kernel, rfl, by decide +kernel, by decide +kernel⟩
/-- what is no rows, and the index that is told -/
def Bad (K : PySem.W.Frag) (H : Hp) (odd ix : V) : Prop := ∃ t, Ty K H odd t ∧ ((t ≠ "tuple" ∧ ix = .non) ∨ (t = "tuple" ∧ ∃ p xs, odd = .ref p ∧ SqT K H p xs ∧ (∀ y ∈ xs, Item K H y) ∧ rowsFault odd xs = some ix))
section
variable {P : Program} {w : World} {K : PySem.W.Frag} {mg : Str → Option Value} {base : Heap} {TT : List (Addr × Str)}
def spRef (K : PySem.W.Frag) (TT : List (Addr × Str)) : Sp := fun vs H Q _ => ∃ odd ix, vs = [odd, ix] ∧ Tabs TT H ∧ scal ix ix = true ∧ Bad K H odd ix ∧ ∀ H', Up TT [] H H' → Q (.bl true) H'
theorem df_refused (D : DkK K mg) (C : CthF K mg "InvalidRows" "index") (A : At K mg "_law_is_refused" s__law_is_refused) (D_init : DfMK P w K mg base (L2.CX P w) 7 (dkC K) "__init__" ["self", "rows"] ["rows"] (spInit K TT)) :
    Df P w K mg base CX0 9 "_law_is_refused" ["odd", "index"] (spRef K TT) := by
  refine df_of A sc__law_is_refused (fun _ _ _ _ _ _ us hl => match us, hl with | [_, _], _ => rfl) (fun vs H Q E h => by obtain ⟨x, l, rfl, _⟩ := h; rfl) (fun f cdv A outer s H vs Q E hrs h => ?_)
  refine ⟨_, pss_one (ps_try_first (c := .ref (He.ga K "InvalidRows")) (i := 2) (ts := fun a cls d => tRet (tOp rEq (tLen 3 (tXf a cls d (He.ga K "InvalidRows") "index" (tVar 2))) (tVar 1)))
    (tb := fun W => tSeq (tDrop (tMkS (dkC K) (spInit K TT) W (tCons (tVar 0) tNil))) (tRet (tC (.bl false))))
    rfl rfl sc__law_is_refused.nd rfl rfl ⟨by rfl, by decide, .inl C.gm⟩ (fun W pn xe tk => ?_) (fun a oe cls d pn hz hd => ?_)), ?_⟩
  · exact pss_cons (ps_expr (pe_mkS D_init.toM D.mkc D.gm (hrs.mono (by decide)) tk (pa_cons (pv 0) pa_nil))) (pss_one (ps_ret pe_bl))
  · exact pss_one (ps_ret (pe_cmpR op_eq (pe_len (pe_xf (X := cxOf CX0 P w K mg base ["odd", "index", "e"] "_law_is_refused" (defScope s__law_is_refused) f cdv A outer s H E) (C := He.ga K "InvalidRows") C.xf C.nf hz hd (pv 2))) (pv 1) (nomark _)))
  · obtain ⟨odd, ix, rfl, hT, hsc, ⟨t, ht, hb⟩, q⟩ := h
    have σe : L2.start ["odd", "index", "e"] [odd, ix] = [some odd, some ix, none] := rfl
    rw [σe]
    have key : ∀ d Ha H', Same H Ha → Kept TT Ha H' → H' d = some (.xd [("index", ix)]) → wFirst K (.ref (He.ga K "InvalidRows")) 2 (fun a cls d => tRet (tOp rEq (tLen 3 (tXf a cls d (He.ga K "InvalidRows") "index" (tVar 2))) (tVar 1))) { nx := fun _ H' => Q .non H', rt := Q } (.ref (He.ga K "InvalidRows")) (some d) [some odd, some ix, none] H' := by
      intro d Ha H' sa kp hd
      refine ⟨C.ex, fun a na => w_ret (w_op fun _ => ⟨.ref a, rfl, rfl, rfl, d, _, ix, rfl, hd, rfl, w_var (v := ix) (by rfl) (w_eq hsc ?_)⟩)⟩
      rw [decide_eq_true rfl]
      exact q _ ((Up.of sa).trans (Up.ext kp.1 fun _ => kp.2))
    refine w_seq (w_drop ⟨odd, rfl, fun x dx hx hdx ne => ?_⟩)
    have s1 : Same H (upd H dx (.own x)) := same_newT hdx
    have hx1 : upd H dx (.own x) x = none := by
      rw [upd_ne (Ne.symm ne)]
      exact hx
    have s2 : Same H (upd (upd H dx (.own x)) x (.ins (dkC K) dx [])) := s1.trans (same_newT hx1)
    refine ⟨x, dx, odd, t, rfl, upd_same, ty_same s2 ht, hT.ext s2, fun nt d H' kp hd => ?_, fun et => ?_⟩
    · rcases hb with ⟨_, rfl⟩ | ⟨et, _⟩
      · exact key d _ H' s2 kp hd
      · exact absurd et nt
    · rcases hb with ⟨nt, _⟩ | ⟨_, p, xs, rfl, hp, hi, hf⟩
      · exact absurd et nt
      · refine ⟨p, xs, rfl, sqT_sm s2 hp, fun y hy => item_same s2 (hi y hy), fun v' hv' d H' kp hd => ?_, fun hn => ?_⟩
        · rw [hf] at hv'
          obtain rfl : ix = v' := Option.some.inj hv'
          exact key d _ H' s2 kp hd
        · rw [hf] at hn
          cases hn
end
end K11

set_option Elab.async false
set_option linter.all false
set_option maxRecDepth 100000
set_option maxHeartbeats 4000000
namespace K11
open PySem PySem.Spec PyProof.Rows L2 LamX EqX
/-! the words' steps, one after another -/
local macro_rules | `(tactic| walk_at "w") => `(tactic| (repeat (first
  | with_reducible refine w_seq ?_ | with_reducible refine w_asg ?_ | with_reducible refine w_ret ?_ | with_reducible exact w_retN ?_ | with_reducible refine w_drop ?_ | with_reducible refine w_ifs ?_ | with_reducible refine w_next ?_
  | with_reducible refine w_name ?_ | with_reducible refine w_gsub ?_ | ((with_reducible refine' w_var ?hx ?_); (case hx => exact rfl)) | with_reducible refine w_c ?_ | with_reducible refine w_op ?_ | with_reducible refine w_un ?_ | with_reducible refine w_cb ?_ | with_reducible refine w_call ?_
  | with_reducible refine w_nil ?_ | with_reducible refine w_cons ?_ | with_reducible refine w_test ?_ | with_reducible refine w_b ?_ | with_reducible refine w_bl ?_ | with_reducible refine w_not ?_ | with_reducible refine w_and ?_ | with_reducible refine w_or ?_
  | with_reducible refine w_notV ?_ | with_reducible refine w_blV ?_ | with_reducible refine w_I0 ?_ | ((with_reducible refine w_mulL ?_ ?_); · omega) | ((with_reducible refine w_mulR ?_ ?_); · omega) | ((with_reducible refine w_pow ?_ ?_); · decide)
  | with_reducible refine w_neg ?_ | ((with_reducible refine w_eq ?_ ?_); · exact rfl) | ((with_reducible refine w_ne ?_ ?_); · exact rfl) | with_reducible refine w_int1 ?_ | with_reducible refine w_abs ?_ | with_reducible refine w_max2 ?_ | with_reducible refine w_min2 ?_
  | with_reducible refine w_gcons ?_ | with_reducible refine w_gnil ?_ | with_reducible refine w_tup ?_ | with_reducible refine w_lst ?_ | with_reducible refine w_sl ?_ | with_reducible refine w_no ?_ | with_reducible refine w_part ?_ | with_reducible refine w_partI ?_ | with_reducible refine ⟨_, (rfl : V.int _ = V.int _), ?_⟩
  | with_reducible refine w_for ?_ | with_reducible refine w_iL ?_ | with_reducible refine w_iT ?_ | with_reducible refine w_iR ?_ | with_reducible refine w_yes ?_ | with_reducible refine w_setLc ?_ | with_reducible refine w_isB ?_)))

/-! the words' steps, reads of tuples and lists at hand, tests that are settled -/
local macro_rules | `(tactic| walk_at "g") => `(tactic| (repeat (first
  | with_reducible refine w_seq ?_ | with_reducible refine w_asg ?_ | with_reducible refine w_ret ?_ | with_reducible exact w_retN ?_ | with_reducible refine w_drop ?_ | with_reducible refine w_ifs ?_ | (with_reducible refine w_next ?_; try dsimp only)
  | with_reducible refine w_name ?_ | with_reducible refine w_gsub ?_ | ((with_reducible refine' w_var ?hx ?_); (case hx => exact rfl)) | with_reducible refine w_c ?_ | with_reducible refine w_op ?_ | with_reducible refine w_un ?_ | with_reducible refine w_cb ?_ | with_reducible refine w_call ?_
  | with_reducible refine w_nil ?_ | with_reducible refine w_cons ?_ | with_reducible refine w_test ?_ | with_reducible refine w_b ?_ | with_reducible refine w_bl ?_ | with_reducible refine w_not ?_ | with_reducible refine w_and ?_ | with_reducible refine w_or ?_
  | with_reducible refine w_notV ?_ | with_reducible refine w_blV ?_ | with_reducible refine w_I0 ?_ | ((with_reducible refine w_mulL ?_ ?_); · omega) | ((with_reducible refine w_mulR ?_ ?_); · omega) | ((with_reducible refine w_pow ?_ ?_); · decide)
  | with_reducible refine w_neg ?_ | ((with_reducible refine w_eq ?_ ?_); · exact rfl) | ((with_reducible refine w_ne ?_ ?_); · exact rfl) | with_reducible refine w_int1 ?_ | with_reducible refine w_abs ?_ | with_reducible refine w_max2 ?_ | with_reducible refine w_min2 ?_
  | with_reducible refine w_gcons ?_ | with_reducible refine w_gnil ?_ | with_reducible refine w_tup ?_ | with_reducible refine w_lst ?_ | with_reducible refine w_sl ?_ | with_reducible refine w_no ?_ | with_reducible refine w_part ?_ | with_reducible refine w_partI ?_ | with_reducible refine ⟨_, (rfl : V.int _ = V.int _), ?_⟩
  | with_reducible refine w_for ?_ | with_reducible refine w_iL ?_ | with_reducible refine w_iT ?_ | with_reducible refine w_iR ?_ | with_reducible refine w_yes ?_ | with_reducible refine w_setLc ?_ | with_reducible refine w_isB ?_
  | ((with_reducible refine' w_ixT (by assumption) ?hx ?_); (case hx => exact rfl)) | ((with_reducible refine' w_ixL (by assumption) ?hx ?_); (case hx => exact rfl)) | ((with_reducible refine w_lenT (by assumption) ?_)) | ((with_reducible refine w_lenL (by assumption) ?_)) | with_reducible refine w_callD ?_ | with_reducible refine w_if ?_ | with_reducible refine w_andV ?_ | with_reducible refine w_orV ?_
  | ((with_reducible refine w_ifT ?hx ?_); (case hx => rfl)) | ((with_reducible refine w_ifF ?hx ?_); (case hx => rfl)))))

abbrev s__law_right : Stmt := top 188
theorem sc__law_right : FnScope ["draws", "turn", "first", "more", "desk", "states", "bends", "odd", "index"] ["draws"] (defScope s__law_right) := ⟨rfl, rfl, rfl, by decide +kernel, rfl, by decide +kernel, by decide +kernel⟩
section
variable {P : Program} {w : World} {K : PySem.W.Frag} {mg : Str → Option Value} {base : Heap} {TT : List (Addr × Str)}
def spRight (TT : List (Addr × Str)) : Sp := fun vs H Q _ => ∃ d : Addr, vs = [.ref d] ∧ Purse H d ∧ Tabs TT H ∧ ∀ H', Up TT [d] H H' → Q (.bl true) H'
def RtI (TT : List (Addr × Str)) (H : Hp) (d : Addr) (_ : Nat) (σ' : L2.St) (H' : Hp) : Prop := ∃ o1 o2 o3 o4 o5 : Option V, σ' = [some (.ref d), o1, o2, o3, o4, o5, none, none, none] ∧ Up TT [d] H H' ∧ Tabs TT H' ∧ Purse H' d
def Bend (K : PySem.W.Frag) (H : Hp) (v : V) : Prop := ∃ t odd ix, v = .ref t ∧ H t = some (.tup [odd, ix]) ∧ scal ix ix = true ∧ Bad K H odd ix
theorem Up.extN {H H' : Hp} (u : Up TT [] H H') : ExtN H H' := fun b o h n => u.keep b o h (by simp) n
theorem Bend.up {H H' : Hp} {v : V} (u : Up TT [] H H') : Bend K H v → Bend K H' v := fun ⟨t, odd, ix, e, h, s, t0, ty, b⟩ => ⟨t, odd, ix, e, u.tup _ _ h, s, t0, ty_ext (K11.Up.extN u) ty, b.imp id fun ⟨e, p, xs, ep, hp, hi, hf⟩ => ⟨e, p, xs, ep, u.seqT hp, fun y hy => item_ext (K11.Up.extN u) (hi y hy), hf⟩⟩
theorem it_str {H : Hp} {z : Str} (h : z.length ≤ sizeLine) : Item K H (.str z) := ⟨"str", ⟨.base (.str z), by decide⟩, fun _ => ⟨z, rfl, h⟩, fun h => absurd rfl h⟩
theorem bend_tup {H : Hp} {t p : Addr} {xs : List V} {ix : V} (ht : H t = some (.tup [.ref p, ix])) (hp : SqT K H p xs) (hs : scal ix ix = true) (hi : ∀ y ∈ xs, Item K H y) (hf : rowsFault (.ref p) xs = some ix) : Bend K H (.ref t) :=
  ⟨t, .ref p, ix, rfl, ht, hs, "tuple", ⟨ty_tup hp, by decide⟩, .inr ⟨rfl, p, xs, rfl, hp, hi, hf⟩⟩
theorem bend_non {H : Hp} {t : Addr} {odd : V} {ty : String} (ht : H t = some (.tup [odd, .non])) (h : Ty K H odd ty) (n : ty ≠ "tuple") : Bend K H (.ref t) := ⟨t, odd, .non, rfl, ht, rfl, ty, h, .inl ⟨n, rfl⟩⟩
theorem w_while {c : L2.TT} {tb : TS} {D : Ends} {σ : L2.St} {H : Hp} (W : Nat → L2.St → Hp → Prop) (m0 : Nat) (h0 : W m0 σ H) (h : ∀ m σ H, W m σ H → c σ H fun b H1 => if b = true then ∃ N : L2.St → Hp → Prop, (∀ σ' H', N σ' H' → ∃ m', m' < m ∧ W m' σ' H') ∧ tb { D with nx := N, ct := N, bk := D.nx } σ H1 else D.nx σ H1) : tWhile c tb D σ H := ⟨W, ⟨m0, h0⟩, h⟩
def WhI (K : PySem.W.Frag) (TT : List (Addr × Str)) (H2 : Hp) (d p m x l L : Addr) (o1 : Option V) (rs : List Str) (n : Nat) (σ' : L2.St) (H' : Hp) : Prop := ∃ (rr : List Str) (ds : List Dd) (ps : List (List Str)) (ws : List Addr), ps.length = n ∧ σ' = [some (.ref d), o1, some (.ref p), some (.ref m), some (.ref x), some (.ref L), none, none, none] ∧ Up TT [L, x, l, d] H2 H' ∧
  Purse H' d ∧ RunS K H' x l L rr rs ds ps ws
theorem df_right (T : Kl P w K mg base) (D : DkK K mg) (A : At K mg "_law_right" s__law_right) (D_init : DfMK P w K mg base (L2.CX P w) 7 (dkC K) "__init__" ["self", "rows"] ["rows"] (spInit K TT)) (D_undo : DfM P w K mg base (L2.CX P w) 5 (dkC K) "undo" ["self"] (spUndo K TT))
    (D_eq : DfM P w K mg base CX0 1 (dkC K) "__eq__" ["self", "other"] (spEq K)) (D__law_page : Df P w K mg base CX0 2 "_law_page" ["draws"] (spPage TT)) (D__law_is_so : DfG P w K mg base CX0 2 "_law_is_so" ["desk", "rows", "deeds_here"] (spSo K))
    (D__law_is_empty : Df P w K mg base CX0 6 "_law_is_empty" ["desk"] (spEmpty K)) (D__law_run : DfG P w K mg base CX0 8 "_law_run" ["draws", "first", "more", "desk"] (spRun K TT)) (D__law_are_equal : DfG P w K mg base CX0 9 "_law_are_equal" ["desk", "first"] (spAre K TT))
    (D__law_is_refused : Df P w K mg base CX0 9 "_law_is_refused" ["odd", "index"] (spRef K TT)) : DfG P w K mg base CX0 10 "_law_right" ["draws"] (spRight TT) := by
  refine dfG_of A sc__law_right (fun _ _ _ _ _ _ us hl => match us, hl with | [_], _ => rfl) (fun vs H Q E h => by obtain ⟨d, rfl, _⟩ := h; rfl) (fun f cdv A outer s H vs Q E hrs hgd0 h => ?_)
  have hgd : (A.deeper (envOfC "_law_right" (defScope s__law_right) s.heap.objs.size f cdv)).guards = some [] := hgd0
  refine ⟨_, PSs.nox (pss_cons (ps_for PassesOwn.never rfl (pi_range1 (by rfl) T.n_range (pa_cons pe_int pa_nil)) (pg_name (i := 1) sc__law_right.nd rfl (Or.inl rfl)) (pss_cons (ps_asg (pe_df D__law_page (hrs.mono (by decide)) (pa_cons (pv 0) pa_nil)) (pg_tup rfl (pgs_cons (pg_name (i := 2) sc__law_right.nd rfl (Or.inl rfl)) (pgs_cons (pg_name (i := 3) sc__law_right.nd rfl (Or.inl rfl)) pgs_nil))))
      (pss_cons (ps_set (i := 4) sc__law_right.nd rfl (Or.inl rfl) (pe_mk D_init.toM D.mkc D.gm (hrs.mono (by decide)) passN (pa_cons (pv 2) pa_nil)))
      (pss_cons (ps_if (PW.pt (pw_or (pt_not (pt_val (pe_dfG D__law_is_so (hrs.mono (by decide)) hgd (pa_cons (pv 4) (pa_cons (pv 2) (pa_cons (pe_tup pa_nil) pa_nil)))))) (pw_or1 (pt_not (pt_val (pe_df D__law_is_empty (hrs.mono (by decide)) (pa_cons (pv 4) pa_nil))))))) (pss_one (ps_ret pe_bl)) pss_nil)
      (pss_cons (ps_set (i := 5) sc__law_right.nd rfl (Or.inl rfl) (pe_dfG D__law_run (hrs.mono (by decide)) hgd (pa_cons (pv 0) (pa_cons (pv 2) (pa_cons (pv 3) (pa_cons (pv 4) pa_nil))))))
      (pss_cons (ps_if (PW.pt (pw_or (pt_cmpR op_isN1 (pv 5) pe_non (nomark _)) (pw_or1 (pt_not (pt_val (pe_dfG D__law_are_equal (hrs.mono (by decide)) hgd (pa_cons (pv 4) (pa_cons (pv 2) pa_nil)))))))) (pss_one (ps_ret pe_bl)) pss_nil)
      (pss_cons (ps_while PassesOwn.never (pt_cmpR op_gt (pe_callB c_lenS (by rfl) T.n_len PySem.boot_len (pa_cons (pv 5) pa_nil)) pe_int (nomark _)) (pss_cons (ps_expr (pe_bm0 PySem.F.plainAttrs_list PySem.F.slot_list_pop PySem.F.type_list_pop mt_pop (pv 5)))
      (pss_cons (ps_expr (pe_dfM0 D_undo D.cls (hrs.mono (by decide)) passN (pv 4)))
      (pss_one (ps_if (pt_not (pt_val (pe_dfG D__law_is_so (hrs.mono (by decide)) hgd (pa_cons (pv 4) (pa_cons (pe_ix ix_list (pv 5) (pe_un un_neg pe_int) (fun _ _ => rfl)) (pa_cons (pe_fld (pv 4) rfl) pa_nil)))))) (pss_one (ps_ret pe_bl)) pss_nil)))))
      (pss_one (ps_if (PW.pt (pw_or (pt_not (pt_val (pe_df D__law_is_empty (hrs.mono (by decide)) (pa_cons (pv 4) pa_nil)))) (pw_or (pt_cmpR (op_dne D D_eq (hrs.mono (by decide))) (pv 4) (pe_mk D_init.toM D.mkc D.gm (hrs.mono (by decide)) passN (pa_cons (pv 2) pa_nil)) (nomark _)) (pw_or1 (pt_cmpR (op_neD (Nat.lt_of_le_of_lt (Nat.add_le_add_left (by decide) _) hrs.un)) (pe_fld (pv 4) rfl) (pe_tup pa_nil) (nomark _)))))) (pss_one (ps_ret pe_bl)) pss_nil)))))))))
      (pss_cons (ps_set (i := 6) sc__law_right.nd rfl (Or.inl rfl) (pe_lst (pa_cons (pe_tup (pa_cons pe_non (pa_cons pe_non pa_nil))) (pa_cons (pe_tup (pa_cons (pe_lst (pa_cons pe_str pa_nil)) (pa_cons pe_non pa_nil))) (pa_cons (pe_tup (pa_cons pe_str (pa_cons pe_non pa_nil))) (pa_cons (pe_tup (pa_cons (pe_op op_repT (pe_tup (pa_cons pe_str pa_nil)) pe_int) (pa_cons pe_non pa_nil))) (pa_cons (pe_tup (pa_cons (pe_tup (pa_cons (pe_op op_repStr pe_str pe_int) pa_nil)) (pa_cons pe_int pa_nil))) pa_nil)))))))
      (pss_cons (ps_set (i := 6) sc__law_right.nd rfl (Or.inl rfl) (pe_op op_cat (pv 6) (pe_lst (pa_cons (pe_tup (pa_cons (pe_tup (pa_cons pe_str (pa_cons pe_str pa_nil))) (pa_cons pe_int pa_nil))) (pa_cons (pe_tup (pa_cons (pe_tup (pa_cons pe_str (pa_cons pe_int pa_nil))) (pa_cons pe_int pa_nil))) (pa_cons (pe_tup (pa_cons (pe_tup (pa_cons pe_non pa_nil)) (pa_cons pe_int pa_nil))) pa_nil))))))
      (pss_one (ps_ret (pe_cmpR (op_eqD (Nat.lt_of_le_of_lt (Nat.add_le_add_left (by decide) _) hrs.un)) (pe_lc (own := [("odd", 7), ("index", 8)]) (g := gTup K 2 (gCons (gName 7) (gCons (gName 8) gNil))) (by rfl) sc__law_right.nd (pi_list (pv 6)) (blkOk_by (own := [("odd", 7), ("index", 8)]) (N := ["draws", "turn", "first", "more", "desk", "states", "bends", "odd", "index"]) (sc := defScope s__law_right) (by decide +kernel)) (fun _ _ _ _ _ => (pg_tup rfl (pgs_cons (pg_name (i := 7) sc__law_right.nd rfl (Or.inl rfl)) (pgs_cons (pg_name (i := 8) sc__law_right.nd rfl (Or.inl rfl)) pgs_nil)))) (fun _ _ _ _ _ => (pts_one (pt_not (pt_val (pe_df D__law_is_refused (hrs.mono (by decide)) (pa_cons (pv 7) (pa_cons (pv 8) pa_nil))))))) (fun _ _ _ _ _ => (pv 7))) (pe_lst pa_nil) (nomark _))))))), ?_⟩
  obtain ⟨d, rfl, hd, hT, q⟩ := h
  have σe : L2.start ["draws", "turn", "first", "more", "desk", "states", "bends", "odd", "index"] [.ref d] = [some (.ref d), none, none, none, none, none, none, none, none] := rfl
  rw [σe]
  dsimp only [cxOf]
  have na := fun f h => D.na f h
  refine w_seq (w_for (w_iR (w_cons (w_c (w_nil ⟨7, rfl, by decide, by decide, ?_⟩)))))
  refine for_range (lo := 0) (n := 7) (RtI TT H d) ⟨none, none, none, none, none, rfl, Up.refl, hT, hd⟩ (fun i σ1 H1 hi h1 => ?_) (fun σ1 H1 h1 => ?_)
  · obtain ⟨o1, o2, o3, o4, o5, rfl, u1, T1, d1⟩ := h1
    refine w_name ?_
    refine w_seq (w_asg (w_call (w_cons (w_var (v := .ref d) (by rfl) (w_nil ⟨d, rfl, d1, fun t p m rs ms H2 u2 d2 ht hp hm fr nmd rz al => ?_⟩)))))
    refine ⟨t, _, rfl, SqT.of ht, ?_, w_gcons (w_name (w_gcons (w_name (w_gnil ?_))))⟩
    · rfl
    dsimp only [List.set]
    have T2 := u2.tabs T1
    have gr : gR rs := ⟨by rw [rz.1.1.1]; decide, fun z hz => (rz.1.1.2 z hz).gS (by decide)⟩
    have gm : ∀ z ∈ ms, gS z = true := fun z hz => (al.2 z hz).gS (by decide)
    have nm : ms ≠ [] := fun z => by
      have := al.1
      rw [z] at this
      cases this
    refine w_seq (w_asg (w_dkv (by rfl) (SqT.of hp) gr T2 fun x l H3 nx fl nlx u3 T3 k3 => ?_))
    refine w_name ?_
    dsimp only [List.set]
    have dA : ∀ (Ha : Hp) (y : Addr), Purse Ha d → Fr Ha y → d ≠ y := fun Ha y hd fy z => by
      obtain ⟨_, _, _, e, _⟩ := hd
      rw [z] at e
      obtain ⟨_, e2⟩ := fy _ e
      cases e2
    have ndl : d ≠ l := dA H2 l d2 fl
    have frx : Fr H2 x := fun o e => by
      rw [nx] at e
      cases e
    have ndx : d ≠ x := dA H2 x d2 frx
    have nml : m ≠ l := fun z => by
      rw [z] at hm
      obtain ⟨_, e2⟩ := fl _ hm
      cases e2
    have d3 := purse_keep u3 (by simp) d2
    have hp3 : SqT K H3 p (sv rs) := u3.seqT (SqT.of hp)
    have hm3 := u3.keep _ _ hm (by simp) (fun _ z => nomatch z)
    have k3' := k3
    obtain ⟨dx, rx, bx, ex, esx, vsx, kx⟩ := k3
    refine w_seq (w_ifs (w_or (w_not (w_b (w_call (w_cons (w_var (v := .ref x) (by rfl) (w_cons (w_var (v := .ref p) (by rfl) (w_cons (w_tup (w_nil ⟨(by show 0 ≤ 2 ^ 24; decide), fun e0 he0 => w_nil ⟨x, p, e0, l, rs, rs, [], [], [], rfl, ?k0, ?p0, SqT.of upd_same, trivial, gr, fun _ h => absurd h List.not_mem_nil, Nat.zero_le _, fun H4 s4 => ⟨true, rfl, w_ifF rfl ?_⟩⟩⟩))))))))))))
    case k0 => exact k3'.same (same_newT he0)
    case p0 => exact sqT_sm (same_newT he0) hp3
    have s34 := (same_newT (o := .tup []) he0).trans s4
    clear s4
    have k4 := k3'.same s34
    refine w_not (w_b (w_call (w_cons (w_var (v := .ref x) (by rfl) (w_nil ⟨x, l, rs, rs, [], rfl, k4, fun H5 s5 => ⟨true, rfl, w_ifF rfl (w_next ?_)⟩⟩)))))
    dsimp only
    have S5 := s34.trans s5
    have u5 : Up TT [] H2 H5 := u3.trans (Up.of S5)
    have k5 := k3'.same S5
    have d5 := purse_same S5 d3
    refine w_seq (w_asg (w_call (w_cons (w_var (v := .ref d) (by rfl) (w_cons (w_var (v := .ref p) (by rfl) (w_cons (w_var (v := .ref m) (by rfl) (w_cons (w_var (v := .ref x) (by rfl) (w_nil ⟨d, p, m, x, l, rs, ms, rfl, u5.tabs T2, d5, u5.seqT (SqT.of hp), gr, S5 _ _ hm3, nmd, nml, ndl, nm, (by rw [al.1]; decide), gm, k5, fun L rs' ds ps ws H6 u6 fL d6 R => ?_⟩)))))))))))
    refine w_name ?_
    dsimp only [List.set]
    have T6 := u6.tabs (u5.tabs T2)
    have hp5 : SqT K H5 p (sv rs) := u5.seqT (SqT.of hp)
    have hp6 := u6.seqT hp5
    have nLd : d ≠ L := dA H5 L d5 fL
    have nLx : L ≠ x := fun z => by
      obtain ⟨_, _, e⟩ := k5.ins
      rw [← z] at e
      obtain ⟨_, e2⟩ := fL _ e
      cases e2
    have nLl : L ≠ l := fun z => by
      obtain ⟨_, e⟩ := k5.lst
      rw [← z] at e
      obtain ⟨_, e2⟩ := fL _ e
      cases e2
    refine w_seq (w_ifs (w_or (w_test (w_op (w_var (v := .ref L) (by rfl) (w_c ⟨rfl, _, rfl, w_ifF (decide_eq_false (fun z => nomatch z)) ?_⟩))))))
    refine w_not (w_b (w_call (w_cons (w_var (v := .ref x) (by rfl) (w_cons (w_var (v := .ref p) (by rfl) (w_nil ⟨x, p, l, rs', rs, ds, ps, rfl, T6, R.dk, hp6, gr, rz, R.gr rs' (by simp), R.gd, R.ok, R.dl, fun H7 u7 => ⟨true, rfl, w_ifF rfl (w_next ?_)⟩⟩)))))))
    dsimp only
    have R7 := R.up u7 (by simp) (by simp) (by simp)
    have d7 := purse_keep u7 (by simp) d6
    have U7 : Up TT [L, x, l, d] H2 H7 := (u5.mono (by simp)).trans ((u6.mono (by simp)).trans (u7.mono (by simp)))
    refine w_seq (w_while (WhI K TT H2 d p m x l L (some (.int (0 + (i : Int)))) rs) ps.length ⟨rs', ds, ps, ws, rfl, rfl, U7, d7, R7⟩ (fun n σ8 H8 hw => ?_))
    obtain ⟨rr, ds8, ps8, ws8, hn, rfl, u8, d8, R8⟩ := hw
    have hwl : ws8.length = ps8.length + 1 := by
      have := R8.vs.len
      rw [List.length_append] at this
      exact this
    have hL8 : SqL K H8 L (ws8.map V.ref) := SqL.of R8.L
    have lw8 : (ws8.map V.ref).length = ws8.length := List.length_map ..
    have T8 := u8.tabs T2
    have hp8 : SqT K H8 p (sv rs) := u8.seqT (SqT.of hp)
    walk_at "g"
    refine w_dec (fun c => ?_) (fun c => ?_)
    · refine ⟨WhI K TT H2 d p m x l L (some (.int (0 + (i : Int)))) rs (n - 1), fun σ' H' h => ⟨n - 1, by omega, h⟩, ?_⟩
      obtain ⟨ps', r, hps⟩ : ∃ ps' r, ps8 = ps' ++ [r] := by
        have nn : ps8 ≠ [] := fun z => by
          rw [z] at hwl
          simp at hwl
          omega
        exact ⟨ps8.dropLast, ps8.getLast nn, (List.dropLast_concat_getLast nn).symm⟩
      subst hps
      obtain ⟨wsi, rv, hws, hwi, hrv⟩ := Rws.back R8.vs
      obtain ⟨wsj, rw_, hwj, hwk, hrw⟩ := Rws.back hwi
      have hpop : (ws8.map V.ref)[(ws8.map V.ref).length - 1]? = some (.ref rv) := by
        rw [hws]
        simp
      have hdr : (ws8.map V.ref).dropLast = wsi.map V.ref := by
        rw [hws]
        simp
      refine w_seq (w_drop (w_var (v := .ref L) (by rfl) ⟨.inl ⟨rfl, _, hL8⟩, L, _, .ref rv, rfl, rfl, R8.L, hpop, ?_⟩))
      rw [hdr]
      have u9 : Up TT [L] H8 (upd H8 L (.lst (wsi.map V.ref))) := up_set R8.L mu_lst (by simp)
      have hL9 : (upd H8 L (.lst (wsi.map V.ref))) L = some (.lst (wsi.map V.ref)) := upd_same
      generalize upd H8 L (.lst (wsi.map V.ref)) = H9 at *
      have k9 := R8.dk.up u9 (by simpa using Ne.symm nLx) (by simpa using Ne.symm nLl)
      have k9' := k9
      obtain ⟨dz, r9, b9, e9, es9, vs9, kz⟩ := k9
      dsimp only
      refine w_seq (w_drop (w_meth (w_var (v := .ref x) (by rfl) ⟨x, dz, _, rfl, kz.x, rfl, w_nil ⟨x, l, rr, rs, ds8, ps' ++ [r], rfl, k9', fun r0 h0 => gR_so (R8.gr r0 (List.mem_append_left _ h0)), fun z => absurd z (by simp), fun ps2 r2 e2 Ha ua ka => ?_⟩⟩)))
      obtain ⟨rfl, er⟩ := List.append_inj' e2 rfl
      obtain rfl : r = r2 := by simpa using er
      have hLa := ua.keep _ _ hL9 (by simp; exact ⟨nLx, nLl⟩) (fun _ z => nomatch z)
      have va : Up TT [L, x, l, d] H8 Ha := (u9.mono (by simp)).trans (ua.mono (by simp))
      have hrwa := va.seqT hrw
      have hat := at_last wsj rw_
      rw [← hwj] at hat
      have hLs : SqL K Ha L (wsi.map V.ref) := SqL.of hLa
      have ka' := ka
      obtain ⟨dy, ra, ba, ea, esa, vsa, ky⟩ := ka
      have gdd : ∀ d0 ∈ ds8.dropLast, gD d0 := fun d0 h => R8.gd d0 ((List.dropLast_sublist _).subset h)
      have gpr : ∀ r0 ∈ ps' ++ [r], gR r0 := fun r0 h0 => R8.gr r0 (List.mem_append_left _ h0)
      have dll : ds8.dropLast.length ≤ 12 := by
        rw [List.length_dropLast]
        have := R8.dl
        omega
      dsimp only
      refine w_ifs ?_
      walk_at "g"
      refine w_ixL hLs hat ?_
      refine w_cons (w_fl (w_var (v := .ref x) (by rfl) ⟨x, dkC K, dy, _, .ref ea, rfl, ky.x, D.cls, na _ (by decide), rfl, w_nil ⟨x, rw_, ea, l, r, rs, esa, ds8.dropLast, ps', rfl, ka', hrwa, ky.e, ky.es, gpr r (by simp), gdd, by omega, fun Hb sb => ⟨true, rfl, w_ifF rfl (w_next ?_)⟩⟩⟩))
      have ub : Up TT [] Ha Hb := Up.of sb
      refine ⟨r, ds8.dropLast, ps', wsi, ?_, rfl, u8.trans (va.trans (ub.mono (by simp))), ?_, ⟨ka'.up ub (by simp) (by simp), sb _ _ hLa, (hwi.up va).up ub, gpr, gdd, sts_undo R8.st, okP_undo R8.ok, dll⟩⟩
      · rw [List.length_append, List.length_cons, List.length_nil] at hn
        omega
      · refine purse_keep ub (by simp) (purse_keep ua ?_ (purse_keep u9 (by simpa using nLd) d8))
        simp
        exact ⟨ndx, ndl⟩
    · have hps : ps8 = [] := List.eq_nil_of_length_eq_zero (by omega)
      subst hps
      have hds : ds8 = [] := by
        have := congrArg List.length R8.st
        rw [sts_len] at this
        exact List.eq_nil_of_length_eq_zero (by simpa using this)
      subst hds
      dsimp only
      refine w_ifs (w_or (w_not (w_b (w_call (w_cons (w_var (v := .ref x) (by rfl) (w_nil ⟨x, l, rr, rs, [], rfl, R8.dk, fun H9 s9 => ⟨true, rfl, w_ifF rfl ?_⟩⟩)))))))
      refine w_or (w_test (w_op (w_var (v := .ref x) (by rfl) (w_dkv (by rfl) (sqT_sm s9 hp8) gr (T8.ext s9) fun x9 l9 Ha nx9 fl9 nl9 ua Ta k9 => w_eqD ((R8.dk.same s9).up ua (by simp) (by simp)) k9 (gR_so gr) (gR_so gr) R8.gd (fun _ h => absurd h List.not_mem_nil) fun Hb sb => ?_))))
      rw [decide_eq_true (⟨rfl, rfl⟩ : rs = rs ∧ ([] : List Dd) = [])]
      refine ⟨false, rfl, w_ifF rfl ?_⟩
      have vb : Up TT [] H8 Hb := (Up.of s9).trans (ua.trans (Up.of sb))
      have kb := R8.dk.up vb (by simp) (by simp)
      obtain ⟨dz, r9, b9, e9, es9, vs9, kz⟩ := kb
      refine w_test (w_op (w_fl (w_var (v := .ref x) (by rfl) ⟨x, dkC K, dz, _, .ref e9, rfl, kz.x, D.cls, na _ (by decide), rfl, w_tup (w_nil ⟨(by show 0 ≤ 2 ^ 24; decide), fun t3 ht3 => ?_⟩)⟩)))
      have sf := same_newT (o := .tup []) ht3
      have uf : Up TT [] Hb (upd Hb t3 (.tup [])) := Up.of sf
      have ef : PyData.eqv (.tuple (([] : List Dd).map Dd.d)) (.tuple []) = true := rfl
      refine ⟨.tuple (([] : List Dd).map Dd.d), .tuple [], .tup (uf.seqT kz.e) (dp_deeds (kz.es.up uf)), .tup (SqT.of upd_same) .nil, by decide +kernel, by decide +kernel, ?_⟩
      rw [ef]
      refine ⟨false, rfl, w_ifF rfl (w_next ?_)⟩
      have uz : Up TT [L, x, l, d] H2 (upd Hb t3 (.tup [])) := u8.trans ((vb.trans uf).mono (by simp))
      have fL2 : Fr H2 L := u5.frr fL (by simp)
      have fin : Up TT [d] H2 (upd Hb t3 (.tup [])) := ((uz.dropF fL2).dropF frx).dropF fl
      exact ⟨_, _, _, _, _, rfl, u1.trans (u2.trans fin), fin.tabs T2, purse_keep (vb.trans uf) (by simp) d8⟩
  · obtain ⟨o1, o2, o3, o4, o5, rfl, u1, T1, d1⟩ := h1
    dsimp only
    walk_at "g"
    refine ⟨(by show 2 ≤ 2 ^ 24; decide), fun t1 h1 => ?_⟩
    have s1 := same_newT (o := .tup [.non, .non]) h1
    have b1 : Bend K _ (.ref t1) := bend_non (upd_same (H := H1) (a := t1) (o := .tup [.non, .non])) (ty := "NoneType") ⟨.base .non, by decide⟩ (by decide)
    generalize upd H1 t1 (.tup [.non, .non]) = H2 at *
    walk_at "g"
    refine ⟨(by show 1 ≤ 2 ^ 24; decide), fun l2 hl2 => ?_⟩
    walk_at "g"
    refine ⟨(by show 2 ≤ 2 ^ 24; decide), fun t2 h2 => ?_⟩
    have s2 : Same H2 _ := (same_newT (o := .lst [.str "sort a"]) hl2).trans (same_newT (o := .tup [.ref l2, .non]) h2)
    have b2 : Bend K _ (.ref t2) := bend_non (odd := .ref l2) (upd_same (H := upd H2 l2 (.lst [.str "sort a"])) (a := t2) (o := .tup [.ref l2, .non])) (ty := "list") ⟨.base (.lst (same_newT h2 _ _ upd_same)), by decide⟩ (by decide)
    generalize upd (upd H2 l2 (.lst [.str "sort a"])) t2 (.tup [.ref l2, .non]) = H3 at *
    walk_at "g"
    refine ⟨(by show 2 ≤ 2 ^ 24; decide), fun t3 h3 => ?_⟩
    have s3 := same_newT (o := .tup [.str "sort a", .non]) h3
    have b3 : Bend K _ (.ref t3) := bend_non (odd := .str "sort a") (upd_same (H := H3) (a := t3) (o := .tup [.str "sort a", .non])) (ty := "str") ⟨.base (.str _), by decide⟩ (by decide)
    generalize upd H3 t3 (.tup [.str "sort a", .non]) = H4 at *
    walk_at "g"
    refine ⟨(by show 1 ≤ 2 ^ 24; decide), fun r4 hr4 => ?_⟩
    walk_at "g"
    have sr4 := same_newT (o := .tup [.str "x"]) hr4
    refine ⟨r4, 31, [.str "x"], rfl, rfl, SqT.of upd_same, by simp, by decide, by decide, by decide, fun q4 hq4 => ?_⟩
    have sq4 := same_newT (o := .tup (List.replicate (31 : Int).toNat [V.str "x"]).flatten) hq4
    walk_at "g"
    refine ⟨(by show 2 ≤ 2 ^ 24; decide), fun t4 h4 => ?_⟩
    have st4 := same_newT (o := .tup [.ref q4, .non]) h4
    have s4 : Same H4 _ := (sr4.trans sq4).trans st4
    have b4 : Bend K _ (.ref t4) := bend_tup upd_same (SqT.of (st4 _ _ upd_same)) rfl (fun y hy => by
      obtain ⟨l, hl, hy⟩ := List.mem_flatten.mp hy
      rw [(List.mem_replicate.mp hl).2] at hy
      rw [List.mem_singleton.mp hy]
      exact it_str (by decide)) (by rfl)
    generalize upd (upd (upd H4 r4 _) q4 _) t4 _ = H5 at *
    walk_at "g"
    refine ⟨"a", 201, rfl, rfl, by decide, by decide, by decide, by decide, ?_⟩
    walk_at "g"
    refine ⟨(by show 1 ≤ 2 ^ 24; decide), fun q5 hq5 => ?_⟩
    have sq5 := same_newT (o := .tup [.str (repS "a" 201)]) hq5
    walk_at "g"
    refine ⟨(by show 2 ≤ 2 ^ 24; decide), fun t5 h5 => ?_⟩
    have st5 := same_newT (o := .tup [.ref q5, .int 0]) h5
    have s5 : Same H5 _ := sq5.trans st5
    have len5 : (repS "a" 201).length = 201 := repS_len "a" 201
    have b5 : Bend K _ (.ref t5) := bend_tup upd_same (SqT.of (st5 _ _ upd_same)) rfl (fun y hy => by
      rw [List.mem_singleton.mp hy]
      exact it_str (by rw [len5]; decide)) (by
        have : rwB (repS "a" 201) = false := by
          unfold rwB
          rw [len5]
          rfl
        show rowsFault _ [V.str (repS "a" 201)] = some (.int 0)
        unfold rowsFault
        rw [if_pos (by decide), List.findIdx?_cons]
        rw [show (!isRow (V.str (repS "a" 201))) = true from by show (!rwB (repS "a" 201)) = true; rw [this]; rfl]
        rfl)
    generalize upd (upd H5 q5 _) t5 _ = H6 at *
    walk_at "g"
    refine ⟨(by show 5 ≤ 2 ^ 24; decide), fun B hB => ?_⟩
    have sB := same_newT (o := .lst [.ref t1, .ref t2, .ref t3, .ref t4, .ref t5]) hB
    have hBB : (upd H6 B (.lst [.ref t1, .ref t2, .ref t3, .ref t4, .ref t5])) B = some (.lst [.ref t1, .ref t2, .ref t3, .ref t4, .ref t5]) := upd_same
    generalize upd H6 B (.lst [.ref t1, .ref t2, .ref t3, .ref t4, .ref t5]) = H7 at *
    walk_at "g"
    refine ⟨(by show 2 ≤ 2 ^ 24; decide), fun q6 hq6 => ?_⟩
    have sq6 := same_newT (o := .tup [.str "", .str "a\n"]) hq6
    walk_at "g"
    refine ⟨(by show 2 ≤ 2 ^ 24; decide), fun t6 h6 => ?_⟩
    have st6 := same_newT (o := .tup [.ref q6, .int 1]) h6
    have s6 : Same H7 _ := sq6.trans st6
    have b6 : Bend K _ (.ref t6) := bend_tup upd_same (SqT.of (st6 _ _ upd_same)) rfl (fun y hy => by
      simp only [List.mem_cons, List.not_mem_nil, or_false] at hy
      rcases hy with rfl | rfl
      · exact it_str (by decide)
      · exact it_str (by decide)) (by rfl)
    generalize upd (upd H7 q6 _) t6 _ = H8 at *
    walk_at "g"
    refine ⟨(by show 2 ≤ 2 ^ 24; decide), fun q7 hq7 => ?_⟩
    have sq7 := same_newT (o := .tup [.str "", .int 5]) hq7
    walk_at "g"
    refine ⟨(by show 2 ≤ 2 ^ 24; decide), fun t7 h7 => ?_⟩
    have st7 := same_newT (o := .tup [.ref q7, .int 1]) h7
    have s7 : Same H8 _ := sq7.trans st7
    have b7 : Bend K _ (.ref t7) := bend_tup upd_same (SqT.of (st7 _ _ upd_same)) rfl (fun y hy => by
      simp only [List.mem_cons, List.not_mem_nil, or_false] at hy
      rcases hy with rfl | rfl
      · exact it_str (by decide)
      · exact ⟨"int", ⟨.base (.int 5), by decide⟩, fun h => absurd h (by decide), fun _ => rfl⟩) (by rfl)
    generalize upd (upd H8 q7 _) t7 _ = H9 at *
    walk_at "g"
    refine ⟨(by show 1 ≤ 2 ^ 24; decide), fun q8 hq8 => ?_⟩
    have sq8 := same_newT (o := .tup [.non]) hq8
    walk_at "g"
    refine ⟨(by show 2 ≤ 2 ^ 24; decide), fun t8 h8 => ?_⟩
    have st8 := same_newT (o := .tup [.ref q8, .int 0]) h8
    have s8 : Same H9 _ := sq8.trans st8
    have b8 : Bend K _ (.ref t8) := bend_tup upd_same (SqT.of (st8 _ _ upd_same)) rfl (fun y hy => by
      rw [List.mem_singleton.mp hy]
      exact ⟨"NoneType", ⟨.base .non, by decide⟩, fun h => absurd h (by decide), fun _ => rfl⟩) (by rfl)
    generalize upd (upd H9 q8 _) t8 _ = Ha at *
    walk_at "g"
    refine ⟨(by show 3 ≤ 2 ^ 24; decide), fun B2 hB2 => ?_⟩
    have sB2 := same_newT (o := .lst [.ref t6, .ref t7, .ref t8]) hB2
    have S7a : Same H7 Ha := (s6.trans s7).trans s8
    refine ⟨B, B2, _, _, rfl, rfl, sB2 _ _ (S7a _ _ hBB), upd_same, (by show 5 + 3 ≤ 2 ^ 24; decide), fun B3 hB3 => ?_⟩
    have sB3 := same_newT (o := .lst ([.ref t1, .ref t2, .ref t3, .ref t4, .ref t5] ++ [.ref t6, .ref t7, .ref t8])) hB3
    have Sab := sB2.trans sB3
    have hL : (upd (upd Ha B2 (.lst [.ref t6, .ref t7, .ref t8])) B3 (.lst ([.ref t1, .ref t2, .ref t3, .ref t4, .ref t5] ++ [.ref t6, .ref t7, .ref t8]))) B3 = some (.lst ([.ref t1, .ref t2, .ref t3, .ref t4, .ref t5] ++ [.ref t6, .ref t7, .ref t8])) := upd_same
    generalize upd (upd Ha B2 (.lst [.ref t6, .ref t7, .ref t8])) B3 (.lst ([.ref t1, .ref t2, .ref t3, .ref t4, .ref t5] ++ [.ref t6, .ref t7, .ref t8])) = Hb at *
    have S6b : Same H6 Hb := sB.trans (S7a.trans Sab)
    have S1b : Same H1 Hb := s1.trans (s2.trans (s3.trans (s4.trans (s5.trans S6b))))
    have ub : Up TT [] H1 Hb := Up.of S1b
    have bends : ∀ v ∈ ([.ref t1, .ref t2, .ref t3, .ref t4, .ref t5] ++ [.ref t6, .ref t7, .ref t8] : List V), Bend K Hb v := fun v hv => by
      simp only [List.cons_append, List.nil_append, List.mem_cons, List.not_mem_nil, or_false] at hv
      have o : ∀ {H0 : Hp} {v : V}, Same H0 Hb → Bend K H0 v → Bend K Hb v := fun s b => b.up (TT := TT) (Up.of s)
      rcases hv with rfl | rfl | rfl | rfl | rfl | rfl | rfl | rfl
      · exact o (s2.trans (s3.trans (s4.trans (s5.trans S6b)))) b1
      · exact o (s3.trans (s4.trans (s5.trans S6b))) b2
      · exact o (s4.trans (s5.trans S6b)) b3
      · exact o (s5.trans S6b) b4
      · exact o S6b b5
      · exact o (s7.trans (s8.trans Sab)) b6
      · exact o (s8.trans Sab) b7
      · exact o Sab b8
    have Tb := ub.tabs T1
    refine w_name ?_
    dsimp only [List.set]
    refine w_ret (w_op (w_lcL (w_var (v := .ref B3) (by rfl) ⟨B3, rfl, ⟨_, SqL.of hL⟩, lcL_none (TA := TT) (SqL.of hL) (fun v Hc hv uc R hR => ?_) fun L2 Hc nL2 uc hL2 => ?_⟩)))
    · obtain ⟨t, odd, ix, rfl, ht, hs, hb⟩ := (bends v hv).up uc
      refine ⟨t, _, rfl, SqT.of ht, ?_, w_gcons (w_name (w_gcons (w_name (w_gnil ⟨rfl, ?_⟩))))⟩
      · rfl
      exact w_not (w_b (w_call (w_cons (w_var (v := odd) (by rfl) (w_cons (w_var (v := ix) (by rfl) (w_nil ⟨odd, ix, rfl, uc.tabs Tb, hs, hb, fun H' u => ⟨true, rfl, hR _ _ u⟩⟩)))))))
    · refine w_lst (w_nil ⟨(by show 0 ≤ 2 ^ 24; decide), fun L3 hL3 => ?_⟩)
      have se := same_newT (o := .lst []) hL3
      have ee : PyData.eqv (.list []) (.list []) = true := rfl
      refine ⟨.list [], .list [], .lst (SqL.of (se _ _ hL2)) .nil, .lst (SqL.of upd_same) .nil, by decide +kernel, by decide +kernel, ?_⟩
      rw [ee]
      exact q _ (u1.trans ((ub.trans (uc.trans (Up.of se))).mono (by simp)))
end
end K11

set_option Elab.async false
set_option linter.all false
set_option maxRecDepth 100000
set_option maxHeartbeats 4000000
namespace K11
open PySem PySem.Spec PyProof.Rows L2 LamX EqX
/-! the words' steps, one after another -/
local macro_rules | `(tactic| walk_at "w") => `(tactic| (repeat (first
  | with_reducible refine w_seq ?_ | with_reducible refine w_asg ?_ | with_reducible refine w_ret ?_ | with_reducible exact w_retN ?_ | with_reducible refine w_drop ?_ | with_reducible refine w_ifs ?_ | with_reducible refine w_next ?_
  | with_reducible refine w_name ?_ | with_reducible refine w_gsub ?_ | ((with_reducible refine' w_var ?hx ?_); (case hx => exact rfl)) | with_reducible refine w_c ?_ | with_reducible refine w_op ?_ | with_reducible refine w_un ?_ | with_reducible refine w_cb ?_ | with_reducible refine w_call ?_
  | with_reducible refine w_nil ?_ | with_reducible refine w_cons ?_ | with_reducible refine w_test ?_ | with_reducible refine w_b ?_ | with_reducible refine w_bl ?_ | with_reducible refine w_not ?_ | with_reducible refine w_and ?_ | with_reducible refine w_or ?_
  | with_reducible refine w_notV ?_ | with_reducible refine w_blV ?_ | with_reducible refine w_I0 ?_ | ((with_reducible refine w_mulL ?_ ?_); · omega) | ((with_reducible refine w_mulR ?_ ?_); · omega) | ((with_reducible refine w_pow ?_ ?_); · decide)
  | with_reducible refine w_neg ?_ | ((with_reducible refine w_eq ?_ ?_); · exact rfl) | ((with_reducible refine w_ne ?_ ?_); · exact rfl) | with_reducible refine w_int1 ?_ | with_reducible refine w_abs ?_ | with_reducible refine w_max2 ?_ | with_reducible refine w_min2 ?_
  | with_reducible refine w_gcons ?_ | with_reducible refine w_gnil ?_ | with_reducible refine w_tup ?_ | with_reducible refine w_lst ?_ | with_reducible refine w_sl ?_ | with_reducible refine w_no ?_ | with_reducible refine w_part ?_ | with_reducible refine w_partI ?_ | with_reducible refine ⟨_, (rfl : V.int _ = V.int _), ?_⟩
  | with_reducible refine w_for ?_ | with_reducible refine w_iL ?_ | with_reducible refine w_iT ?_ | with_reducible refine w_iR ?_ | with_reducible refine w_yes ?_ | with_reducible refine w_setLc ?_ | with_reducible refine w_isB ?_)))

/-! the words' steps, reads of tuples and lists at hand, tests that are settled -/
local macro_rules | `(tactic| walk_at "g") => `(tactic| (repeat (first
  | with_reducible refine w_seq ?_ | with_reducible refine w_asg ?_ | with_reducible refine w_ret ?_ | with_reducible exact w_retN ?_ | with_reducible refine w_drop ?_ | with_reducible refine w_ifs ?_ | (with_reducible refine w_next ?_; try dsimp only)
  | with_reducible refine w_name ?_ | with_reducible refine w_gsub ?_ | ((with_reducible refine' w_var ?hx ?_); (case hx => exact rfl)) | with_reducible refine w_c ?_ | with_reducible refine w_op ?_ | with_reducible refine w_un ?_ | with_reducible refine w_cb ?_ | with_reducible refine w_call ?_
  | with_reducible refine w_nil ?_ | with_reducible refine w_cons ?_ | with_reducible refine w_test ?_ | with_reducible refine w_b ?_ | with_reducible refine w_bl ?_ | with_reducible refine w_not ?_ | with_reducible refine w_and ?_ | with_reducible refine w_or ?_
  | with_reducible refine w_notV ?_ | with_reducible refine w_blV ?_ | with_reducible refine w_I0 ?_ | ((with_reducible refine w_mulL ?_ ?_); · omega) | ((with_reducible refine w_mulR ?_ ?_); · omega) | ((with_reducible refine w_pow ?_ ?_); · decide)
  | with_reducible refine w_neg ?_ | ((with_reducible refine w_eq ?_ ?_); · exact rfl) | ((with_reducible refine w_ne ?_ ?_); · exact rfl) | with_reducible refine w_int1 ?_ | with_reducible refine w_abs ?_ | with_reducible refine w_max2 ?_ | with_reducible refine w_min2 ?_
  | with_reducible refine w_gcons ?_ | with_reducible refine w_gnil ?_ | with_reducible refine w_tup ?_ | with_reducible refine w_lst ?_ | with_reducible refine w_sl ?_ | with_reducible refine w_no ?_ | with_reducible refine w_part ?_ | with_reducible refine w_partI ?_ | with_reducible refine ⟨_, (rfl : V.int _ = V.int _), ?_⟩
  | with_reducible refine w_for ?_ | with_reducible refine w_iL ?_ | with_reducible refine w_iT ?_ | with_reducible refine w_iR ?_ | with_reducible refine w_yes ?_ | with_reducible refine w_setLc ?_ | with_reducible refine w_isB ?_
  | ((with_reducible refine' w_ixT (by assumption) ?hx ?_); (case hx => exact rfl)) | ((with_reducible refine' w_ixL (by assumption) ?hx ?_); (case hx => exact rfl)) | ((with_reducible refine w_lenT (by assumption) ?_)) | ((with_reducible refine w_lenL (by assumption) ?_)) | with_reducible refine w_callD ?_ | with_reducible refine w_if ?_ | with_reducible refine w_andV ?_ | with_reducible refine w_orV ?_
  | ((with_reducible refine w_ifT ?hx ?_); (case hx => rfl)) | ((with_reducible refine w_ifF ?hx ?_); (case hx => rfl)))))

abbrev s_law : Stmt := top 189
theorem sc_law : FnScope ["cells", "at"] ["cells"] (defScope s_law) := ⟨rfl, rfl, rfl, by decide +kernel, rfl, by decide +kernel, by decide +kernel⟩
theorem w_lcAny {wi : TI} {g : TG} {tt : L2.TT} {te : TE} {vs : List Nat} {σ : L2.St} {H : Hp} {Q : VK} (h : wi σ H fun J H1 => ∀ D, H1 D = none → ∃ W : Nat → Nat → Hp → Prop, (∃ m, W 0 m (upd H1 D (.lst []))) ∧ ∀ i m H, W i m H →
  (J.stop i H ∧ Q (.ref D) H) ∨ (J.go i H ∧ ∃ Nx : Hp → Prop, (∀ H', Nx H' → ∃ m', m' < m ∧ W (i + 1) m' H') ∧ ∀ x H', J.yld i H x H' → g x (wipe σ vs) H' fun σ2 H2 => wipe σ2 vs = wipe σ vs ∧ tt σ2 H2 fun b H3 =>
    if b = true then te σ2 H3 fun y H4 => ∃ acc, H4 D = some (.lst acc) ∧ acc.length < sizeLine ∧ Nx (upd H4 D (.lst (acc ++ [y]))) else Nx H3)) : tLc wi g tt te vs σ H Q := h
section
variable {P : Program} {w : World} {K : PySem.W.Frag} {mg : Str → Option Value} {base : Heap} {TT : List (Addr × Str)}
def spLaw (K : PySem.W.Frag) (TT : List (Addr × Str)) : Sp := fun vs H Q _ => ∃ (a : Addr) (ns : List Int), vs = [.ref a] ∧ SqL K H a (ns.map V.int) ∧ ns.length ≤ 63 ∧ Tabs TT H ∧ ∀ H', Q (.bl true) H'
theorem df_law (T : Kl P w K mg base) (A : At K mg "law" s_law) (D__law_purse : Df P w K mg base CX0 1 "_law_purse" ["cells", "at"] (spPurse K)) (D__law_right : DfG P w K mg base CX0 10 "_law_right" ["draws"] (spRight TT)) :
    DfG P w K mg base CX0 11 "law" ["cells"] (spLaw K TT) := by
  refine dfG_of A sc_law (fun _ _ _ _ _ _ us hl => match us, hl with | [_], _ => rfl) (fun vs H Q E h => by obtain ⟨a, ns, rfl, _⟩ := h; rfl) (fun f cdv A outer s H vs Q E hrs hgd0 h => ?_)
  have hgd : (A.deeper (envOfC "law" (defScope s_law) s.heap.objs.size f cdv)).guards = some [] := hgd0
  have hr := hrs
  refine ⟨_, PSs.nox (pss_one (ps_ret (pe_callB (cr_all rfl) (by rfl) T.n_all (by decide +kernel) (pa_cons (pe_lc (own := [("at", 1)]) (g := gName 1) (tt := tYes) (by rfl) sc_law.nd (pi_range1 (by rfl) T.n_range (pa_cons (pe_callB (c_max2 rfl) (by rfl) T.n_max (by decide +kernel) (pa_cons pe_int (pa_cons (pe_callB (c_min2 rfl) (by rfl) T.n_min (by decide +kernel) (pa_cons (pe_callB c_lenS (by rfl) T.n_len PySem.boot_len (pa_cons (pv 0) pa_nil)) (pa_cons pe_int pa_nil))) pa_nil))) pa_nil)) (blkOk_by (own := [("at", 1)]) (N := ["cells", "at"]) (sc := defScope s_law) (by decide +kernel)) (fun _ _ _ _ _ => pg_name (i := 1) sc_law.nd rfl (Or.inl rfl)) (fun _ _ _ _ _ => pts_nil) (fun _ _ _ _ _ => (pe_dfG D__law_right (hrs.mono (by decide)) hgd (pa_cons (pe_df D__law_purse (hrs.mono (by decide)) (pa_cons (pv 0) (pa_cons (pv 1) pa_nil))) pa_nil)))) pa_nil)))), ?_⟩
  obtain ⟨a, ns, rfl, hs, hl, hT, q⟩ := h
  refine w_ret (w_cb (w_cons (w_lcAny ?_)))
  walk_at "w"
  refine w_lenL hs ?_
  walk_at "w"
  obtain ⟨n, hn, en⟩ : ∃ n : Nat, n ≤ 3 ∧ (if (if (3 : Int) < ((ns.map V.int).length : Int) then (3 : Int) else ((ns.map V.int).length : Int)) > 2 then (if (3 : Int) < ((ns.map V.int).length : Int) then (3 : Int) else ((ns.map V.int).length : Int)) else 2) = (n : Int) := by
    refine ⟨(if (if (3 : Int) < ((ns.map V.int).length : Int) then (3 : Int) else ((ns.map V.int).length : Int)) > 2 then (if (3 : Int) < ((ns.map V.int).length : Int) then (3 : Int) else ((ns.map V.int).length : Int)) else 2).toNat, ?_, ?_⟩ <;> (repeat' split) <;> omega
  refine ⟨(n : Int), by rw [← en], by omega, by omega, fun D hD => ?_⟩
  have e2 : ((n : Int)).toNat = n := by simp
  rw [e2]
  refine lc_range (fun i H' => Up TT [] H H' ∧ Tabs TT H' ∧ H' D = some (.lst ((List.replicate i true).map V.bl))) ⟨Up.of (same_newT hD), hT.ext (same_newT hD), upd_same⟩ (fun i H' hi p => ?_) (fun H' p => ?_)
  · obtain ⟨u, tb, hDl⟩ := p
    refine w_name ⟨by rfl, ?_⟩
    refine w_yes ?_
    refine w_true (w_call (w_cons (w_call (w_cons (w_var (by rfl) (w_cons (w_var (by rfl) (w_nil ?_))))))))
    refine ⟨a, ns, i, by rw [Int.zero_add], u.seqL hs, by omega, hl, fun d H1 hd hp s1 => ?_⟩
    refine w_nil ⟨d, rfl, hp, tb.ext s1, fun H2 e => ?_⟩
    have e1 : Up TT [] H' H2 := ((Up.of s1).trans e).drop hd
    have hD2 := e1.keep _ _ hDl (by simp) (fun _ z => nomatch z)
    have eD : Up TT [D] H2 (upd H2 D (.lst ((List.replicate i true).map V.bl ++ [V.bl true]))) := up_set hD2 mu_lst (by simp)
    refine ⟨_, hD2, ?_, ((u.trans e1).mono (B := [D]) (by simp)).trans eD |>.drop hD, eD.tabs (e1.tabs tb), ?_⟩
    · rw [List.length_map, List.length_replicate, sizeLine_eq]
      omega
    · rw [upd_same, List.replicate_succ', List.map_append]
      rfl
  · obtain ⟨u, tb, hDl⟩ := p
    refine w_nil (w_all (bs := List.replicate n true) (SqL.of hDl) ?_)
    have e : (List.replicate n true).all id = true := by simp
    rw [e]
    exact q _
end
end K11

set_option Elab.async false
set_option linter.all false
set_option maxRecDepth 100000
set_option maxHeartbeats 0
namespace K11
open PySem PySem.Spec PyProof.Rows L2 LamX L2H HotX EqX PySem.EqX
theorem own1_of {P : Program} {w : World} {K : PySem.W.Frag} {mg : Str → Option Value} {base : Heap} {x f qual : Str} {params : Arguments} {body : List Stmt} {scope : Scope} {fd : FuncData} (gm : mg x = some (.ref (He.ga K x))) (T : EClass K (He.ga K x))
    (I : EInit P K (He.ga K x) (iAd K x) qual params body scope fd) (hok : ∀ k, FnOk P w K mg base CX0 k (iAd K x) fd ["self", f] (spIni1 (He.ga K x) f))
    (hb : ∀ (doc pm : Value) (an : Option Addr) (cdv ct : Value) (cc : Addr) (u v : Value), bindArgs (PySem.W.ksFn "__init__" qual params body scope .none .none doc pm an cdv ct cc) ⟨[u, v], []⟩ = pure [(("self" : Str), u), (f, v)])
    (hk : ∀ (doc pm : Value) (an : Option Addr) (cdv ct : Value) (cc : Addr) (u v : Value), bindArgs (PySem.W.ksFn "__init__" qual params body scope .none .none doc pm an cdv ct cc) ⟨[u], [(f, v)]⟩ = pure [(("self" : Str), u), (f, v)]) : Own1 P w K mg base x f := by
  refine ⟨gm, T, iAd K x, fd, I.iC, I.tI, hok, ?_, ?_⟩
  · obtain ⟨oc, od, doc, pm, an, ct, osl, cda, cc, ccl, cdd, fvs, ccs, file, tf, cl, cld, csl, rfl, _⟩ := I.fn
    exact .all fun us hl => match us, hl with | [u, v], _ => hb doc pm an _ ct cc u v
  · obtain ⟨oc, od, doc, pm, an, ct, osl, cda, cc, ccl, cdd, fvs, ccs, file, tf, cl, cld, csl, rfl, _⟩ := I.fn
    exact fun s u ws hl => match ws, hl with | [v], _ => .of_eq (hk doc pm an _ ct cc u v)
section
variable {w : World} {K : PySem.W.Frag} {mg : Str → Option Value} {h base : Heap}
abbrev gloNames : List Str := defNames ++ clsNames ++ (["SIZES"] : List Str)
theorem glo (X : K.In h) (G : h.Ns mainGlobals mg) (c : hd.Tell w h K) (x : Str) (hx : x ∈ gloNames) : mg x = some (.ref (He.ga K x)) := He.glo_ok X G (List.all_eq_true.mp (c.e.fact 0 (f := fun K => (defNames ++ clsNames ++ (["SIZES"] : List Str)).all fun x => (He.Fa.glo x).ok K) rfl) x hx)
theorem free (X : K.In h) (G : h.Ns mainGlobals mg) (c : hd.Tell w h K) (x : Str) (hx : x ∈ freeNames) : mg x = none := He.free_ok X G (List.all_eq_true.mp (c.e.fact 1 (f := fun K => freeNames.all fun x => (He.Fa.free x).ok K) rfl) x hx)
abbrev erNames : List Str := ["InvalidRows", "InvalidDeed", "Barred"]
theorem ecl (c : hd.Tell w h K) (x : Str) (hx : x ∈ erNames) : EClass K (He.ga K x) := eclassB_ok (List.all_eq_true.mp (c.e.fact 4 (f := fun K => (["InvalidRows", "InvalidDeed", "Barred"] : List Str).all fun x => eclassB K (He.ga K x)) rfl) x hx)
theorem nf1 (c : hd.Tell w h K) (p : Str × Str) (hx : p ∈ ([("InvalidRows", "index"), ("InvalidDeed", "index"), ("Barred", "reason")] : List (Str × Str))) : PySem.W.findIn K (.ref (He.ga K p.1)) p.2 = some none := of_decide_eq_true (List.all_eq_true.mp (c.e.fact 7 (f := fun K => ([("InvalidRows", "index"), ("InvalidDeed", "index"), ("Barred", "reason")] : List (Str × Str)).all fun p => decide (PySem.W.findIn K (.ref (He.ga K p.1)) p.2 = some none)) rfl) p hx)
theorem top_super : (R.prog.main.scope.names.lookup ("super" : Str)).isSome = false := by kernel_rfl
theorem own_InvalidRows (X : K.In h) (G : h.Ns mainGlobals mg) (c : hd.Tell w h K) : Own1 R.prog w K mg base "InvalidRows" "index" := by
  obtain ⟨fd, I⟩ := c.e.ini_ (P := R.prog) rfl top_super 0 (d := inD "InvalidRows" "InvalidRows.__init__" (iniOf 3)) rfl
  have T := ecl c "InvalidRows" (by decide +kernel)
  exact own1_of (glo X G c "InvalidRows" (by decide +kernel)) T I (fun k => ok_ini1 (f := "index") T I (by decide +kernel) (by decide +kernel) (by decide +kernel) (by decide +kernel) (nf1 c ("InvalidRows", "index") (by decide +kernel)) (free X G c "super" (by decide +kernel)) (fun _ => rfl) (fun _ => rfl) (fun _ => rfl)) (fun _ _ _ _ _ _ _ _ => rfl) (fun _ _ _ _ _ _ _ _ => rfl)
theorem own_InvalidDeed (X : K.In h) (G : h.Ns mainGlobals mg) (c : hd.Tell w h K) : Own1 R.prog w K mg base "InvalidDeed" "index" := by
  obtain ⟨fd, I⟩ := c.e.ini_ (P := R.prog) rfl top_super 1 (d := inD "InvalidDeed" "InvalidDeed.__init__" (iniOf 4)) rfl
  have T := ecl c "InvalidDeed" (by decide +kernel)
  exact own1_of (glo X G c "InvalidDeed" (by decide +kernel)) T I (fun k => ok_ini1 (f := "index") T I (by decide +kernel) (by decide +kernel) (by decide +kernel) (by decide +kernel) (nf1 c ("InvalidDeed", "index") (by decide +kernel)) (free X G c "super" (by decide +kernel)) (fun _ => rfl) (fun _ => rfl) (fun _ => rfl)) (fun _ _ _ _ _ _ _ _ => rfl) (fun _ _ _ _ _ _ _ _ => rfl)
theorem own_Barred (X : K.In h) (G : h.Ns mainGlobals mg) (c : hd.Tell w h K) : Own1 R.prog w K mg base "Barred" "reason" := by
  obtain ⟨fd, I⟩ := c.e.ini_ (P := R.prog) rfl top_super 2 (d := inD "Barred" "Barred.__init__" (iniOf 5)) rfl
  have T := ecl c "Barred" (by decide +kernel)
  exact own1_of (glo X G c "Barred" (by decide +kernel)) T I (fun k => ok_ini1 (f := "reason") T I (by decide +kernel) (by decide +kernel) (by decide +kernel) (by decide +kernel) (nf1 c ("Barred", "reason") (by decide +kernel)) (free X G c "super" (by decide +kernel)) (fun _ => rfl) (fun _ => rfl) (fun _ => rfl)) (fun _ _ _ _ _ _ _ _ => rfl) (fun _ _ _ _ _ _ _ _ => rfl)
theorem own_0 (X : K.In h) (G : h.Ns mainGlobals mg) (c : hd.Tell w h K) : Own0 K mg "NothingToUndo" := by
  have z := c.e.fact 5 (f := fun K => own0B K "NothingToUndo") rfl
  unfold own0B at z
  simp only [Bool.and_eq_true, decide_eq_true_eq] at z
  obtain ⟨z1, z2, z3, z4⟩ := z
  exact ⟨glo X G c "NothingToUndo" (by decide +kernel), z1, z2, z3, z4⟩
theorem cth (X : K.In h) (G : h.Ns mainGlobals mg) (c : hd.Tell w h K) (x : Str) (hx : x ∈ (["InvalidRows", "InvalidDeed", "Barred", "NothingToUndo"] : List Str)) (hg : x ∈ gloNames) : Cth K mg x :=
  ⟨glo X G c x hg, of_decide_eq_true (List.all_eq_true.mp (c.e.fact 8 (f := fun K => (["InvalidRows", "InvalidDeed", "Barred", "NothingToUndo"] : List Str).all fun x => decide (PySem.W.exmOne K (.ref (He.ga K x)) (.ref (He.ga K x)) = some true)) rfl) x hx)⟩
theorem xfc (c : hd.Tell w h K) (x : Str) (hx : x ∈ erNames) : XfC K (He.ga K x) := xfB_ok (List.all_eq_true.mp (c.e.fact 6 (f := fun K => (["InvalidRows", "InvalidDeed", "Barred"] : List Str).all fun x => xfB K (He.ga K x)) rfl) x hx)
theorem cons_ (c : hd.Tell w h K) (f : He.Fa) (i : Nat) (e : consts[i]? = some f) : f.ok K = true := List.all_eq_true.mp (c.e.fact 3 (f := fun K => consts.all fun f => f.ok K) rfl) f (List.mem_of_getElem? e)
theorem dfa (c : hd.Tell w h K) (f : He.Fa) (i : Nat) (e : deskFa[i]? = some f) : f.ok K = true := List.all_eq_true.mp (c.e.fact 9 (f := fun K => deskFa.all fun f => f.ok K) rfl) f (List.mem_of_getElem? e)
theorem kl_of (X : K.In h) (G : h.Ns mainGlobals mg) (c : hd.Tell w h K) : Kl R.prog w K mg base where
  n_len := free X G c "len" (by decide +kernel)
  n_int := free X G c "int" (by decide +kernel)
  n_abs := free X G c "abs" (by decide +kernel)
  n_isinstance := free X G c "isinstance" (by decide +kernel)
  n_str := free X G c "str" (by decide +kernel)
  n_bool := free X G c "bool" (by decide +kernel)
  n_tuple := free X G c "tuple" (by decide +kernel)
  n_repr := free X G c "repr" (by decide +kernel)
  n_all := free X G c "all" (by decide +kernel)
  n_range := free X G c "range" (by decide +kernel)
  n_max := free X G c "max" (by decide +kernel)
  n_min := free X G c "min" (by decide +kernel)
  n_list := free X G c "list" (by decide +kernel)
  c_MOST_SIGNS := He.int_ok X G (cons_ c _ 0 rfl)
  c_MOST_DESK := He.int_ok X G (cons_ c _ 1 rfl)
  c_FULL := He.str_ok X G (cons_ c _ 2 rfl)
  c_FAR := He.str_ok X G (cons_ c _ 3 rfl)
  c_NONE := He.str_ok X G (cons_ c _ 4 rfl)
  c_SAME := He.str_ok X G (cons_ c _ 5 rfl)
  sysm := sysB_ok (c.e.fact 2 (f := sysB) rfl)
theorem dk_of (X : K.In h) (G : h.Ns mainGlobals mg) (c : hd.Tell w h K) : DkK K mg := by
  have z := c.e.fact 10 (f := deskB) rfl
  unfold deskB at z
  simp only [Bool.and_eq_true, decide_eq_true_eq] at z
  obtain ⟨z1, z2, z3, z4, z5, z6, z7, z8⟩ := z
  have me := He.meth_ok (dfa c (.meth "Desk" "__eq__") 13 rfl)
  refine ⟨glo X G c "Desk" (by decide +kernel), He.cls_ok (dfa c (.cls "Desk") 1 rfl), He.mkr_ok (dfa c (.mkr "Desk") 2 rfl), fun f hf => ?_, ⟨He.eqO_ok (He.ba (dfa c (.meth "Desk" "__eq__") 13 rfl)).1, (He.ba (He.ba (dfa c (.meth "Desk" "__eq__") 13 rfl)).2).1, z1, z2, fun t ht => of_decide_eq_true (List.all_eq_true.mp z3 t ht)⟩, z4, z5, z6, fun t ht => of_decide_eq_true (List.all_eq_true.mp z7 t ht), z8, He.noat_ok (dfa c (.noat "Desk" "__bool__") 7 rfl), He.noat_ok (dfa c (.noat "Desk" "__len__") 8 rfl)⟩
  simp only [List.mem_cons, List.not_mem_nil, or_false] at hf
  rcases hf with rfl | rfl | rfl | rfl
  · exact He.noat_ok (dfa c (.noat "Desk" "rows") 3 rfl)
  · exact He.noat_ok (dfa c (.noat "Desk" "begun") 4 rfl)
  · exact He.noat_ok (dfa c (.noat "Desk" "deeds") 5 rfl)
  · exact He.noat_ok (dfa c (.noat "Desk" "past") 6 rfl)
theorem sz_of (X : K.In h) (G : h.Ns mainGlobals mg) (c : hd.Tell w h K) : SizesK K w mg := by
  have z := c.e.fact 11 (f := fun K => nsInt K (He.ga K "SIZES") "put" 3 && (nsInt K (He.ga K "SIZES") "row" 3 && nsInt K (He.ga K "SIZES") "out" 2)) rfl
  obtain ⟨z1, z2⟩ := He.ba z
  obtain ⟨z2, z3⟩ := He.ba z2
  exact ⟨glo X G c "SIZES" (by decide +kernel), c.tab 0 (t := (fun K => He.ga K "SIZES", ["put", "row", "out"])) rfl, nsInt_ok z1, nsInt_ok z2, nsInt_ok z3⟩
theorem at_of (X : K.In h) (G : h.Ns mainGlobals mg) (c : hd.Tell w h K) (i : Nat) {x : Str} {st : Stmt} (e : hd.fn[i]? = some (dfD x st)) (hx : x ∈ gloNames) : At K mg x st := ⟨c.e.def_ i (d := dfD x st) e, glo X G c x hx⟩
theorem atC_of {x : Str} {st : Stmt} (A : At K mg x st) : AtC K mg x st (He.codeOf K (x, none)) := ⟨A, fun oc od fd osl lk => by
  obtain ⟨fd2, F⟩ := A.fn
  exact code_of (p := (x, none)) F oc od fd osl lk⟩
abbrev cDef : He.Defn := ("check_rows", none)
abbrev rDef : He.Defn := ("_law_run", none)
abbrev TTof (K : PySem.W.Frag) : List (Addr × Str) := [((He.cT K cDef).2, lamQ), ((He.cT K rDef).2, lamQ2)]
theorem facts (X : K.In h) (G : h.Ns mainGlobals mg) (c : hd.Tell w h K) (T1 : TabB base mg (He.cT K cDef).1 (He.cT K cDef).2) (T2 : TabB base mg (He.cT K rDef).1 (He.cT K rDef).2) : DfG R.prog w K mg base CX0 11 "law" ["cells"] (spLaw K (TTof K)) := by
  have ne : (He.cT K cDef).2 ≠ (He.cT K rDef).2 := of_decide_eq_true (c.e.fact 12 (f := fun K => decide ((He.cT K ("check_rows", none)).2 ≠ (He.cT K ("_law_run", none)).2)) rfl)
  have hu1 : ∀ p ∈ TTof K, p.1 = (He.cT K cDef).2 → p.2 = lamQ := fun p hp e => by
    simp only [TTof, List.mem_cons, List.not_mem_nil, or_false] at hp
    rcases hp with rfl | rfl
    · rfl
    · exact absurd e.symm ne
  have hu2 : ∀ p ∈ TTof K, p.1 = (He.cT K rDef).2 → p.2 = lamQ2 := fun p hp e => by
    simp only [TTof, List.mem_cons, List.not_mem_nil, or_false] at hp
    rcases hp with rfl | rfl
    · exact absurd e ne
    · rfl
  have T : Kl R.prog w K mg base := kl_of X G c
  have D : DkK K mg := dk_of X G c
  have Z : SizesK K w mg := sz_of X G c
  have A_is_whole : At K mg "is_whole" s_is_whole := at_of X G c 0 rfl (by decide +kernel)
  have A_is_string : At K mg "is_string" s_is_string := at_of X G c 1 rfl (by decide +kernel)
  have A_is_row : At K mg "is_row" s_is_row := at_of X G c 2 rfl (by decide +kernel)
  have A_is_desk_row : At K mg "is_desk_row" s_is_desk_row := at_of X G c 3 rfl (by decide +kernel)
  have A_first_wrong : At K mg "first_wrong" s_first_wrong := at_of X G c 4 rfl (by decide +kernel)
  have A_check_rows : At K mg "check_rows" s_check_rows := at_of X G c 5 rfl (by decide +kernel)
  have A_is_number : AtV K mg "is_number" s_is_number [.int 0, .non] := ⟨c.e.def_ 6 (d := ⟨("is_number", none), "is_number", "is_number", defArgs s_is_number, defBody s_is_number, defScope s_is_number, [.int 0, .non], []⟩) rfl, glo X G c "is_number" (by decide +kernel)⟩
  have A_has_form : At K mg "has_form" s_has_form := at_of X G c 7 rfl (by decide +kernel)
  have A_check_deed : At K mg "check_deed" s_check_deed := at_of X G c 8 rfl (by decide +kernel)
  have A_reason_against : At K mg "reason_against" s_reason_against := at_of X G c 9 rfl (by decide +kernel)
  have A_rows_behind : At K mg "rows_behind" s_rows_behind := at_of X G c 10 rfl (by decide +kernel)
  have A_text_of_rows : At K mg "text_of_rows" s_text_of_rows := at_of X G c 11 rfl (by decide +kernel)
  have A__law_purse : At K mg "_law_purse" s_purse := at_of X G c 12 rfl (by decide +kernel)
  have A__law_take : At K mg "_law_take" s_take := at_of X G c 13 rfl (by decide +kernel)
  have A__law_pick : At K mg "_law_pick" s_pick := at_of X G c 14 rfl (by decide +kernel)
  have A__law_same : At K mg "_law_same" s__law_same := at_of X G c 15 rfl (by decide +kernel)
  have A__law_move : At K mg "_law_move" s__law_move := at_of X G c 16 rfl (by decide +kernel)
  have A__law_said : At K mg "_law_said" s__law_said := at_of X G c 17 rfl (by decide +kernel)
  have A__law_is_so : At K mg "_law_is_so" s__law_is_so := at_of X G c 18 rfl (by decide +kernel)
  have A__law_page : At K mg "_law_page" s__law_page := at_of X G c 19 rfl (by decide +kernel)
  have A__law_deed : At K mg "_law_deed" s__law_deed := at_of X G c 20 rfl (by decide +kernel)
  have A__law_is_empty : At K mg "_law_is_empty" s__law_is_empty := at_of X G c 21 rfl (by decide +kernel)
  have A__law_run : At K mg "_law_run" s__law_run := at_of X G c 22 rfl (by decide +kernel)
  have A__law_are_equal : At K mg "_law_are_equal" s__law_are_equal := at_of X G c 23 rfl (by decide +kernel)
  have A__law_is_refused : At K mg "_law_is_refused" s__law_is_refused := at_of X G c 24 rfl (by decide +kernel)
  have A__law_right : At K mg "_law_right" s__law_right := at_of X G c 25 rfl (by decide +kernel)
  have A_law : At K mg "law" s_law := at_of X G c 26 rfl (by decide +kernel)
  have M___init__ : AtM K (dkC K) "__init__" "Desk.__init__" s_Desk___init__ := ⟨c.e.def_ 27 (d := ⟨("Desk", some "__init__"), "__init__", "Desk.__init__", defArgs s_Desk___init__, defBody s_Desk___init__, defScope s_Desk___init__, [], []⟩) rfl, He.meth_ok (dfa c (.meth "Desk" "__init__") 9 rfl)⟩
  have M_do : AtM K (dkC K) "do" "Desk.do" s_Desk_do := ⟨c.e.def_ 28 (d := ⟨("Desk", some "do"), "do", "Desk.do", defArgs s_Desk_do, defBody s_Desk_do, defScope s_Desk_do, [], []⟩) rfl, He.meth_ok (dfa c (.meth "Desk" "do") 10 rfl)⟩
  have M_undo : AtM K (dkC K) "undo" "Desk.undo" s_Desk_undo := ⟨c.e.def_ 29 (d := ⟨("Desk", some "undo"), "undo", "Desk.undo", defArgs s_Desk_undo, defBody s_Desk_undo, defScope s_Desk_undo, [], []⟩) rfl, He.meth_ok (dfa c (.meth "Desk" "undo") 11 rfl)⟩
  have M_text : AtM K (dkC K) "text" "Desk.text" s_Desk_text := ⟨c.e.def_ 30 (d := ⟨("Desk", some "text"), "text", "Desk.text", defArgs s_Desk_text, defBody s_Desk_text, defScope s_Desk_text, [], []⟩) rfl, He.meth_ok (dfa c (.meth "Desk" "text") 12 rfl)⟩
  have M___eq__ : AtM K (dkC K) "__eq__" "Desk.__eq__" s_Desk___eq__ := ⟨c.e.def_ 31 (d := ⟨("Desk", some "__eq__"), "__eq__", "Desk.__eq__", defArgs s_Desk___eq__, defBody s_Desk___eq__, defScope s_Desk___eq__, [], []⟩) rfl, He.meth_ok (dfa c (.meth "Desk" "__eq__") 13 rfl)⟩
  have whole := df_is_whole (w := w) (base := base) (P := R.prog) T.toKd A_is_whole
  have string := df_is_string T.toKd A_is_string
  have row := df_is_row T.toKd A_is_row
  have drow := df_is_desk_row T.toKd A_is_desk_row string
  have check := df_check_rows (TT := TTof K) T.toKd (own_InvalidRows X G c) (free X G c "enumerate" (by decide +kernel)) (atC_of A_check_rows) A_first_wrong T1 (by simp [TTof]) hu1 row drow
  have number := dv_is_number A_is_number whole
  have form := df_has_form T.toKd Z A_has_form string
  have cdeed := df_check_deed T.toKd (own_InvalidDeed X G c) A_check_deed form number drow
  have reason := df_reason_against T.toKd A_reason_against
  have behind := df_rows_behind T.toKd A_rows_behind
  have text := df_text_of_rows T.toKd A_text_of_rows
  have mI := df_init T.toKd D M___init__ check
  have mD := df_do (TT := TTof K) T.toKd D M_do (own_Barred X G c) cdeed reason behind
  have mU := df_undo (TT := TTof K) T.toKd D M_undo (own_0 X G c)
  have mT := df_text D M_text text
  have mE := df_eq T.toKd D M___eq__
  have take := df_take (w := w) (base := base) (P := R.prog) T.toBt A__law_take
  have pick := df_pick T.toBt A__law_pick take
  have same := df_same T A__law_same
  have so := df_is_so T D A__law_is_so same
  have move := df_move T A__law_move
  have cB : CthF K mg "Barred" "reason" := ⟨cth X G c "Barred" (by decide +kernel) (by decide +kernel), xfc c "Barred" (by decide +kernel), nf1 c ("Barred", "reason") (by decide +kernel)⟩
  have cR : CthF K mg "InvalidRows" "index" := ⟨cth X G c "InvalidRows" (by decide +kernel) (by decide +kernel), xfc c "InvalidRows" (by decide +kernel), nf1 c ("InvalidRows", "index") (by decide +kernel)⟩
  have empty := df_is_empty D (cth X G c "NothingToUndo" (by decide +kernel) (by decide +kernel)) A__law_is_empty mU
  have deed := df_deed (TT := TTof K) T A__law_deed take pick
  have run := df_run T D (atC_of A__law_run) T2 (by simp [TTof]) hu2 A__law_said cB take deed move so mU mD
  have page := df_page (TT := TTof K) T A__law_page take
  have are := df_are T D A__law_are_equal mI mD mU mT mE same
  have refused := df_refused D cR A__law_is_refused mI
  exact df_law T A_law (df_purse T.toBt A__law_purse) (df_right T D A__law_right mI mU mE page so empty run are refused)
end
end K11
open PySem PySem.W PySem.Calls PyProof.Rows
theorem PySem.Challenge.cw_equalworlds_k11_desks_undone_and_equal_holds : PySem.Challenge.rw_equalworlds_k11_desks_undone_and_equal.Holds := by
  w_on; o_law
  refine HandSHeadRun.head_any (r := OpenLaw.row PySem.Challenge.rw_equalworlds_k11_desks_undone_and_equal) (q := view (OpenLaw.row PySem.Challenge.rw_equalworlds_k11_desks_undone_and_equal).prog [189]) (H := K11.hd.hook2) (ob := K11.hd.ob2) (M := K11.steps) (loose := K11.loose) (d := HandSHeadRun.topDef (OpenLaw.row PySem.Challenge.rw_equalworlds_k11_desks_undone_and_equal).prog 189) (kwd := []) K11.hd.ob2_eq
    (by kernel_rfl) (fun s => by kernel_rfl) K11.run (by kernel_rfl) (by kernel_rfl) (by kernel_rfl) (by rfl) (by first | assumption | decide +kernel) (by decide +kernel) ⟨rfl, rfl, rfl, rfl, rfl, by decide +kernel⟩ ?hw ?hc
  case hw => w_witness2
  case hc =>
    refine EqX.walk_ofGT (l := PySem.Challenge.rw_equalworlds_k11_desks_undone_and_equal) (n := 63) (k := 11) (x := "cells") rfl (by decide) (by kernel_rfl) ⟨rfl, by decide, by decide⟩ ?F
    intro w mg fa h Y G hmg0
    obtain ⟨K, KX, c⟩ := Y
    have e : (HandSHeadRun.topDef (OpenLaw.row PySem.Challenge.rw_equalworlds_k11_desks_undone_and_equal).prog 189).name = ("law" : PySem.Str) := by kernel_rfl
    rw [e] at hmg0
    have m1 : K11.cDef ∈ K11.hd.tf := List.mem_cons_self
    have m2 : K11.rDef ∈ K11.hd.tf := List.mem_cons_of_mem _ List.mem_cons_self
    have both : ∀ {S : Addr × Addr → Prop}, S (He.cT K K11.cDef) → S (He.cT K K11.rDef) → ∀ p ∈ [He.cT K K11.cDef, He.cT K K11.rDef], S p := fun a b p hp => by
      simp only [List.mem_cons, List.not_mem_nil, or_false] at hp
      rcases hp with rfl | rfl
      · exact a
      · exact b
    refine ⟨K, [He.cT K K11.cDef, He.cT K K11.rDef], K11.spLaw K (K11.TTof K), KX, both (S := fun p => h.get? p.2 = some EqX.tab0) (c.empty _ m1) (c.empty _ m2), both (S := fun p => K.lookup p.2 = none) (c.out _ m1) (c.out _ m2),
      both (S := fun p => PySem.W.CodeHd h p.1 p.2) (codeHd_of_K KX (c.hd _ m1)) (codeHd_of_K KX (c.hd _ m2)), fun H a ns hl hH hS => ⟨a, ns, rfl, hS, hl, fun p hp => ?_, fun _ => rfl⟩, fun base _ _ TB => ?_⟩
    · simp only [K11.TTof, List.mem_cons, List.not_mem_nil, or_false] at hp
      rcases hp with rfl | rfl
      · exact LamX.TabS.nil (hH _ List.mem_cons_self)
      · exact LamX.TabS.nil (hH _ (List.mem_cons_of_mem _ List.mem_cons_self))
    · have D := K11.facts (w := w) (base := base) KX G c (TB _ List.mem_cons_self) (TB _ (List.mem_cons_of_mem _ List.mem_cons_self))
      have ea : fa = He.ga K "law" := Value.ref.inj (Option.some.inj (hmg0.symm.trans D.gm))
      rw [ea]
      exact D.ex
