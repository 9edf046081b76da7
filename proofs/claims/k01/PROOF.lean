import PyProof.Rows.All
import Wide.All
import OpenK.AllK
import Wide.FinOn
import PyProof.EqAt
import PyProof.EqKinds
import PyProof.TupleCall
import KE.KFromBytes
import KE.KSuper
import KE.KExcSuper
import HandS.Base
import HandS.Call
import HandS.List
import HandS.Ends
import HandS.Exc
import HandS.ExcSuper
import HandS.ExcInit
import KE.KIsAll
import KE.KTryMore
import HandS.IsInst
import HandS.ExcIs
import HandS.ExcOwn
import HandS.ExcValue
import HandS.ExcField
import HandS.Defaults
import PyProof.ReprRoads
import PyProof.CallFns
import HandS.Comp
import HandS.Lambda
import HandS.NoneIn
import HandS.Wide
import HandS.HeadHook2
import HandS.Words
import HandS.WordsList
import HandS.WordsExc
import HandS.Style
import HandS.ExcCtx
import HandS.HotCalls
import HandS.HeadEnd
import HandS.Head0
import HandS.Head1
import HandS.Head2
import HandS.HeadHook1
import PySem.Challenge.RW_equalworlds_k01_errors_each_of_its_own
import KE.KStateDown
set_option Elab.async false
set_option linter.all false
set_option maxRecDepth 100000
set_option maxHeartbeats 4000000
/-! Error classes of two levels over ValueError whose __init__ says super().__init__(..) and keeps its parameters. -/
namespace PySem
namespace EqX
open PySem.W PySem.Calls PyProof.Rows PySem.HandSPX
/-- what a method call asks of a base that is no name -/
abbrev plS : Sem Bool := do return (← (pure (some false) : Sem (Option Bool))).getD true
/-! ### the text of such an __init__ -/
def ini1A (f : Str) (p1 p2 : Pos) : Arguments := { posonlyargs := [], args := [{ arg := "self", annotation := none, pos := p1 }, { arg := f, annotation := none, pos := p2 }], vararg := none, kwonlyargs := [], kw_defaults := [], kwarg := none, defaults := [] }
def ini1B (f : Str) (q0 q1 q2 q3 q4 q5 r1 r2 r3 r4 : Pos) : List Stmt :=
  [.Expr (.Call (.Attribute (.Call (.Name "super" q0) [] [] q1) "__init__" q2) [.Name f q3] [] q4) q5, .Assign [.Attribute (.Name "self" r1) f r2] (.Name f r3) r4]
def ini1S (f : Str) : Scope := { kind := .function, names := [(PySem.Str.ofString "self", .local), (f, .local), (PySem.Str.ofString "__class__", .free), (PySem.Str.ofString "super", .globalImplicit)], isGenerator := false, isCoroutine := false, more := [] }
def ini2A (f g : Str) (p1 p2 p3 : Pos) : Arguments := { posonlyargs := [], args := [{ arg := "self", annotation := none, pos := p1 }, { arg := f, annotation := none, pos := p2 }, { arg := g, annotation := none, pos := p3 }], vararg := none, kwonlyargs := [], kw_defaults := [], kwarg := none, defaults := [] }
def ini2B (f g : Str) (q0 q1 q2 q3 q3' q4 q5 r1 r2 r3 r4 t1 t2 t3 t4 : Pos) : List Stmt :=
  [.Expr (.Call (.Attribute (.Call (.Name "super" q0) [] [] q1) "__init__" q2) [.Name f q3, .Name g q3'] [] q4) q5, .Assign [.Attribute (.Name "self" r1) f r2] (.Name f r3) r4, .Assign [.Attribute (.Name "self" t1) g t2] (.Name g t3) t4]
def ini2S (f g : Str) : Scope := { kind := .function, names := [(PySem.Str.ofString "self", .local), (f, .local), (g, .local), (PySem.Str.ofString "__class__", .free), (PySem.Str.ofString "super", .globalImplicit)], isGenerator := false, isCoroutine := false, more := [] }
/-! ### what the written part says of the class at C -/
structure EClass (K : Frag) (C : Addr) : Prop where
  cls : ∃ nm q N bs bm sn sub ab col dd k0 k1 k2 k3 k5, K.lookup C = some (excClassObj nm q C N bs bm true sn sub ab col dd k0 k1 k2 k3 k5 "ValueError.__new__") ∧ refsVE bm = true
  sa : findIn K (.ref C) "__setattr__" = some (some (.builtin "object.__setattr__"))
  exC : subIn K (.ref C) (.type "BaseException") = some true
  veC : subIn K (.ref C) (.type "ValueError") = some true
  tyC : typeIn K (.ref C) = some (.type "type")
  kC : keepIn K (.ref C) = true
  self : mroIn K C (.ref C) = some true
  third : nsIn K cStatics "thirdparty.any" = some none
  sup : ks_superIn K C C "__init__" = some (some (.builtin "ValueError.__init__"))
/-- its own __init__, at fI -/
structure EInit (prog : Program) (K : Frag) (C fI : Addr) (qual : Str) (params : Arguments) (body : List Stmt) (scope : Scope) (fd : FuncData) : Prop where
  iC : findIn K (.ref C) "__init__" = some (some (.ref fI))
  tI : typeIn K (.ref fI) = some (.type "function")
  fn : ∃ (oc : Value) (od : Option Addr) (doc pm : Value) (an : Option Addr) (ct : Value) (osl : Array (Option Value)) (cda cc : Addr) (ccl : Value) (cdd : Option Addr) (vs : Array Value) (ccs : Array (Option Value)) (file : Str) (tf : Tok) (cl : Value) (cld : Option Addr) (csl : Array (Option Value)),
    fd = ksFn "__init__" qual params body scope .none .none doc pm an (.ref cda) ct cc ∧ K.lookup fI = some ⟨oc, od, .func fd, osl⟩ ∧ codeIn K (.ref cda) qual = true ∧
    K.lookup cda = some ⟨ccl, cdd, .fields vs, ccs⟩ ∧ vs[2]? = some (.str file tf) ∧ ((prog.main.file : Str) == file) = true ∧ K.lookup cc = some ⟨cl, cld, .cell (some (.ref C)), csl⟩
  top : (prog.main.scope.names.lookup ("super" : Str)).isSome = false

theorem callWith1 {M : Model} {A : Around} {E : Value → Shared → Prop} {s : Shared} {i : String} {u x : Addr} {pos : Pos} {env : Env} {e : Expr} {rest : List Expr} {Q : Value → Shared → Prop}
    (h : wpAny M A (spliced (backTo pos (starEach (e :: rest) env))) (fun vs s₁ => KxsAt i u x s₁.heap ∧ wpAny M A (call (.ref u) vs) Q E s₁) E s)
    (he : starEach (e :: rest) env = (false, eval e env) :: starEach rest env := by rfl) (hplain : (backTo pos (starEach rest env)).any (·.1) = false := by rfl) :
    wpAny M A (callWith pos (.ref u) [] (backTo pos (starEach (e :: rest) env)) []) Q E s := by
  rw [he] at h ⊢
  refine kxs_callWith (i := i) (x := x) (by show (false || (backTo pos (starEach rest env)).any (·.1)) = false; rw [hplain]; rfl) ?_
  exact evalArgs_plain h
section
variable {prog : Program} {w : World} {A : Around} {E : Value → Shared → Prop} {h : Heap} {g : Array GenState} {d : Drawn} {t : Nat} {os : OsState}
variable {nm q : Str} {C N : Addr} {bs bm : List Value} {hdct : Bool} {sn : List Str} {sub : List Value} {ab : Bool} {col : Option Bool} {dd : Option Addr} {k0 k1 k2 k3 k5 : Option Value}
theorem call_bwV {u e t0 : Addr} {rest : List Value} {Q : Value → Shared → Prop}
    (hC : h.get? C = some (excClassObj nm q C N bs bm hdct sn sub ab col dd k0 k1 k2 k3 k5 "ValueError.__new__")) (he : h.get? e = some (excO C t0)) (hu : h.get? u = some (kxs_mw "ValueError.__init__" e)) (hrest : rest.length ≤ sizeLine)
    (hq : ∀ h' t1, (∀ b o, b ≠ e → h.get? b = some o → h'.get? b = some o) → h'.get? e = some (excO C t1) → Q .none ⟨h', g, d, t, os⟩) :
    wpAny (model prog w) A (call (.ref u) rest) Q E ⟨h, g, d, t, os⟩ := by
  refine wpAny_call (codeAny_of_tree ?_)
  show wpAny _ A.in1 (callAny (.ref u) ⟨rest, []⟩) _ _ _
  simp only [callAny]
  refine wpAny_bind (wpAny_load hu ?_)
  simp only [kxs_mw, show (Value.type "method-wrapper" == Value.type "method" || Value.type "method-wrapper" == Value.type "builtin_function_or_method" || Value.type "method-wrapper" == Value.type "method-wrapper") = true by decide, if_true]
  refine KFB.if_so (by decide) ?_
  refine wpAny_bind (ESX.check_bound F.excBase_ValueError hC he rfl ?_)
  refine wpAny_bind (wpAny_pure (wpAny_pure ?_))
  refine ⟨Code.quiet_builtin _ (by decide +kernel), codeAny_builtin F.excBase_ValueError.initEntry ?_⟩
  rw [Around.under_plainId F.excBase_ValueError.init.plain _]
  wp_walk
  refine hq _ h.objs.size (fun b o hb ho => ?_) ?_
  · rw [Heap.get?_update_other _ _ (Ne.symm hb)]
    exact Heap.get?_push_of_some _ ho
  · rw [Heap.get?_update_self _ (Heap.get?_push_of_some _ he) rfl]
    rfl
end
/-! ### super().__init__(..): the first statement -/
section
variable {prog : Program} {w : World} {A : Around} {E : Value → Shared → Prop} {s : Shared} {K : Frag} {C : Addr} {x t0 fI : Addr}
theorem sup_first {qual : Str} {params : Arguments} {body : List Stmt} {scope : Scope} {fd : FuncData} {mg mb m : Str → Option Value} {L : Addr} {ar : Arg} {q0 q1 q2 q4 q5 : Pos} {e : Expr} {es : List Expr} {vs : List Value} {bodyc : List Stmt} {Q : Flow → Shared → Prop} {env : Env}
    (T : EClass K C) (I : EInit prog K C fI qual params body scope fd) (X : K.In s.heap) (hg : s.heap.Ns mainGlobals mg) (hms : mg "super" = none) (hb : s.heap.Ns builtinsNs mb) (hbs : mb "super" = some (.type "super"))
    (henv : env = callEnv fd L fI) (hk : scope.kind = .function) (hks : scope.names.lookup ("super" : Str) = some .globalImplicit) (hkc : scope.names.lookup ("__class__" : Str) = some .free) (hka : scope.names.lookup ("self" : Str) = some .local)
    (hp : (params.posonlyargs ++ params.args).head? = some ar) (har : ar.arg = "self") (hn : s.heap.Ns L m) (hv : m "self" = some (.ref x)) (hx : s.heap.get? x = some (excO C t0)) (hlen : vs.length ≤ sizeLine)
    (hargs : ∀ (s₁ : Shared) (Q' : List Value → Shared → Prop), s₁.heap.Ns L m → Q' vs s₁ → wpAny (model prog w) A (spliced (backTo q4 (starEach (e :: es) env))) Q' E s₁)
    (hq : ∀ h' tk t1, (∀ b o, b ≠ x → s.heap.get? b = some o → h'.get? b = some o) → h'.get? x = some (excO C t1) → Q .next { s with heap := h', toks := tk })
    (he : starEach (e :: es) env = (false, eval e env) :: starEach es env) (hpl : (backTo q4 (starEach es env)).any (·.1) = false)
    (hmc : eval (.Call (.Attribute (.Call (.Name "super" q0) [] [] q1) "__init__" q2) (e :: es) [] q4) env = (do
      let ov ← attributeBase (.Call (.Name "super" q0) [] [] q1) "__init__" env (eval (.Call (.Name "super" q0) [] [] q1) env)
      standAt q2.atName
      let (f, first) ← holding [ov] (getMethod ov "__init__" plS)
      callWith q4 f first (backTo q4 (starEach (e :: es) env)) []))
    (hi : interactive env = false) (hs : swapsWith (.Call (.Attribute (.Call (.Name "super" q0) [] [] q1) "__init__" q2) (e :: es) [] q4) none q5.line env = pure false) :
    _root_.PySem.wpAt (model prog w) A (.func bodyc env) (exec (.Expr (.Call (.Attribute (.Call (.Name "super" q0) [] [] q1) "__init__" q2) (e :: es) [] q4) q5) env) Q E s := by
  obtain ⟨oc, od, doc, pm, an, ct, osl, cda, cc, ccl, cdd, fvs, ccs, file, tf, cl, cld, csl, rfl, lf, hcd, lcda, hvs, hfile, lcc⟩ := I.fn
  obtain ⟨nm, q, N, bs, bm, sn, sub, ab, col, dd, k0, k1, k2, k3, k5, hC, hbm⟩ := T.cls
  have hcl : clsIn K C = some { name := nm, bases := bs, mro := .ref C :: bm, ns := N, qualname := q, hasDict := true, slotNames := sn, subclasses := sub, abstract := ab, collection := col, hasDel := false } := by unfold clsIn; rw [hC] <;> rfl
  subst henv
  have II : InstAt s.heap x (excO C t0) C none := ⟨hx, rfl, rfl, trivial⟩
  have hne := ks_ne X II hcl
  refine ks_wpAt_Expr_any (ks_wpAt_MethodCall (pl := plS) ?_ hmc) hi hs
  refine ks_wpAt_super_base hks hkc (by decide) rfl (X _ _ lf) rfl hp rfl (X _ _ lcda) rfl hvs hfile I.top ?_
  refine ks_loadName_global hk hks (loadGlobal_builtin hg hms hb hbs ⟨rfl, ?_⟩)
  refine wpAny_loadName_free hk hkc rfl ⟨_, X _ _ lcc, rfl⟩ ?_
  rw [har]
  refine wpAny_loadName_local hk hka hn hv ?_
  have hC1 := X _ _ hC
  refine ks_wpAny_isType_cls hC1 rfl ⟨rfl, ?_⟩
  obtain ⟨hh, g, d, t, os⟩ := s
  refine ks_wpAny_call_super hC1 rfl hx rfl (fun c z => by cases z) (looks_mroIn X T.self) (fun h2 e2 k2 => ?_)
  have X2 : K.In h2 := X.keeps k2
  have I2 : InstAt h2 x (excO C t0) C none := ⟨k2 _ _ hx, rfl, rfl, trivial⟩
  have hI : Looks (model prog w) h2 (isInstance (.ref x) (.type "ValueError")) true := I2.type.andThen (looks_subIn X2 T.veC)
  have hm := T.sup
  unfold ks_superIn at hm
  rw [hcl] at hm
  refine kxs_getMethod kxs_ValueError e2 (looks_opaque X2 T.third) (l₀ := .ref C :: bm) (fun A Q E s k q => wpAny_bind ((looks_clsIn X2 hcl) A _ E s k (wpAny_pure q))) rfl X2 hm hI hne (by decide) ?_
  have k3 : ∀ b o, hh.get? b = some o → (h2.push (kxs_mw "ValueError.__init__" x)).get? b = some o := fun b o z => Heap.get?_push_of_some _ (k2 b o z)
  have hn3 : (h2.push (kxs_mw "ValueError.__init__" x)).Ns L m := by
    obtain ⟨o, es', ep, z1, z2⟩ := hn
    exact ⟨o, es', ep, k3 _ _ z1, z2⟩
  refine callWith1 (i := "ValueError.__init__") (x := x) (hargs _ _ hn3 ⟨Heap.get?_push_at rfl rfl, ?_⟩) he hpl
  refine call_bwV (k3 _ _ hC1) (k3 _ _ hx) (Heap.get?_push_at rfl rfl) hlen fun h' t1 k' hx' => ?_
  exact hq h' _ t1 (fun b o hb z => k' b o hb (k3 b o z)) hx'
end
end EqX
end PySem

set_option Elab.async false
set_option linter.all false
set_option maxRecDepth 100000
set_option maxHeartbeats 4000000
namespace PySem
namespace EqX
open PySem.W PySem.Calls PyProof.Rows PySem.HandSPX
section
variable {prog : Program} {w : World} {A : Around} {E : Value → Shared → Prop} {R : Result → Shared → Prop} {s : Shared} {K : Frag} {C : Addr} {x t0 fI : Addr} {mg mb : Str → Option Value}
/-- what such an __init__ leaves of a fresh exception at x -/
structure IniEnd (h h' : Heap) (x C dx t1 : Addr) (mA : Str → Option Value) : Prop where
  keep : ∀ b o, b ≠ x → h.get? b = some o → h'.get? b = some o
  obj : h'.get? x = some { cls := .ref C, dict := some dx, data := .fields #[.ref t1, .none, .none, .none, .bool false, .none] }
  dbig : h.objs.size ≤ dx
  dne : dx ≠ x
  ns : h'.Ns1 dx mA
theorem init1 {qual f : Str} {fd : FuncData} {p1 p2 q0 q1 q2 q3 q4 q5 r1 r2 r3 r4 : Pos} {v : Value} {args : Args}
    (T : EClass K C) (I : EInit prog K C fI qual (ini1A f p1 p2) (ini1B f q0 q1 q2 q3 q4 q5 r1 r2 r3 r4) (ini1S f) fd) (hf1 : (f == ("self" : Str)) = false) (hf2 : (f == ("__class__" : Str)) = false) (hf3 : (f == ("super" : Str)) = false) (hf4 : (f == ("__debug__" : Str)) = false)
    (hno : findIn K (.ref C) f = some none)
    (X : K.In s.heap) (hnx : K.lookup x = none) (hlim : s.heap.NoLimit) (hg : s.heap.Ns mainGlobals mg) (hms : mg "super" = none) (hb : s.heap.Ns builtinsNs mb) (hbs : mb "super" = some (.type "super"))
    (hx : s.heap.get? x = some (excO C t0)) (hroom : A.depth < recursionLimit) (hbind : BindsTo s fd args [("self", .ref x), (f, v)])
    (hsw : ∀ (env : Env), swapsWith (.Call (.Attribute (.Call (.Name "super" q0) [] [] q1) "__init__" q2) [.Name f q3] [] q4) none q5.line env = pure false)
    (hmc : ∀ (env : Env), eval (.Call (.Attribute (.Call (.Name "super" q0) [] [] q1) "__init__" q2) [.Name f q3] [] q4) env = (do
      let ov ← attributeBase (.Call (.Name "super" q0) [] [] q1) "__init__" env (eval (.Call (.Name "super" q0) [] [] q1) env)
      standAt q2.atName
      let (g, first) ← holding [ov] (getMethod ov "__init__" plS)
      callWith q4 g first (backTo q4 (starEach [.Name f q3] env)) []))
    (hsw2 : ∀ (env : Env), swapsWith (.Name f r3) (some (.Attribute (.Name "self" r1) f r2)) r4.line env = pure false)
    (hq : ∀ h' tk dx t1, IniEnd s.heap h' x C dx t1 (fun y => if y = f then some v else none) → R (.ok (.ret .none)) { s with heap := h', toks := tk }) :
    codeAny (model prog w) A (.call (.ref fI) args) R s := by
  have I0 := I
  obtain ⟨oc, od, doc, pm, an, ct, osl, cda, cc, ccl, cdd, fvs, ccs, file, tf, cl, cld, csl, efd, lf, hcd, lcda, hvs, hfile, lcc⟩ := I.fn
  obtain ⟨nm, q, N, bs, bm, sn, sub, ab, col, dd, k0, k1, k2, k3, k5, hC, hbm⟩ := T.cls
  have hcl : clsIn K C = some { name := nm, bases := bs, mro := .ref C :: bm, ns := N, qualname := q, hasDict := true, slotNames := sn, subclasses := sub, abstract := ab, collection := col, hasDel := false } := by unfold clsIn; rw [hC] <;> rfl
  have ls : ((ini1S f).names.lookup ("self" : Str)) = some .local := by rfl
  have nfs : (f == (PySem.Str.ofString "self")) = false := hf1
  have lf' : ((ini1S f).names.lookup f) = some .local := by
    show List.lookup f [(PySem.Str.ofString "self", NameKind.local), (f, .local), (PySem.Str.ofString "__class__", .free), (PySem.Str.ofString "super", .globalImplicit)] = _
    simp only [List.lookup, nfs, beq_self_eq_true]
  have e1 : (("super" : Str) == f) = false := by
    rw [Bool.eq_false_iff] at hf3 ⊢
    intro z
    exact hf3 (by rw [beq_iff_eq] at z ⊢; exact z.symm)
  have e2 : (("__class__" : Str) == f) = false := by
    rw [Bool.eq_false_iff] at hf2 ⊢
    intro z
    exact hf2 (by rw [beq_iff_eq] at z ⊢; exact z.symm)
  have e3 : (("self" : Str) == f) = false := by
    rw [Bool.eq_false_iff] at hf1 ⊢
    intro z
    exact hf1 (by rw [beq_iff_eq] at z ⊢; exact z.symm)
  have lsup : ((ini1S f).names.lookup ("super" : Str)) = some .globalImplicit := by
    show List.lookup ("super" : Str) [(PySem.Str.ofString "self", NameKind.local), (f, .local), (PySem.Str.ofString "__class__", .free), (PySem.Str.ofString "super", .globalImplicit)] = _
    have a1 : (("super" : Str) == PySem.Str.ofString "self") = false := by decide +kernel
    have a2 : (("super" : Str) == PySem.Str.ofString "__class__") = false := by decide +kernel
    have a3 : (("super" : Str) == PySem.Str.ofString "super") = true := by decide +kernel
    simp only [List.lookup, a1, a2, a3, e1]
  have lcls : ((ini1S f).names.lookup ("__class__" : Str)) = some .free := by
    show List.lookup ("__class__" : Str) [(PySem.Str.ofString "self", NameKind.local), (f, .local), (PySem.Str.ofString "__class__", .free), (PySem.Str.ofString "super", .globalImplicit)] = _
    have a1 : (("__class__" : Str) == PySem.Str.ofString "self") = false := by decide +kernel
    have a2 : (("__class__" : Str) == PySem.Str.ofString "__class__") = true := by decide +kernel
    simp only [List.lookup, a1, a2, e2]
  have efd' := efd
  subst efd
  have hcell : ∀ x ∈ (ini1S f).names, x.2 ≠ .cell := by
    intro y hy
    have hy' : y ∈ [(PySem.Str.ofString "self", NameKind.local), (f, .local), (PySem.Str.ofString "__class__", .free), (PySem.Str.ofString "super", .globalImplicit)] := hy
    simp only [List.mem_cons, List.not_mem_nil, or_false] at hy'
    rcases hy' with rfl | rfl | rfl | rfl <;> exact fun z => nomatch z
  refine ks_codeAny_call_defAt (body := ini1B f q0 q1 q2 q3 q4 q5 r1 r2 r3 r4) (binds := [("self", .ref x), (f, v)]) hroom (X _ _ lf) rfl hlim (codeRec_of X hcd) rfl hbind hcell (fun y hy => ?_) (fun h₁ hns hk₁ => ?_) rfl rfl rfl
  · have hy' : y = ((PySem.Str.ofString "self" : Str), Value.ref x) ∨ y = (f, v) := by simpa using hy
    rcases hy' with rfl | rfl
    · exact ls
    · exact lf'
  have X₁ : K.In h₁ := X.keeps hk₁
  have hx₁ := hk₁ _ _ hx
  have ns1 : ∀ {b : Addr} {m : Str → Option Value}, s.heap.Ns b m → h₁.Ns b m := fun {b m} ⟨o, es, ep, z1, z2⟩ => ⟨o, es, ep, hk₁ _ _ z1, z2⟩
  have mself : (fun y => (([("self", Value.ref x), (f, v)] : List (Str × Value)).reverse.lookup y)) ("self" : Str) = some (.ref x) := by
    show List.lookup ("self" : Str) [(f, v), (("self" : Str), Value.ref x)] = _
    simp only [List.lookup, e3, beq_self_eq_true]
  have mf : (fun y => (([("self", Value.ref x), (f, v)] : List (Str × Value)).reverse.lookup y)) f = some v := by
    show List.lookup f [(f, v), (("self" : Str), Value.ref x)] = _
    simp only [List.lookup, beq_self_eq_true]
  have hxL : s.heap.objs.size ≠ x := Nat.ne_of_gt (Heap.lt_size hx)
  refine ks_wpAt_execs_cons ?_
  refine sup_first (env := callEnv _ s.heap.objs.size fI) (L := s.heap.objs.size) (ar := { arg := "self", annotation := none, pos := p1 }) (vs := [v]) (t0 := t0) T I0 X₁ (ns1 hg) hms (ns1 hb) hbs rfl rfl lsup lcls ls rfl rfl hns mself hx₁ (by show 1 ≤ sizeLine; rw [sizeLine_eq]; omega)
    (fun s₁ Q' hn' q' => ?_) (fun h₂ tk t1 k2 hx2 => ?_) (by rfl) (by rfl) (hmc _) (by rfl) (hsw _)
  · show wpAny _ _ (spliced ((false, eval (.Name f q3) _) :: backTo q4 (starEach [] _))) _ _ _
    refine Calls.spliced_cons ?_
    refine ESX.ldL hn' mf ?_ rfl lf' hf4
    exact Calls.spliced_nil q'
  -- self.f = f
  have X₂ : K.In h₂ := fun b o e => k2 b o (fun z => by rw [z, hnx] at e; cases e) (X₁ b o e)
  have nsx : ∀ {b : Addr} {m : Str → Option Value}, b ≠ x → h₁.Ns b m → h₂.Ns b m := fun {b m} hb ⟨o, es, ep, z1, z2⟩ => ⟨o, es, ep, k2 _ _ hb z1, z2⟩
  have hn2 := nsx hxL hns
  refine wpAt_of_wpAny ?_
  show wpAny _ _ (execs _ _) _ _ _
  refine wpAny_execs_cons (plainObj_wpAny_Assign_Attribute ?_ (hsw2 _))
  refine ESX.ldL hn2 mf ?_ rfl lf' hf4
  refine ESX.ldL (x := "self") hn2 mself ?_ rfl ls (by decide +kernel)
  refine set_plain X₂ (ox := excO C t1) (od := none) ⟨hx2, rfl, rfl, trivial⟩ T.sa ?_
  refine exc_osa X₂ hx2 hcl (show refsVE (.ref C :: bm) = true from hbm) rfl hno (fun h₃ tk₃ dx k₃ dn dne hx₃ hn₃ => ?_)
  show wpAny _ _ (execs _ _) _ _ _
  have z : s.heap.objs.size ≤ dx := by
    obtain ⟨oL, _, _, hL, _⟩ := hn2
    exact Nat.le_of_lt (Nat.lt_of_lt_of_le (Heap.lt_size hL) dn)
  exact wpAny_execs_nil (hq h₃ tk₃ dx t1 ⟨fun b o hb e => k₃ b o hb (k2 b o hb (hk₁ b o e)), hx₃, z, dne, hn₃⟩)
end
end EqX
end PySem

set_option Elab.async false
set_option linter.all false
set_option maxRecDepth 100000
set_option maxHeartbeats 4000000
namespace EqX
open PySem PySem.Spec PyProof.Rows L2 PySem.EqX
/-- the written part's facts in the layer's own words -/
theorem EClass.oex {K : PySem.W.Frag} {C : Addr} (T : PySem.EqX.EClass K C) : OexC K C := ⟨T.cls, T.sa, T.exC, T.tyC, T.kC⟩
/-- __init__(self, f): self.f = f, over a fresh exception at a -/
def spIni1 (C : Addr) (f : Str) : Sp := fun vs H Q _ => ∃ (a : Addr) (v : V), vs = [.ref a, v] ∧ H a = some (exo a C none) ∧ ∀ d, H d = none → d ≠ a → Q .non (upd (upd H d (exd d [(f, v)])) a (exo a C (some d)))
section
variable {P : Program} {w : World} {K : PySem.W.Frag} {mg : Str → Option Value} {base : Heap} {C fI : Addr} {fd : FuncData} {qual f : Str}
/-- the end of such an __init__ at the layer -/
theorem ini_end {outer : List Env} {H : Hp} {s : Shared} {Q : VK} {a dx t1 : Addr} {h' : Heap} {tk : Nat} {fs : List (Str × V)} {mA : Str → Option Value} {o0 : Option Addr} (hok : HOk P w H s.heap) (bare : AllBare s.gens) (e : H a = some (exo a C o0))
    (I : IniEnd s.heap h' a C dx t1 mA) (rel : ∀ g, RelO (fs.lookup g) (mA g)) (q : ∀ d, H d = none → d ≠ a → Q .non (upd (upd H d (exd d fs)) a (exo a C (some d)))) :
    CE outer P w H s Q .none { s with heap := h', toks := tk } := by
  have dn := I.dbig
  have hnd : H dx = none := hok.fresh dn
  have nd : ∀ {b : Addr} {o : Obj}, s.heap.get? b = some o → b ≠ dx := fun {b o} q => Nat.ne_of_lt (Nat.lt_of_lt_of_le (Heap.lt_size q) dn)
  have na : ∀ {b : Addr}, H b = none → b ≠ a := fun {b} n z => by
    rw [z, e] at n
    cases n
  have Un1 : Un (frs outer) [] H (upd (upd H dx (exd dx fs)) a (exo a C (some dx))) s.heap h' := {
    keep := fun b o q n _ _ => I.keep b o (na n) q
    slot := fun b o q n _ _ => ⟨o.slots, I.keep b o (na n) q⟩
    free := fun b o q n _ => by rw [upd_ne (na n), upd_ne (nd q)]; exact n
    there := fun b o q _ => by
      by_cases hb : b = a
      · exact ⟨_, by rw [hb]; exact I.obj⟩
      · exact ⟨o, I.keep b o hb q⟩
    tups := fun b xs q => by rw [upd_ne (at_ne e q exo_tup), upd_ne (ne_of_none q hnd)]; exact q
    frzs := fun b o v q => by rw [upd_ne (at_ne e q exo_frz), upd_ne (ne_of_none q hnd)]; exact q
    tbls := fun b ps q => ⟨#[], by rw [upd_ne (at_ne e q exo_tbl), upd_ne (ne_of_none q hnd), q]; simp⟩ }
  refine ⟨.non, _, rfl, bare, Un1, fun b o q => ?_, rfl, q dx hnd I.dne⟩
  by_cases hb : b = a
  · subst hb
    rw [upd_same] at q
    cases q
    exact exo_ok I.obj
  · rw [upd_ne hb] at q
    by_cases hd : b = dx
    · subst hd
      rw [upd_same] at q
      cases q
      exact exd_ok I.ns rel
    · rw [upd_ne hd] at q
      exact (hok b o q).stay (fun c v hc z => I.keep c v (by
          rcases hc with hc | hc
          · rw [hc]
            exact hb
          · exact at_ne e hc exo_own) z)
        (fun c hc => by rw [upd_ne (at_ne e hc exo_own), upd_ne (ne_of_none hc hnd)]; exact hc) (fun c xs hc => by rw [upd_ne (at_ne e hc exo_tup), upd_ne (ne_of_none hc hnd)]; exact hc)
theorem vals2' {x y : V} {us : List Value} (r : Vals [x, y] us) : ∃ u w', us = [u, w'] ∧ RelV x u ∧ RelV y w' := vals2 r
theorem base_none {a : Addr} (kin : K.In base) (h : base.get? a = none) : K.lookup a = none := by
  cases e : K.lookup a with
  | none => rfl
  | some o =>
    have z := kin a o e
    rw [h] at z
    cases z
theorem ok_ini1 {CX : CXT} {k : Nat} {p1 p2 q0 q1 q2 q3 q4 q5 r1 r2 r3 r4 : Pos} (T : EClass K C) (I : EInit P K C fI qual (ini1A f p1 p2) (ini1B f q0 q1 q2 q3 q4 q5 r1 r2 r3 r4) (ini1S f) fd)
    (hf1 : (f == ("self" : Str)) = false) (hf2 : (f == ("__class__" : Str)) = false) (hf3 : (f == ("super" : Str)) = false) (hf4 : (f == ("__debug__" : Str)) = false) (hno : PySem.W.findIn K (.ref C) f = some none) (hms : mg "super" = none)
    (hsw : ∀ (env : Env), swapsWith (.Call (.Attribute (.Call (.Name "super" q0) [] [] q1) "__init__" q2) [.Name f q3] [] q4) none q5.line env = pure false)
    (hmc : ∀ (env : Env), eval (.Call (.Attribute (.Call (.Name "super" q0) [] [] q1) "__init__" q2) [.Name f q3] [] q4) env = (do
      let ov ← attributeBase (.Call (.Name "super" q0) [] [] q1) "__init__" env (eval (.Call (.Name "super" q0) [] [] q1) env)
      standAt q2.atName
      let (g, first) ← holding [ov] (getMethod ov "__init__" plS)
      callWith q4 g first (backTo q4 (starEach [.Name f q3] env)) []))
    (hsw2 : ∀ (env : Env), swapsWith (.Name f r3) (some (.Attribute (.Name "self" r1) f r2)) r4.line env = pure false) :
    FnOk P w K mg base CX k fI fd ["self", f] (spIni1 C f) := by
  refine ⟨fun vs H Q E h => ?_, fun A outer s H args us vs Q E hr e0 hb r hsp => ?_⟩
  · obtain ⟨a, v, rfl, _⟩ := h
    rfl
  · obtain ⟨a, v, rfl, e, q⟩ := hsp
    obtain ⟨u1, u2, rfl, ra, rv⟩ := vals2' r
    obtain rfl : u1 = Value.ref a := ra
    obtain ⟨t0, hx⟩ := exo_at e0.hok e
    obtain ⟨mb, hbl, hbb⟩ := e0.mod.blt
    have bk : ∀ b o, base.get? b = some o → s.heap.get? b = some o := fun b o z => (e0.bs b o z).1
    have nsk : ∀ {b : Addr} {m : Str → Option Value}, base.Ns b m → s.heap.Ns b m := fun {b m} ⟨o, es, ep, z1, z2⟩ => ⟨o, es, ep, bk _ _ z1, z2⟩
    have hn : base.get? a = none := by
      cases z : base.get? a with
      | none => rfl
      | some o =>
        have z1 := (e0.bs a o z).2
        rw [e] at z1
        cases z1
    refine init1 T I hf1 hf2 hf3 hf4 hno (e0.mod.kin.keeps bk) (base_none e0.mod.kin hn) (e0.mod.nolimit.keeps bk) (nsk e0.mod.glob) hms (nsk hbl) ?_ hx hr.depth hb hsw hmc hsw2 fun h' tk dx t1 J => ?_
    · rw [hbb "super" (by decide +kernel)]
      decide +kernel
    · exact ini_end e0.hok e0.bare e J (relO_put (fs := []) rv fun g => True.intro) q
end
/-! ### C(e, ..) as a value: the exception and its dict stay tracked -/
/-- C(..): n parameters told by g; the promise of its __init__ -/
def tExV (C : Addr) (sp : Sp) (ta : TA) : TE := fun σ H Q => ta σ H fun vs H1 => vs.length ≤ 1000 ∧ ∀ a, H1 a = none → sp (.ref a :: vs) (upd H1 a (exo a C none)) (fun v H2 => v = .non ∧ Q (.ref a) H2) (fun _ _ _ => False)
section
variable {X : Cx} {e : Expr} {es : List Expr} {ta : TA} {p pos : Pos}
theorem pe_exV {CX : CXT} {x : Str} {C fI : Addr} {k : Nat} {fd : FuncData} {ps : List Str} {sp : Sp} (T : OexC X.K C) (iC : PySem.W.findIn X.K (.ref C) "__init__" = some (some (.ref fI))) (tI : PySem.W.typeIn X.K (.ref fI) = some (.type "function"))
    (F1 : FnOk X.prog X.w X.K X.mg X.base CX k fI fd ps sp) (hr : Room (k + 1) X.A) (hb : Binds X.K fd ps []) (hx : Passes CX X (fun _ _ _ => False)) (hg : Gl X x) (hm : X.mg x = some (.ref C)) (ha : PA X (e :: es) ta)
    (hdb : (x == ("__debug__" : Str)) = false := by decide) (he : starEach (e :: es) X.env = (false, eval e X.env) :: starEach es X.env := by rfl) (hpl : (backTo pos (starEach es X.env)).any (·.1) = false := by rfl) :
    PE X (.Call (.Name x p) (e :: es) [] pos) (tExV C sp ta) := by
  refine ⟨fun pins s σ H Q I h => ?_⟩
  obtain ⟨nm, q, N, bs, bm, sn, sub, ab, col, dd, k0, k1, k2, k3, k5, hC, hbm⟩ := T.cls
  refine wpAny_Call_Name_kw (ld_glob I hg hm ?_ hdb)
  refine PySem.W.callWith_K (h₀ := X.base) I.ok.mod.kin T.kC (thn (ha.run pos pins s σ H _ I h) fun us s1 ⟨vs, H1, I1, r1, hz, q1⟩ => ⟨I1.kIn, ?_⟩) he hpl
  show wpAny _ _ (call (.ref C) us) _ _ _
  obtain ⟨hp, g, dr, tk, os⟩ := s1
  have hsz : hp.objs.size ≤ hp.objs.size + 1 := Nat.le_succ _
  have hn : H1 (hp.objs.size + 1) = none := I1.hok.fresh hsz
  have hq := q1 (hp.objs.size + 1) hn
  have kk : ∀ b o, hp.get? b = some o → ((hp.push (PySem.W.kdv_tup us)).push (PySem.HandSPX.excO C hp.objs.size)).get? b = some o := fun b o e => Heap.get?_push_of_some _ (Heap.get?_push_of_some _ e)
  have hget : ((hp.push (PySem.W.kdv_tup us)).push (PySem.HandSPX.excO C hp.objs.size)).get? (hp.objs.size + 1) = some (PySem.HandSPX.excO C hp.objs.size) := by heap_get
  have I2 : Inv X pins σ (upd H1 (hp.objs.size + 1) (exo (hp.objs.size + 1) C none)) ⟨(hp.push (PySem.W.kdv_tup us)).push (PySem.HandSPX.excO C hp.objs.size), g, dr, tk, os⟩ :=
    I1.laid (t' := tk) (a := hp.objs.size + 1) (o := exo (hp.objs.size + 1) C none) (h' := (hp.push (PySem.W.kdv_tup us)).push (PySem.HandSPX.excO C hp.objs.size)) kk hsz (exo_ok hget)
  have r2 : Vals (V.ref (hp.objs.size + 1) :: vs) (Value.ref (hp.objs.size + 1) :: us) := .cons rfl r1
  have hl : ((Value.ref (hp.objs.size + 1) :: us) ++ []).length = ps.length := by
    have e := r2.length
    rw [F1.len _ _ _ _ hq] at e
    rw [List.append_nil]
    exact e.symm
  have hus : us.length ≤ sizeLine := by
    rw [← Paired.length r1, sizeLine_eq]
    omega
  have hbind := hb ⟨(hp.push (PySem.W.kdv_tup us)).push (PySem.HandSPX.excO C hp.objs.size), g, dr, tk, os⟩ (Value.ref (hp.objs.size + 1) :: us) I2.kIn hl
  rw [List.append_nil] at hbind
  refine wpAny_call (PySem.HandSPX.call_own F.excBase_ValueError (fun Y => PySem.HandSPX.refsVE_contains Y bm hbm) (I1.kIn _ _ hC) (PySem.W.looks_findIn I1.kIn iC) (fun self => PySem.W.bind_fn I1.kIn self tI) hus
    (codeAny_mono (F1.run _ X.stack _ _ ⟨Value.ref (hp.objs.size + 1) :: us, []⟩ (Value.ref (hp.objs.size + 1) :: us) _ _ (fun _ _ _ => False) (hr.make C us []) (I2.env0.make C us []) hbind r2 hq) fun r s' hq' => ?_))
  cases r with
  | error er => exact hx pins σ _ _ er s' I2 hq'
  | ok fl =>
    cases fl with
    | ret u =>
      obtain ⟨v, H', I3, rv, ev, q3⟩ := I2.after hq'
      subst ev
      exact ⟨rv, ⟨V.ref (hp.objs.size + 1), H', I3, rfl, q3⟩⟩
    | next => exact False.elim hq'
    | brk => exact False.elim hq'
    | cont => exact False.elim hq'
end
end EqX

set_option Elab.async false
set_option linter.all false
set_option maxRecDepth 100000
set_option maxHeartbeats 4000000
/-! The same with two fields: row and word. -/
namespace PySem
namespace EqX
open PySem.W PySem.Calls PyProof.Rows PySem.HandSPX
abbrev fRow : Str := "row"
abbrev fWord : Str := "word"
section
variable {prog : Program} {w : World} {A : Around} {E : Value → Shared → Prop} {R : Result → Shared → Prop} {s : Shared} {K : Frag} {C : Addr} {x t0 fI : Addr} {mg mb : Str → Option Value}
theorem init2 {qual : Str} {fd : FuncData} {p1 p2 p3 q0 q1 q2 q3 q3' q4 q5 r1 r2 r3 r4 u1 u2 u3 u4 : Pos} {v v' : Value} {args : Args}
    (T : EClass K C) (I : EInit prog K C fI qual (ini2A fRow fWord p1 p2 p3) (ini2B fRow fWord q0 q1 q2 q3 q3' q4 q5 r1 r2 r3 r4 u1 u2 u3 u4) (ini2S fRow fWord) fd)
    (hno : findIn K (.ref C) fRow = some none) (hno' : findIn K (.ref C) fWord = some none)
    (X : K.In s.heap) (hnx : K.lookup x = none) (hlim : s.heap.NoLimit) (hg : s.heap.Ns mainGlobals mg) (hms : mg "super" = none) (hb : s.heap.Ns builtinsNs mb) (hbs : mb "super" = some (.type "super"))
    (hx : s.heap.get? x = some (excO C t0)) (hroom : A.depth < recursionLimit) (hbind : BindsTo s fd args [("self", .ref x), (fRow, v), (fWord, v')])
    (hsw : ∀ (env : Env), swapsWith (.Call (.Attribute (.Call (.Name "super" q0) [] [] q1) "__init__" q2) [.Name fRow q3, .Name fWord q3'] [] q4) none q5.line env = pure false)
    (hmc : ∀ (env : Env), eval (.Call (.Attribute (.Call (.Name "super" q0) [] [] q1) "__init__" q2) [.Name fRow q3, .Name fWord q3'] [] q4) env = (do
      let ov ← attributeBase (.Call (.Name "super" q0) [] [] q1) "__init__" env (eval (.Call (.Name "super" q0) [] [] q1) env)
      standAt q2.atName
      let (g, first) ← holding [ov] (getMethod ov "__init__" plS)
      callWith q4 g first (backTo q4 (starEach [.Name fRow q3, .Name fWord q3'] env)) []))
    (hsw2 : ∀ (env : Env), swapsWith (.Name fRow r3) (some (.Attribute (.Name "self" r1) fRow r2)) r4.line env = pure false)
    (hsw3 : ∀ (env : Env), swapsWith (.Name fWord u3) (some (.Attribute (.Name "self" u1) fWord u2)) u4.line env = pure false)
    (hq : ∀ h' tk dx t1, IniEnd s.heap h' x C dx t1 (fun y => if y = fWord then some v' else if y = fRow then some v else none) → R (.ok (.ret .none)) { s with heap := h', toks := tk }) :
    codeAny (model prog w) A (.call (.ref fI) args) R s := by
  have I0 := I
  obtain ⟨oc, od, doc, pm, an, ct, osl, cda, cc, ccl, cdd, fvs, ccs, file, tf, cl, cld, csl, efd, lf, hcd, lcda, hvs, hfile, lcc⟩ := I.fn
  obtain ⟨nm, q, N, bs, bm, sn, sub, ab, col, dd, k0, k1, k2, k3, k5, hC, hbm⟩ := T.cls
  have hcl : clsIn K C = some { name := nm, bases := bs, mro := .ref C :: bm, ns := N, qualname := q, hasDict := true, slotNames := sn, subclasses := sub, abstract := ab, collection := col, hasDel := false } := by unfold clsIn; rw [hC] <;> rfl
  have ls : ((ini2S fRow fWord).names.lookup ("self" : Str)) = some .local := by decide +kernel
  have lr : ((ini2S fRow fWord).names.lookup fRow) = some .local := by decide +kernel
  have lw : ((ini2S fRow fWord).names.lookup fWord) = some .local := by decide +kernel
  have lsup : ((ini2S fRow fWord).names.lookup ("super" : Str)) = some .globalImplicit := by decide +kernel
  have lcls : ((ini2S fRow fWord).names.lookup ("__class__" : Str)) = some .free := by decide +kernel
  subst efd
  have hcell : ∀ x ∈ (ini2S fRow fWord).names, x.2 ≠ .cell := by decide +kernel
  refine ks_codeAny_call_defAt (body := ini2B fRow fWord q0 q1 q2 q3 q3' q4 q5 r1 r2 r3 r4 u1 u2 u3 u4) (binds := [("self", .ref x), (fRow, v), (fWord, v')]) hroom (X _ _ lf) rfl hlim (codeRec_of X hcd) rfl hbind hcell (fun y hy => ?_) (fun h₁ hns hk₁ => ?_) rfl rfl rfl
  · have hy' : y = ((PySem.Str.ofString "self" : Str), Value.ref x) ∨ y = (fRow, v) ∨ y = (fWord, v') := by simpa using hy
    rcases hy' with rfl | rfl | rfl
    · exact ls
    · exact lr
    · exact lw
  have X₁ : K.In h₁ := X.keeps hk₁
  have hx₁ := hk₁ _ _ hx
  have ns1 : ∀ {b : Addr} {m : Str → Option Value}, s.heap.Ns b m → h₁.Ns b m := fun {b m} ⟨o, es, ep, z1, z2⟩ => ⟨o, es, ep, hk₁ _ _ z1, z2⟩
  have mself : (fun y => (([("self", Value.ref x), (fRow, v), (fWord, v')] : List (Str × Value)).reverse.lookup y)) ("self" : Str) = some (.ref x) := by rfl
  have mr : (fun y => (([("self", Value.ref x), (fRow, v), (fWord, v')] : List (Str × Value)).reverse.lookup y)) fRow = some v := by rfl
  have mw : (fun y => (([("self", Value.ref x), (fRow, v), (fWord, v')] : List (Str × Value)).reverse.lookup y)) fWord = some v' := by rfl
  have hxL : s.heap.objs.size ≠ x := Nat.ne_of_gt (Heap.lt_size hx)
  refine ks_wpAt_execs_cons ?_
  refine sup_first (env := callEnv _ s.heap.objs.size fI) (L := s.heap.objs.size) (ar := { arg := "self", annotation := none, pos := p1 }) (vs := [v, v']) (t0 := t0) T I0 X₁ (ns1 hg) hms (ns1 hb) hbs rfl rfl lsup lcls ls rfl rfl hns mself hx₁ (by show 2 ≤ sizeLine; rw [sizeLine_eq]; omega)
    (fun s₁ Q' hn' q' => ?_) (fun h₂ tk t1 k2 hx2 => ?_) (by rfl) (by rfl) (hmc _) (by rfl) (hsw _)
  · show wpAny _ _ (spliced ((false, eval (.Name fRow q3) _) :: (false, eval (.Name fWord q3') _) :: backTo q4 (starEach [] _))) _ _ _
    refine Calls.spliced_cons ?_
    refine ESX.ldL hn' mr ?_ rfl lr (by decide +kernel)
    refine Calls.spliced_cons ?_
    refine ESX.ldL hn' mw ?_ rfl lw (by decide +kernel)
    exact Calls.spliced_nil q'
  -- self.row = row
  have X₂ : K.In h₂ := fun b o e => k2 b o (fun z => by rw [z, hnx] at e; cases e) (X₁ b o e)
  have nsx : ∀ {b : Addr} {m : Str → Option Value}, b ≠ x → h₁.Ns b m → h₂.Ns b m := fun {b m} hb ⟨o, es, ep, z1, z2⟩ => ⟨o, es, ep, k2 _ _ hb z1, z2⟩
  have hn2 := nsx hxL hns
  refine wpAt_of_wpAny ?_
  show wpAny _ _ (execs _ _) _ _ _
  refine wpAny_execs_cons (plainObj_wpAny_Assign_Attribute ?_ (hsw2 _))
  refine ESX.ldL hn2 mr ?_ rfl lr (by decide +kernel)
  refine ESX.ldL (x := "self") hn2 mself ?_ rfl ls (by decide +kernel)
  refine set_plain X₂ (ox := excO C t1) (od := none) ⟨hx2, rfl, rfl, trivial⟩ T.sa ?_
  refine exc_osa X₂ hx2 hcl (show refsVE (.ref C :: bm) = true from hbm) rfl hno (fun h₃ tk₃ dx k₃ dn dne hx₃ hn₃ => ?_)
  have z : s.heap.objs.size ≤ dx := by
    obtain ⟨oL, _, _, hL, _⟩ := hn2
    exact Nat.le_of_lt (Nat.lt_of_lt_of_le (Heap.lt_size hL) dn)
  -- self.word = word
  have X₃ : K.In h₃ := fun b o e => k₃ b o (fun z => by rw [z, hnx] at e; cases e) (X₂ b o e)
  have hn3 : h₃.Ns s.heap.objs.size (fun y => (([("self", Value.ref x), (fRow, v), (fWord, v')] : List (Str × Value)).reverse.lookup y)) := by
    obtain ⟨oL, es, ep, hL, hr⟩ := hn2
    exact ⟨oL, es, ep, k₃ _ _ hxL hL, hr⟩
  show wpAny _ _ (execs _ _) _ _ _
  refine wpAny_execs_cons (plainObj_wpAny_Assign_Attribute ?_ (hsw3 _))
  refine ESX.ldL hn3 mw ?_ rfl lw (by decide +kernel)
  refine ESX.ldL (x := "self") hn3 mself ?_ rfl ls (by decide +kernel)
  have hn₃' := hn₃
  obtain ⟨oD, esD, epD, hoD, hdD⟩ := hn₃'
  refine set_plain X₃ (od := some oD) ⟨hx₃, rfl, rfl, hoD⟩ T.sa ?_
  refine OEX.osa_old (nl := [fRow]) X₃ hx₃ hn₃ (fun y hy => ?_) (by decide) hcl (show refsVE (.ref C :: bm) = true from hbm) rfl hno' (fun h₄ tk₄ k₄ hn₄ => ?_)
  · by_cases e : y = fRow
    · rw [e]
      exact List.mem_cons_self
    · rw [if_neg e] at hy
      exact absurd rfl hy
  show wpAny _ _ (execs _ _) _ _ _
  have dnew : ∀ b o, s.heap.get? b = some o → b ≠ dx := fun b o e => Nat.ne_of_lt (Nat.lt_of_lt_of_le (Heap.lt_size e) z)
  exact wpAny_execs_nil (hq h₄ tk₄ dx t1 ⟨fun b o hb e => k₄ b o (dnew b o e) (k₃ b o hb (k2 b o hb (hk₁ b o e))), k₄ _ _ (Ne.symm dne) hx₃, z, dne, hn₄⟩)
end
end EqX
end PySem
namespace EqX
open PySem PySem.Spec PyProof.Rows L2 PySem.EqX
/-- __init__(self, row, word), over a fresh exception at a -/
def spIni2 (C : Addr) : Sp := fun vs H Q _ => ∃ (a : Addr) (v v' : V), vs = [.ref a, v, v'] ∧ H a = some (exo a C none) ∧ ∀ d, H d = none → d ≠ a → Q .non (upd (upd H d (exd d [(fWord, v'), (fRow, v)])) a (exo a C (some d)))
theorem vals3' {x y z : V} {us : List Value} (r : Vals [x, y, z] us) : ∃ u v w', us = [u, v, w'] ∧ RelV x u ∧ RelV y v ∧ RelV z w' := by
  cases r with
  | cons r1 r =>
    obtain ⟨v, w', rfl, r2, r3⟩ := vals2 r
    exact ⟨_, v, w', rfl, r1, r2, r3⟩
section
variable {P : Program} {w : World} {K : PySem.W.Frag} {mg : Str → Option Value} {base : Heap} {C fI : Addr} {fd : FuncData} {qual : Str}
theorem ok_ini2 {CX : CXT} {k : Nat} {p1 p2 p3 q0 q1 q2 q3 q3' q4 q5 r1 r2 r3 r4 u1 u2 u3 u4 : Pos} (T : EClass K C) (I : EInit P K C fI qual (ini2A fRow fWord p1 p2 p3) (ini2B fRow fWord q0 q1 q2 q3 q3' q4 q5 r1 r2 r3 r4 u1 u2 u3 u4) (ini2S fRow fWord) fd)
    (hno : PySem.W.findIn K (.ref C) fRow = some none) (hno' : PySem.W.findIn K (.ref C) fWord = some none) (hms : mg "super" = none)
    (hsw : ∀ (env : Env), swapsWith (.Call (.Attribute (.Call (.Name "super" q0) [] [] q1) "__init__" q2) [.Name fRow q3, .Name fWord q3'] [] q4) none q5.line env = pure false)
    (hmc : ∀ (env : Env), eval (.Call (.Attribute (.Call (.Name "super" q0) [] [] q1) "__init__" q2) [.Name fRow q3, .Name fWord q3'] [] q4) env = (do
      let ov ← attributeBase (.Call (.Name "super" q0) [] [] q1) "__init__" env (eval (.Call (.Name "super" q0) [] [] q1) env)
      standAt q2.atName
      let (g, first) ← holding [ov] (getMethod ov "__init__" plS)
      callWith q4 g first (backTo q4 (starEach [.Name fRow q3, .Name fWord q3'] env)) []))
    (hsw2 : ∀ (env : Env), swapsWith (.Name fRow r3) (some (.Attribute (.Name "self" r1) fRow r2)) r4.line env = pure false)
    (hsw3 : ∀ (env : Env), swapsWith (.Name fWord u3) (some (.Attribute (.Name "self" u1) fWord u2)) u4.line env = pure false) :
    FnOk P w K mg base CX k fI fd ["self", fRow, fWord] (spIni2 C) := by
  refine ⟨fun vs H Q E h => ?_, fun A outer s H args us vs Q E hr e0 hb r hsp => ?_⟩
  · obtain ⟨a, v, v', rfl, _⟩ := h
    rfl
  · obtain ⟨a, v, v', rfl, e, q⟩ := hsp
    obtain ⟨z1, z2, z3, rfl, ra, rv, rv'⟩ := vals3' r
    obtain rfl : z1 = Value.ref a := ra
    obtain ⟨t0, hx⟩ := exo_at e0.hok e
    obtain ⟨mb, hbl, hbb⟩ := e0.mod.blt
    have bk : ∀ b o, base.get? b = some o → s.heap.get? b = some o := fun b o z => (e0.bs b o z).1
    have nsk : ∀ {b : Addr} {m : Str → Option Value}, base.Ns b m → s.heap.Ns b m := fun {b m} ⟨o, es, ep, z1, z2⟩ => ⟨o, es, ep, bk _ _ z1, z2⟩
    have hn : base.get? a = none := by
      cases z : base.get? a with
      | none => rfl
      | some o =>
        have z1 := (e0.bs a o z).2
        rw [e] at z1
        cases z1
    refine init2 T I hno hno' (e0.mod.kin.keeps bk) (base_none e0.mod.kin hn) (e0.mod.nolimit.keeps bk) (nsk e0.mod.glob) hms (nsk hbl) ?_ hx hr.depth hb hsw hmc hsw2 hsw3 fun h' tk dx t1 J => ?_
    · rw [hbb "super" (by decide +kernel)]
      decide +kernel
    · exact ini_end e0.hok e0.bare e J (relO_put (fs := [(fRow, v)]) rv' (relO_put (fs := []) rv fun g => True.intro)) q
end
end EqX

set_option Elab.async false
set_option linter.all false
set_option maxRecDepth 100000
set_option maxHeartbeats 4000000
/-! Exceptions of own classes held as values: isinstance, their fields, made with no argument, made with keywords. -/
namespace PySem.EqX
open PySem PySem.W PySem.Calls PyProof.Rows PySem.HandSPX
section
variable {prog : Program} {w : World} {A : Around} {E : Value → Shared → Prop} {s : Shared} {K : Frag} {x D : Addr} {ox : Obj} {od : Option Obj}
theorem findObj_dataO {C : Addr} {name : Str} {a g : Value} (hc : (clsIn K C).isSome = true) (ha : findIn K (.ref C) name = some (some a)) (hg : specialIn K a "__get__" = some (some g)) (ht : takesIn K a = some true) : findObj K C od name = some (.bind g a) := by
  obtain ⟨cd, hc⟩ := Option.isSome_iff_exists.mp hc
  unfold findObj
  rw [hc, Option.bind_some, ha, Option.bind_some]
  simp [hg, ht]
theorem kin_classO {Q : Option Value → Shared → Prop} (hga : findIn K (.ref D) "__getattribute__" = some (some (.builtin "BaseException.__getattribute__"))) (hgt : findIn K (.ref D) "__getattr__" = some none) (hsub : subIn K (.ref D) (.type "BaseException") = some true)
    (hdct : hasDictIn K D = true) (ha : findIn K (.ref D) "__class__" = some (some (.builtin "object.__class__")))
    (hn : specialIn K (.builtin "object.__class__") "__get__" = some (some (.builtin "getset_descriptor.__get__"))) (htk : takesIn K (.builtin "object.__class__") = some true) (hm : mroIn K D (.type "object") = some true)
    (X : K.In s.heap) (I : InstAt s.heap x ox D od) (h : Q (some (.ref D)) { s with toks := s.toks + 1 }) : wpAny (model prog w) A (getAttr? (.ref x) "__class__") Q E s := by
  have hf : findObj K D od "__class__" = some (.bind (.builtin "getset_descriptor.__get__") (.builtin "object.__class__")) := findObj_dataO (by obtain ⟨cd, hc, _⟩ := any_some hdct; rw [hc]; rfl) ha hn htk
  obtain ⟨hp, g, d, t, os⟩ := s
  have L0 := I.type (M := model prog w)
  have L1 := looks_findIn (M := model prog w) X hga
  have L2 := looks_findIn (M := model prog w) X hgt
  have L3 := looks_find (M := model prog w) X I hf
  have sub : Looks (model prog w) hp (isInstance (.ref x) (.type "BaseException")) true := L0.andThen (looks_subIn X hsub)
  have hx0 : (false && onTheHeap (Value.builtin "BaseException.__getattribute__")) = false := rfl
  have hx2 : (Value.builtin "BaseException.__getattribute__" == Value.builtin "object.__getattribute__") = false := by decide +kernel
  have hx1 : (onTheHeap (Value.ref D) && Value.builtin "BaseException.__getattribute__" == Value.builtin "object.__getattribute__") = false := by rw [hx2]; rfl
  unfold getAttr? getAttrBy? getAttrBy
  refine wpAny_bind (wpAny_mkText (wpAny_bind (wpAny_attempt (wpAny_holding (wpAny_bind (L0.at (wpAny_bind (L1.at ?_))))))))
  show wpAny _ _ (if (onTheHeap (Value.ref D) && Value.builtin "BaseException.__getattribute__" == Value.builtin "object.__getattribute__") = true then _ else _) _ _ _
  rw [hx1, if_neg Bool.false_ne_true]
  unfold getAttrByItsOwn hookBefore
  refine wpAny_bind ?_
  rw [if_pos (show onTheHeap (Value.ref D) = true from rfl)]
  refine L2.at ?_
  refine wpAny_bind (wpAny_attempt (wpAny_holding ?_))
  unfold callGetattribute
  rw [hx0, if_neg Bool.false_ne_true]
  unfold boundAndCalled
  rw [PySem.F.excAttr_ValueError.ga.bind (.ref x)]
  refine wpAny_bind (wpAny_pure ?_)
  show wpAny _ _ (call (.builtin "BaseException.__getattribute__") [.ref x, .str "__class__" t]) _ _ _
  refine wpAny_call (codeAny_call_builtin PySem.F.excAttr_ValueError.ga.plain PySem.F.entry_bexc_ga ?_)
  refine @check_slot (model prog w) _ _ ⟨hp, g, d, t + 1, os⟩ "BaseException.__getattribute__" "BaseException" "__getattribute__" (.ref x) [.str "__class__" t] [] _ (by decide +kernel) (by decide +kernel) sub (PySem.F.args_bexc_ga (.ref x) (.str "__class__" t)) ?_
  unfold Builtin.«object.__getattribute__»
  refine wpAny_bind (wpAny_of_eq (a := ((Value.ref x : Value), [Value.str "__class__" t])) (by first | rfl | (simp only [slotArgs]; rfl)) ?_)
  refine wpAny_bind (wpAny_pure (wpAny_bind (L0.at (wpAny_bind (L3.at ?_)))))
  show wpAny _ _ (holding [Value.builtin "object.__class__"] (call (.builtin "getset_descriptor.__get__") [.builtin "object.__class__", .ref x, .ref D]) >>= ret) _ _ _
  refine wpAny_bind (wpAny_holding (wpAny_call (class_get (s := ⟨hp, g, d, t + 1, os⟩) (ox := ox) (od := od) X I hm ?_)))
  refine wpAny_pure ?_
  show wpAny _ _ (handedOut (.ref D)) _ _ _
  rw [handedOut_of (v := .ref D) rfl]
  first
    | exact wpAny_pure (wpAny_pure h)
    | exact wpAny_pure h
    | exact wpAny_pure (wpAny_bind (wpAny_pure (wpAny_pure h)))
theorem kitx_exc (hga : findIn K (.ref D) "__getattribute__" = some (some (.builtin "BaseException.__getattribute__"))) (hgt : findIn K (.ref D) "__getattr__" = some none) (hsub : subIn K (.ref D) (.type "BaseException") = some true) (hdct : hasDictIn K D = true) (ha : findIn K (.ref D) "__class__" = some (some (.builtin "object.__class__")))
    (hn : specialIn K (.builtin "object.__class__") "__get__" = some (some (.builtin "getset_descriptor.__get__"))) (htk : takesIn K (.builtin "object.__class__") = some true) (hm : mroIn K D (.type "object") = some true) :
    KitX K (.ref x) (.ref D) (fun h => ∃ ox od, InstAt h x ox D od) where
  ty := fun _ _ _ I => I.elim fun _ I => I.elim fun _ I => I.type
  it := fun _ _ X _ => by
    obtain ⟨cdD, hcD, _⟩ := any_some hdct
    unfold clsIn at hcD
    split at hcD
    · rename_i c' d' cd' sl' ho
      intro A' Q' E' s' k q
      unfold isType loadHead
      exact wpAny_bind (wpAny_loadPart (k _ _ (X _ _ ho)) (wpAny_pure q))
    · cases hcD
  ne := fun h tp dd its n sl X htp => by
    obtain ⟨cdD, hcD, _⟩ := any_some hdct
    refine Bool.eq_false_iff.mpr fun q => ?_
    have e : D = tp := Value.ref.inj (beq_iff_eq.mp q)
    subst e
    unfold clsIn at hcD
    split at hcD
    · rename_i c' d' cd' sl' ho
      have z := (X _ _ ho).symm.trans htp
      cases z
    · cases hcD
  ca := fun X I k => I.elim fun _ I => I.elim fun _ I => kin_classO hga hgt hsub hdct ha hn htk hm X I k
end
end PySem.EqX

namespace EqX
open PySem PySem.Spec PyProof.Rows L2 PySem.EqX
/-- at a a tracked exception of the class at C; its dict at d, if it has one, is tracked too -/
def ExAt (H : Hp) (a C : Addr) (d : Option Addr) : Prop := H a = some (exo a C d) ∧ ∀ dd, d = some dd → ∃ fs, H dd = some (exd dd fs)
theorem ExAt.keeps {H H' : Hp} {a C : Addr} {d : Option Addr} (x : ExAt H a C d) (s : ∀ b o, H b = some o → H' b = some o) : ExAt H' a C d := ⟨s _ _ x.1, fun dd e => let ⟨fs, q⟩ := x.2 dd e; ⟨fs, s _ _ q⟩⟩
theorem ExAt.inst {P : Program} {w : World} {H : Hp} {h : Heap} {a C : Addr} {d : Option Addr} (x : ExAt H a C d) (hok : HOk P w H h) : ∃ ox od, PySem.W.InstAt h a ox C od := by
  obtain ⟨t1, ho⟩ := exo_at hok x.1
  cases d with
  | none => exact ⟨_, none, ho, rfl, rfl, trivial⟩
  | some dd =>
    obtain ⟨fs, e⟩ := x.2 dd rfl
    obtain ⟨mA, ⟨o, es, ep, e1, _⟩, _⟩ := exd_at hok e
    exact ⟨_, some o, ho, rfl, rfl, e1⟩
/-- isinstance(x, c), x a tracked exception -/
def rIsX (K : PySem.W.Frag) : List V → Hp → VK → Prop := fun xs H Q => ∃ (a C : Addr) (d : Option Addr) (c : V) (u : Value) (b : Bool), xs = [.ref a, c] ∧ ExAt H a C d ∧ ClsV c u ∧ ExcC K C ∧ PySem.W.kitOne K (.ref C) u = some b ∧ Q (.bl b) H
def rIsXT (K : PySem.W.Frag) : List V → Hp → VK → Prop := fun xs H Q => ∃ (a C : Addr) (d : Option Addr) (tp : Addr) (cs : List V) (us : List Value) (b : Bool), xs = [.ref a, .ref tp] ∧ ExAt H a C d ∧ H tp = some (.tup cs) ∧ Paired ClsV cs us ∧ ExcC K C ∧ PySem.W.kitAny K (.ref C) us = some b ∧ Q (.bl b) H
section
variable {X : Cx}
theorem call_isX : CallR X (.builtin "isinstance") (rIsX X.K) := by
  intro pins s σ H xs us Q I r h
  obtain ⟨a, C, d, c, u, b, rfl, ex, k, T, e, q⟩ := h
  obtain ⟨u1, u2, rfl, r1, r2⟩ := vals2 r
  have e2 := k.eq r2
  subst e2
  obtain rfl : u1 = Value.ref a := r1
  exact PySem.W.kia_one (kitx_exc T.hg T.hk T.hs T.hd T.ha T.hn T.ht T.hm) I.kIn (ex.inst I.hok) e (fun z => nomatch z) fun tk => ⟨.bl b, H, I.tok tk, rfl, q⟩
theorem call_isXT : CallR X (.builtin "isinstance") (rIsXT X.K) := by
  intro pins s σ H xs us Q I r h
  obtain ⟨a, C, d, tp, cs, ws, b, rfl, ex, hT, k, T, e, q⟩ := h
  obtain ⟨u1, u2, rfl, r1, r2⟩ := vals2 r
  obtain rfl : u1 = Value.ref a := r1
  cases (show u2 = Value.ref tp from r2)
  obtain ⟨_, its, rv, o, h1, h2, n, h3⟩ := (show ObjOk X.prog X.w H s.heap tp (.tup cs) from I.hok tp _ hT)
  have e3 := ClsV.all k rv
  subst e3
  obtain ⟨oc, od, dt, sl⟩ := o
  simp only at h2 h3
  subst h2 h3
  exact PySem.W.kia_tup (kitx_exc T.hg T.hk T.hs T.hd T.ha T.hn T.ht T.hm) I.kIn (ex.inst I.hok) h1 e (fun z => nomatch z) fun tk => ⟨.bl b, H, I.tok tk, rfl, q⟩
end
/-- e.f, e a tracked exception with its dict -/
def tExf (K : PySem.W.Frag) (f : Str) (te : TE) : TE := fun σ H Q => te σ H fun x H1 => ∃ (a C dd : Addr) (fs : List (Str × V)) (v : V), x = .ref a ∧ H1 a = some (exo a C (some dd)) ∧ H1 dd = some (exd dd fs) ∧ XfC K C ∧ PySem.W.findIn K (.ref C) f = some none ∧ fs.lookup f = some v ∧ Q v H1
theorem pe_exf {X : Cx} {e : Expr} {te : TE} {pos : Pos} {n : Str} (he : PE X e te) (hb : attributeBase e n X.env (eval e X.env) = eval e X.env := by rfl) : PE X (.Attribute e n pos) (tExf X.K n te) := by
  refine ⟨fun pins s σ H Q I h => ?_⟩
  refine attr_of hb (thn (he.run pins s σ H _ I h) fun u s1 hh => ?_)
  obtain ⟨x, H1, I1, rx, a, C, dd, fs, v, ex, ea, ed, T, hno, l, q⟩ := hh
  subst ex
  obtain rfl : u = Value.ref a := rx
  obtain ⟨t1, ho⟩ := exo_at I1.hok ea
  obtain ⟨mA, hns, hr⟩ := exd_at I1.hok ed
  obtain ⟨od, hod, hl⟩ := lookIn_ns hns
  obtain ⟨u, hu, ru⟩ := RelO.some_of (v := v) (o := mA n) (by rw [← l]; exact hr n)
  have J : PySem.W.InstAt s1.heap a _ C (some od) := ⟨ho, rfl, rfl, hod⟩
  exact HandSPX.exc_get I1.kIn J T.ga T.gg T.exC (PySem.W.findObj_own T.hdC hno rfl (by rw [hl, hu])) (handed_of ru) ⟨v, H1, I1.tok _, ru, q⟩
/-- C(), an own exception class without own __init__: a new exception -/
theorem pe_exc0 {X : Cx} {C : Addr} {bmB : List Value} {B newId initId : String} {x : Str} {p pos : Pos} (F : ExcBaseFacts B newId initId bmB) (q : PySem.W.excIn X.K C bmB newId = true) (gC : X.mg x = some (.ref C)) (kC : PySem.W.keepIn X.K (.ref C) = true) (hg : Gl X x)
    (hdb : (x == ("__debug__" : Str)) = false := by decide) : PE X (.Call (.Name x p) [] [] pos) (fun σ H Q => ∀ a, H a = none → Q (.ref a) (upd H a (exo a C none))) := by
  refine ⟨fun pins s σ H Q I h => ?_⟩
  refine wpAny_Call_Name_kw (ld_glob I hg gC ?_ hdb)
  refine PySem.W.callWith_K0 I.kIn kC ?_
  obtain ⟨bm, N, nm, qn, bs, hdct, sn, sub, ab, col, dd, k0, k1, k2, k3, k5, mN, hC, hN, hni, T⟩ := exc_obj I.kIn q
  refine wpAny_call_exc_subT F T hC hN hni (fun h' a hm => ?_) (by show 0 ≤ sizeLine; rw [sizeLine_eq]; omega)
  have hn : H a = none := I.hok.gone hm.new
  obtain ⟨t, ht, _, _⟩ := hm.there
  exact ⟨.ref a, upd H a (exo a C none), I.laidN hm.keeps hm.new hn (exo_ok ht), rfl, h a hn⟩
end EqX

set_option Elab.async false
set_option linter.all false
set_option maxRecDepth 100000
set_option maxHeartbeats 4000000
/-! An own error class over ValueError (any depth) called with keywords: it is born, then its own __init__ has the keywords. -/
namespace PySem.EqX
open PySem PySem.W PySem.Calls PyProof.Rows PySem.HandSPX
section
variable {prog : Program} {w : World} {A : Around} {E : Value → Shared → Prop} {R : Result → Shared → Prop} {h : Heap} {g : Array GenState} {d : Drawn} {t : Nat} {os : OsState} {K : Frag} {C fI : Addr}
/-- the heap with the newborn: its tuple of positional arguments, then itself -/
abbrev born (h : Heap) (C : Addr) (rest : List Value) : Heap := (h.push (W.kdv_tup rest)).push (excO C h.objs.size)
theorem born_keeps {rest : List Value} : ∀ b o, h.get? b = some o → (born h C rest).get? b = some o := fun _ _ e => Heap.get?_push_of_some _ (Heap.get?_push_of_some _ e)
theorem born_at {rest : List Value} : (born h C rest).get? (h.objs.size + 1) = some (excO C h.objs.size) := by heap_get
/-- ValueError.__new__(C, .., k = v, ..) -/
theorem kw_born (T : EClass K C) (X : K.In h) {rest : List Value} {kw : List (Str × Value)} (hz : rest.length ≤ sizeLine)
    (hq : R (.ok (.ret (.ref (h.objs.size + 1)))) ⟨born h C rest, g, d, t, os⟩) : codeAny (model prog w) A (.call (.builtin "ValueError.__new__") ⟨.ref C :: rest, kw⟩) R ⟨h, g, d, t, os⟩ := by
  obtain ⟨nm, q, N, bs, bm, sn, sub, ab, col, dd, k0, k1, k2, k3, k5, hK, hbm⟩ := T.cls
  have hC := X _ _ hK
  have FV := F.excBase_ValueError
  have ends := FV.ends
  have on : ∀ Y : String, (Value.ref C :: bm).contains (.type Y) = veTail.contains (.type Y) := fun Y => by rw [List.contains_cons, refsVE_contains Y bm hbm]; rfl
  have yV := (on "ValueError").trans FV.hasB
  have yA := (on "AttributeError").trans FV.noAttr
  have yN := (on "NameError").trans FV.noName
  refine codeAny_call_builtin_code (Code.quiet_builtin _ FV.quiet) ?_
  have star := FV.noStar
  have last : codeAny (model prog w) A (.builtin "ValueError.__new__" ⟨.ref C :: rest, kw⟩) R ⟨h, g, d, t, os⟩ := ?_
  · simp only [checkBuiltinCall, FV.newKind, FV.newSplit, FV.newRow]
    repeat (first | exact last | refine wpAny_loadPart_at hC ?_ | (refine wpAny_isSubtype_exc hC ?_; rw [yV]) | refine wpAny_staticBase_exc hC ?_ | refine wpAny_madeBy_exc hC ?_ | simp only [bne_self_eq_false, Bool.false_eq_true, if_false] | wp_step)
  · refine codeAny_builtinAt FV.entry ?_
    unfold Builtin.«BaseException.__new__»
    refine wpAt_bind ?_
    show wpAt _ _ _ (stack >>= _) _ _ _
    refine wpAt_bind (wpAt_stack fun p below => wpAt_of_wpAny ?_)
    wp_walk
    refine wpAt_of_wpAny ?_
    rw [FV.owner]
    repeat (first | with_reducible refine wpAny_madeHere_exc FV.canon hC ?_ | with_reducible refine wpAny_loadPart_at hC ?_ | (with_reducible refine wpAny_isSubtype_exc hC ?_; first | rw [yV] | rw [yA] | rw [yN]) | wp_step)
    show R _ _
    rw [Heap.size_push]
    exact hq
/-- C(.., k = v, ..): the newborn, then its own __init__ -/
theorem kw_call (T : EClass K C) (X : K.In h) {rest : List Value} {kw : List (Str × Value)} (hz : rest.length ≤ sizeLine)
    (iC : findIn K (.ref C) "__init__" = some (some (.ref fI))) (tI : typeIn K (.ref fI) = some (.type "function"))
    (hq : codeAny (model prog w) (A.under (.builtin "type.__call__" ⟨.ref C :: rest, kw⟩)) (.call (.ref fI) ⟨.ref (h.objs.size + 1) :: rest, kw⟩) (W.InitBack (h.objs.size + 1) R) ⟨born h C rest, g, d, t, os⟩) :
    codeAny (model prog w) A (.call (.ref C) ⟨rest, kw⟩) R ⟨h, g, d, t, os⟩ := by
  obtain ⟨nm, q, N, bs, bm, sn, sub, ab, col, dd, k0, k1, k2, k3, k5, hK, hbm⟩ := T.cls
  have hC := X _ _ hK
  have hC2 := born_keeps (C := C) (rest := rest) _ _ hC
  have l1 := tc_lookup
  have l2 := tc_bind (.ref C)
  have l3 := tc_sub
  have ty : (⟨h, g, d, t, os⟩ : Shared).TypeIs (.ref C) "type" := ⟨_, hC, rfl⟩
  have own : (Value.ref C :: bm).contains (.ref C) = true := by simp
  have look := (looks_findIn (M := model prog w) X iC).keeps (born_keeps (C := C) (rest := rest))
  have bind := (bind_fn (M := model prog w) X (.ref (h.objs.size + 1)) tI).keeps (born_keeps (C := C) (rest := rest))
  refine codeAny_of_tree ?_
  show wpAny _ _ (callAny (.ref C) _) _ _ _
  repeat (any_goals (first | assumption | with_reducible refine wpAny_loadPart_at hC ?_ | wp_step))
  refine ⟨rfl, codeAny_call_builtin_at (Code.quiet_builtin _ (by decide +kernel)) entry_typeCall ?_⟩
  simp only [checkBuiltinCall, tc_kind, tc_split]
  repeat (any_goals (first | assumption | with_reducible refine wpAny_loadPart_at hC ?_ | with_reducible refine wpAny_onRaise ?_ | with_reducible refine wpAny_map ?_ | with_reducible refine wpAny_madeBy_exc hC ?_ | wp_step))
  refine kw_born T X hz ?_
  show wpAny _ _ _ _ _ ⟨born h C rest, g, d, t, os⟩
  have new := born_at (h := h) (C := C) (rest := rest)
  unfold isInstance
  repeat (first | with_reducible refine wpAny_loadPart_at new ?_ | (with_reducible refine wpAny_isSubtype_exc hC2 ?_; rw [own]) | wp_step)
  show wpAny _ _ (typeLookup (.ref C) _) _ _ _
  refine look.at (wpAny_holding (wpAny_bind (bind.at (wpAny_bind (wpAny_call (codeAny_mono hq fun r s' z => ?_))))))
  rcases r with e | (v | _ | _ | _) <;> first | exact z | exact z.elim | skip
  obtain ⟨rfl, z⟩ := z
  first
    | exact wpAny_pure (wpAny_pure z)
    | (wp_walk; exact z)
end
end PySem.EqX
namespace EqX
open PySem PySem.Spec PyProof.Rows L2 PySem.EqX
/-- C(k1 = e1, ..): all by keywords -/
def tExK (C : Addr) (ks : List Str) (sp : Sp) (tk : TA) : TE := fun σ H Q => tk σ H fun vs H1 => vs.length = ks.length ∧ ∀ a, H1 a = none → sp (.ref a :: vs) (upd H1 a (exo a C none)) (fun v H2 => v = .non ∧ Q (.ref a) H2) (fun _ _ _ => False)
section
variable {X : Cx} {p pos : Pos} {kws : List Keyword} {tk : TA}
theorem pe_exK {CX : CXT} {x : Str} {C fI : Addr} {k : Nat} {fd : FuncData} {ps ks : List Str} {sp : Sp} (T : EClass X.K C) (iC : PySem.W.findIn X.K (.ref C) "__init__" = some (some (.ref fI))) (tI : PySem.W.typeIn X.K (.ref fI) = some (.type "function"))
    (F1 : FnOk X.prog X.w X.K X.mg X.base CX k fI fd ps sp) (hr : Room (k + 1) X.A) (hb : ∀ (s : Shared) (u : Value) (ws : List Value), ws.length = ks.length → BindsTo s fd ⟨[u], ks.zip ws⟩ (ps.zip (u :: ws))) (hx : Passes CX X (fun _ _ _ => False)) (hg : Gl X x) (hm : X.mg x = some (.ref C)) (hkw : PK X kws tk)
    (hall : (backToKw pos (keywordEach kws X.env)).all (·.1.isSome) = true := by rfl) (hks : (backToKw pos (keywordEach kws X.env)).filterMap (·.1) = ks := by rfl) (hdb : (x == ("__debug__" : Str)) = false := by decide)
    (hpl : ((backTo pos (starEach [] X.env)).any (·.1) || (backToKw pos (keywordEach kws X.env)).any (·.1.isNone)) = false := by rfl) :
    PE X (.Call (.Name x p) [] kws pos) (tExK C ks sp tk) := by
  refine ⟨fun pins s σ H Q I h => ?_⟩
  refine wpAny_Call_Name_kw (ld_glob I hg hm ?_ hdb)
  refine PySem.W.callWith_KW0 (h₀ := X.base) I.ok.mod.kin T.kC hall ?_ hpl
  refine thn (hkw.run pos pins s σ H _ I h) fun ws s2 ⟨zs, H2, I2, rz, l, q2⟩ => ⟨I2.kIn, ?_⟩
  rw [hks]
  show wpAny _ _ (call (.ref C) [] (ks.zip ws)) _ _ _
  obtain ⟨hp, g, dr, t, os⟩ := s2
  have fresh : hp.objs.size ≤ hp.objs.size + 1 := Nat.le_succ _
  have hn : H2 (hp.objs.size + 1) = none := I2.hok.fresh fresh
  have hq := q2 (hp.objs.size + 1) hn
  have J : Inv X pins σ (upd H2 (hp.objs.size + 1) (exo (hp.objs.size + 1) C none)) ⟨born hp C [], g, dr, t, os⟩ := I2.laid (t' := t) (o := exo (hp.objs.size + 1) C none) born_keeps fresh (exo_ok born_at)
  have rv : Vals (V.ref (hp.objs.size + 1) :: zs) (Value.ref (hp.objs.size + 1) :: ws) := .cons rfl rz
  refine wpAny_call (kw_call T I2.kIn (by show 0 ≤ sizeLine; omega) iC tI (codeAny_mono (F1.run _ X.stack _ _ ⟨[Value.ref (hp.objs.size + 1)], ks.zip ws⟩ (Value.ref (hp.objs.size + 1) :: ws) _ _ (fun _ _ _ => False) (hr.make C [] (ks.zip ws)) (J.env0.make C [] (ks.zip ws)) (hb _ _ _ (rz.length.symm.trans l)) rv hq) fun r s' hq' => ?_))
  cases r with
  | error er => exact hx pins σ _ _ er s' J hq'
  | ok fl =>
    cases fl with
    | ret u =>
      obtain ⟨v, H', I3, rv, ev, q3⟩ := J.after hq'
      subst ev
      exact ⟨rv, ⟨V.ref (hp.objs.size + 1), H', I3, rfl, q3⟩⟩
    | next => exact False.elim hq'
    | brk => exact False.elim hq'
    | cont => exact False.elim hq'
end
end EqX

set_option Elab.async false
set_option linter.all false
set_option maxRecDepth 100000
set_option maxHeartbeats 4000000
/-! Promises of defs that show things (repr asks that no guard stands around), data with empty dicts, repr of it. -/
namespace EqX
open PySem PySem.Spec PyProof.Rows L2
/-! ### defs in whose run no repr is around -/
structure FnG (P : Program) (w : World) (K : PySem.W.Frag) (mg : Str → Option Value) (base : Heap) (CX : CXT) (k : Nat) (f : Addr) (fd : FuncData) (ps : List Str) (sp : Sp) : Prop where
  len : ∀ vs H Q E, sp vs H Q E → vs.length = ps.length
  run : ∀ (A : Around) (outer : List Env) (s : Shared) (H : Hp) (args : Args) (us : List Value) (vs : List V) (Q : VK) (E : XK), Room k A → A.guards = some [] → Env0 P w K mg base A outer s H → BindsTo s fd args (ps.zip us) → Vals vs us → sp vs H Q E →
    codeAny (model P w) A (.call (.ref f) args) (CR CX outer P w H s Q E) s
section
variable {P : Program} {w : World} {K : PySem.W.Frag} {mg : Str → Option Value} {base : Heap} {x qual : Str} {params : Arguments} {body : List Stmt} {scope : Scope} {dvs : List V} {kws : List (Str × V)} {f : Addr} {fd : FuncData}
theorem fnG_of_ok {CX : CXT} {k : Nat} {ps : List Str} {sp : Sp} (F : FnOk P w K mg base CX k f fd ps sp) : FnG P w K mg base CX k f fd ps sp := ⟨F.len, fun A outer s H args us vs Q E hr _ => F.run A outer s H args us vs Q E hr⟩
theorem FnG.imp {CX : CXT} {k : Nat} {ps : List Str} {sp sp' : Sp} (F : FnG P w K mg base CX k f fd ps sp) (h : ∀ vs H Q E, sp' vs H Q E → sp vs H Q E) : FnG P w K mg base CX k f fd ps sp' :=
  ⟨fun vs H Q E q => F.len vs H Q E (h _ _ _ _ q), fun A outer s H args us vs Q E hr hg he hb hv hs => F.run A outer s H args us vs Q E hr hg he hb hv (h _ _ _ _ hs)⟩
/-- the rule for such a def -/
theorem okG {CX : CXT} {N ps : List Str} {k : Nat} {sp : Sp} (F : FunD K x qual params body scope dvs kws f fd) (S : FnScope N ps scope) (len : ∀ vs H Q E, sp vs H Q E → vs.length = ps.length)
    (hbody : ∀ (cdv : Value) (A : Around) (outer : List Env) (s : Shared) (H : Hp) (vs : List V) (Q : VK) (E : XK), Room k (A.deeper (envOfC qual scope s.heap.objs.size f cdv)) → A.guards = some [] → sp vs H Q E →
      ∃ t, PSs (cxOf CX P w K mg base N qual scope f cdv A outer s H E) body t ∧ t { nx := fun _ H' => Q .non H', rt := Q } (start N vs) H) : FnG P w K mg base CX (k + 1) f fd ps sp := by
  obtain ⟨oc, od, dV, kV, doc, pm, an, cdv, ct, osl, rfl, lk, hcd, _, _⟩ := F.ex
  exact ⟨len, fun A outer s H args us vs Q E hr hg e0 hb r hsp => LamX.run_ofS lk hcd S hr e0 hb r (len _ _ _ _ hsp) fun hr' => hbody cdv A outer s H vs Q E hr' hg hsp⟩
end
section
variable {X : Cx} {CX : CXT} {k : Nat} {f : Addr} {fd : FuncData} {ps : List Str} {sp : Sp} {dvs : List V} {ds : List Value} {E : XK} {x : Str} {p pos : Pos} {e : Expr} {es : List Expr} {t : TA}
theorem pe_callG (F : FnG X.prog X.w X.K X.mg X.base CX k f fd ps sp) (hr : Room k X.A) (hgd : X.A.guards = some []) (hg : Gl X x) (hm : X.mg x = some (.ref f)) (hk : PySem.W.keepIn X.K (.ref f) = true) (hb : Binds X.K fd ps ds) (hd : Vals dvs ds) (hx : Passes CX X E)
    (ha : PA X (e :: es) t) (hdb : (x == ("__debug__" : Str)) = false := by decide) (he : starEach (e :: es) X.env = (false, eval e X.env) :: starEach es X.env := by rfl) (hpl : (backTo pos (starEach es X.env)).any (·.1) = false := by rfl) :
    PE X (.Call (.Name x p) (e :: es) [] pos) (tCall sp dvs E t) := by
  refine ⟨fun pins s σ H Q I h => wpAny_Call_Name_kw (ld_glob I hg hm ?_ hdb)⟩
  refine PySem.W.callWith_K (h₀ := X.base) I.ok.mod.kin hk (thn (ha.run pos pins s σ H _ I h) fun us s1 ⟨vs, H1, I1, r, q⟩ => ⟨I1.kIn, ?_⟩) he hpl
  have r2 := r.append hd
  have hl : (us ++ ds).length = ps.length := r2.length.symm.trans (F.len _ _ _ _ q)
  refine wpAny_call (codeAny_mono (F.run X.A X.stack s1 H1 ⟨us, []⟩ (us ++ ds) (vs ++ dvs) Q E hr hgd I1.env0 (hb s1 us I1.kIn hl) r2 q) fun r s' hq => ?_)
  match r, hq with
  | .error er, hq => exact hx pins σ H1 s1 er s' I1 hq
  | .ok (.ret u), hq => exact I1.after hq
  | .ok .next, hq => exact False.elim hq
  | .ok .brk, hq => exact False.elim hq
  | .ok .cont, hq => exact False.elim hq
end
/-! ### data, the empty dict too -/
mutual
inductive Dz (K : PySem.W.Frag) (H : Hp) : V → PyData → Prop
  | non : Dz K H .non .none
  | bl (b : Bool) : Dz K H (.bl b) (.bool b)
  | int (i : Int) : Dz K H (.int i) (.int i)
  | str (x : Str) : Dz K H (.str x) (.str x)
  | lst {a : Addr} {xs : List V} {ds : List PyData} : SqL K H a xs → DzAll K H xs ds → Dz K H (.ref a) (.list ds)
  | tup {a : Addr} {xs : List V} {ds : List PyData} : SqT K H a xs → DzAll K H xs ds → Dz K H (.ref a) (.tuple ds)
  | dk0 {a : Addr} : H a = some (.dK []) → Dz K H (.ref a) (.dict [])
inductive DzAll (K : PySem.W.Frag) (H : Hp) : List V → List PyData → Prop
  | nil : DzAll K H [] []
  | cons {v : V} {vs : List V} {d : PyData} {ds : List PyData} : Dz K H v d → DzAll K H vs ds → DzAll K H (v :: vs) (d :: ds)
end
/-- no dict stands at the address of sys.modules among what is read -/
def Far (h : Heap) (as : List Addr) : Prop := ∀ b ∈ as, (∃ o, h.get? b = some o ∧ o.cls = .type "list") ∨ b ≠ sysModules
section
variable {X : Cx} {pins : List (Addr × Obj)} {σ : L2.St} {H : Hp} {s : Shared}
mutual
theorem Dz.reads (I : Inv X pins σ H s) : ∀ (d : PyData) (v : V) (u : Value), Dz X.K H v d → RelV v u → ∃ as, Reads s.heap u d as ∧ Far s.heap as
  | .none, _, _, h, r => by
    cases h
    cases r
    exact ⟨_, Reads.none, fun b hb => nomatch hb⟩
  | .bool b, _, _, h, r => by
    cases h
    cases r
    exact ⟨_, Reads.bool b, fun b hb => nomatch hb⟩
  | .int i, _, _, h, r => by
    cases h
    obtain ⟨t, rfl⟩ := r
    exact ⟨_, Reads.int i t, fun b hb => nomatch hb⟩
  | .str x, _, _, h, r => by
    cases h
    obtain ⟨t, rfl⟩ := r
    exact ⟨_, Reads.str x t, fun b hb => nomatch hb⟩
  | .list ds, _, _, h, r => by
    cases h with
    | lst hs ha =>
      cases r
      obtain ⟨its, rv, ⟨o, n, ho, hc, _, hd⟩, _⟩ := I.list hs
      obtain ⟨as, hr, far⟩ := Dz.readsAll I ds _ its ha rv
      refine ⟨_, Reads.list ho hc hd hr, fun b hb => ?_⟩
      rcases List.mem_cons.mp hb with e | hb
      · exact .inl ⟨o, by rw [e]; exact ho, hc⟩
      · exact far b hb
  | .tuple ds, _, _, h, r => by
    cases h with
    | tup hs ha =>
      cases r
      obtain ⟨its, rv, ⟨o, ho, hc, n, hd⟩, _⟩ := I.tuple hs
      obtain ⟨as, hr, far⟩ := Dz.readsAll I ds _ its ha rv
      exact ⟨_, Reads.tuple ho hc hd hr, far⟩
  | .dict kvs, _, _, h, r => by
    cases h with
    | dk0 e =>
      cases r
      obtain ⟨_, nsys, vs, rel, o, es, ep, ho, hx, hd, hes⟩ := (show ObjOk X.prog X.w H s.heap _ (.dK []) from I.hok _ _ e)
      cases rel
      have es0 : es.toList = [] := by
        obtain ⟨_, pr, _⟩ := hes
        have z : es.toList.length = 0 := pr.length
        exact List.eq_nil_of_length_eq_zero z
      refine ⟨_, Reads.dict ho hx.1 hd (by rw [es0]; exact ReadsAll.nil) (by rw [es0]; exact ReadsAll.nil), fun b hb => ?_⟩
      rcases List.mem_cons.mp hb with e | hb
      · exact .inr (by rw [e]; exact beq_eq_false_iff_ne.mp nsys)
      · exact absurd hb (by simp)
theorem Dz.readsAll (I : Inv X pins σ H s) : ∀ (ds : List PyData) (vs : List V) (us : List Value), DzAll X.K H vs ds → Vals vs us → ∃ as, ReadsAll s.heap us ds as ∧ Far s.heap as
  | [], _, _, h, r => by
    cases h
    cases r
    exact ⟨_, ReadsAll.nil, fun b hb => nomatch hb⟩
  | d :: ds, _, _, h, r => by
    cases h with
    | cons h1 h2 =>
      cases r with
      | cons r1 r2 =>
        obtain ⟨as, q1, f1⟩ := Dz.reads I d _ _ h1 r1
        obtain ⟨bs, q2, f2⟩ := Dz.readsAll I ds _ _ h2 r2
        exact ⟨_, ReadsAll.cons q1 q2, fun b hb => (List.mem_append.mp hb).elim (f1 b) (f2 b)⟩
end
/-- what repr wants of data -/
structure Shows (d : PyData) : Prop where
  ok : d.showable = true
  dp : d.depth ≤ 60
  sz : d.shown.length ≤ sizeLine
def rRepr (K : PySem.W.Frag) : List V → Hp → VK → Prop := fun xs H Q => ∃ x d, xs = [x] ∧ Dz K H x d ∧ Shows d ∧ Q (.str d.shown) H
end
section
variable {X : Cx}
theorem call_repr {k : Nat} (hr : Room k X.A) (hg : X.A.guards = some []) (hsys : ∃ o, X.K.lookup sysModules = some o ∧ o.cls ≠ .type "list") : CallR X (.builtin "repr") (rRepr X.K) := by
  intro pins s σ H xs us Q I r h
  obtain ⟨x, d, rfl, hd, S, q⟩ := h
  obtain ⟨u, rfl, ru⟩ := vals1 r
  have J : ∀ t, EP X pins σ Q (.str d.shown t) { s with toks := s.toks + 1 } := fun t => ⟨.str d.shown, H, I.tok _, ⟨_, rfl⟩, q⟩
  have far : ∀ {a : Addr} {as : List Addr}, Far s.heap as → sysModules ∉ as := fun {a as} f hm => by
    rcases f _ hm with ⟨o, ho, hc⟩ | z
    · obtain ⟨o', e', nc⟩ := hsys
      have z := I.kIn _ _ e'
      rw [ho] at z
      cases z
      exact nc hc
    · exact z rfl
  have ref : ∀ a : Addr, u = .ref a → Dz X.K H x d → wpAny (model X.prog X.w) X.A (call (.builtin "repr") [u]) (EP X pins σ Q) X.xe s := fun a e hz => by
    subst e
    obtain ⟨as, hr', hf⟩ := Dz.reads I d x _ hz ru
    refine repr_of_reads' hr' S.ok (fun _ => far (a := a) hf) hg (by have := hr.un; have := S.dp; omega) (fun _ _ z => z) (fun h' t' tk' kp => ?_) S.sz
    exact ⟨.str d.shown, H, I.kept kp, ⟨_, rfl⟩, q⟩
  cases hd with
  | non =>
    cases ru
    exact PySem.P.repr_of_none (J _)
  | bl b =>
    cases ru
    exact PySem.P.repr_of_bool (J _)
  | int i =>
    obtain ⟨t, rfl⟩ := ru
    exact PySem.P.repr_of_int (by simpa [PyData.showable] using S.ok) (J _)
  | str y =>
    obtain ⟨t, rfl⟩ := ru
    exact PySem.P.repr_of_str (J _) S.sz
  | lst h1 h2 => exact ref _ ru (.lst h1 h2)
  | tup h1 h2 => exact ref _ ru (.tup h1 h2)
  | dk0 h1 => exact ref _ ru (.dk0 h1)
end
end EqX

set_option Elab.async false
set_option linter.all false
set_option maxRecDepth 100000
set_option maxHeartbeats 4000000
/-! A def of the module, told by its name. -/
namespace EqX
open PySem PySem.Spec PyProof.Rows L2
/-- the def of the module's name x keeps sp -/
structure Df (P : Program) (w : World) (K : PySem.W.Frag) (mg : Str → Option Value) (base : Heap) (CX : CXT) (k : Nat) (x : Str) (ps : List Str) (sp : Sp) : Prop where
  ex : ∃ fd, FnOk P w K mg base CX k (He.ga K x) fd ps sp ∧ Binds K fd ps []
  gm : mg x = some (.ref (He.ga K x))
  kp : PySem.W.keepIn K (.ref (He.ga K x)) = true
/-- the same, no repr around -/
structure DfG (P : Program) (w : World) (K : PySem.W.Frag) (mg : Str → Option Value) (base : Heap) (CX : CXT) (k : Nat) (x : Str) (ps : List Str) (sp : Sp) : Prop where
  ex : ∃ fd, FnG P w K mg base CX k (He.ga K x) fd ps sp ∧ Binds K fd ps []
  gm : mg x = some (.ref (He.ga K x))
  kp : PySem.W.keepIn K (.ref (He.ga K x)) = true
/-- where a def stands, and what binds its parameters -/
structure At (K : PySem.W.Frag) (mg : Str → Option Value) (x : Str) (st : Stmt) : Prop where
  fn : ∃ fd, FunD K x x (defArgs st) (defBody st) (defScope st) [] [] (He.ga K x) fd
  gm : mg x = some (.ref (He.ga K x))
section
variable {P : Program} {w : World} {K : PySem.W.Frag} {mg : Str → Option Value} {base : Heap} {CX : CXT} {k : Nat} {x : Str} {N ps : List Str} {sp : Sp} {st : Stmt}
theorem Df.g (D : Df P w K mg base CX k x ps sp) : DfG P w K mg base CX k x ps sp := ⟨let ⟨fd, F, b⟩ := D.ex; ⟨fd, fnG_of_ok F, b⟩, D.gm, D.kp⟩
theorem df_of (A : At K mg x st) (S : FnScope N ps (defScope st))
    (hb : ∀ (kV doc pm : Value) (an : Option Addr) (cdv ct : Value) (us : List Value), us.length = ps.length → bindArgs (PySem.W.fnOf x x (defArgs st) (defBody st) (defScope st) .none kV doc pm an cdv ct) ⟨us, []⟩ = pure (ps.zip us))
    (len : ∀ vs H Q E, sp vs H Q E → vs.length = ps.length)
    (hbody : ∀ (f : Addr) (cdv : Value) (A : Around) (outer : List Env) (s : Shared) (H : Hp) (vs : List V) (Q : VK) (E : XK), Room k (A.deeper (envOfC x (defScope st) s.heap.objs.size f cdv)) → sp vs H Q E →
      ∃ t, PSs (cxOf CX P w K mg base N x (defScope st) f cdv A outer s H E) (defBody st) t ∧ t { nx := fun _ H' => Q .non H', rt := Q } (start N vs) H) : Df P w K mg base CX (k + 1) x ps sp := by
  obtain ⟨fd, F⟩ := A.fn
  have b := F.bindsN hb
  exact ⟨⟨fd, F.ok S len fun cdv A outer s H vs Q E hr h => hbody _ cdv A outer s H vs Q E hr h, b⟩, A.gm, F.kp⟩
theorem dfG_of (A : At K mg x st) (S : FnScope N ps (defScope st))
    (hb : ∀ (kV doc pm : Value) (an : Option Addr) (cdv ct : Value) (us : List Value), us.length = ps.length → bindArgs (PySem.W.fnOf x x (defArgs st) (defBody st) (defScope st) .none kV doc pm an cdv ct) ⟨us, []⟩ = pure (ps.zip us))
    (len : ∀ vs H Q E, sp vs H Q E → vs.length = ps.length)
    (hbody : ∀ (f : Addr) (cdv : Value) (A : Around) (outer : List Env) (s : Shared) (H : Hp) (vs : List V) (Q : VK) (E : XK), Room k (A.deeper (envOfC x (defScope st) s.heap.objs.size f cdv)) → A.guards = some [] → sp vs H Q E →
      ∃ t, PSs (cxOf CX P w K mg base N x (defScope st) f cdv A outer s H E) (defBody st) t ∧ t { nx := fun _ H' => Q .non H', rt := Q } (start N vs) H) : DfG P w K mg base CX (k + 1) x ps sp := by
  obtain ⟨fd, F⟩ := A.fn
  have b := F.bindsN hb
  exact ⟨⟨fd, okG F S len fun cdv A outer s H vs Q E hr hg h => hbody _ cdv A outer s H vs Q E hr hg h, b⟩, A.gm, F.kp⟩
end
section
variable {X : Cx} {CX : CXT} {k : Nat} {x : Str} {ps : List Str} {sp : Sp} {E : XK} {p pos : Pos} {e : Expr} {es : List Expr} {t : TA}
theorem pe_dfX (D : Df X.prog X.w X.K X.mg X.base CX k x ps sp) (hr : Room k X.A) (hx : Passes CX X E) (ha : PA X (e :: es) t) (hg : Gl X x := by rfl) (hdb : (x == ("__debug__" : Str)) = false := by decide)
    (he : starEach (e :: es) X.env = (false, eval e X.env) :: starEach es X.env := by rfl) (hpl : (backTo pos (starEach es X.env)).any (·.1) = false := by rfl) : PE X (.Call (.Name x p) (e :: es) [] pos) (tCall sp [] E t) := by
  obtain ⟨fd, F, b⟩ := D.ex
  exact pe_call F hr hg D.gm D.kp b .nil hx ha hdb he hpl
theorem pe_df (D : Df X.prog X.w X.K X.mg X.base CX0 k x ps sp) (hr : Room k X.A) (ha : PA X (e :: es) t) (hg : Gl X x := by rfl) (hdb : (x == ("__debug__" : Str)) = false := by decide)
    (he : starEach (e :: es) X.env = (false, eval e X.env) :: starEach es X.env := by rfl) (hpl : (backTo pos (starEach es X.env)).any (·.1) = false := by rfl) : PE X (.Call (.Name x p) (e :: es) [] pos) (tCall sp [] E0 t) :=
  pe_dfX D hr pass0 ha hg hdb he hpl
theorem pe_dfG (D : DfG X.prog X.w X.K X.mg X.base CX0 k x ps sp) (hr : Room k X.A) (hgd : X.A.guards = some []) (ha : PA X (e :: es) t) (hg : Gl X x := by rfl) (hdb : (x == ("__debug__" : Str)) = false := by decide)
    (he : starEach (e :: es) X.env = (false, eval e X.env) :: starEach es X.env := by rfl) (hpl : (backTo pos (starEach es X.env)).any (·.1) = false := by rfl) : PE X (.Call (.Name x p) (e :: es) [] pos) (tCall sp [] E0 t) := by
  obtain ⟨fd, F, b⟩ := D.ex
  exact pe_callG F hr hgd hg D.gm D.kp b .nil pass0 ha hdb he hpl
end
/-! ### the draws: a list of three numbers -/
abbrev bigM : Int := 2147483549
abbrev purseL (f s t : Int) : List V := [.int f, .int s, .int t]
/-- at d a purse of draws -/
def Purse (H : Hp) (d : Addr) : Prop := ∃ f s t : Int, H d = some (.lst (purseL f s t)) ∧ 0 ≤ f ∧ 0 ≤ s ∧ s < bigM
/-- _law_take(draws, many) -/
def spTake : Sp := fun vs H Q _ => ∃ (d : Addr) (m : Int), vs = [.ref d, .int m] ∧ Purse H d ∧ 0 < m ∧ m < 1000000 ∧ ∀ (r f s t : Int), 0 ≤ r → r < m → 0 ≤ f → 0 ≤ s → s < bigM → Q (.int r) (upd H d (.lst (purseL f s t)))
/-- _law_pick(draws, some): one of a tuple's or list's things -/
def spPick (K : PySem.W.Frag) : Sp := fun vs H Q _ => ∃ (d a : Addr) (xs : List V), vs = [.ref d, .ref a] ∧ Purse H d ∧ (SqL K H a xs ∨ SqT K H a xs) ∧ a ≠ d ∧ xs ≠ [] ∧ xs.length < 1000000 ∧ ∀ (v : V) (f s t : Int), v ∈ xs → 0 ≤ f → 0 ≤ s → s < bigM → Q v (upd H d (.lst (purseL f s t)))
/-- _law_purse(cells, at) -/
def spPurse (K : PySem.W.Frag) : Sp := fun vs H Q _ => ∃ (a : Addr) (ns : List Int) (i : Nat), vs = [.ref a, .int i] ∧ SqL K H a (ns.map V.int) ∧ i ≤ 100 ∧ ns.length ≤ 63 ∧ ∀ (d : Addr) (H' : Hp), H d = none → Purse H' d → Same H H' → Q (.ref d) H'
end EqX

set_option Elab.async false
set_option linter.all false
set_option maxRecDepth 100000
set_option maxHeartbeats 4000000
/-! A reading taken apart, one word at a time. -/
namespace EqX
open PySem PySem.Spec PyProof.Rows L2
/-! calls of built-in names, their readings named -/
def rInt1 : List V → Hp → VK → Prop := fun xs H Q => (∃ i, xs = [.int i] ∧ Q (.int i) H) ∨ ∃ k, xs = [.bl k] ∧ Q (.int (if k then 1 else 0)) H
def rAbs : List V → Hp → VK → Prop := fun xs H Q => ∃ i, xs = [.int i] ∧ Q (.int (if i < 0 then -i else i)) H
def rMax2 : List V → Hp → VK → Prop := fun xs H Q => ∃ i j, xs = [.int i, .int j] ∧ Q (.int (if j > i then j else i)) H
def rMin2 : List V → Hp → VK → Prop := fun xs H Q => ∃ i j, xs = [.int i, .int j] ∧ Q (.int (if j < i then j else i)) H
def rLenS (K : PySem.W.Frag) : List V → Hp → VK → Prop := fun xs H Q => ∃ p ys, xs = [.ref p] ∧ (SqL K H p ys ∨ SqT K H p ys) ∧ Q (.int ys.length) H
def rListS (K : PySem.W.Frag) : List V → Hp → VK → Prop := fun xs H Q => ∃ p ys, xs = [.ref p] ∧ (SqL K H p ys ∨ SqT K H p ys) ∧ ∀ l, H l = none → Q (.ref l) (upd H l (.lst ys))
def rTupS (K : PySem.W.Frag) : List V → Hp → VK → Prop := fun xs H Q => ∃ p ys, xs = [.ref p] ∧ ((SqL K H p ys ∧ ∀ l, H l = none → Q (.ref l) (upd H l (.tup ys))) ∨ (SqT K H p ys ∧ Q (.ref p) H))
section
variable {X : Cx}
theorem c_int1 : CallR X (.type "int") rInt1 := call_int1
theorem c_abs : CallR X (.builtin "abs") rAbs := call_abs
theorem c_max2 (hc : X.calm = true) : CallR X (.builtin "max") rMax2 := call_max2 hc
theorem c_min2 (hc : X.calm = true) : CallR X (.builtin "min") rMin2 := call_min2 hc
theorem c_lenS : CallR X (.builtin "len") (rLenS X.K) := call_len_seq
theorem c_listS : CallR X (.type "list") (rListS X.K) := call_list_of
theorem c_tupS : CallR X (.type "tuple") (rTupS X.K) := call_tuple_of
end
section
variable {K : PySem.W.Frag} {σ : L2.St} {H : Hp} {D : Ends} {t u : TS} {te ta tb : TE} {c ca cb : TT} {tA tR : TA} {g : TG} {gs : TGs} {Q : VK} {QA : List V → Hp → Prop} {QT : Bool → Hp → Prop} {QS : L2.St → Hp → Prop} {r : R2} {i : Nat} {v x y : V} {n m : Int} {a b p : Addr} {xs ys : List V} {k : Bool} {f : Str}
theorem w_seq (h : t { D with nx := u D } σ H) : tSeq t u D σ H := h
theorem w_asg (h : te σ H fun x H1 => g x σ H1 D.nx) : tAsg te g D σ H := h
theorem w_ret (h : te σ H D.rt) : tRet te D σ H := h
theorem w_retN (h : D.rt .non H) : tRetN D σ H := h
theorem w_drop (h : te σ H fun _ H1 => D.nx σ H1) : tDrop te D σ H := h
theorem w_ifs (h : c σ H fun b H1 => if b = true then t D σ H1 else u D σ H1) : tIfS c t u D σ H := h
theorem w_next (h : D.nx σ H) : tNext D σ H := h
theorem w_name (h : QS (σ.set i (some v)) H) : gName i v σ H QS := h
theorem w_gsub {to ti : TE} {ts : TSet} (h : to σ H fun o H1 => ti σ H1 fun i H2 => ts o i v H2 fun H3 => QS σ H3) : gSub to ti ts v σ H QS := h
theorem w_var (h : σ[i]? = some (some v)) (q : Q v H) : tVar i σ H Q := ⟨v, h, q⟩
theorem w_c (q : Q v H) : tC v σ H Q := q
theorem w_op (h : ta σ H fun x H1 => tb σ H1 fun y H2 => r x y H2 Q) : tOp r ta tb σ H Q := h
theorem w_un {r : V → Hp → VK → Prop} (h : ta σ H fun x H1 => r x H1 Q) : tUn r ta σ H Q := h
theorem w_cb {r : List V → Hp → VK → Prop} (h : tA σ H fun vs H1 => r vs H1 Q) : tCB r tA σ H Q := h
theorem w_call {sp : Sp} {E : XK} (h : tA σ H fun vs H1 => sp vs H1 Q E) : tCall sp [] E tA σ H Q := by
  show tA σ H fun vs H1 => sp (vs ++ []) H1 Q E
  have e : (fun (vs : List V) (H1 : Hp) => sp (vs ++ []) H1 Q E) = fun vs H1 => sp vs H1 Q E := by
    funext vs H1
    rw [List.append_nil]
  rw [e]
  exact h
theorem w_nil (h : QA [] H) : tNil σ H QA := h
theorem w_cons (h : ta σ H fun x H1 => tR σ H1 fun xs H2 => QA (x :: xs) H2) : tCons ta tR σ H QA := h
theorem w_test (h : te σ H fun x H1 => ∃ k, x = .bl k ∧ QT k H1) : tTest te σ H QT := h
theorem w_b (h : te σ H fun x H1 => ∃ k, x = .bl k ∧ QT k H1) : tB te σ H QT := h
theorem w_bl (h : QT k H) : ∃ j, V.bl k = .bl j ∧ QT j H := ⟨k, rfl, h⟩
theorem w_not (h : c σ H fun b H1 => QT (!b) H1) : tNot c σ H QT := h
theorem w_and (h : ca σ H fun b H1 => if b = true then cb σ H1 QT else QT false H1) : tAnd ca cb σ H QT := h
theorem w_or (h : ca σ H fun b H1 => if b = true then QT true H1 else cb σ H1 QT) : tOr ca cb σ H QT := h
theorem w_if (h : c σ H fun b H1 => if b = true then ta σ H1 Q else tb σ H1 Q) : tIf c ta tb σ H Q := h
theorem w_andV (h : ta σ H fun x H1 => ∃ c, x = .bl c ∧ if c = true then tb σ H1 Q else Q (.bl false) H1) : tAndV ta tb σ H Q := h
theorem w_orV (h : ta σ H fun x H1 => ∃ c, x = .bl c ∧ if c = true then Q (.bl true) H1 else tb σ H1 Q) : tOrV ta tb σ H Q := h
theorem w_blV {P : Bool → Prop} (h : P k) : ∃ c, V.bl k = .bl c ∧ P c := ⟨k, rfl, h⟩
theorem w_notV (h : ta σ H fun x H1 => ∃ c, x = .bl c ∧ Q (.bl (!c)) H1) : tNotV ta σ H Q := h
theorem w_I0 {g : Int → Int → V} (h : Q (g n m) H) : rI0 g (.int n) (.int m) H Q := ⟨n, m, rfl, rfl, h⟩
theorem w_I {C : Int → Int → Prop} {g : Int → Int → V} (hc : C n m) (h : Q (g n m) H) : rI C g (.int n) (.int m) H Q := ⟨n, m, rfl, rfl, hc, h⟩
theorem w_mulL {g : Int → Int → V} (hc : -18446744073709551616 < n ∧ n < 18446744073709551616) (h : Q (g n m) H) : rI CMul g (.int n) (.int m) H Q := ⟨n, m, rfl, rfl, .inl hc, h⟩
theorem w_mulR {g : Int → Int → V} (hc : -18446744073709551616 < m ∧ m < 18446744073709551616) (h : Q (g n m) H) : rI CMul g (.int n) (.int m) H Q := ⟨n, m, rfl, rfl, .inr hc, h⟩
theorem w_pow {g : Int → Int → V} (hc : (0 ≤ m ∧ m ≤ 1000000) ∧ n.natAbs < 18446744073709551616) (h : Q (g n m) H) : rI CPow g (.int n) (.int m) H Q := ⟨n, m, rfl, rfl, ⟨hc.1.1, hc.1.2, hc.2⟩, h⟩
theorem w_neg {g : Int → V} (h : Q (g n) H) : rU g (.int n) H Q := ⟨n, rfl, h⟩
theorem w_eq (hs : scal x y = true) (h : Q (.bl (decide (x = y))) H) : rEq x y H Q := ⟨hs, h⟩
theorem w_ne (hs : scal x y = true) (h : Q (.bl (!decide (x = y))) H) : rNe x y H Q := ⟨hs, h⟩
theorem w_int1 (h : Q (.int n) H) : rInt1 [.int n] H Q := .inl ⟨n, rfl, h⟩
theorem w_abs (h : Q (.int (if n < 0 then -n else n)) H) : rAbs [.int n] H Q := ⟨n, rfl, h⟩
theorem w_max2 (h : Q (.int (if m > n then m else n)) H) : rMax2 [.int n, .int m] H Q := ⟨n, m, rfl, h⟩
theorem w_min2 (h : Q (.int (if m < n then m else n)) H) : rMin2 [.int n, .int m] H Q := ⟨n, m, rfl, h⟩
theorem w_lenL (hs : SqL K H p ys) (h : Q (.int (ys.length : Int)) H) : rLenS K [.ref p] H Q := ⟨p, ys, rfl, .inl hs, h⟩
theorem w_lenT (hs : SqT K H p ys) (h : Q (.int (ys.length : Int)) H) : rLenS K [.ref p] H Q := ⟨p, ys, rfl, .inr hs, h⟩
theorem w_tupL (hs : SqL K H p ys) (h : ∀ l, H l = none → Q (.ref l) (upd H l (.tup ys))) : rTupS K [.ref p] H Q := ⟨p, ys, rfl, .inl ⟨hs, h⟩⟩
theorem w_listT (hs : SqT K H p ys) (h : ∀ l, H l = none → Q (.ref l) (upd H l (.lst ys))) : rListS K [.ref p] H Q := ⟨p, ys, rfl, .inr hs, h⟩
theorem w_listL (hs : SqL K H p ys) (h : ∀ l, H l = none → Q (.ref l) (upd H l (.lst ys))) : rListS K [.ref p] H Q := ⟨p, ys, rfl, .inl hs, h⟩
theorem w_ixL (hs : SqL K H p ys) (ha : atI ys n = some v) (h : Q v H) : rIxL K (.ref p) (.int n) H Q := ⟨p, ys, n, v, rfl, rfl, hs, ha, h⟩
theorem w_ixT (hs : SqT K H p ys) (ha : atI ys n = some v) (h : Q v H) : rIxT K (.ref p) (.int n) H Q := ⟨p, ys, n, v, rfl, rfl, hs, ha, h⟩
theorem w_setL {QH : Hp → Prop} {j : Nat} (hl : H p = some (.lst xs)) (hi : ixN xs.length n = some j) (h : QH (upd H p (.lst (xs.set j v)))) : rSetL (.ref p) (.int n) v H QH := ⟨p, xs, n, j, rfl, rfl, hl, hi, h⟩
theorem w_unl {k : Nat} (hs : SqL K H p xs) (hl : xs.length = k) (h : gs xs σ H QS) : gUnl K k gs (.ref p) σ H QS := ⟨p, xs, rfl, hs, hl, h⟩
theorem w_untup {k : Nat} (hs : SqT K H p xs) (hl : xs.length = k) (h : gs xs σ H QS) : gTup K k gs (.ref p) σ H QS := ⟨p, xs, rfl, hs, hl, h⟩
theorem w_gcons {gr : TGs} (h : g v σ H fun σ' H' => gr xs σ' H' QS) : gCons g gr (v :: xs) σ H QS := ⟨v, xs, rfl, h⟩
theorem w_gnil (h : QS σ H) : gNil [] σ H QS := ⟨rfl, h⟩
theorem w_tup (h : tA σ H fun vs H1 => vs.length ≤ sizeLine ∧ ∀ p, H1 p = none → Q (.ref p) (upd H1 p (.tup vs))) : tTup tA σ H Q := h
theorem w_lst (h : tA σ H fun vs H1 => vs.length ≤ sizeLine ∧ ∀ p, H1 p = none → Q (.ref p) (upd H1 p (.lst vs))) : tLst tA σ H Q := h
theorem w_slL {lo hi : Option Int} (hs : SqL K H p xs) (h : ∀ q, H q = none → Q (.ref q) (upd H q (.lst (cutV xs lo hi)))) : rSlL K (.ref p) lo hi H Q := ⟨p, xs, rfl, hs, h⟩
theorem w_sl {r : V → Option Int → Option Int → Hp → VK → Prop} {tl th : TO} (h : te σ H fun x H1 => tl σ H1 fun l H2 => th σ H2 fun u H3 => r x l u H3 Q) : tSl r te tl th σ H Q := h
theorem w_no {QO : Option Int → Hp → Prop} (h : QO none H) : tNoPart σ H QO := h
theorem w_part {QO : Option Int → Hp → Prop} (h : te σ H fun x H1 => ∃ i, x = .int i ∧ QO (some i) H1) : tPart te σ H QO := h
theorem w_partI {QO : Option Int → Hp → Prop} (h : QO (some n) H) : ∃ i, V.int n = .int i ∧ QO (some i) H := ⟨n, rfl, h⟩
/-- a value of which just so much is kept, the heap as it was -/
theorem w_mid (S : V → Prop) (h1 : ∀ Q : VK, (∀ v, S v → Q v H) → te σ H Q) (h2 : ∀ v, S v → Q v H) : te σ H Q := h1 Q h2
theorem w_midH (S : V → Hp → Prop) (h1 : ∀ Q : VK, (∀ v H', S v H' → Q v H') → te σ H Q) (h2 : ∀ v H', S v H' → Q v H') : te σ H Q := h1 Q h2
theorem w_midT (b : Bool) (h1 : ∀ Q : Bool → Hp → Prop, Q b H → c σ H Q) (h2 : QT b H) : c σ H QT := h1 QT h2
theorem w_midTH (S : Bool → Hp → Prop) (h1 : ∀ Q : Bool → Hp → Prop, (∀ b H', S b H' → Q b H') → c σ H Q) (h2 : ∀ b H', S b H' → QT b H') : c σ H QT := h1 QT h2
theorem w_dec {c A B : Prop} [Decidable c] (h1 : c → A) (h2 : ¬ c → B) : if decide c = true then A else B := by
  by_cases h : c
  · rw [if_pos (decide_eq_true h)]
    exact h1 h
  · rw [if_neg (by rw [decide_eq_false h]; decide)]
    exact h2 h
theorem w_true {A B : Prop} (h : A) : if true = true then A else B := h
theorem w_false {A B : Prop} (h : B) : if false = true then A else B := by
  rw [if_neg Bool.false_ne_true]
  exact h
theorem w_ifb {b : Bool} {A B : Prop} (h1 : b = true → A) (h2 : b = false → B) : if b = true then A else B := by
  cases b with
  | true => exact h1 rfl
  | false => exact w_false (h2 rfl)
theorem len_ok {n : Nat} (h : n ≤ 1000) : n ≤ sizeLine := Nat.le_trans h (by decide)
theorem w_isB {l : Bool} (h : Q (.bl (decide (k = l))) H) : rIsB (.bl k) (.bl l) H Q := ⟨k, l, rfl, rfl, h⟩
theorem w_all {bs : List Bool} (hs : SqL K H p (bs.map V.bl)) (h : Q (.bl (bs.all id)) H) : rAll K [.ref p] H Q := ⟨p, bs, rfl, hs, h⟩
theorem w_yes (h : QT true H) : tYes σ H QT := h
theorem w_setLc {wi : TI} {tt : TT} {vs : List Nat} (h : tLc wi g tt te vs σ H fun x H1 => gName i x σ H1 D.nx) : tAsg (tLc wi g tt te vs) (gName i) D σ H := h
/-- loops -/
theorem w_forL {tb : TS} (h : te σ H fun x H1 => ∃ a xs, x = .ref a ∧ SqL K H1 a xs ∧ ∃ Pv : Nat → L2.St → Hp → Prop, Pv 0 σ H1 ∧ (∀ i σ H, i ≤ xs.length → Pv i σ H → SqL K H a xs) ∧
    (∀ i x σ H, xs[i]? = some x → Pv i σ H → g x σ H fun σ2 H2 => tb { D with nx := Pv (i + 1), ct := Pv (i + 1), bk := D.nx } σ2 H2) ∧ ∀ σ H, Pv xs.length σ H → D.nx σ H) (mono : ∀ Q Q' : VK, (∀ x H1, Q x H1 → Q' x H1) → te σ H Q → te σ H Q') : tFor (iList K te) g tb D σ H :=
  mono _ _ (fun x H1 q => by
    obtain ⟨a, xs, rfl, hs, Pv, h0, hl, hb, hd⟩ := q
    exact ⟨a, rfl, ⟨xs, hs⟩, for_list Pv h0 hl hb hd⟩) h
/-- over a list that a plain reading gives -/
theorem w_forLv {tb : TS} {a : Addr} (Pv : Nat → L2.St → Hp → Prop) (hs : SqL K H a xs) (h0 : Pv 0 σ H) (hl : ∀ i σ H, i ≤ xs.length → Pv i σ H → SqL K H a xs)
    (hb : ∀ i x σ H, xs[i]? = some x → Pv i σ H → g x σ H fun σ2 H2 => tb { D with nx := Pv (i + 1), ct := Pv (i + 1), bk := D.nx } σ2 H2) (hd : ∀ σ H, Pv xs.length σ H → D.nx σ H) :
    ∃ b, V.ref a = .ref b ∧ (∃ ys, SqL K H b ys) ∧ ∃ W : Nat → Nat → L2.St → Hp → Prop, (∃ m, W 0 m σ H) ∧ ∀ i m σ H, W i m σ H →
      ((Itl K b).stop i H ∧ D.nx σ H) ∨ ((Itl K b).go i H ∧ ∃ N : L2.St → Hp → Prop, (∀ σ' H', N σ' H' → ∃ m', m' < m ∧ W (i + 1) m' σ' H') ∧ ∀ x H', (Itl K b).yld i H x H' → g x σ H' fun σ2 H2 => tb { D with nx := N, ct := N, bk := D.nx } σ2 H2) :=
  ⟨a, rfl, ⟨xs, hs⟩, for_list Pv h0 hl hb hd⟩
theorem w_forTv {tb : TS} {a : Addr} (Pv : Nat → L2.St → Hp → Prop) (hs : SqT K H a xs) (h0 : Pv 0 σ H) (hl : ∀ i σ H, i ≤ xs.length → Pv i σ H → SqT K H a xs)
    (hb : ∀ i x σ H, xs[i]? = some x → Pv i σ H → g x σ H fun σ2 H2 => tb { D with nx := Pv (i + 1), ct := Pv (i + 1), bk := D.nx } σ2 H2) (hd : ∀ σ H, Pv xs.length σ H → D.nx σ H) :
    ∃ b, V.ref a = .ref b ∧ (∃ ys, SqT K H b ys) ∧ ∃ W : Nat → Nat → L2.St → Hp → Prop, (∃ m, W 0 m σ H) ∧ ∀ i m σ H, W i m σ H →
      ((Itt K b).stop i H ∧ D.nx σ H) ∨ ((Itt K b).go i H ∧ ∃ N : L2.St → Hp → Prop, (∀ σ' H', N σ' H' → ∃ m', m' < m ∧ W (i + 1) m' σ' H') ∧ ∀ x H', (Itt K b).yld i H x H' → g x σ H' fun σ2 H2 => tb { D with nx := N, ct := N, bk := D.nx } σ2 H2) :=
  ⟨a, rfl, ⟨xs, hs⟩, for_tup Pv h0 hl hb hd⟩
theorem w_for {wi : TI} {tb : TS} (h : wi σ H fun J H1 => ∃ W : Nat → Nat → L2.St → Hp → Prop, (∃ m, W 0 m σ H1) ∧ ∀ i m σ H, W i m σ H →
      (J.stop i H ∧ D.nx σ H) ∨ (J.go i H ∧ ∃ N : L2.St → Hp → Prop, (∀ σ' H', N σ' H' → ∃ m', m' < m ∧ W (i + 1) m' σ' H') ∧ ∀ x H', J.yld i H x H' → g x σ H' fun σ2 H2 => tb { D with nx := N, ct := N, bk := D.nx } σ2 H2)) : tFor wi g tb D σ H := h
theorem w_iL {R : It → Hp → Prop} (h : te σ H fun x H1 => ∃ a, x = .ref a ∧ (∃ xs, SqL K H1 a xs) ∧ R (Itl K a) H1) : iList K te σ H R := h
theorem w_iT {R : It → Hp → Prop} (h : te σ H fun x H1 => ∃ a, x = .ref a ∧ (∃ xs, SqT K H1 a xs) ∧ R (Itt K a) H1) : iTup K te σ H R := h
theorem w_iR {R : It → Hp → Prop} (h : tA σ H fun vs H1 => ∃ j : Int, vs = [.int j] ∧ -(2 ^ 62) ≤ j ∧ j < 2 ^ 62 ∧ R (Itr 0 j.toNat) H1) : iRng1 tA σ H R := h
end
end EqX

set_option Elab.async false
set_option linter.all false
set_option maxRecDepth 100000
set_option maxHeartbeats 4000000
/-! Own errors raised by C(e), C(k = e), C(); isinstance of tracked and of caught ones, in defs called within an except suite too. -/
namespace EqX
open PySem PySem.Spec PyProof.Rows L2 L2H HotX PySem.EqX
/-! ### isinstance, tracked or pinned -/
/-- at a an exception of the class at C: a tracked one, or one of those that pn holds -/
def XAt (pn : List (Addr × Obj)) (H : Hp) (a C : Addr) : Prop :=
  (∃ d, ExAt H a C d) ∨ ∃ (o : Obj) (vs : Array Value), (a, o) ∈ pn ∧ o.cls = .ref C ∧ o.data = .fields vs ∧ ∀ dd, o.dict = some dd → ∃ fs, H dd = some (.xd fs)
theorem XAt.same {pn : List (Addr × Obj)} {H H' : Hp} {a C : Addr} (x : XAt pn H a C) (s : Same H H') : XAt pn H' a C := by
  rcases x with ⟨d, x⟩ | ⟨o, vs, h1, h2, h3, h4⟩
  · exact .inl ⟨d, x.keeps s⟩
  · exact .inr ⟨o, vs, h1, h2, h3, fun dd e => let ⟨fs, q⟩ := h4 dd e; ⟨fs, s _ _ q⟩⟩
theorem XAt.inst {X : Cx} {pins : List (Addr × Obj)} {σ : L2.St} {H : Hp} {s : Shared} {a C : Addr} (x : XAt X.pn H a C) (I : Inv X pins σ H s) : ∃ ox od, PySem.W.InstAt s.heap a ox C od := by
  rcases x with ⟨d, x⟩ | ⟨o, vs, h1, h2, h3, h4⟩
  · exact x.inst I.hok
  · obtain ⟨hget, _⟩ := I.pin (a, o) (List.mem_append.mpr (.inl h1))
    obtain ⟨oc, od, oda, osl⟩ := o
    dsimp only at h2 h3 h4
    subst h2 h3
    cases od with
    | none => exact ⟨_, none, hget, rfl, rfl, trivial⟩
    | some dd =>
      obtain ⟨fs, e⟩ := h4 dd rfl
      obtain ⟨mA, ⟨o2, _, _, e1, _⟩, _⟩ := (show ObjOk X.prog X.w H s.heap dd (.xd fs) from I.hok _ _ e)
      exact ⟨_, some o2, hget, rfl, rfl, e1⟩
def rIsP (K : PySem.W.Frag) (pn : List (Addr × Obj)) : List V → Hp → VK → Prop := fun xs H Q => ∃ (a C : Addr) (c : V) (u : Value) (b : Bool), xs = [.ref a, c] ∧ XAt pn H a C ∧ ClsV c u ∧ ExcC K C ∧ PySem.W.kitOne K (.ref C) u = some b ∧ Q (.bl b) H
def rIsPT (K : PySem.W.Frag) (pn : List (Addr × Obj)) : List V → Hp → VK → Prop := fun xs H Q => ∃ (a C : Addr) (tp : Addr) (cs : List V) (us : List Value) (b : Bool), xs = [.ref a, .ref tp] ∧ XAt pn H a C ∧ H tp = some (.tup cs) ∧ Paired ClsV cs us ∧ ExcC K C ∧ PySem.W.kitAny K (.ref C) us = some b ∧ Q (.bl b) H
section
variable {X : Cx}
theorem call_isP : CallR X (.builtin "isinstance") (rIsP X.K X.pn) := by
  intro pins s σ H xs us Q I r h
  obtain ⟨a, C, c, u, b, rfl, ex, k, T, e, q⟩ := h
  obtain ⟨u1, u2, rfl, r1, r2⟩ := vals2 r
  have e2 := k.eq r2
  subst e2
  obtain rfl : u1 = Value.ref a := r1
  exact PySem.W.kia_one (kitx_exc T.hg T.hk T.hs T.hd T.ha T.hn T.ht T.hm) I.kIn (ex.inst I) e (fun z => nomatch z) fun tk => ⟨.bl b, H, I.tok tk, rfl, q⟩
theorem call_isPT : CallR X (.builtin "isinstance") (rIsPT X.K X.pn) := by
  intro pins s σ H xs us Q I r h
  obtain ⟨a, C, tp, cs, ws, b, rfl, ex, hT, k, T, e, q⟩ := h
  obtain ⟨u1, u2, rfl, r1, r2⟩ := vals2 r
  obtain rfl : u1 = Value.ref a := r1
  cases (show u2 = Value.ref tp from r2)
  obtain ⟨_, its, rv, o, h1, h2, n, h3⟩ := (show ObjOk X.prog X.w H s.heap tp (.tup cs) from I.hok tp _ hT)
  have e3 := ClsV.all k rv
  subst e3
  obtain ⟨oc, od, dt, sl⟩ := o
  simp only at h2 h3
  subst h2 h3
  exact PySem.W.kia_tup (kitx_exc T.hg T.hk T.hs T.hd T.ha T.hn T.ht T.hm) I.kIn (ex.inst I) h1 e (fun z => nomatch z) fun tk => ⟨.bl b, H, I.tok tk, rfl, q⟩
end
/-! ### raise C(e), raise C(k = e), raise C() -/
section
variable {X : Cx} {e : Expr} {es : List Expr} {ta : TA} {p pos : Pos} {kws : List Keyword} {tk : TA} {x : Str} {C fI : Addr} {k : Nat} {fd : FuncData} {ps ks : List Str} {sp : Sp}
theorem pmk_exN {CX : CXT} (T : OexC X.K C) (iC : PySem.W.findIn X.K (.ref C) "__init__" = some (some (.ref fI))) (tI : PySem.W.typeIn X.K (.ref fI) = some (.type "function"))
    (F1 : FnOk X.prog X.w X.K X.mg X.base CX k fI fd ps sp) (hr : Room (k + 1) X.A) (hb : Binds X.K fd ps []) (hx : Passes CX X (fun _ _ _ => False)) (hg : Gl X x) (hm : X.mg x = some (.ref C)) (ha : PA X (e :: es) ta)
    (hdb : (x == ("__debug__" : Str)) = false := by decide) (he : starEach (e :: es) X.env = (false, eval e X.env) :: starEach es X.env := by rfl) (hpl : (backTo pos (starEach es X.env)).any (·.1) = false := by rfl) :
    L2N.PMk X (.Call (.Name x p) (e :: es) [] pos) (tMkO C sp [] ta) := by
  intro pins s σ H Q I h
  obtain ⟨nm, q, N, bs, bm, sn, sub, ab, col, dd, k0, k1, k2, k3, k5, hC, hbm⟩ := T.cls
  refine wpAny_Call_Name_kw (ld_glob I hg hm ?_ hdb)
  refine PySem.W.callWith_K (h₀ := X.base) I.ok.mod.kin T.kC (thn (ha.run pos pins s σ H _ I h) fun us s1 ⟨vs, H1, I1, r1, hz, q1⟩ => ⟨I1.kIn, ?_⟩) he hpl
  show wpAny _ _ (call (.ref C) us) _ _ _
  obtain ⟨hp, g, dr, t, os⟩ := s1
  have fresh : hp.objs.size ≤ hp.objs.size + 1 := Nat.le_succ _
  have hq := q1 (hp.objs.size + 1) (I1.hok.fresh fresh)
  have J : Inv X pins σ (upd H1 (hp.objs.size + 1) (exo (hp.objs.size + 1) C none)) ⟨born hp C us, g, dr, t, os⟩ := I1.laid (t' := t) (o := exo (hp.objs.size + 1) C none) born_keeps fresh (exo_ok born_at)
  have rv : Vals (V.ref (hp.objs.size + 1) :: (vs ++ [])) (Value.ref (hp.objs.size + 1) :: us) := .cons rfl (by rw [List.append_nil]; exact r1)
  have hl : ((Value.ref (hp.objs.size + 1) :: us) ++ []).length = ps.length := by
    rw [List.append_nil]
    exact rv.length.symm.trans (F1.len _ _ _ _ hq)
  have hus : us.length ≤ sizeLine := by
    rw [← Paired.length r1, sizeLine_eq]
    omega
  have bd := hb ⟨born hp C us, g, dr, t, os⟩ (Value.ref (hp.objs.size + 1) :: us) J.kIn hl
  rw [List.append_nil] at bd
  refine wpAny_call (PySem.HandSPX.call_own F.excBase_ValueError (fun Y => PySem.HandSPX.refsVE_contains Y bm hbm) (I1.kIn _ _ hC) (PySem.W.looks_findIn I1.kIn iC) (fun self => PySem.W.bind_fn I1.kIn self tI) hus
    (codeAny_mono (F1.run _ X.stack _ _ ⟨Value.ref (hp.objs.size + 1) :: us, []⟩ (Value.ref (hp.objs.size + 1) :: us) _ _ (fun _ _ _ => False) (hr.make C us []) (J.env0.make C us []) bd rv hq) fun r s' hq' => ?_))
  rcases r with er | (_ | _ | _ | u)
  · exact hx pins σ _ _ er s' J hq'
  · exact hq'.elim
  · exact hq'.elim
  · exact hq'.elim
  · obtain ⟨v, H2, os2, bare2, un2, hok2, rv, ev, d, fs, ea, ed, hd1, q2⟩ := hq'
    subst ev
    obtain ⟨h2, g2, d2, t2, os'⟩ := s'
    obtain ⟨t0, G, J2, kG, ge, hoe, na⟩ := mk_end0 (d2 := d2) (t2 := t2) I1 fresh born_keeps un2 hok2 os2 bare2 ea ed hd1
    exact ⟨rv, _, _, _, ⟨G, g2, d2, t2, os'⟩, _, .ref C, some d, rfl, J2, kG, ge, hoe, ⟨rfl, rfl, fun vs e => by cases e; rfl⟩, rfl, rfl, na, rfl, bare2, raises_own T.exC T.tyC, q2⟩
/-- by keywords alone -/
def tMkK (C : Addr) (ks : List Str) (sp : Sp) (tk : TA) : L2.St → Hp → XK → Prop := fun σ H Q => tk σ H fun vs H1 => vs.length = ks.length ∧ ∀ a, H1 a = none → sp (.ref a :: vs) (upd H1 a (exo a C none))
  (fun v H2 => v = .non ∧ ∃ (d : Addr) (fs : List (Str × V)), H2 a = some (exo a C (some d)) ∧ H2 d = some (exd d fs) ∧ H1 d = none ∧ Q (.ref C) (some d) (upd (del H2 a) d (.xd fs))) (fun _ _ _ => False)
theorem pmk_exKN {CX : CXT} (T : EClass X.K C) (iC : PySem.W.findIn X.K (.ref C) "__init__" = some (some (.ref fI))) (tI : PySem.W.typeIn X.K (.ref fI) = some (.type "function"))
    (F1 : FnOk X.prog X.w X.K X.mg X.base CX k fI fd ps sp) (hr : Room (k + 1) X.A) (hb : ∀ (s : Shared) (u : Value) (ws : List Value), ws.length = ks.length → BindsTo s fd ⟨[u], ks.zip ws⟩ (ps.zip (u :: ws))) (hx : Passes CX X (fun _ _ _ => False)) (hg : Gl X x) (hm : X.mg x = some (.ref C)) (hkw : PK X kws tk)
    (hall : (backToKw pos (keywordEach kws X.env)).all (·.1.isSome) = true := by rfl) (hks : (backToKw pos (keywordEach kws X.env)).filterMap (·.1) = ks := by rfl) (hdb : (x == ("__debug__" : Str)) = false := by decide)
    (hpl : ((backTo pos (starEach [] X.env)).any (·.1) || (backToKw pos (keywordEach kws X.env)).any (·.1.isNone)) = false := by rfl) :
    L2N.PMk X (.Call (.Name x p) [] kws pos) (tMkK C ks sp tk) := by
  intro pins s σ H Q I h
  refine wpAny_Call_Name_kw (ld_glob I hg hm ?_ hdb)
  refine PySem.W.callWith_KW0 (h₀ := X.base) I.ok.mod.kin T.kC hall ?_ hpl
  refine thn (hkw.run pos pins s σ H _ I h) fun ws s2 ⟨zs, H2, I2, rz, l, q2⟩ => ⟨I2.kIn, ?_⟩
  rw [hks]
  show wpAny _ _ (call (.ref C) [] (ks.zip ws)) _ _ _
  obtain ⟨hp, g, dr, t, os⟩ := s2
  have fresh : hp.objs.size ≤ hp.objs.size + 1 := Nat.le_succ _
  have hq := q2 (hp.objs.size + 1) (I2.hok.fresh fresh)
  have J : Inv X pins σ (upd H2 (hp.objs.size + 1) (exo (hp.objs.size + 1) C none)) ⟨born hp C [], g, dr, t, os⟩ := I2.laid (t' := t) (o := exo (hp.objs.size + 1) C none) born_keeps fresh (exo_ok born_at)
  have rv : Vals (V.ref (hp.objs.size + 1) :: zs) (Value.ref (hp.objs.size + 1) :: ws) := .cons rfl rz
  refine wpAny_call (kw_call T I2.kIn (by show 0 ≤ sizeLine; omega) iC tI (codeAny_mono (F1.run _ X.stack _ _ ⟨[Value.ref (hp.objs.size + 1)], ks.zip ws⟩ (Value.ref (hp.objs.size + 1) :: ws) _ _ (fun _ _ _ => False) (hr.make C [] (ks.zip ws)) (J.env0.make C [] (ks.zip ws)) (hb _ _ _ (rz.length.symm.trans l)) rv hq) fun r s' hq' => ?_))
  rcases r with er | (_ | _ | _ | u)
  · exact hx pins σ _ _ er s' J hq'
  · exact hq'.elim
  · exact hq'.elim
  · exact hq'.elim
  · obtain ⟨v, H3, os2, bare2, un2, hok2, rv, ev, d, fs, ea, ed, hd1, q3⟩ := hq'
    subst ev
    obtain ⟨h2, g2, d2, t2, os'⟩ := s'
    obtain ⟨t0, G, J2, kG, ge, hoe, na⟩ := mk_end0 (d2 := d2) (t2 := t2) I2 fresh born_keeps un2 hok2 os2 bare2 ea ed hd1
    exact ⟨rv, _, _, _, ⟨G, g2, d2, t2, os'⟩, _, .ref C, some d, rfl, J2, kG, ge, hoe, ⟨rfl, rfl, fun vs e => by cases e; rfl⟩, rfl, rfl, na, rfl, bare2, raises_own T.exC T.tyC, q3⟩
/-- C() of a class that has no __init__ of its own -/
theorem pmk_ex0N {bmB : List Value} {B newId initId : String} (F : ExcBaseFacts B newId initId bmB) (q : PySem.W.excIn X.K C bmB newId = true) (gC : X.mg x = some (.ref C)) (kC : PySem.W.keepIn X.K (.ref C) = true) (r : Raises X (.ref C)) (hg : Gl X x)
    (hdb : (x == ("__debug__" : Str)) = false := by decide) : L2N.PMk X (.Call (.Name x p) [] [] pos) (fun _ H Q => Q (.ref C) none H) := by
  intro pins s σ H Q I h
  refine wpAny_Call_Name_kw (ld_glob I hg gC ?_ hdb)
  refine PySem.W.callWith_K0 I.kIn kC ?_
  obtain ⟨bm, N, nm, qn, bs, hdct, sn, sub, ab, col, dd, k0, k1, k2, k3, k5, mN, hC, hN, hni, T⟩ := exc_obj I.kIn q
  refine wpAny_call_exc_subT F T hC hN hni (fun h' a hm => ?_) (by show 0 ≤ sizeLine; rw [sizeLine_eq]; omega)
  exact L2N.mk_of I hm r h (I.hok.gone hm.new)
end
/-! ### defs called within an except suite, the promise over the caught one -/
structure FnP (P : Program) (w : World) (K : PySem.W.Frag) (mg : Str → Option Value) (base : Heap) (CX : CXT) (k : Nat) (f : Addr) (fd : FuncData) (ps : List Str) (sp : List (Addr × Obj) → Sp) : Prop where
  len : ∀ p vs H Q E, sp p vs H Q E → vs.length = ps.length
  run : ∀ (A : Around) (outer : List Env) (s : Shared) (H : Hp) (args : Args) (us : List Value) (vs : List V) (Q : VK) (E : XK) (p : Addr × Obj), RoomH k A → Hot1 A p → PinOk outer H s p → Env0 P w K mg base A outer s H → BindsTo s fd args (ps.zip us) → Vals vs us → sp [p] vs H Q E →
    codeAny (model P w) A (.call (.ref f) args) (CR CX outer P w H s Q E) s
section
variable {P : Program} {w : World} {K : PySem.W.Frag} {mg : Str → Option Value} {base : Heap} {CX : CXT} {k : Nat} {x qual : Str} {params : Arguments} {body : List Stmt} {scope : Scope} {f : Addr} {fd : FuncData} {N ps : List Str} {sp : List (Addr × Obj) → Sp}
theorem okP (F : FunD K x qual params body scope [] [] f fd) (S : FnScope N ps scope) (len : ∀ p vs H Q E, sp p vs H Q E → vs.length = ps.length)
    (hbody : ∀ (cdv : Value) (A : Around) (outer : List Env) (s : Shared) (H : Hp) (vs : List V) (Q : VK) (E : XK) (p : Addr × Obj), Hot1 A p → RoomH k (A.deeper (envOfC qual scope s.heap.objs.size f cdv)) → sp [p] vs H Q E →
      ∃ t, PSs (cxH CX P w K mg base N qual scope f cdv A outer s H E p) body t ∧ t { nx := fun _ H' => Q .non H', rt := Q } (L2.start N vs) H) : FnP P w K mg base CX (k + 1) f fd ps sp := by
  obtain ⟨oc, od, dV, kV, doc, pm, an, cdv, ct, osl, rfl, lk, hcd, _, _⟩ := F.ex
  refine ⟨len, fun A outer s H args us vs Q E p hr hot hpin e0 hb r hsp => ?_⟩
  have hl := len _ _ _ _ _ hsp
  have KX : K.In s.heap := e0.mod.kin.keeps fun b o e => (e0.bs b o e).1
  have lim : s.heap.NoLimit := e0.mod.nolimit.keeps fun b o e => (e0.bs b o e).1
  have kinds : ∀ y ∈ ps.zip us, scope.names.lookup y.1 = some .local ∨ (scope.names.lookup y.1 = some .cell ∧ ((cellsFrom (s.heap.objs.size + 1) scope.names []).lookup y.1).isSome = true) := fun y hy =>
    (S.par y.1 (List.of_mem_zip (a := y.1) (b := y.2) hy).1).imp id fun q => ⟨q, PySem.W.cellsFrom_some _ _ _ (.inl q)⟩
  refine codeAny_call_function hr.depth (KX _ _ lk) rfl S.co S.gen rfl (PySem.W.codeRec_of KX hcd) (hb _ _ _ _ (wpAny_newFunctionEnv_cells S.kind kinds fun env he s1 x => ?_))
  subst he
  refine ⟨lim.keeps x.toInCall.keep, codeAny_func ?_⟩
  obtain ⟨t, ht, hq⟩ := hbody cdv A outer s H vs Q E p hot (hr.deeper _) hsp
  refine wpAny_mono (ht.run [] s1 (L2.start N vs) H _ (inv_startH S hpin e0 hl r x) hq) (fun fl s' hs => ?_) fun e s' hs => hs
  rcases fl with _ | _ | _ | u
  all_goals first
    | (obtain ⟨v, σ', H', J, rv, q⟩ := hs; exact ⟨v, H', J.os, J.bare, J.base, J.hok, rv, q⟩)
    | (obtain ⟨σ', H', J, q⟩ := hs; exact ⟨V.non, H', J.os, J.bare, J.base, J.hok, rfl, q⟩)
    | (obtain ⟨_, _, _, q⟩ := hs; exact q.elim)
end
/-- a def of the module as it answers there -/
structure DfP (P : Program) (w : World) (K : PySem.W.Frag) (mg : Str → Option Value) (base : Heap) (CX : CXT) (k : Nat) (x : Str) (ps : List Str) (sp : List (Addr × Obj) → Sp) : Prop where
  ex : ∃ fd, FnP P w K mg base CX k (He.ga K x) fd ps sp ∧ Binds K fd ps []
  gm : mg x = some (.ref (He.ga K x))
  kp : PySem.W.keepIn K (.ref (He.ga K x)) = true
section
variable {P : Program} {w : World} {K : PySem.W.Frag} {mg : Str → Option Value} {base : Heap} {CX : CXT} {k : Nat} {x : Str} {N ps : List Str} {sp : List (Addr × Obj) → Sp} {st : Stmt}
theorem dfP_of (A : At K mg x st) (S : FnScope N ps (defScope st))
    (hb : ∀ (kV doc pm : Value) (an : Option Addr) (cdv ct : Value) (us : List Value), us.length = ps.length → bindArgs (PySem.W.fnOf x x (defArgs st) (defBody st) (defScope st) .none kV doc pm an cdv ct) ⟨us, []⟩ = pure (ps.zip us))
    (len : ∀ p vs H Q E, sp p vs H Q E → vs.length = ps.length)
    (hbody : ∀ (f : Addr) (cdv : Value) (A : Around) (outer : List Env) (s : Shared) (H : Hp) (vs : List V) (Q : VK) (E : XK) (p : Addr × Obj), Hot1 A p → RoomH k (A.deeper (envOfC x (defScope st) s.heap.objs.size f cdv)) → sp [p] vs H Q E →
      ∃ t, PSs (cxH CX P w K mg base N x (defScope st) f cdv A outer s H E p) (defBody st) t ∧ t { nx := fun _ H' => Q .non H', rt := Q } (L2.start N vs) H) : DfP P w K mg base CX (k + 1) x ps sp := by
  obtain ⟨fd, F⟩ := A.fn
  exact ⟨⟨fd, okP F S len fun cdv A outer s H vs Q E p hot hr h => hbody _ cdv A outer s H vs Q E p hot hr h, F.bindsN hb⟩, A.gm, F.kp⟩
end
section
variable {X : Cx} {k : Nat} {x : Str} {ps : List Str} {sp : List (Addr × Obj) → Sp} {q pos : Pos} {e : Expr} {es : List Expr} {t : TA}
theorem pe_dfP {p : Addr × Obj} (D : DfP X.prog X.w X.K X.mg X.base CX0 k x ps sp) (hr : RoomH k X.A) (hot : Hot1 X.A p) (hp : p ∈ X.pn) (ha : PA X (e :: es) t) (hg : Gl X x := by rfl) (hdb : (x == ("__debug__" : Str)) = false := by decide)
    (he : starEach (e :: es) X.env = (false, eval e X.env) :: starEach es X.env := by rfl) (hpl : (backTo pos (starEach es X.env)).any (·.1) = false := by rfl) : PE X (.Call (.Name x q) (e :: es) [] pos) (tCall (sp [p]) [] E0 t) := by
  obtain ⟨fd, F, b⟩ := D.ex
  refine ⟨fun pins s σ H Q I h => wpAny_Call_Name_kw (ld_glob I hg D.gm ?_ hdb)⟩
  refine PySem.W.callWith_K (h₀ := X.base) I.ok.mod.kin D.kp (thn (ha.run pos pins s σ H _ I h) fun us s1 ⟨vs, H1, I1, r, q1⟩ => ⟨I1.kIn, ?_⟩) he hpl
  have q1' : sp [p] vs H1 Q E0 := by
    have z : sp [p] (vs ++ []) H1 Q E0 := q1
    rw [List.append_nil] at z
    exact z
  have hl : us.length = ps.length := r.length.symm.trans (F.len _ _ _ _ _ q1')
  have bd := b s1 us I1.kIn (by rw [List.append_nil]; exact hl)
  rw [List.append_nil] at bd
  have P1 := I1.pin p (List.mem_append_left _ hp)
  have hpin : PinOk X.stack H1 s1 p := ⟨P1.1, P1.2.1, fun hm => (List.mem_cons.mp (I1.stkSub p.1 hm)).elim P1.2.2.1 P1.2.2.2.1, P1.2.2.2.2⟩
  refine wpAny_call (codeAny_mono (F.run X.A X.stack s1 H1 ⟨us, []⟩ us vs Q E0 p hr hot hpin I1.env0 bd r q1') fun r s' hq => ?_)
  rcases r with er | (_ | _ | _ | u)
  · exact pass0 pins σ H1 s1 er s' I1 hq
  · exact hq.elim
  · exact hq.elim
  · exact hq.elim
  · exact I1.after hq
end
end EqX

set_option Elab.async false
set_option linter.all false
set_option maxRecDepth 100000
set_option maxHeartbeats 4000000
/-! Values told by what holds of them in any later state: own errors, rows of them. -/
namespace EqX
open PySem PySem.Spec PyProof.Rows L2 PySem.EqX
abbrev VS := V → Hp → Prop
def Stab (S : VS) : Prop := ∀ v H H', Same H H' → S v H → S v H'
/-- one after another -/
def AllS : List VS → List V → Hp → Prop
  | [], [], _ => True
  | S :: Ss, v :: vs, H => S v H ∧ AllS Ss vs H
  | _, _, _ => False
theorem AllS.same {H H' : Hp} (s : Same H H') : ∀ {Ss : List VS} {vs : List V}, (∀ S ∈ Ss, Stab S) → AllS Ss vs H → AllS Ss vs H'
  | [], [], _, _ => trivial
  | [], _ :: _, _, h => h.elim
  | _ :: _, [], _, h => h.elim
  | _ :: _, _ :: _, st, h => ⟨st _ List.mem_cons_self _ _ _ s h.1, AllS.same s (fun S m => st S (List.mem_cons_of_mem _ m)) h.2⟩
theorem AllS.len {H : Hp} : ∀ {Ss : List VS} {vs : List V}, AllS Ss vs H → vs.length = Ss.length
  | [], [], _ => rfl
  | [], _ :: _, h => h.elim
  | _ :: _, [], h => h.elim
  | _ :: _, _ :: _, h => congrArg Nat.succ (AllS.len h.2)
theorem AllS.get {H : Hp} : ∀ {Ss : List VS} {vs : List V} {i : Nat} {v : V}, AllS Ss vs H → vs[i]? = some v → ∃ S, Ss[i]? = some S ∧ S v H
  | [], [], _, _, _, e => by simp at e
  | [], _ :: _, _, _, h, _ => h.elim
  | _ :: _, [], _, _, h, _ => h.elim
  | S :: _, _ :: _, 0, _, h, e => ⟨S, rfl, by cases e; exact h.1⟩
  | _ :: _, _ :: _, i + 1, _, h, e => AllS.get (i := i) h.2 e
theorem AllS.app {H : Hp} : ∀ {Ss Ts : List VS} {vs us : List V}, AllS Ss vs H → AllS Ts us H → AllS (Ss ++ Ts) (vs ++ us) H
  | [], _, [], _, _, h => h
  | [], _, _ :: _, _, h, _ => h.elim
  | _ :: _, _, [], _, h, _ => h.elim
  | _ :: _, _, _ :: _, _, h, g => ⟨h.1, AllS.app h.2 g⟩
/-- from H on, te gives something of which S holds -/
def Gv (te : TE) (σ : L2.St) (H : Hp) (S : VS) : Prop := ∀ (H0 : Hp) (Q : VK), Same H H0 → (∀ v H1, Same H0 H1 → S v H1 → Q v H1) → te σ H0 Q
def GvA (ta : TA) (σ : L2.St) (H : Hp) (Ss : List VS) : Prop := ∀ (H0 : Hp) (Q : List V → Hp → Prop), Same H H0 → (∀ vs H1, Same H0 H1 → AllS Ss vs H1 → Q vs H1) → ta σ H0 Q
theorem same_new {H : Hp} {p : Addr} {o : HO} (hp : H p = none) : Same H (upd H p o) := fun b ob e => by
  rw [upd_ne (fun z => by rw [z, hp] at e; cases e)]
  exact e
/-- a tracked list with such items -/
def LstS (Ss : List VS) : VS := fun v H => ∃ a xs, v = .ref a ∧ H a = some (.lst xs) ∧ AllS Ss xs H
/-- just this value -/
def Is (x : V) : VS := fun v _ => v = x
/-- an exception of the class at C with one field -/
def Ex1 (C : Addr) (f : Str) (S : VS) : VS := fun v H => ∃ a d u, v = .ref a ∧ H a = some (exo a C (some d)) ∧ H d = some (exd d [(f, u)]) ∧ S u H
def Ex2 (C : Addr) (S S' : VS) : VS := fun v H => ∃ a d u u', v = .ref a ∧ H a = some (exo a C (some d)) ∧ H d = some (exd d [(fWord, u'), (fRow, u)]) ∧ S u H ∧ S' u' H
def Ex0 (C : Addr) : VS := fun v H => ∃ a, v = .ref a ∧ H a = some (exo a C none)
theorem stab_is {x : V} : Stab (Is x) := fun _ _ _ _ h => h
theorem stab_lst {Ss : List VS} (st : ∀ S ∈ Ss, Stab S) : Stab (LstS Ss) := fun _ _ _ s ⟨a, xs, e, h, q⟩ => ⟨a, xs, e, s _ _ h, q.same s st⟩
theorem stab_ex1 {C : Addr} {f : Str} {S : VS} (st : Stab S) : Stab (Ex1 C f S) := fun _ _ _ s ⟨a, d, u, e, h1, h2, q⟩ => ⟨a, d, u, e, s _ _ h1, s _ _ h2, st _ _ _ s q⟩
theorem stab_ex2 {C : Addr} {S S' : VS} (st : Stab S) (st' : Stab S') : Stab (Ex2 C S S') := fun _ _ _ s ⟨a, d, u, u', e, h1, h2, q, q'⟩ => ⟨a, d, u, u', e, s _ _ h1, s _ _ h2, st _ _ _ s q, st' _ _ _ s q'⟩
theorem stab_ex0 {C : Addr} : Stab (Ex0 C) := fun _ _ _ s ⟨a, e, h⟩ => ⟨a, e, s _ _ h⟩
section
variable {K : PySem.W.Frag} {σ : L2.St} {H : Hp} {te : TE} {ta : TA} {S S' : VS} {Ss : List VS} {i : Nat} {v : V} {C : Addr} {f : Str}
theorem gv_var (h : σ[i]? = some (some v)) : Gv (tVar i) σ H (Is v) := fun H0 Q s q => ⟨v, h, q v H0 (Same.refl _) rfl⟩
theorem gv_c : Gv (tC v) σ H (Is v) := fun H0 Q s q => q v H0 (Same.refl _) rfl
theorem gva_nil : GvA tNil σ H [] := fun H0 Q s q => q [] H0 (Same.refl _) trivial
theorem gva_cons (h : Gv te σ H S) (st : Stab S) (hr : GvA ta σ H Ss) : GvA (tCons te ta) σ H (S :: Ss) := fun H0 Q s q =>
  h H0 _ s fun v H1 s1 h1 => hr H1 _ (s.trans s1) fun vs H2 s2 h2 => q (v :: vs) H2 (s1.trans s2) ⟨st _ _ _ s2 h1, h2⟩
theorem gv_lst (h : GvA ta σ H Ss) (st : ∀ S ∈ Ss, Stab S) (n : Ss.length ≤ 1000) : Gv (tLst ta) σ H (LstS Ss) := fun H0 Q s q =>
  h H0 _ s fun vs H1 s1 h1 => ⟨by rw [h1.len]; exact Nat.le_trans n (by decide), fun p hp => q _ _ (s1.trans (same_new hp)) ⟨p, vs, rfl, upd_same, h1.same (same_new hp) st⟩⟩
theorem same_exc {H : Hp} {a d : Addr} {fs : List (Str × V)} (ha : H a = none) (hd : upd H a (exo a C none) d = none) (ne : d ≠ a) : Same H (upd (upd (upd H a (exo a C none)) d (exd d fs)) a (exo a C (some d))) := fun b o e => by
  have n1 : b ≠ a := fun z => by rw [z, ha] at e; cases e
  have n2 : b ≠ d := fun z => by
    rw [upd_ne ne] at hd
    rw [z, hd] at e
    cases e
  rw [upd_ne n1, upd_ne n2, upd_ne n1]
  exact e
theorem gv_exV (h : GvA ta σ H [S]) (st : Stab S) : Gv (tExV C (spIni1 C f) ta) σ H (Ex1 C f S) := fun H0 Q s q =>
  h H0 _ s fun vs H1 s1 h1 => by
    match vs, h1 with
    | [u], ⟨hu, _⟩ =>
      refine ⟨by show 1 ≤ 1000; decide, fun a ha => ⟨a, u, rfl, upd_same, fun d hd ne => ⟨rfl, ?_⟩⟩⟩
      have sm := same_exc (C := C) (fs := [(f, u)]) ha hd ne
      exact q _ _ (s1.trans sm) ⟨a, d, u, rfl, upd_same, by rw [upd_ne ne, upd_same], st _ _ _ sm hu⟩
theorem gv_exK (h : GvA ta σ H [S]) (st : Stab S) : Gv (tExK C [f] (spIni1 C f) ta) σ H (Ex1 C f S) := fun H0 Q s q =>
  h H0 _ s fun vs H1 s1 h1 => by
    match vs, h1 with
    | [u], ⟨hu, _⟩ =>
      refine ⟨rfl, fun a ha => ⟨a, u, rfl, upd_same, fun d hd ne => ⟨rfl, ?_⟩⟩⟩
      have sm := same_exc (C := C) (fs := [(f, u)]) ha hd ne
      exact q _ _ (s1.trans sm) ⟨a, d, u, rfl, upd_same, by rw [upd_ne ne, upd_same], st _ _ _ sm hu⟩
theorem gv_exV2 (h : GvA ta σ H [S, S']) (st : Stab S) (st' : Stab S') : Gv (tExV C (spIni2 C) ta) σ H (Ex2 C S S') := fun H0 Q s q =>
  h H0 _ s fun vs H1 s1 h1 => by
    match vs, h1 with
    | [u, u'], ⟨hu, hu', _⟩ =>
      refine ⟨by show 2 ≤ 1000; decide, fun a ha => ⟨a, u, u', rfl, upd_same, fun d hd ne => ⟨rfl, ?_⟩⟩⟩
      have sm := same_exc (C := C) (fs := [(fWord, u'), (fRow, u)]) ha hd ne
      exact q _ _ (s1.trans sm) ⟨a, d, u, u', rfl, upd_same, by rw [upd_ne ne, upd_same], st _ _ _ sm hu, st' _ _ _ sm hu'⟩
theorem gv_exK2 (h : GvA ta σ H [S, S']) (st : Stab S) (st' : Stab S') : Gv (tExK C [fRow, fWord] (spIni2 C) ta) σ H (Ex2 C S S') := fun H0 Q s q =>
  h H0 _ s fun vs H1 s1 h1 => by
    match vs, h1 with
    | [u, u'], ⟨hu, hu', _⟩ =>
      refine ⟨rfl, fun a ha => ⟨a, u, u', rfl, upd_same, fun d hd ne => ⟨rfl, ?_⟩⟩⟩
      have sm := same_exc (C := C) (fs := [(fWord, u'), (fRow, u)]) ha hd ne
      exact q _ _ (s1.trans sm) ⟨a, d, u, u', rfl, upd_same, by rw [upd_ne ne, upd_same], st _ _ _ sm hu, st' _ _ _ sm hu'⟩
def tEx0 (C : Addr) : TE := fun _ H Q => ∀ a, H a = none → Q (.ref a) (upd H a (exo a C none))
theorem gv_ex0 : Gv (tEx0 C) σ H (Ex0 C) := fun H0 Q s q a ha => q _ _ (same_new ha) ⟨a, rfl, upd_same⟩
/-- raised: its dict stands as an exception's dict -/
theorem same_rais {H H2 : Hp} {a d : Addr} {fs : List (Str × V)} (ha : H a = none) (hd : upd H a (exo a C none) d = none) (ne : d ≠ a) :
    Same H (upd (del (upd (upd (upd H a (exo a C none)) d (exd d fs)) a (exo a C (some d))) a) d (.xd fs)) := fun b o e => by
  have n1 : b ≠ a := fun z => by rw [z, ha] at e; cases e
  have n2 : b ≠ d := fun z => by
    rw [upd_ne ne] at hd
    rw [z, hd] at e
    cases e
  rw [upd_ne n2, del_ne n1, upd_ne n1, upd_ne n2, upd_ne n1]
  exact e
theorem ra_exV {W : XK} (h : GvA ta σ H [S]) (q : ∀ d fs H1, Same H H1 → H1 d = some (.xd fs) → W (.ref C) (some d) H1) : tMkO C (spIni1 C f) [] ta σ H W :=
  h H _ (Same.refl _) fun vs H1 s1 h1 => by
    match vs, h1 with
    | [u], ⟨hu, _⟩ =>
      refine ⟨by show 1 ≤ 1000; decide, fun a ha => ⟨a, u, rfl, upd_same, fun d hd ne => ⟨rfl, d, [(f, u)], upd_same, by rw [upd_ne ne, upd_same], ?_, ?_⟩⟩⟩
      · rw [upd_ne ne] at hd
        exact hd
      · exact q d _ _ (s1.trans (same_rais (H2 := H1) ha hd ne)) upd_same
theorem ra_exK {W : XK} (h : GvA ta σ H [S]) (q : ∀ d fs H1, Same H H1 → H1 d = some (.xd fs) → W (.ref C) (some d) H1) : tMkK C [f] (spIni1 C f) ta σ H W :=
  h H _ (Same.refl _) fun vs H1 s1 h1 => by
    match vs, h1 with
    | [u], ⟨hu, _⟩ =>
      refine ⟨rfl, fun a ha => ⟨a, u, rfl, upd_same, fun d hd ne => ⟨rfl, d, [(f, u)], upd_same, by rw [upd_ne ne, upd_same], ?_, ?_⟩⟩⟩
      · rw [upd_ne ne] at hd
        exact hd
      · exact q d _ _ (s1.trans (same_rais (H2 := H1) ha hd ne)) upd_same
theorem ra_exK2 {W : XK} (h : GvA ta σ H [S, S']) (q : ∀ d fs H1, Same H H1 → H1 d = some (.xd fs) → W (.ref C) (some d) H1) : tMkK C [fRow, fWord] (spIni2 C) ta σ H W :=
  h H _ (Same.refl _) fun vs H1 s1 h1 => by
    match vs, h1 with
    | [u, u'], ⟨hu, hu', _⟩ =>
      refine ⟨rfl, fun a ha => ⟨a, u, u', rfl, upd_same, fun d hd ne => ⟨rfl, d, [(fWord, u'), (fRow, u)], upd_same, by rw [upd_ne ne, upd_same], ?_, ?_⟩⟩⟩
      · rw [upd_ne ne] at hd
        exact hd
      · exact q d _ _ (s1.trans (same_rais (H2 := H1) ha hd ne)) upd_same
end
/-! ### the classes as they stand behind the top -/
structure Own1 (P : Program) (w : World) (K : PySem.W.Frag) (mg : Str → Option Value) (base : Heap) (x f : Str) : Prop where
  gm : mg x = some (.ref (He.ga K x))
  T : EClass K (He.ga K x)
  fn : ∃ fI fd, PySem.W.findIn K (.ref (He.ga K x)) "__init__" = some (some (.ref fI)) ∧ PySem.W.typeIn K (.ref fI) = some (.type "function") ∧ (∀ k, FnOk P w K mg base CX0 k fI fd ["self", f] (spIni1 (He.ga K x) f)) ∧ Binds K fd ["self", f] [] ∧
    ∀ (s : Shared) (u : Value) (ws : List Value), ws.length = [f].length → BindsTo s fd ⟨[u], [f].zip ws⟩ ((["self", f] : List Str).zip (u :: ws))
structure Own2 (P : Program) (w : World) (K : PySem.W.Frag) (mg : Str → Option Value) (base : Heap) (x : Str) : Prop where
  gm : mg x = some (.ref (He.ga K x))
  T : EClass K (He.ga K x)
  fn : ∃ fI fd, PySem.W.findIn K (.ref (He.ga K x)) "__init__" = some (some (.ref fI)) ∧ PySem.W.typeIn K (.ref fI) = some (.type "function") ∧ (∀ k, FnOk P w K mg base CX0 k fI fd ["self", fRow, fWord] (spIni2 (He.ga K x))) ∧ Binds K fd ["self", fRow, fWord] [] ∧
    ∀ (s : Shared) (u : Value) (ws : List Value), ws.length = [fRow, fWord].length → BindsTo s fd ⟨[u], [fRow, fWord].zip ws⟩ ((["self", fRow, fWord] : List Str).zip (u :: ws))
structure Own0 (K : PySem.W.Frag) (mg : Str → Option Value) (x : Str) : Prop where
  gm : mg x = some (.ref (He.ga K x))
  ok : PySem.W.excIn K (He.ga K x) PySem.HandSPX.veTail "ValueError.__new__" = true
  kp : PySem.W.keepIn K (.ref (He.ga K x)) = true
  exC : PySem.W.subIn K (.ref (He.ga K x)) (.type "BaseException") = some true
  tyC : PySem.W.typeIn K (.ref (He.ga K x)) = some (.type "type")
section
variable {X : Cx} {e : Expr} {ta : TA} {p pos kpos : Pos} {x f : Str} {k : Nat} {es : List Expr} {kws : List Keyword}
theorem pe_own1 (O : Own1 X.prog X.w X.K X.mg X.base x f) (hr : Room (k + 1) X.A) (ha : PA X [e] ta) (hg : Gl X x := by rfl) (hdb : (x == ("__debug__" : Str)) = false := by decide) (he : starEach [e] X.env = (false, eval e X.env) :: starEach [] X.env := by rfl) :
    PE X (.Call (.Name x p) [e] [] pos) (tExV (He.ga X.K x) (spIni1 (He.ga X.K x) f) ta) := by
  obtain ⟨fI, fd, i, t, F, b, _⟩ := O.fn
  exact pe_exV (EClass.oex O.T) i t (F k) hr b pass0 hg O.gm ha hdb he rfl
theorem pe_own1K (O : Own1 X.prog X.w X.K X.mg X.base x f) (hr : Room (k + 1) X.A) (ha : PE X e te) (hg : Gl X x := by rfl) (hdb : (x == ("__debug__" : Str)) = false := by decide) :
    PE X (.Call (.Name x p) [] [⟨some f, e, kpos⟩] pos) (tExK (He.ga X.K x) [f] (spIni1 (He.ga X.K x) f) (tCons te tNil)) := by
  obtain ⟨fI, fd, i, t, F, _, b⟩ := O.fn
  exact pe_exK O.T i t (F k) hr b pass0 hg O.gm (pk_cons ha pk_nil) rfl rfl hdb rfl
theorem pe_own2 {e' : Expr} (O : Own2 X.prog X.w X.K X.mg X.base x) (hr : Room (k + 1) X.A) (ha : PA X [e, e'] ta) (hg : Gl X x := by rfl) (hdb : (x == ("__debug__" : Str)) = false := by decide) (he : starEach [e, e'] X.env = (false, eval e X.env) :: starEach [e'] X.env := by rfl)
    (hpl : (backTo pos (starEach [e'] X.env)).any (·.1) = false := by rfl) : PE X (.Call (.Name x p) [e, e'] [] pos) (tExV (He.ga X.K x) (spIni2 (He.ga X.K x)) ta) := by
  obtain ⟨fI, fd, i, t, F, b, _⟩ := O.fn
  exact pe_exV (EClass.oex O.T) i t (F k) hr b pass0 hg O.gm ha hdb he hpl
theorem pe_own2K {e' : Expr} {te te' : TE} {kpos' : Pos} (O : Own2 X.prog X.w X.K X.mg X.base x) (hr : Room (k + 1) X.A) (ha : PE X e te) (ha' : PE X e' te') (hg : Gl X x := by rfl) (hdb : (x == ("__debug__" : Str)) = false := by decide) :
    PE X (.Call (.Name x p) [] [⟨some fRow, e, kpos⟩, ⟨some fWord, e', kpos'⟩] pos) (tExK (He.ga X.K x) [fRow, fWord] (spIni2 (He.ga X.K x)) (tCons te (tCons te' tNil))) := by
  obtain ⟨fI, fd, i, t, F, _, b⟩ := O.fn
  exact pe_exK O.T i t (F k) hr b pass0 hg O.gm (pk_cons ha (pk_cons ha' pk_nil)) rfl rfl hdb rfl
theorem pe_own0 (O : Own0 X.K X.mg x) (hg : Gl X x := by rfl) (hdb : (x == ("__debug__" : Str)) = false := by decide) : PE X (.Call (.Name x p) [] [] pos) (tEx0 (He.ga X.K x)) := pe_exc0 F.excBase_ValueError O.ok O.gm O.kp hg hdb
theorem pm_own1 (O : Own1 X.prog X.w X.K X.mg X.base x f) (hr : Room (k + 1) X.A) (ha : PA X [e] ta) (hg : Gl X x := by rfl) (hdb : (x == ("__debug__" : Str)) = false := by decide) (he : starEach [e] X.env = (false, eval e X.env) :: starEach [] X.env := by rfl) :
    L2N.PMk X (.Call (.Name x p) [e] [] pos) (tMkO (He.ga X.K x) (spIni1 (He.ga X.K x) f) [] ta) := by
  obtain ⟨fI, fd, i, t, F, b, _⟩ := O.fn
  exact pmk_exN (EClass.oex O.T) i t (F k) hr b pass0 hg O.gm ha hdb he rfl
theorem pm_own1K (O : Own1 X.prog X.w X.K X.mg X.base x f) (hr : Room (k + 1) X.A) (ha : PE X e te) (hg : Gl X x := by rfl) (hdb : (x == ("__debug__" : Str)) = false := by decide) :
    L2N.PMk X (.Call (.Name x p) [] [⟨some f, e, kpos⟩] pos) (tMkK (He.ga X.K x) [f] (spIni1 (He.ga X.K x) f) (tCons te tNil)) := by
  obtain ⟨fI, fd, i, t, F, _, b⟩ := O.fn
  exact pmk_exKN O.T i t (F k) hr b pass0 hg O.gm (pk_cons ha pk_nil) rfl rfl hdb rfl
theorem pm_own2K {e' : Expr} {te te' : TE} {kpos' : Pos} (O : Own2 X.prog X.w X.K X.mg X.base x) (hr : Room (k + 1) X.A) (ha : PE X e te) (ha' : PE X e' te') (hg : Gl X x := by rfl) (hdb : (x == ("__debug__" : Str)) = false := by decide) :
    L2N.PMk X (.Call (.Name x p) [] [⟨some fRow, e, kpos⟩, ⟨some fWord, e', kpos'⟩] pos) (tMkK (He.ga X.K x) [fRow, fWord] (spIni2 (He.ga X.K x)) (tCons te (tCons te' tNil))) := by
  obtain ⟨fI, fd, i, t, F, _, b⟩ := O.fn
  exact pmk_exKN O.T i t (F k) hr b pass0 hg O.gm (pk_cons ha (pk_cons ha' pk_nil)) rfl rfl hdb rfl
theorem pm_own0 (O : Own0 X.K X.mg x) (hg : Gl X x := by rfl) (hdb : (x == ("__debug__" : Str)) = false := by decide) : L2N.PMk X (.Call (.Name x p) [] [] pos) (fun _ H Q => Q (.ref (He.ga X.K x)) none H) := pmk_ex0N F.excBase_ValueError O.ok O.gm O.kp (raises_own O.exC O.tyC) hg hdb
/-! raise of them -/
theorem rs_own1 {W : WX} {pos' : Pos} (tk : L2N.Takes X W) (O : Own1 X.prog X.w X.K X.mg X.base x f) (hr : Room (k + 1) X.A) (ha : PA X [e] ta) (hc : X.calm = true := by rfl) (hg : Gl X x := by rfl) (hdb : (x == ("__debug__" : Str)) = false := by decide) (he : starEach [e] X.env = (false, eval e X.env) :: starEach [] X.env := by rfl) :
    PS X (.Raise (some (.Call (.Name x p) [e] [] pos)) none pos') (fun _ σ H => tMkO (He.ga X.K x) (spIni1 (He.ga X.K x) f) [] ta σ H fun cls d H' => W cls d σ H') := L2N.ps_raise hc tk (pm_own1 O hr ha hg hdb he)
theorem rs_own1K {W : WX} {pos' : Pos} (tk : L2N.Takes X W) (O : Own1 X.prog X.w X.K X.mg X.base x f) (hr : Room (k + 1) X.A) (ha : PE X e te) (hc : X.calm = true := by rfl) (hg : Gl X x := by rfl) (hdb : (x == ("__debug__" : Str)) = false := by decide) :
    PS X (.Raise (some (.Call (.Name x p) [] [⟨some f, e, kpos⟩] pos)) none pos') (fun _ σ H => tMkK (He.ga X.K x) [f] (spIni1 (He.ga X.K x) f) (tCons te tNil) σ H fun cls d H' => W cls d σ H') := L2N.ps_raise hc tk (pm_own1K O hr ha hg hdb)
theorem rs_own2K {W : WX} {pos' : Pos} {e' : Expr} {te te' : TE} {kpos' : Pos} (tk : L2N.Takes X W) (O : Own2 X.prog X.w X.K X.mg X.base x) (hr : Room (k + 1) X.A) (ha : PE X e te) (ha' : PE X e' te') (hc : X.calm = true := by rfl) (hg : Gl X x := by rfl) (hdb : (x == ("__debug__" : Str)) = false := by decide) :
    PS X (.Raise (some (.Call (.Name x p) [] [⟨some fRow, e, kpos⟩, ⟨some fWord, e', kpos'⟩] pos)) none pos') (fun _ σ H => tMkK (He.ga X.K x) [fRow, fWord] (spIni2 (He.ga X.K x)) (tCons te (tCons te' tNil)) σ H fun cls d H' => W cls d σ H') := L2N.ps_raise hc tk (pm_own2K O hr ha ha' hg hdb)
theorem rs_own0 {W : WX} {pos' : Pos} (tk : L2N.Takes X W) (O : Own0 X.K X.mg x) (hc : X.calm = true := by rfl) (hg : Gl X x := by rfl) (hdb : (x == ("__debug__" : Str)) = false := by decide) :
    PS X (.Raise (some (.Call (.Name x p) [] [] pos)) none pos') (fun _ σ H => W (.ref (He.ga X.K x)) none σ H) := L2N.ps_raise hc tk (pm_own0 O hg hdb)
end
end EqX

set_option Elab.async false
set_option linter.all false
set_option maxRecDepth 100000
set_option maxHeartbeats 4000000
/-! The end of a law whose defs show things: no repr is around at the caller. -/
namespace EqX
open PySem PySem.Spec PyProof.Rows L2
section
variable {P : Program} {w : World} {K : PySem.W.Frag} {mg mb : Str → Option Value} {k : Nat} {fa a : Addr} {fd : FuncData} {x : Str} {sp : Sp} {s : Shared} {vs : List Value} {H : Hp}
abbrev EndOk (s : Shared) : Result → Shared → Prop := fun r s' => r = .ok (.ret (.bool true)) ∧ PySem.OldK s.heap s'.heap ∧ s'.os = s.os ∧ AllBare s'.gens
/-- from a tracked heap that holds at most the script -/
theorem end_at (KX : K.In s.heap) (hns : s.heap.Ns mainGlobals mg) (hb : s.heap.Ns builtinsNs mb) (hbb : ∀ x : Str, x ≠ "__name__" → mb x = bootBuiltins x) (hlim : s.heap.NoLimit) (hg : s.gens = #[])
    (ha : s.heap.get? a = some { cls := .type "list", data := .seq vs.toArray }) (hr : Room k callerA)
    (F : ∀ base : Heap, K.In base → base.Ns mainGlobals mg → ∃ fd, FnG P w K mg base CX0 k fa fd [x] sp ∧ Binds K fd [x] [])
    (only : Only H) (at_ : ∀ b o, H b = some o → b = a ∧ K.lookup a = none) (hok : HOk P w H s.heap) (hsp : sp [.ref a] H (fun v _ => v = .bl true) fun _ _ _ => False) :
    codeAny (model P w) callerA (.call (.ref fa) ⟨[.ref a], []⟩) (EndOk s) s := by
  have seen : ∀ {b : Addr} {o : Obj}, s.heap.get? b = some o → (b = a → K.lookup a = none → False) → (hidT s.heap H).get? b = some o := fun {b o} e no => hidT_get e (by
    cases q : H b with
    | none => rfl
    | some u => exact (no (at_ b u q).1 (at_ b u q).2).elim)
  have kb : K.In (hidT s.heap H) := fun b o e => seen (KX b o e) fun z n => by
    rw [z, n] at e
    cases e
  have ns : ∀ {b : Addr} {m : Str → Option Value}, s.heap.Ns b m → (hidT s.heap H).Ns b m := fun {b m} ⟨o, es, ep, e, d, r⟩ => by
    have no : b = a → K.lookup a = none → False := fun z _ => by
      rw [z, ha] at e
      cases e
      cases d
    exact ⟨o, es, ep, seen e no, d, r⟩
  have md : Mod K mg (hidT s.heap H) := ⟨kb, ns hns, ⟨mb, ns hb, hbb⟩, hlim.elim fun mc h => ⟨mc, ns h.1, h.2⟩⟩
  have e0 : Env0 P w K mg (hidT s.heap H) callerA [] s H := ⟨rfl, md, fun b o e => of_hidT e, Nat.le_of_eq (hidT_size _ _), trivial, fun b (hb : b ∈ ([] : List Addr)) => absurd hb List.not_mem_nil, hok, .of_eq hg⟩
  obtain ⟨fd, G, bd⟩ := F _ kb (ns hns)
  refine codeAny_mono (G.run callerA [] s H ⟨[.ref a], []⟩ [.ref a] [.ref a] _ _ hr rfl e0 (bd s [.ref a] KX rfl) (.cons rfl .nil) hsp) fun r s' h => ?_
  rcases r with e | (_ | _ | _ | u)
  · exact h.elim
  · exact h.elim
  · exact h.elim
  · exact h.elim
  · obtain ⟨v, H', os, bare, un, hok', rv, q⟩ := h
    subst q
    obtain rfl : u = Value.bool true := rv
    refine ⟨rfl, OldK.of_keep fun b o e => ?_, os, bare⟩
    rcases only b with z | ⟨ob, xs, z⟩
    · exact un.keep b o e z (fun y => by cases y) (fun y => by cases y)
    · have e1 := (hok b _ z).1
      rw [e] at e1
      cases e1
      exact (hok' b _ (un.frzs b _ _ z)).1
theorem end_call {ns : List Int} (KX : K.In s.heap) (hns : s.heap.Ns mainGlobals mg) (hb : s.heap.Ns builtinsNs mb) (hbb : ∀ x : Str, x ≠ "__name__" → mb x = bootBuiltins x) (hlim : s.heap.NoLimit) (hg : s.gens = #[])
    (ha : s.heap.get? a = some { cls := .type "list", data := .seq vs.toArray }) (hi : IntsAre vs ns) (hl : ns.length ≤ sizeLine) (hr : Room k callerA)
    (F : ∀ base : Heap, K.In base → base.Ns mainGlobals mg → ∃ fd, FnG P w K mg base CX0 k fa fd [x] sp ∧ Binds K fd [x] [])
    (hsp : ∀ H : Hp, Only H → SqL K H a (ns.map V.int) → sp [.ref a] H (fun v _ => v = .bl true) fun _ _ _ => False) :
    codeAny (model P w) callerA (.call (.ref fa) ⟨[.ref a], []⟩) (EndOk s) s := by
  have rv := vals_ints hi
  cases hk : K.lookup a with
  | some o =>
    have e := (KX a o hk).symm.trans ha
    cases e
    have o0 : Only fun _ => none := fun _ => .inl rfl
    have S0 : SqL K (fun _ => none) a (ns.map V.int) := .inr ⟨_, vs.toArray, _, hk, rfl, rfl, rfl, by rw [List.size_toArray, hi.length]; exact hl, by simpa using rv⟩
    exact end_at KX hns hb hbb hlim hg ha hr F o0 (fun b u z => nomatch z) (fun b u z => nomatch z) (hsp _ o0 S0)
  | none =>
    have is : ∀ {b : Addr} {u : HO}, (if b = a then some (HO.frz { cls := .type "list", data := .seq vs.toArray } (.lst (ns.map V.int))) else none) = some u → b = a ∧ u = .frz { cls := .type "list", data := .seq vs.toArray } (.lst (ns.map V.int)) := fun {b u} z => by
      split at z
      · rename_i h
        exact ⟨h, (Option.some.inj z).symm⟩
      · cases z
    have o1 : Only fun b => if b = a then some (.frz { cls := .type "list", data := .seq vs.toArray } (.lst (ns.map V.int))) else none := fun b => (Decidable.em (b = a)).elim (fun h => .inr ⟨_, _, if_pos h⟩) fun h => .inl (if_neg h)
    have S1 : SqL K (fun b => if b = a then some (.frz { cls := .type "list", data := .seq vs.toArray } (.lst (ns.map V.int))) else none) a (ns.map V.int) := .inl (.inr ⟨_, if_pos rfl⟩)
    refine end_at KX hns hb hbb hlim hg ha hr F o1 (fun b u z => ⟨(is z).1, hk⟩) (fun b u z => ?_) (hsp _ o1 S1)
    obtain ⟨h1, h2⟩ := is z
    subst h1 h2
    exact ⟨ha, by rw [List.length_map]; exact hl, vs, _, rv, ha⟩
/-- a law, by the facts that its top's Hook tells -/
theorem walk_ofG {l : PySem.W.OpenLaw} {n : Nat} {q : Program} {loose : List Str} {XP : (Str → Option Value) → Heap → Prop} {YP : World → Heap → Prop} {d : DefRec} (hn : l.most = some n) (hn2 : n ≤ sizeLine) (hdf : d.params.defaults = []) (hr : Room k callerA)
    (F : ∀ (w : World) (mg : Str → Option Value) (fa : Addr) (h : Heap), YP w h → h.Ns mainGlobals mg → mg d.name = some (.ref fa) →
      ∃ (K : PySem.W.Frag) (sp : Sp), K.In h ∧
        (∀ (H : Hp) (a : Addr) (ns : List Int), ns.length ≤ n → Only H → SqL K H a (ns.map V.int) → sp [.ref a] H (fun v _ => v = .bl true) fun _ _ _ => False) ∧
        ∀ base : Heap, K.In base → base.Ns mainGlobals mg → ∃ fd, FnG l.prog w K mg base CX0 k fa fd [x] sp ∧ Binds K fd [x] []) :
    PySem.W.WalkO q loose XP YP l.row.toRowW d [] (fun f vs => PySem.call f vs) := by
  refine Att.attach_call hn hdf fun w s₀ s₁ mg mb fa o pm cd doc a vs ns G Y ho hd hcd hmg hobj hints hlen hg => ?_
  obtain ⟨K, sp, KX, hsp, hF⟩ := F w mg fa _ Y G.T.g hmg
  exact end_call KX G.T.g G.T.b G.T.builtins G.T.nolimit hg hobj hints (Nat.le_trans hlen hn2) hr hF fun H hO hS => hsp H a ns hlen hO hS
end
end EqX

set_option Elab.async false
set_option linter.all false
set_option maxRecDepth 100000
set_option maxHeartbeats 4000000
/-! A Hook that reads own error classes too. -/
namespace EqX
open PySem PySem.Spec PyProof.Rows L2 PySem.EqX PySem.HandSPX
/-! ### what is asked of such a class -/
def clsB (K : PySem.W.Frag) (C : Addr) : Bool := match K.lookup C with
  | some ⟨.type "type", _, .cls cd, sl⟩ => (match cd.mro, sl.toList with
    | .ref c :: bm, [_, _, _, _, some (.builtin n), _] => decide (c = C) && (decide (n = "ValueError.__new__") && (!cd.hasDel && (cd.hasDict && refsVE bm)))
    | _, _ => false)
  | _ => false
theorem clsB_ok {K : PySem.W.Frag} {C : Addr} (h : clsB K C = true) : ∃ nm q N bs bm sn sub ab col dd k0 k1 k2 k3 k5, K.lookup C = some (excClassObj nm q C N bs bm true sn sub ab col dd k0 k1 k2 k3 k5 "ValueError.__new__") ∧ refsVE bm = true := by
  unfold clsB at h
  split at h
  · rename_i dd cd sl ho
    split at h
    · rename_i c bm k0 k1 k2 k3 n k5 hm hs
      simp only [Bool.and_eq_true, decide_eq_true_eq, Bool.not_eq_true'] at h
      obtain ⟨e1, e2, e3, e4, e5⟩ := h
      obtain ⟨nm, bs, mro, ns, qn, hd, sn, sub, ab, col, del⟩ := cd
      obtain ⟨l⟩ := sl
      dsimp only at hm hs e3 e4
      subst e1 e2 e3 e4 hm hs
      exact ⟨nm, qn, ns, bs, bm, sn, sub, ab, col, dd, k0, k1, k2, k3, k5, ho, e5⟩
    · cases h
  · cases h
def eclassB (K : PySem.W.Frag) (C : Addr) : Bool :=
  clsB K C && (decide (PySem.W.findIn K (.ref C) "__setattr__" = some (some (.builtin "object.__setattr__"))) && (decide (PySem.W.subIn K (.ref C) (.type "BaseException") = some true) && (decide (PySem.W.subIn K (.ref C) (.type "ValueError") = some true) &&
    (decide (PySem.W.typeIn K (.ref C) = some (.type "type")) && (PySem.W.keepIn K (.ref C) && (decide (PySem.W.mroIn K C (.ref C) = some true) && (decide (PySem.W.nsIn K cStatics "thirdparty.any" = some none) && decide (PySem.W.ks_superIn K C C "__init__" = some (some (.builtin "ValueError.__init__"))))))))))
theorem eclassB_ok {K : PySem.W.Frag} {C : Addr} (h : eclassB K C = true) : EClass K C := by
  unfold eclassB at h
  simp only [Bool.and_eq_true, decide_eq_true_eq] at h
  obtain ⟨h1, h2, h3, h4, h5, h6, h7, h8, h9⟩ := h
  exact ⟨clsB_ok h1, h2, h3, h4, h5, h6, h7, h8, h9⟩
def excCB (K : PySem.W.Frag) (D : Addr) : Bool :=
  decide (PySem.W.findIn K (.ref D) "__getattribute__" = some (some (.builtin "BaseException.__getattribute__"))) && (decide (PySem.W.findIn K (.ref D) "__getattr__" = some none) && (decide (PySem.W.subIn K (.ref D) (.type "BaseException") = some true) && (PySem.W.hasDictIn K D &&
    (decide (PySem.W.findIn K (.ref D) "__class__" = some (some (.builtin "object.__class__"))) && (decide (PySem.W.specialIn K (.builtin "object.__class__") "__get__" = some (some (.builtin "getset_descriptor.__get__"))) && (decide (PySem.W.takesIn K (.builtin "object.__class__") = some true) && decide (PySem.W.mroIn K D (.type "object") = some true)))))))
theorem excCB_ok {K : PySem.W.Frag} {D : Addr} (h : excCB K D = true) : ExcC K D := by
  unfold excCB at h
  simp only [Bool.and_eq_true, decide_eq_true_eq] at h
  obtain ⟨h1, h2, h3, h4, h5, h6, h7, h8⟩ := h
  exact ⟨h1, h2, h3, h4, h5, h6, h7, h8⟩
/-! ### an __init__ with the cell of its class -/
structure IniD where
  cls : Str
  qual : Str
  params : Arguments
  body : List Stmt
  scope : Scope
abbrev IniW : Type := Option (Str × Str × Arguments × FuncBody × Scope × Addr × List Str × Addr)
def iAd (K : PySem.W.Frag) (x : Str) : Addr := He.ma K (He.ga K x) "__init__"
def iniW (K : PySem.W.Frag) (x : Str) : IniW := match K.lookup (iAd K x) with
  | some ⟨_, _, .func fd, _⟩ => some (fd.name, fd.qualname, fd.params, fd.body, fd.scope, fd.globals, fd.closure.map (·.1), fd.builtins)
  | _ => none
def IniD.val (d : IniD) : IniW := some ("__init__", d.qual, d.params, .stmts d.body, d.scope, mainGlobals, ["__class__"], builtinsNs)
def iniB (file : Str) (K : PySem.W.Frag) (x qual : Str) : Bool :=
  decide (PySem.W.findIn K (.ref (He.ga K x)) "__init__" = some (some (.ref (iAd K x)))) && (decide (PySem.W.typeIn K (.ref (iAd K x)) = some (.type "function")) && (match K.lookup (iAd K x) with
  | some ⟨_, _, .func fd, _⟩ => (match fd.defaults, fd.kwdefaults, fd.code, fd.closure with
    | .none, .none, .ref cd, [(_, cc)] => PySem.W.codeIn K (.ref cd) qual && ((match K.lookup cd with
      | some ⟨_, _, .fields vs, _⟩ => (match (vs[2]? : Option Value) with
        | some (Value.str fl _) => file == fl
        | _ => false)
      | _ => false) && (match K.lookup cc with
      | some ⟨_, _, .cell (some (.ref c)), _⟩ => decide (c = He.ga K x)
      | _ => false))
    | _, _, _, _ => false)
  | _ => false))
theorem ini_ok {P : Program} {K : PySem.W.Frag} {d : IniD} (e : iniW K d.cls = d.val) (b : iniB P.main.file K d.cls d.qual = true) (ht : (P.main.scope.names.lookup ("super" : Str)).isSome = false) :
    ∃ fd, EInit P K (He.ga K d.cls) (iAd K d.cls) d.qual d.params d.body d.scope fd := by
  obtain ⟨b1, b⟩ := He.ba b
  obtain ⟨b2, b⟩ := He.ba b
  unfold iniW at e
  cases q : K.lookup (iAd K d.cls) with
  | none =>
    rw [q] at b
    cases b
  | some o =>
    obtain ⟨oc, od, dt, osl⟩ := o
    rw [q] at b e
    cases dt with
    | func fd =>
      obtain ⟨n1, n2, n3, n4, n5, n6, n7, n8, n9, n10, n11, n12, n13, n14, n15⟩ := fd
      have e2 : (some (n1, n2, n3, n4, n5, n6, n7.map (·.1), n15) : IniW) = (some (("__init__" : Str), d.qual, d.params, FuncBody.stmts d.body, d.scope, mainGlobals, [("__class__" : Str)], builtinsNs) : IniW) := e
      simp only [Option.some.injEq, Prod.mk.injEq] at e2
      obtain ⟨h1, h2, h3, h4, h5, h6, h7, h8⟩ := e2
      subst h1 h2 h3 h4 h5 h6 h8
      dsimp only at b
      split at b
      · rename_i cda nm cc
        obtain ⟨c1, c⟩ := He.ba b
        obtain ⟨c2, c3⟩ := He.ba c
        split at c2
        · rename_i ccl cdd vs ccs lcda
          split at c2
          · rename_i fl tf hv
            split at c3
            · rename_i cl cld cc' csl lcc
              have ec := of_decide_eq_true c3
              subst ec
              have en : nm = "__class__" := by
                have z : [nm] = [("__class__" : Str)] := h7
                exact (List.cons.inj z).1
              subst en
              exact ⟨_, ⟨of_decide_eq_true b1, of_decide_eq_true b2, ⟨oc, od, n10, n11, n12, n14, osl, cda, cc, ccl, cdd, vs, ccs, fl, tf, cl, cld, csl, rfl, q, c1, lcda, hv, c2, lcc⟩, ht⟩⟩
            · cases c3
          · cases c2
        · cases c2
      · cases b
    | _ => cases b
/-! ### the Hook -/
structure HdE where
  n : Nat
  file : Str
  ck : List (PySem.W.Frag → Bool)
  fn : List He.DefD
  ini : List IniD
abbrev AlE : Type := Bool × List He.FnW × List IniW
def HdE.obs (h : HdE) (K : PySem.W.Frag) : AlE := (h.ck.all (fun c => c K) && (h.fn.all (fun d => d.ok K) && h.ini.all fun d => iniB h.file K d.cls d.qual), h.fn.map (fun d => He.fnW K d.at_), h.ini.map fun d => iniW K d.cls)
def HdE.val (h : HdE) : AlE := (true, h.fn.map He.DefD.val, h.ini.map IniD.val)
def HdE.Says (h : HdE) (K : PySem.W.Frag) : Prop := h.obs K = h.val
def HdE.fr (h : HdE) (g : Addr → Option Obj) : PySem.W.Frag := He.frG g (He.asD g h.n ++ [sysModules, cStatics])
def HdE.hook (h : HdE) : PySem.W.Hook where
  α := AlE
  obs := fun s => h.obs (h.fr s.heap.get?)
  val := fun _ => h.val
  says := fun _ hp => ∃ K : PySem.W.Frag, K.In hp ∧ h.Says K
  of := fun _ _ e => ⟨_, He.frG_in, e⟩
  keeps := fun _ _ _ ⟨K, hK, c⟩ k => ⟨K, PySem.W.Frag.In.keeps hK k, c⟩
def HdE.ob (h : HdE) (s : PySem.W.SharedT) : AlE := h.obs (h.fr (HandSHeadRun.getT s))
theorem HdE.ob_eq (h : HdE) (s : PySem.W.SharedT) : h.ob s = h.hook.obs s.abs := by
  have e : HandSHeadRun.getT s = s.abs.heap.get? := funext (HandSHeadRun.getT_eq s)
  show h.obs (h.fr (HandSHeadRun.getT s)) = h.obs (h.fr s.abs.heap.get?)
  rw [e] <;> rfl
section
variable {h : HdE} {K : PySem.W.Frag}
theorem HdE.Says.fact (c : h.Says K) (i : Nat) {f : PySem.W.Frag → Bool} (e : h.ck[i]? = some f := by rfl) : f K = true := by
  have z := (He.ba (show (h.ck.all (fun c => c K) && (h.fn.all (fun d => d.ok K) && h.ini.all fun d => iniB h.file K d.cls d.qual)) = true from congrArg (fun z : AlE => z.1) c)).1
  exact List.all_eq_true.mp z f (List.mem_of_getElem? e)
theorem HdE.Says.def_ (c : h.Says K) (i : Nat) {d : He.DefD} (e : h.fn[i]? = some d := by rfl) : ∃ fd, FunD K d.name d.qual d.params d.body d.scope (d.dvs K) (d.kws K) (He.fAd K d.at_) fd := by
  have z := (He.ba (He.ba (show (h.ck.all (fun c => c K) && (h.fn.all (fun d => d.ok K) && h.ini.all fun d => iniB h.file K d.cls d.qual)) = true from congrArg (fun z : AlE => z.1) c)).2).1
  have e1 : h.fn.map (fun d => He.fnW K d.at_) = h.fn.map He.DefD.val := congrArg (fun z : AlE => z.2.1) c
  have e2 : (_ : List _)[i]? = (_ : List _)[i]? := congrArg (fun l => l[i]?) e1
  rw [List.getElem?_map, List.getElem?_map, e] at e2
  exact He.DefD.funD (Option.some.inj e2) (List.all_eq_true.mp z d (List.mem_of_getElem? e))
theorem HdE.Says.ini_ {P : Program} (c : h.Says K) (hf : h.file = P.main.file) (ht : (P.main.scope.names.lookup ("super" : Str)).isSome = false) (i : Nat) {d : IniD} (e : h.ini[i]? = some d := by rfl) : ∃ fd, EInit P K (He.ga K d.cls) (iAd K d.cls) d.qual d.params d.body d.scope fd := by
  have z := (He.ba (He.ba (show (h.ck.all (fun c => c K) && (h.fn.all (fun d => d.ok K) && h.ini.all fun d => iniB h.file K d.cls d.qual)) = true from congrArg (fun z : AlE => z.1) c)).2).2
  have e1 : h.ini.map (fun d => iniW K d.cls) = h.ini.map IniD.val := congrArg (fun z : AlE => z.2.2) c
  have e2 : (_ : List _)[i]? = (_ : List _)[i]? := congrArg (fun l => l[i]?) e1
  rw [List.getElem?_map, List.getElem?_map, e] at e2
  have b := List.all_eq_true.mp z d (List.mem_of_getElem? e)
  rw [hf] at b
  exact ini_ok (Option.some.inj e2) b ht
end
end EqX

set_option Elab.async false
set_option linter.all false
set_option maxRecDepth 100000
set_option maxHeartbeats 4000000
namespace K01
open PySem PySem.Spec PyProof.Rows L2 EqX
/-! the words' steps, one after another -/
local macro_rules | `(tactic| walk_at "w") => `(tactic| (repeat (first
  | with_reducible refine w_seq ?_ | with_reducible refine w_asg ?_ | with_reducible refine w_ret ?_ | with_reducible exact w_retN ?_ | with_reducible refine w_drop ?_ | with_reducible refine w_ifs ?_ | with_reducible refine w_next ?_
  | with_reducible refine w_name ?_ | with_reducible refine w_gsub ?_ | ((with_reducible refine' w_var ?hx ?_); (case hx => exact rfl)) | with_reducible refine w_c ?_ | with_reducible refine w_op ?_ | with_reducible refine w_un ?_ | with_reducible refine w_cb ?_ | with_reducible refine w_call ?_
  | with_reducible refine w_nil ?_ | with_reducible refine w_cons ?_ | with_reducible refine w_test ?_ | with_reducible refine w_b ?_ | with_reducible refine w_bl ?_ | with_reducible refine w_not ?_ | with_reducible refine w_and ?_ | with_reducible refine w_or ?_
  | with_reducible refine w_notV ?_ | with_reducible refine w_blV ?_ | with_reducible refine w_I0 ?_ | ((with_reducible refine w_mulL ?_ ?_); · omega) | ((with_reducible refine w_mulR ?_ ?_); · omega) | ((with_reducible refine w_pow ?_ ?_); · decide)
  | with_reducible refine w_neg ?_ | ((with_reducible refine w_eq ?_ ?_); · exact rfl) | ((with_reducible refine w_ne ?_ ?_); · exact rfl) | with_reducible refine w_int1 ?_ | with_reducible refine w_abs ?_ | with_reducible refine w_max2 ?_ | with_reducible refine w_min2 ?_
  | with_reducible refine w_gcons ?_ | with_reducible refine w_gnil ?_ | with_reducible refine w_tup ?_ | with_reducible refine w_lst ?_ | with_reducible refine w_sl ?_ | with_reducible refine w_no ?_ | with_reducible refine w_part ?_ | with_reducible refine w_partI ?_ | with_reducible refine ⟨_, (rfl : V.int _ = V.int _), ?_⟩
  | with_reducible refine w_for ?_ | with_reducible refine w_iL ?_ | with_reducible refine w_iT ?_ | with_reducible refine w_iR ?_ | with_reducible refine w_yes ?_ | with_reducible refine w_setLc ?_ | with_reducible refine w_isB ?_)))

def top (i : Nat) : Stmt := PySem.Challenge.pw_equalworlds_k01_errors_each_of_its_own.main.body.getD i (.Pass ⟨0, 0, 0, 0⟩)
/-- the built-in names that the text leaves -/
structure Bt (K : PySem.W.Frag) (mg : Str → Option Value) : Prop where
  n_len : mg "len" = none
  n_int : mg "int" = none
  n_abs : mg "abs" = none
/-! ### the draws -/
abbrev s_purse : Stmt := top 24
abbrev s_take : Stmt := top 25
abbrev s_pick : Stmt := top 26
theorem sc__law_take : FnScope ["draws", "many", "figures", "seed", "turn"] ["draws", "many"] (defScope s_take) := ⟨rfl, rfl, rfl, by decide +kernel, rfl, by decide +kernel, by decide +kernel⟩
theorem sc__law_pick : FnScope ["draws", "some"] ["draws", "some"] (defScope s_pick) := ⟨rfl, rfl, rfl, by decide +kernel, rfl, by decide +kernel, by decide +kernel⟩
theorem sc__law_purse : FnScope ["cells", "at", "cell", "seed", "other"] ["cells", "at"] (defScope s_purse) := ⟨rfl, rfl, rfl, by decide +kernel, rfl, by decide +kernel, by decide +kernel⟩
theorem set_f {f s t v : Int} : (purseL f s t).set 0 (.int v) = purseL v s t := rfl
theorem set_s {f s t v : Int} : (purseL f s t).set 1 (.int v) = purseL f v t := rfl
theorem set_t {f s t v : Int} : (purseL f s t).set 2 (.int v) = purseL f s v := rfl
theorem df_take {P : Program} {w : World} {K : PySem.W.Frag} {mg : Str → Option Value} {base : Heap} (T : Bt K mg) (A : At K mg "_law_take" s_take) : Df P w K mg base CX0 1 "_law_take" ["draws", "many"] spTake := by
  refine df_of A sc__law_take (fun _ _ _ _ _ _ us hl => match us, hl with | [_, _], _ => rfl) (fun vs H Q E h => by obtain ⟨d, m, rfl, _⟩ := h; rfl) (fun f cdv A outer s H vs Q E hr h => ?_)
  refine ⟨_, (pss_cons (ps_asg (pv 0) (pg_unl rfl (pgs_cons (pg_name (i := 2) sc__law_take.nd rfl (Or.inl rfl)) (pgs_cons (pg_name (i := 3) sc__law_take.nd rfl (Or.inl rfl)) (pgs_cons (pg_name (i := 4) sc__law_take.nd rfl (Or.inl rfl)) pgs_nil)))))
      (pss_cons (ps_asg (pe_op op_mod (pe_callTy c_int1 (by rfl) T.n_int boot_int (pa_cons (pe_op op_add (pe_op op_add (pe_op op_mul (pv 3) (pe_op op_add pe_int (pe_op op_mul pe_int (pv 4)))) (pe_op op_mul pe_int (pv 4))) pe_int) pa_nil)) pe_int) (pg_sub (pv 0) pe_int set_list))
      (pss_cons (ps_asg (pe_op op_add (pv 4) pe_int) (pg_sub (pv 0) pe_int set_list))
      (pss_cons (ps_if (pt_cmpR op_gt (pv 2) pe_int (nomark _)) (pss_cons (ps_asg (pe_op op_fdiv (pe_callTy c_int1 (by rfl) T.n_int boot_int (pa_cons (pv 2) pa_nil)) (pv 1)) (pg_sub (pv 0) pe_int set_list))
      (pss_one (ps_ret (pe_op op_mod (pe_callTy c_int1 (by rfl) T.n_int boot_int (pa_cons (pv 2) pa_nil)) (pv 1))))) pss_nil)
      (pss_one (ps_ret (pe_op op_mod (pe_callTy c_int1 (by rfl) T.n_int boot_int (pa_cons (pe_op op_fdiv (pe_ix ix_list (pv 0) pe_int (fun _ _ => rfl)) pe_int) pa_nil)) (pv 1)))))))), ?_⟩
  obtain ⟨d, m, rfl, ⟨f, s, t, hd, f0, s0, s1⟩, m0, m1, q⟩ := h
  have s1' : s < 2147483549 := s1
  walk_at "w"
  refine w_unl (SqL.of hd) rfl ?_
  walk_at "w"
  refine w_I (by decide) ?_
  walk_at "w"
  refine w_setL hd rfl ?_
  walk_at "w"
  refine w_setL upd_same rfl ?_
  walk_at "w"
  have r0 : (0 : Int) ≤ (s * (79031 + 6 * t) + 42013 * t + 28211) % 2147483549 := Int.emod_nonneg _ (by decide)
  have r1 : (s * (79031 + 6 * t) + 42013 * t + 28211) % 2147483549 < bigM := Int.emod_lt_of_pos _ (by decide)
  refine w_dec (fun c => ?_) (fun c => ?_)
  · walk_at "w"
    refine w_I ⟨m0, by omega⟩ ?_
    walk_at "w"
    refine w_setL upd_same rfl ?_
    walk_at "w"
    refine w_I m0 ?_
    rw [upd_upd, upd_upd]
    exact q _ (f / m) _ (t + 1) (Int.emod_nonneg _ (by omega)) (Int.emod_lt_of_pos _ m0) (Int.ediv_nonneg f0 (by omega)) r0 r1
  · walk_at "w"
    refine w_ixL (SqL.of upd_same) rfl ?_
    walk_at "w"
    refine w_I ⟨by decide, by decide⟩ ?_
    walk_at "w"
    refine w_I m0 ?_
    rw [upd_upd]
    exact q _ f _ (t + 1) (Int.emod_nonneg _ (by omega)) (Int.emod_lt_of_pos _ m0) f0 r0 r1
theorem atI_get {xs : List V} {i : Int} (h0 : 0 ≤ i) (h1 : i < (xs.length : Int)) : ∃ v, atI xs i = some v ∧ v ∈ xs := by
  have hl : i.toNat < xs.length := by omega
  obtain ⟨v, hv⟩ : ∃ v, xs[i.toNat]? = some v := ⟨_, List.getElem?_eq_getElem hl⟩
  refine ⟨v, ?_, List.mem_of_getElem? hv⟩
  have e := atI_nat hv
  rw [show ((i.toNat : Nat) : Int) = i by omega] at e
  exact e
theorem df_pick {P : Program} {w : World} {K : PySem.W.Frag} {mg : Str → Option Value} {base : Heap} (T : Bt K mg) (A : At K mg "_law_pick" s_pick) (D__law_take : Df P w K mg base CX0 1 "_law_take" ["draws", "many"] spTake) :
    Df P w K mg base CX0 2 "_law_pick" ["draws", "some"] (spPick K) := by
  refine df_of A sc__law_pick (fun _ _ _ _ _ _ us hl => match us, hl with | [_, _], _ => rfl) (fun vs H Q E h => by obtain ⟨d, a, xs, rfl, _⟩ := h; rfl) (fun f cdv A outer s H vs Q E hrs h => ?_)
  refine ⟨_, (pss_one (ps_ret (pe_ix ix_seq (pv 1) (pe_df D__law_take (hrs.mono (by decide)) (pa_cons (pv 0) (pa_cons (pe_callB c_lenS (by rfl) T.n_len PySem.boot_len (pa_cons (pv 1) pa_nil)) pa_nil))) (fun _ _ => rfl)))), ?_⟩
  obtain ⟨d, a, xs, rfl, hp, hx, ne, nil, lt, q⟩ := h
  have lp : 0 < xs.length := by
    cases xs with
    | nil => exact absurd rfl nil
    | cons _ _ => exact Nat.succ_pos _
  have st : ∀ {o : HO}, SqL K H a xs ∨ SqT K H a xs → SqL K (upd H d o) a xs ∨ SqT K (upd H d o) a xs := fun {o} h => by
    rcases h with ((h | ⟨ob, h⟩) | h) | ((h | ⟨ob, h⟩) | h)
    · exact .inl (.inl (.inl (by rw [upd_ne ne]; exact h)))
    · exact .inl (.inl (.inr ⟨ob, by rw [upd_ne ne]; exact h⟩))
    · exact .inl (.inr h)
    · exact .inr (.inl (.inl (by rw [upd_ne ne]; exact h)))
    · exact .inr (.inl (.inr ⟨ob, by rw [upd_ne ne]; exact h⟩))
    · exact .inr (.inr h)
  walk_at "w"
  refine ⟨a, xs, rfl, hx, ?_⟩
  refine ⟨d, _, rfl, hp, by omega, by omega, fun r f s t r0 r1 f0 s0 s1 => ?_⟩
  obtain ⟨v, hv, hm⟩ := atI_get r0 r1
  rcases st hx with h | h
  · exact .inl ⟨a, xs, r, v, rfl, rfl, h, hv, q v f s t hm f0 s0 s1⟩
  · exact .inr (.inl ⟨a, xs, r, v, rfl, rfl, h, hv, q v f s t hm f0 s0 s1⟩)
theorem df_purse {P : Program} {w : World} {K : PySem.W.Frag} {mg : Str → Option Value} {base : Heap} (T : Bt K mg) (A : At K mg "_law_purse" s_purse) : Df P w K mg base CX0 1 "_law_purse" ["cells", "at"] (spPurse K) := by
  refine df_of A sc__law_purse (fun _ _ _ _ _ _ us hl => match us, hl with | [_, _], _ => rfl) (fun vs H Q E h => by obtain ⟨a, ns, i, rfl, _⟩ := h; rfl) (fun f cdv A outer s H vs Q E hrs h => ?_)
  refine ⟨_, PSs.nox (pss_cons (ps_set (i := 2) sc__law_purse.nd rfl (Or.inl rfl) (pe_ifExp (pt_cmpR op_lt (pv 1) (pe_callB c_lenS (by rfl) T.n_len PySem.boot_len (pa_cons (pv 0) pa_nil)) (nomark _)) (pe_ix ix_list (pv 0) (pv 1) (fun _ _ => rfl)) pe_int))
      (pss_cons (ps_set (i := 3) sc__law_purse.nd rfl (Or.inl rfl) (pe_op op_mod (pe_callTy c_int1 (by rfl) T.n_int boot_int (pa_cons (pe_op op_add (pe_op op_add (pe_op op_mul (pv 2) pe_int) (pe_op op_mul (pv 1) pe_int)) pe_int) pa_nil)) pe_int))
      (pss_cons (ps_for PassesOwn.never rfl (pi_list (pe_ifExp (pt_cmpR op_ge (pv 1) (pe_callB c_lenS (by rfl) T.n_len PySem.boot_len (pa_cons (pv 0) pa_nil)) (nomark _)) (pe_slice sl_list (pv 0) po_none (po_some pe_int)) (pe_lst pa_nil))) (pg_name (i := 4) sc__law_purse.nd rfl (Or.inl rfl)) (pss_one (ps_set (i := 3) sc__law_purse.nd rfl (Or.inl rfl) (pe_op op_mod (pe_callTy c_int1 (by rfl) T.n_int boot_int (pa_cons (pe_op op_add (pe_op op_mul (pv 3) pe_int) (pv 4)) pa_nil)) pe_int))))
      (pss_one (ps_ret (pe_lst (pa_cons (pe_ifExp (pt_cmpR op_ge (pe_callB c_abs (by rfl) T.n_abs (by decide +kernel) (pa_cons (pv 2) pa_nil)) (pe_op op_pow pe_int pe_int) (nomark _)) (pe_op op_mod (pe_callTy c_int1 (by rfl) T.n_int boot_int (pa_cons (pe_callB c_abs (by rfl) T.n_abs (by decide +kernel) (pa_cons (pv 2) pa_nil)) pa_nil)) (pe_op op_mulW (pe_op op_mulW (pe_op op_pow pe_int pe_int) (pe_op op_pow pe_int pe_int)) (pe_op op_pow pe_int pe_int))) pe_int) (pa_cons (pv 3) (pa_cons pe_int pa_nil))))))))), ?_⟩
  obtain ⟨a, ns, i, rfl, hx, hi, hl, q⟩ := h
  walk_at "w"
  refine w_mid (fun v => ∃ n : Int, v = .int n) (fun Q' hQ => ?_) (fun v hv => ?_)
  · refine w_if ?_
    walk_at "w"
    refine w_lenL hx ?_
    walk_at "w"
    refine w_dec (fun c => ?_) (fun c => ?_)
    · walk_at "w"
      obtain ⟨v, e, hm⟩ := atI_get (xs := ns.map V.int) (i := (i : Int)) (by omega) c
      obtain ⟨n, _, rfl⟩ := List.mem_map.mp hm
      exact w_ixL hx e (hQ _ ⟨n, rfl⟩)
    · exact hQ _ ⟨0, rfl⟩
  obtain ⟨n, rfl⟩ := hv
  walk_at "w"
  refine w_I (by decide) ?_
  walk_at "w"
  have r0 : (0 : Int) ≤ (n * 21001 + (i : Int) * 81017 + 2003) % 2147483549 := Int.emod_nonneg _ (by decide)
  have r1 : (n * 21001 + (i : Int) * 81017 + 2003) % 2147483549 < bigM := Int.emod_lt_of_pos _ (by decide)
  generalize (n * 21001 + (i : Int) * 81017 + 2003) % 2147483549 = s0 at r0 r1 ⊢
  have fin : ∀ (H1 : Hp) (n1 : Int) (o : Option V), Same H H1 → 0 ≤ n1 → n1 < bigM → tRet (tLst (tCons (tIf (tTest (tOp (rI0 fun i j => V.bl (decide (j ≤ i))) (tCB rAbs (tCons (tVar 2) tNil)) (tOp (rI CPow fun i j => V.int (i ^ j.toNat)) (tC (V.int 10)) (tC (V.int 18)))))
      (tOp (rI (fun _ j => 0 < j) fun i j => V.int (i % j)) (tCB rInt1 (tCons (tCB rAbs (tCons (tVar 2) tNil)) tNil))
        (tOp (rI CMulW fun i j => V.int (i * j)) (tOp (rI CMulW fun i j => V.int (i * j)) (tOp (rI CPow fun i j => V.int (i ^ j.toNat)) (tC (V.int 10)) (tC (V.int 64))) (tOp (rI CPow fun i j => V.int (i ^ j.toNat)) (tC (V.int 10)) (tC (V.int 64))))
          (tOp (rI CPow fun i j => V.int (i ^ j.toNat)) (tC (V.int 10)) (tC (V.int 64))))) (tC (V.int 0))) (tCons (tVar 3) (tCons (tC (V.int 0)) tNil))))
      { nx := fun _ H' => Q V.non H', rt := Q } [some (.ref a), some (.int i), some (.int n), some (.int n1), o] H1 := by
    intro H1 n1 o sm g0 g1
    refine w_ret (w_lst ?_)
    walk_at "w"
    refine w_mid (fun v => ∃ m : Int, 0 ≤ m ∧ v = .int m) (fun Q' hQ => ?_) (fun v hv => ?_)
    · refine w_if ?_
      walk_at "w"
      refine w_dec (fun c => ?_) (fun c => ?_)
      · walk_at "w"
        refine w_I (wide_mul (a := 300) (b := 300) (by decide +kernel) (by decide +kernel) (by decide) (by decide) (by decide)) ?_
        walk_at "w"
        refine w_I (wide_mul (a := 600) (b := 300) (by decide +kernel) (by decide +kernel) (by decide) (by decide) (by decide)) ?_
        refine w_I (by decide +kernel) ?_
        exact hQ _ ⟨_, Int.emod_nonneg _ (by decide +kernel), rfl⟩
      · exact hQ _ ⟨0, Int.le_refl _, rfl⟩
    · obtain ⟨m, m0, rfl⟩ := hv
      walk_at "w"
      refine ⟨len_ok (by show 3 ≤ 1000; decide), fun d hd => q d _ (sm.free hd) ⟨m, n1, 0, upd_same, m0, g0, g1⟩ (sm.trans fun b o e => ?_)⟩
      rw [upd_ne (fun z => by rw [z, hd] at e; cases e)]
      exact e
  refine w_midH (fun v H' => ∃ (p : Addr) (xs : List V), v = .ref p ∧ H p = none ∧ H' = upd H p (.lst xs) ∧ ∀ x ∈ xs, ∃ m : Int, x = .int m) (fun Q' hQ => ?_) (fun v H' hv => ?_)
  · refine w_if ?_
    walk_at "w"
    refine w_lenL hx ?_
    walk_at "w"
    refine w_dec (fun c => ?_) (fun c => ?_)
    · walk_at "w"
      refine w_slL hx fun p hp => ?_
      refine hQ _ _ ⟨p, _, rfl, hp, rfl, fun x hx => ?_⟩
      obtain ⟨m, _, rfl⟩ := List.mem_map.mp (List.mem_of_mem_drop (List.mem_of_mem_take hx))
      exact ⟨m, rfl⟩
    · walk_at "w"
      exact ⟨by decide, fun p hp => hQ _ _ ⟨p, [], rfl, hp, rfl, fun x hx => by cases hx⟩⟩
  obtain ⟨p, xs, rfl, hp, rfl, hxs⟩ := hv
  have sm : Same H (upd H p (.lst xs)) := fun b o e => by
    rw [upd_ne (fun z => by rw [z, hp] at e; cases e)]
    exact e
  refine w_forLv (fun _ σ' H' => H' = upd H p (.lst xs) ∧ ∃ (n1 : Int) (o : Option V), 0 ≤ n1 ∧ n1 < bigM ∧ σ' = [some (.ref a), some (.int i), some (.int n), some (.int n1), o]) (SqL.of upd_same) ⟨rfl, s0, none, r0, r1, rfl⟩ (fun _ _ _ _ h => by rw [h.1]; exact SqL.of upd_same) (fun j x σ' H' hj h => ?_) (fun σ' H' h => ?_)
  · obtain ⟨rfl, n1, o, g0, g1, rfl⟩ := h
    obtain ⟨m, rfl⟩ := hxs x (List.mem_of_getElem? hj)
    walk_at "w"
    refine w_I (by decide) ?_
    walk_at "w"
    exact ⟨rfl, _, _, Int.emod_nonneg _ (by decide), Int.emod_lt_of_pos _ (by decide), rfl⟩
  · obtain ⟨rfl, n1, o, g0, g1, rfl⟩ := h
    exact fin _ n1 o sm g0 g1

end K01

set_option Elab.async false
set_option linter.all false
set_option maxRecDepth 100000
set_option maxHeartbeats 4000000
namespace K01
open PySem PySem.Spec PyProof.Rows L2 L2H HotX EqX
/-! the words' steps, one after another -/
local macro_rules | `(tactic| walk_at "w") => `(tactic| (repeat (first
  | with_reducible refine w_seq ?_ | with_reducible refine w_asg ?_ | with_reducible refine w_ret ?_ | with_reducible exact w_retN ?_ | with_reducible refine w_drop ?_ | with_reducible refine w_ifs ?_ | with_reducible refine w_next ?_
  | with_reducible refine w_name ?_ | with_reducible refine w_gsub ?_ | ((with_reducible refine' w_var ?hx ?_); (case hx => exact rfl)) | with_reducible refine w_c ?_ | with_reducible refine w_op ?_ | with_reducible refine w_un ?_ | with_reducible refine w_cb ?_ | with_reducible refine w_call ?_
  | with_reducible refine w_nil ?_ | with_reducible refine w_cons ?_ | with_reducible refine w_test ?_ | with_reducible refine w_b ?_ | with_reducible refine w_bl ?_ | with_reducible refine w_not ?_ | with_reducible refine w_and ?_ | with_reducible refine w_or ?_
  | with_reducible refine w_notV ?_ | with_reducible refine w_blV ?_ | with_reducible refine w_I0 ?_ | ((with_reducible refine w_mulL ?_ ?_); · omega) | ((with_reducible refine w_mulR ?_ ?_); · omega) | ((with_reducible refine w_pow ?_ ?_); · decide)
  | with_reducible refine w_neg ?_ | ((with_reducible refine w_eq ?_ ?_); · exact rfl) | ((with_reducible refine w_ne ?_ ?_); · exact rfl) | with_reducible refine w_int1 ?_ | with_reducible refine w_abs ?_ | with_reducible refine w_max2 ?_ | with_reducible refine w_min2 ?_
  | with_reducible refine w_gcons ?_ | with_reducible refine w_gnil ?_ | with_reducible refine w_tup ?_ | with_reducible refine w_lst ?_ | with_reducible refine w_sl ?_ | with_reducible refine w_no ?_ | with_reducible refine w_part ?_ | with_reducible refine w_partI ?_ | with_reducible refine ⟨_, (rfl : V.int _ = V.int _), ?_⟩
  | with_reducible refine w_for ?_ | with_reducible refine w_iL ?_ | with_reducible refine w_iT ?_ | with_reducible refine w_iR ?_ | with_reducible refine w_yes ?_ | with_reducible refine w_setLc ?_ | with_reducible refine w_isB ?_)))

/-! ### the classes -/
def nms : List Str := ["InvalidText", "InvalidBook", "InvalidTerm", "InvalidName", "InvalidNumber", "InvalidWorld", "InvalidValues", "InvalidSteps", "InvalidChoice", "InvalidLine", "NotADesk", "NotWellRead", "InvalidRows", "InvalidDeed", "DoesNotLead", "Barred", "NothingToUndo", "NotEqual", "NotParted", "TooWide", "NotShown"]
def nmsT : List Str := nms ++ (["TermError"] : List Str)
def fldOf (x : Str) : Str := if x = "InvalidRows" ∨ x = "InvalidDeed" ∨ x = "DoesNotLead" then "index" else if x = "Barred" then "reason" else "given"
def ones1 : List Str := nms.take 11 ++ (["InvalidRows", "InvalidDeed", "DoesNotLead", "Barred"] : List Str)
def ones0 : List Str := ["NothingToUndo", "NotEqual", "NotParted", "TooWide", "NotShown", "TermError"]
def bitsAt (i : Nat) : List Bool := (List.range 21).map fun j => decide (i = j)
def plainTys : List Value := [.type "LookupError", .type "ArithmeticError", .type "TypeError", .type "AttributeError", .type "RuntimeError"]
structure ErrK (K : PySem.W.Frag) (C : Addr) (i : Nat) : Prop where
  ex : ExcC K C
  kd : nms.map (fun x => PySem.W.kitOne K (.ref C) (.ref (He.ga K x))) = (bitsAt i).map some
  tm : PySem.W.kitOne K (.ref C) (.ref (He.ga K "TermError")) = some true
  ve : PySem.W.kitOne K (.ref C) (.type "ValueError") = some true
  no : PySem.W.kitAny K (.ref C) plainTys = some false
  cx : PySem.W.exmOne K (.ref C) (.ref (He.ga K "TermError")) = some true
/-- what the top leaves -/
structure Kt (P : Program) (w : World) (K : PySem.W.Frag) (mg : Str → Option Value) (base : Heap) : Prop extends Bt K mg where
  n_isinstance : mg "isinstance" = none
  n_repr : mg "repr" = none
  n_all : mg "all" = none
  n_range : mg "range" = none
  n_max : mg "max" = none
  n_min : mg "min" = none
  n_LookupError : mg "LookupError" = none
  n_ArithmeticError : mg "ArithmeticError" = none
  n_TypeError : mg "TypeError" = none
  n_AttributeError : mg "AttributeError" = none
  n_RuntimeError : mg "RuntimeError" = none
  n_ValueError : mg "ValueError" = none
  sysm : ∃ o, K.lookup sysModules = some o ∧ o.cls ≠ .type "list"
  gmc : ∀ x ∈ nmsT, mg x = some (.ref (He.ga K x))
  er : ∀ (i : Nat) (x : Str), nmsT[i]? = some x → ErrK K (He.ga K x) i
  o1 : ∀ x ∈ ones1, Own1 P w K mg base x (fldOf x)
  o2 : Own2 P w K mg base "NotWellRead"
  o0 : ∀ x ∈ ones0, Own0 K mg x
  xf : ∀ x ∈ nms.take 16, XfC K (He.ga K x)
  nf1 : ∀ x ∈ ones1, PySem.W.findIn K (.ref (He.ga K x)) (fldOf x) = some none
  nfr : PySem.W.findIn K (.ref (He.ga K "NotWellRead")) fRow = some none
  nfw : PySem.W.findIn K (.ref (He.ga K "NotWellRead")) fWord = some none
/-! ### the defs -/
abbrev s_kinds : Stmt := top 29
abbrev s_is_plain : Stmt := top 31
abbrev s_kept : Stmt := top 30
abbrev s_given_ones : Stmt := top 27
abbrev s_index_ones : Stmt := top 28
theorem sc__law_kinds : FnScope ["e", "found"] ["e"] (defScope s_kinds) := ⟨rfl, rfl, rfl, by decide +kernel, rfl, by decide +kernel, by decide +kernel⟩
theorem sc__law_is_plain : FnScope ["e"] ["e"] (defScope s_is_plain) := ⟨rfl, rfl, rfl, by decide +kernel, rfl, by decide +kernel, by decide +kernel⟩
theorem sc__law_kept : FnScope ["word", "e"] ["word", "e"] (defScope s_kept) := ⟨rfl, rfl, rfl, by decide +kernel, rfl, by decide +kernel, by decide +kernel⟩
theorem sc__law_given_ones : FnScope ["thing"] ["thing"] (defScope s_given_ones) := ⟨rfl, rfl, rfl, by decide +kernel, rfl, by decide +kernel, by decide +kernel⟩
theorem sc__law_index_ones : FnScope ["thing"] ["thing"] (defScope s_index_ones) := ⟨rfl, rfl, rfl, by decide +kernel, rfl, by decide +kernel, by decide +kernel⟩
/-! kinds -/
def spKinds (K : PySem.W.Frag) (pn : List (Addr × Obj)) : Sp := fun vs H Q _ => ∃ (a : Addr) (i : Nat) (x : Str), vs = [.ref a] ∧ nmsT[i]? = some x ∧ XAt pn H a (He.ga K x) ∧ ∀ l H', Same H H' → H' l = some (.lst ((bitsAt i).map V.bl)) → Q (.ref l) H'
theorem allS_is : ∀ {vs xs : List V} {H : Hp}, AllS (vs.map Is) xs H → xs = vs
  | [], [], _, _ => rfl
  | [], _ :: _, _, h => h.elim
  | _ :: _, [], _, h => h.elim
  | v :: vs, x :: xs, H, h => by rw [show x = v from h.1, allS_is h.2]
def isA (K : PySem.W.Frag) (pn : List (Addr × Obj)) (cs : List Str) : TA := cs.foldr (fun c t => tCons (tCB (rIsP K pn) (tCons (tVar 0) (tCons (tC (.ref (He.ga K c))) tNil))) t) tNil
theorem w_isP {K : PySem.W.Frag} {pn : List (Addr × Obj)} {H : Hp} {a C : Addr} {c : V} {u : Value} {b : Bool} {Q : VK} (hx : XAt pn H a C) (hE : ExcC K C) (hc : ClsV c u) (hk : PySem.W.kitOne K (.ref C) u = some b) (h : Q (.bl b) H) : rIsP K pn [.ref a, c] H Q := ⟨a, C, c, u, b, rfl, hx, hc, hE, hk, h⟩
theorem gva_is {K : PySem.W.Frag} {pn : List (Addr × Obj)} {σ : L2.St} {H : Hp} {a C : Addr} (h : σ[0]? = some (some (.ref a))) (hx : XAt pn H a C) (hE : ExcC K C) : ∀ (cs : List Str) (bs : List Bool), cs.map (fun x => PySem.W.kitOne K (.ref C) (.ref (He.ga K x))) = bs.map some → GvA (isA K pn cs) σ H ((bs.map V.bl).map Is)
  | [], [], _ => gva_nil
  | [], _ :: _, e => nomatch e
  | _ :: _, [], e => nomatch e
  | c :: cs, b :: bs, e => by
    have e1 := List.cons.inj e
    refine gva_cons (fun H0 Q s q => ?_) stab_is (gva_is h hx hE cs bs e1.2)
    exact w_cb (w_cons (w_var h (w_cons (w_c (w_nil (w_isP (hx.same s) hE (.own _) e1.1 (q _ _ (Same.refl _) rfl)))))))
theorem body_kinds {P : Program} {w : World} {K : PySem.W.Frag} {mg : Str → Option Value} {base : Heap} (T : Kt P w K mg base) {pn : List (Addr × Obj)} {t : TS} {σ : L2.St} {H : Hp} {vs : List V} {Q : VK} {E : XK} (hσ : σ = start ["e", "found"] vs) (h : spKinds K pn vs H Q E)
    (ht : t = tSeq (tAsg (tLst (isA K pn (nms.take 11))) (gName 1)) (tRet (tOp rCat (tVar 1) (tLst (isA K pn (nms.drop 11)))))) : t { nx := fun _ H' => Q .non H', rt := Q } σ H := by
  obtain ⟨a, i, x, rfl, hx, ha, q⟩ := h
  subst hσ ht
  have E := T.er i x hx
  have e1 := congrArg (List.take 11) E.kd
  have e2 := congrArg (List.drop 11) E.kd
  rw [← List.map_take, ← List.map_take] at e1
  rw [← List.map_drop, ← List.map_drop] at e2
  have st : ∀ bs : List Bool, ∀ S ∈ (bs.map V.bl).map Is, Stab S := fun bs S hS => by
    obtain ⟨v, _, rfl⟩ := List.mem_map.mp hS
    exact stab_is
  have ln : ∀ n, (((bitsAt i).take n).map V.bl).length ≤ 21 := fun n => by
    rw [List.length_map, List.length_take]
    have : (bitsAt i).length = 21 := by unfold bitsAt; rw [List.length_map, List.length_range]
    omega
  have ln2 : ∀ n, (((bitsAt i).drop n).map V.bl).length ≤ 21 := fun n => by
    rw [List.length_map, List.length_drop]
    have : (bitsAt i).length = 21 := by unfold bitsAt; rw [List.length_map, List.length_range]
    omega
  refine w_seq (w_asg (gv_lst (gva_is (by rfl) ha E.ex _ _ e1) (st _) (by have := ln 11; rw [List.length_map]; omega) H _ (Same.refl _) fun v H1 s1 h1 => ?_))
  obtain ⟨l1, xs1, rfl, hl1, hA1⟩ := h1
  rw [allS_is hA1] at hl1
  refine w_name (w_ret (w_op (w_var (by rfl) (gv_lst (gva_is (by rfl) (ha.same s1) E.ex _ _ e2) (st _) (by have := ln2 11; rw [List.length_map]; omega) H1 _ (Same.refl _) fun v H2 s2 h2 => ?_))))
  obtain ⟨l2, xs2, rfl, hl2, hA2⟩ := h2
  rw [allS_is hA2] at hl2
  refine ⟨l1, l2, _, _, rfl, rfl, s2 _ _ hl1, hl2, ?_, fun p hp => ?_⟩
  · refine len_ok ?_
    have := ln 11
    have := ln2 11
    omega
  · refine q p _ ((s1.trans s2).trans (same_new hp)) ?_
    rw [upd_same, ← List.map_append, List.take_append_drop]
section
variable {P : Program} {w : World} {K : PySem.W.Frag} {mg : Str → Option Value} {base : Heap}
theorem df_kinds (T : Kt P w K mg base) (A : At K mg "_law_kinds" s_kinds) : Df P w K mg base CX0 1 "_law_kinds" ["e"] (spKinds K []) := by
  refine df_of A sc__law_kinds (fun _ _ _ _ _ _ us hl => match us, hl with | [_], _ => rfl) (fun vs H Q E h => by obtain ⟨a, i, x, rfl, _⟩ := h; rfl) (fun f cdv A outer s H vs Q E hrs h => ?_)
  refine ⟨_, (pss_cons (ps_set (i := 1) sc__law_kinds.nd rfl (Or.inl rfl) (pe_lst (pa_cons (pe_callB call_isP (by rfl) T.n_isinstance (by decide +kernel) (pa_cons (pv 0) (pa_cons (pe_glob (v := .ref (He.ga _ "InvalidText")) (by rfl) (T.gmc "InvalidText" (by decide +kernel)) rfl) pa_nil))) (pa_cons (pe_callB call_isP (by rfl) T.n_isinstance (by decide +kernel) (pa_cons (pv 0) (pa_cons (pe_glob (v := .ref (He.ga _ "InvalidBook")) (by rfl) (T.gmc "InvalidBook" (by decide +kernel)) rfl) pa_nil))) (pa_cons (pe_callB call_isP (by rfl) T.n_isinstance (by decide +kernel) (pa_cons (pv 0) (pa_cons (pe_glob (v := .ref (He.ga _ "InvalidTerm")) (by rfl) (T.gmc "InvalidTerm" (by decide +kernel)) rfl) pa_nil))) (pa_cons (pe_callB call_isP (by rfl) T.n_isinstance (by decide +kernel) (pa_cons (pv 0) (pa_cons (pe_glob (v := .ref (He.ga _ "InvalidName")) (by rfl) (T.gmc "InvalidName" (by decide +kernel)) rfl) pa_nil))) (pa_cons (pe_callB call_isP (by rfl) T.n_isinstance (by decide +kernel) (pa_cons (pv 0) (pa_cons (pe_glob (v := .ref (He.ga _ "InvalidNumber")) (by rfl) (T.gmc "InvalidNumber" (by decide +kernel)) rfl) pa_nil))) (pa_cons (pe_callB call_isP (by rfl) T.n_isinstance (by decide +kernel) (pa_cons (pv 0) (pa_cons (pe_glob (v := .ref (He.ga _ "InvalidWorld")) (by rfl) (T.gmc "InvalidWorld" (by decide +kernel)) rfl) pa_nil))) (pa_cons (pe_callB call_isP (by rfl) T.n_isinstance (by decide +kernel) (pa_cons (pv 0) (pa_cons (pe_glob (v := .ref (He.ga _ "InvalidValues")) (by rfl) (T.gmc "InvalidValues" (by decide +kernel)) rfl) pa_nil))) (pa_cons (pe_callB call_isP (by rfl) T.n_isinstance (by decide +kernel) (pa_cons (pv 0) (pa_cons (pe_glob (v := .ref (He.ga _ "InvalidSteps")) (by rfl) (T.gmc "InvalidSteps" (by decide +kernel)) rfl) pa_nil))) (pa_cons (pe_callB call_isP (by rfl) T.n_isinstance (by decide +kernel) (pa_cons (pv 0) (pa_cons (pe_glob (v := .ref (He.ga _ "InvalidChoice")) (by rfl) (T.gmc "InvalidChoice" (by decide +kernel)) rfl) pa_nil))) (pa_cons (pe_callB call_isP (by rfl) T.n_isinstance (by decide +kernel) (pa_cons (pv 0) (pa_cons (pe_glob (v := .ref (He.ga _ "InvalidLine")) (by rfl) (T.gmc "InvalidLine" (by decide +kernel)) rfl) pa_nil))) (pa_cons (pe_callB call_isP (by rfl) T.n_isinstance (by decide +kernel) (pa_cons (pv 0) (pa_cons (pe_glob (v := .ref (He.ga _ "NotADesk")) (by rfl) (T.gmc "NotADesk" (by decide +kernel)) rfl) pa_nil))) pa_nil)))))))))))))
      (pss_one (ps_ret (pe_op op_cat (pv 1) (pe_lst (pa_cons (pe_callB call_isP (by rfl) T.n_isinstance (by decide +kernel) (pa_cons (pv 0) (pa_cons (pe_glob (v := .ref (He.ga _ "NotWellRead")) (by rfl) (T.gmc "NotWellRead" (by decide +kernel)) rfl) pa_nil))) (pa_cons (pe_callB call_isP (by rfl) T.n_isinstance (by decide +kernel) (pa_cons (pv 0) (pa_cons (pe_glob (v := .ref (He.ga _ "InvalidRows")) (by rfl) (T.gmc "InvalidRows" (by decide +kernel)) rfl) pa_nil))) (pa_cons (pe_callB call_isP (by rfl) T.n_isinstance (by decide +kernel) (pa_cons (pv 0) (pa_cons (pe_glob (v := .ref (He.ga _ "InvalidDeed")) (by rfl) (T.gmc "InvalidDeed" (by decide +kernel)) rfl) pa_nil))) (pa_cons (pe_callB call_isP (by rfl) T.n_isinstance (by decide +kernel) (pa_cons (pv 0) (pa_cons (pe_glob (v := .ref (He.ga _ "DoesNotLead")) (by rfl) (T.gmc "DoesNotLead" (by decide +kernel)) rfl) pa_nil))) (pa_cons (pe_callB call_isP (by rfl) T.n_isinstance (by decide +kernel) (pa_cons (pv 0) (pa_cons (pe_glob (v := .ref (He.ga _ "Barred")) (by rfl) (T.gmc "Barred" (by decide +kernel)) rfl) pa_nil))) (pa_cons (pe_callB call_isP (by rfl) T.n_isinstance (by decide +kernel) (pa_cons (pv 0) (pa_cons (pe_glob (v := .ref (He.ga _ "NothingToUndo")) (by rfl) (T.gmc "NothingToUndo" (by decide +kernel)) rfl) pa_nil))) (pa_cons (pe_callB call_isP (by rfl) T.n_isinstance (by decide +kernel) (pa_cons (pv 0) (pa_cons (pe_glob (v := .ref (He.ga _ "NotEqual")) (by rfl) (T.gmc "NotEqual" (by decide +kernel)) rfl) pa_nil))) (pa_cons (pe_callB call_isP (by rfl) T.n_isinstance (by decide +kernel) (pa_cons (pv 0) (pa_cons (pe_glob (v := .ref (He.ga _ "NotParted")) (by rfl) (T.gmc "NotParted" (by decide +kernel)) rfl) pa_nil))) (pa_cons (pe_callB call_isP (by rfl) T.n_isinstance (by decide +kernel) (pa_cons (pv 0) (pa_cons (pe_glob (v := .ref (He.ga _ "TooWide")) (by rfl) (T.gmc "TooWide" (by decide +kernel)) rfl) pa_nil))) (pa_cons (pe_callB call_isP (by rfl) T.n_isinstance (by decide +kernel) (pa_cons (pv 0) (pa_cons (pe_glob (v := .ref (He.ga _ "NotShown")) (by rfl) (T.gmc "NotShown" (by decide +kernel)) rfl) pa_nil))) pa_nil))))))))))))))), ?_⟩
  exact body_kinds T rfl h rfl
theorem dp_kinds (T : Kt P w K mg base) (A : At K mg "_law_kinds" s_kinds) : DfP P w K mg base CX0 1 "_law_kinds" ["e"] (spKinds K) := by
  refine dfP_of A sc__law_kinds (fun _ _ _ _ _ _ us hl => match us, hl with | [_], _ => rfl) (fun p vs H Q E h => by obtain ⟨a, i, x, rfl, _⟩ := h; rfl) (fun f cdv A outer s H vs Q E p hot hrs h => ?_)
  refine ⟨_, (pss_cons (ps_set (i := 1) sc__law_kinds.nd rfl (Or.inl rfl) (pe_lst (pa_cons (pe_callB call_isP (by rfl) T.n_isinstance (by decide +kernel) (pa_cons (pv 0) (pa_cons (pe_glob (v := .ref (He.ga _ "InvalidText")) (by rfl) (T.gmc "InvalidText" (by decide +kernel)) rfl) pa_nil))) (pa_cons (pe_callB call_isP (by rfl) T.n_isinstance (by decide +kernel) (pa_cons (pv 0) (pa_cons (pe_glob (v := .ref (He.ga _ "InvalidBook")) (by rfl) (T.gmc "InvalidBook" (by decide +kernel)) rfl) pa_nil))) (pa_cons (pe_callB call_isP (by rfl) T.n_isinstance (by decide +kernel) (pa_cons (pv 0) (pa_cons (pe_glob (v := .ref (He.ga _ "InvalidTerm")) (by rfl) (T.gmc "InvalidTerm" (by decide +kernel)) rfl) pa_nil))) (pa_cons (pe_callB call_isP (by rfl) T.n_isinstance (by decide +kernel) (pa_cons (pv 0) (pa_cons (pe_glob (v := .ref (He.ga _ "InvalidName")) (by rfl) (T.gmc "InvalidName" (by decide +kernel)) rfl) pa_nil))) (pa_cons (pe_callB call_isP (by rfl) T.n_isinstance (by decide +kernel) (pa_cons (pv 0) (pa_cons (pe_glob (v := .ref (He.ga _ "InvalidNumber")) (by rfl) (T.gmc "InvalidNumber" (by decide +kernel)) rfl) pa_nil))) (pa_cons (pe_callB call_isP (by rfl) T.n_isinstance (by decide +kernel) (pa_cons (pv 0) (pa_cons (pe_glob (v := .ref (He.ga _ "InvalidWorld")) (by rfl) (T.gmc "InvalidWorld" (by decide +kernel)) rfl) pa_nil))) (pa_cons (pe_callB call_isP (by rfl) T.n_isinstance (by decide +kernel) (pa_cons (pv 0) (pa_cons (pe_glob (v := .ref (He.ga _ "InvalidValues")) (by rfl) (T.gmc "InvalidValues" (by decide +kernel)) rfl) pa_nil))) (pa_cons (pe_callB call_isP (by rfl) T.n_isinstance (by decide +kernel) (pa_cons (pv 0) (pa_cons (pe_glob (v := .ref (He.ga _ "InvalidSteps")) (by rfl) (T.gmc "InvalidSteps" (by decide +kernel)) rfl) pa_nil))) (pa_cons (pe_callB call_isP (by rfl) T.n_isinstance (by decide +kernel) (pa_cons (pv 0) (pa_cons (pe_glob (v := .ref (He.ga _ "InvalidChoice")) (by rfl) (T.gmc "InvalidChoice" (by decide +kernel)) rfl) pa_nil))) (pa_cons (pe_callB call_isP (by rfl) T.n_isinstance (by decide +kernel) (pa_cons (pv 0) (pa_cons (pe_glob (v := .ref (He.ga _ "InvalidLine")) (by rfl) (T.gmc "InvalidLine" (by decide +kernel)) rfl) pa_nil))) (pa_cons (pe_callB call_isP (by rfl) T.n_isinstance (by decide +kernel) (pa_cons (pv 0) (pa_cons (pe_glob (v := .ref (He.ga _ "NotADesk")) (by rfl) (T.gmc "NotADesk" (by decide +kernel)) rfl) pa_nil))) pa_nil)))))))))))))
      (pss_one (ps_ret (pe_op op_cat (pv 1) (pe_lst (pa_cons (pe_callB call_isP (by rfl) T.n_isinstance (by decide +kernel) (pa_cons (pv 0) (pa_cons (pe_glob (v := .ref (He.ga _ "NotWellRead")) (by rfl) (T.gmc "NotWellRead" (by decide +kernel)) rfl) pa_nil))) (pa_cons (pe_callB call_isP (by rfl) T.n_isinstance (by decide +kernel) (pa_cons (pv 0) (pa_cons (pe_glob (v := .ref (He.ga _ "InvalidRows")) (by rfl) (T.gmc "InvalidRows" (by decide +kernel)) rfl) pa_nil))) (pa_cons (pe_callB call_isP (by rfl) T.n_isinstance (by decide +kernel) (pa_cons (pv 0) (pa_cons (pe_glob (v := .ref (He.ga _ "InvalidDeed")) (by rfl) (T.gmc "InvalidDeed" (by decide +kernel)) rfl) pa_nil))) (pa_cons (pe_callB call_isP (by rfl) T.n_isinstance (by decide +kernel) (pa_cons (pv 0) (pa_cons (pe_glob (v := .ref (He.ga _ "DoesNotLead")) (by rfl) (T.gmc "DoesNotLead" (by decide +kernel)) rfl) pa_nil))) (pa_cons (pe_callB call_isP (by rfl) T.n_isinstance (by decide +kernel) (pa_cons (pv 0) (pa_cons (pe_glob (v := .ref (He.ga _ "Barred")) (by rfl) (T.gmc "Barred" (by decide +kernel)) rfl) pa_nil))) (pa_cons (pe_callB call_isP (by rfl) T.n_isinstance (by decide +kernel) (pa_cons (pv 0) (pa_cons (pe_glob (v := .ref (He.ga _ "NothingToUndo")) (by rfl) (T.gmc "NothingToUndo" (by decide +kernel)) rfl) pa_nil))) (pa_cons (pe_callB call_isP (by rfl) T.n_isinstance (by decide +kernel) (pa_cons (pv 0) (pa_cons (pe_glob (v := .ref (He.ga _ "NotEqual")) (by rfl) (T.gmc "NotEqual" (by decide +kernel)) rfl) pa_nil))) (pa_cons (pe_callB call_isP (by rfl) T.n_isinstance (by decide +kernel) (pa_cons (pv 0) (pa_cons (pe_glob (v := .ref (He.ga _ "NotParted")) (by rfl) (T.gmc "NotParted" (by decide +kernel)) rfl) pa_nil))) (pa_cons (pe_callB call_isP (by rfl) T.n_isinstance (by decide +kernel) (pa_cons (pv 0) (pa_cons (pe_glob (v := .ref (He.ga _ "TooWide")) (by rfl) (T.gmc "TooWide" (by decide +kernel)) rfl) pa_nil))) (pa_cons (pe_callB call_isP (by rfl) T.n_isinstance (by decide +kernel) (pa_cons (pv 0) (pa_cons (pe_glob (v := .ref (He.ga _ "NotShown")) (by rfl) (T.gmc "NotShown" (by decide +kernel)) rfl) pa_nil))) pa_nil))))))))))))))), ?_⟩
  exact body_kinds T rfl h rfl
end
end K01

set_option Elab.async false
set_option linter.all false
set_option maxRecDepth 100000
set_option maxHeartbeats 4000000
namespace K01
open PySem PySem.Spec PyProof.Rows L2 L2H HotX EqX
/-! the words' steps, one after another -/
local macro_rules | `(tactic| walk_at "w") => `(tactic| (repeat (first
  | with_reducible refine w_seq ?_ | with_reducible refine w_asg ?_ | with_reducible refine w_ret ?_ | with_reducible exact w_retN ?_ | with_reducible refine w_drop ?_ | with_reducible refine w_ifs ?_ | with_reducible refine w_next ?_
  | with_reducible refine w_name ?_ | with_reducible refine w_gsub ?_ | ((with_reducible refine' w_var ?hx ?_); (case hx => exact rfl)) | with_reducible refine w_c ?_ | with_reducible refine w_op ?_ | with_reducible refine w_un ?_ | with_reducible refine w_cb ?_ | with_reducible refine w_call ?_
  | with_reducible refine w_nil ?_ | with_reducible refine w_cons ?_ | with_reducible refine w_test ?_ | with_reducible refine w_b ?_ | with_reducible refine w_bl ?_ | with_reducible refine w_not ?_ | with_reducible refine w_and ?_ | with_reducible refine w_or ?_
  | with_reducible refine w_notV ?_ | with_reducible refine w_blV ?_ | with_reducible refine w_I0 ?_ | ((with_reducible refine w_mulL ?_ ?_); · omega) | ((with_reducible refine w_mulR ?_ ?_); · omega) | ((with_reducible refine w_pow ?_ ?_); · decide)
  | with_reducible refine w_neg ?_ | ((with_reducible refine w_eq ?_ ?_); · exact rfl) | ((with_reducible refine w_ne ?_ ?_); · exact rfl) | with_reducible refine w_int1 ?_ | with_reducible refine w_abs ?_ | with_reducible refine w_max2 ?_ | with_reducible refine w_min2 ?_
  | with_reducible refine w_gcons ?_ | with_reducible refine w_gnil ?_ | with_reducible refine w_tup ?_ | with_reducible refine w_lst ?_ | with_reducible refine w_sl ?_ | with_reducible refine w_no ?_ | with_reducible refine w_part ?_ | with_reducible refine w_partI ?_ | with_reducible refine ⟨_, (rfl : V.int _ = V.int _), ?_⟩
  | with_reducible refine w_for ?_ | with_reducible refine w_iL ?_ | with_reducible refine w_iT ?_ | with_reducible refine w_iR ?_ | with_reducible refine w_yes ?_ | with_reducible refine w_setLc ?_ | with_reducible refine w_isB ?_)))

def spPlain (K : PySem.W.Frag) (pn : List (Addr × Obj)) : Sp := fun vs H Q _ => ∃ (a : Addr) (i : Nat) (x : Str), vs = [.ref a] ∧ nmsT[i]? = some x ∧ XAt pn H a (He.ga K x) ∧ ∀ H', Same H H' → Q (.bl true) H'
theorem body_plain {P : Program} {w : World} {K : PySem.W.Frag} {mg : Str → Option Value} {base : Heap} (T : Kt P w K mg base) {pn : List (Addr × Obj)} {t : TS} {σ : L2.St} {H : Hp} {vs : List V} {Q : VK} {E : XK} (hσ : σ = start ["e"] vs) (h : spPlain K pn vs H Q E)
    (ht : t = tSeq (tIfS (tOr (tNot (tB (tCB (rIsP K pn) (tCons (tVar 0) (tCons (tC (.ref (He.ga K "TermError"))) tNil))))) (tNot (tB (tCB (rIsP K pn) (tCons (tVar 0) (tCons (tC (.ty "ValueError")) tNil)))))) (tRet (tC (.bl false))) tNext)
      (tRet (tNotV (tCB (rIsPT K pn) (tCons (tVar 0) (tCons (tTup (tCons (tC (.ty "LookupError")) (tCons (tC (.ty "ArithmeticError")) (tCons (tC (.ty "TypeError")) (tCons (tC (.ty "AttributeError")) (tCons (tC (.ty "RuntimeError")) tNil)))))) tNil)))))) : t { nx := fun _ H' => Q .non H', rt := Q } σ H := by
  obtain ⟨a, i, x, rfl, hx, ha, q⟩ := h
  subst hσ ht
  have E := T.er i x hx
  walk_at "w"
  refine w_isP ha E.ex (.own _) E.tm ?_
  walk_at "w"
  refine w_false ?_
  walk_at "w"
  refine w_isP ha E.ex (.ty _) E.ve ?_
  walk_at "w"
  refine w_false ?_
  walk_at "w"
  refine ⟨by show 5 ≤ sizeLine; rw [sizeLine_eq]; omega, fun p hp => ?_⟩
  walk_at "w"
  refine ⟨a, _, p, _, plainTys, false, rfl, ha.same (same_new hp), upd_same, ?_, E.ex, E.no, ?_⟩
  · exact .cons (.ty _) (.cons (.ty _) (.cons (.ty _) (.cons (.ty _) (.cons (.ty _) .nil))))
  · exact ⟨false, rfl, q _ (same_new hp)⟩
section
variable {P : Program} {w : World} {K : PySem.W.Frag} {mg : Str → Option Value} {base : Heap}
theorem df_is_plain (T : Kt P w K mg base) (A : At K mg "_law_is_plain" s_is_plain) : Df P w K mg base CX0 1 "_law_is_plain" ["e"] (spPlain K []) := by
  refine df_of A sc__law_is_plain (fun _ _ _ _ _ _ us hl => match us, hl with | [_], _ => rfl) (fun vs H Q E h => by obtain ⟨a, i, x, rfl, _⟩ := h; rfl) (fun f cdv A outer s H vs Q E hrs h => ?_)
  refine ⟨_, (pss_cons (ps_if (PW.pt (pw_or (pt_not (pt_val (pe_callB call_isP (by rfl) T.n_isinstance (by decide +kernel) (pa_cons (pv 0) (pa_cons (pe_glob (v := .ref (He.ga _ "TermError")) (by rfl) (T.gmc "TermError" (by decide +kernel)) rfl) pa_nil))))) (pw_or1 (pt_not (pt_val (pe_callB call_isP (by rfl) T.n_isinstance (by decide +kernel) (pa_cons (pv 0) (pa_cons (pe_bltn (v := .ty "ValueError") (by rfl) T.n_ValueError (by decide +kernel) rfl) pa_nil)))))))) (pss_one (ps_ret pe_bl)) pss_nil)
      (pss_one (ps_ret (pe_not (pe_callB call_isPT (by rfl) T.n_isinstance (by decide +kernel) (pa_cons (pv 0) (pa_cons (pe_tup (pa_cons (pe_bltn (v := .ty "LookupError") (by rfl) T.n_LookupError (by decide +kernel) rfl) (pa_cons (pe_bltn (v := .ty "ArithmeticError") (by rfl) T.n_ArithmeticError (by decide +kernel) rfl) (pa_cons (pe_bltn (v := .ty "TypeError") (by rfl) T.n_TypeError (by decide +kernel) rfl) (pa_cons (pe_bltn (v := .ty "AttributeError") (by rfl) T.n_AttributeError (by decide +kernel) rfl) (pa_cons (pe_bltn (v := .ty "RuntimeError") (by rfl) T.n_RuntimeError (by decide +kernel) rfl) pa_nil)))))) pa_nil))))))), ?_⟩
  exact body_plain T rfl h rfl
theorem dp_is_plain (T : Kt P w K mg base) (A : At K mg "_law_is_plain" s_is_plain) : DfP P w K mg base CX0 1 "_law_is_plain" ["e"] (spPlain K) := by
  refine dfP_of A sc__law_is_plain (fun _ _ _ _ _ _ us hl => match us, hl with | [_], _ => rfl) (fun p vs H Q E h => by obtain ⟨a, i, x, rfl, _⟩ := h; rfl) (fun f cdv A outer s H vs Q E p hot hrs h => ?_)
  refine ⟨_, (pss_cons (ps_if (PW.pt (pw_or (pt_not (pt_val (pe_callB call_isP (by rfl) T.n_isinstance (by decide +kernel) (pa_cons (pv 0) (pa_cons (pe_glob (v := .ref (He.ga _ "TermError")) (by rfl) (T.gmc "TermError" (by decide +kernel)) rfl) pa_nil))))) (pw_or1 (pt_not (pt_val (pe_callB call_isP (by rfl) T.n_isinstance (by decide +kernel) (pa_cons (pv 0) (pa_cons (pe_bltn (v := .ty "ValueError") (by rfl) T.n_ValueError (by decide +kernel) rfl) pa_nil)))))))) (pss_one (ps_ret pe_bl)) pss_nil)
      (pss_one (ps_ret (pe_not (pe_callB call_isPT (by rfl) T.n_isinstance (by decide +kernel) (pa_cons (pv 0) (pa_cons (pe_tup (pa_cons (pe_bltn (v := .ty "LookupError") (by rfl) T.n_LookupError (by decide +kernel) rfl) (pa_cons (pe_bltn (v := .ty "ArithmeticError") (by rfl) T.n_ArithmeticError (by decide +kernel) rfl) (pa_cons (pe_bltn (v := .ty "TypeError") (by rfl) T.n_TypeError (by decide +kernel) rfl) (pa_cons (pe_bltn (v := .ty "AttributeError") (by rfl) T.n_AttributeError (by decide +kernel) rfl) (pa_cons (pe_bltn (v := .ty "RuntimeError") (by rfl) T.n_RuntimeError (by decide +kernel) rfl) pa_nil)))))) pa_nil))))))), ?_⟩
  exact body_plain T rfl h rfl
end
/-! ### the rows -/
def rows : List (Str × Str) := (nms.take 11).map (fun x => (("given" : Str), x)) ++ ([("row", "NotWellRead"), ("index", "InvalidRows"), ("index", "InvalidDeed"), ("index", "DoesNotLead"), ("reason", "Barred"), ("", "NothingToUndo"), ("", "NotEqual"), ("", "NotParted"), ("", "TooWide"), ("", "NotShown")] : List (Str × Str))
def exS (K : PySem.W.Frag) (x : V) (r : Str × Str) : VS := if r.1 = "row" then Ex2 (He.ga K r.2) (Is x) (LstS [Is x]) else if r.1 = "" then Ex0 (He.ga K r.2) else Ex1 (He.ga K r.2) r.1 (Is x)
def rowS (K : PySem.W.Frag) (x : V) (r : Str × Str) : VS := LstS [Is (.str r.1), exS K x r, exS K x r]
theorem stab_exS {K : PySem.W.Frag} {x : V} {r : Str × Str} : Stab (exS K x r) := by
  unfold exS
  split
  · exact stab_ex2 stab_is (stab_lst fun S h => by rw [List.mem_singleton.mp h]; exact stab_is)
  · split
    · exact stab_ex0
    · exact stab_ex1 stab_is
theorem stab3 {S1 S2 S3 : VS} (h1 : Stab S1) (h2 : Stab S2) (h3 : Stab S3) : ∀ S ∈ [S1, S2, S3], Stab S := fun S h => by
  rcases List.mem_cons.mp h with e | h
  · rw [e]; exact h1
  rcases List.mem_cons.mp h with e | h
  · rw [e]; exact h2
  rcases List.mem_cons.mp h with e | h
  · rw [e]; exact h3
  cases h
theorem stab_rowS {K : PySem.W.Frag} {x : V} {r : Str × Str} : Stab (rowS K x r) := stab_lst (stab3 stab_is stab_exS stab_exS)
theorem stab_rows {K : PySem.W.Frag} {x : V} {l : List (Str × Str)} : ∀ S ∈ l.map (rowS K x), Stab S := fun S h => by
  obtain ⟨r, _, rfl⟩ := List.mem_map.mp h
  exact stab_rowS
/-- a def that makes such rows -/
def spOnes (K : PySem.W.Frag) (l : List (Str × Str)) : Sp := fun vs H Q _ => ∃ x : V, vs = [x] ∧ ∀ v H', Same H H' → LstS (l.map (rowS K x)) v H' → Q v H'
def o1A (K : PySem.W.Frag) (l : List (Str × Str)) (tl : TA) : TA := l.foldr (fun r t => tCons (tLst (tCons (tC (.str r.1)) (tCons (tExV (He.ga K r.2) (spIni1 (He.ga K r.2) r.1) (tCons (tVar 0) tNil)) (tCons (tExK (He.ga K r.2) [r.1] (spIni1 (He.ga K r.2) r.1) (tCons (tVar 0) tNil)) tNil)))) t) tl
def o0A (K : PySem.W.Frag) (l : List (Str × Str)) (tl : TA) : TA := l.foldr (fun r t => tCons (tLst (tCons (tC (.str r.1)) (tCons (tEx0 (He.ga K r.2)) (tCons (tEx0 (He.ga K r.2)) tNil)))) t) tl
theorem gva_o1 {K : PySem.W.Frag} {σ : L2.St} {H : Hp} {x : V} (h : σ[0]? = some (some x)) {tl : TA} {Ss : List VS} (ht : GvA tl σ H Ss) : ∀ (l : List (Str × Str)), (∀ r ∈ l, r.1 ≠ "row" ∧ r.1 ≠ "") → GvA (o1A K l tl) σ H (l.map (rowS K x) ++ Ss)
  | [], _ => ht
  | r :: l, hr => by
    have e : exS K x r = Ex1 (He.ga K r.2) r.1 (Is x) := by
      unfold exS
      rw [if_neg (hr r List.mem_cons_self).1, if_neg (hr r List.mem_cons_self).2]
    have g1 : GvA (tCons (tVar 0) tNil) σ H [Is x] := gva_cons (gv_var h) stab_is gva_nil
    refine gva_cons (S := rowS K x r) ?_ stab_rowS (gva_o1 h ht l fun r' m => hr r' (List.mem_cons_of_mem _ m))
    unfold rowS
    rw [e]
    exact gv_lst (gva_cons gv_c stab_is (gva_cons (gv_exV g1 stab_is) (stab_ex1 stab_is) (gva_cons (gv_exK g1 stab_is) (stab_ex1 stab_is) gva_nil))) (stab3 stab_is (stab_ex1 stab_is) (stab_ex1 stab_is)) (by show 3 ≤ 1000; decide)
theorem gva_o0 {K : PySem.W.Frag} {σ : L2.St} {H : Hp} {x : V} {tl : TA} {Ss : List VS} (ht : GvA tl σ H Ss) : ∀ (l : List (Str × Str)), (∀ r ∈ l, r.1 = "") → GvA (o0A K l tl) σ H (l.map (rowS K x) ++ Ss)
  | [], _ => ht
  | r :: l, hr => by
    have e : exS K x r = Ex0 (He.ga K r.2) := by
      unfold exS
      rw [if_neg (by rw [hr r List.mem_cons_self]; decide), if_pos (hr r List.mem_cons_self)]
    refine gva_cons (S := rowS K x r) ?_ stab_rowS (gva_o0 ht l fun r' m => hr r' (List.mem_cons_of_mem _ m))
    unfold rowS
    rw [e]
    exact gv_lst (gva_cons gv_c stab_is (gva_cons gv_ex0 stab_ex0 (gva_cons gv_ex0 stab_ex0 gva_nil))) (stab3 stab_is stab_ex0 stab_ex0) (by show 3 ≤ 1000; decide)
theorem gv_row {K : PySem.W.Frag} {σ : L2.St} {H : Hp} {x : V} (h : σ[0]? = some (some x)) : Gv (tLst (tCons (tC (.str "row")) (tCons (tExV (He.ga K "NotWellRead") (spIni2 (He.ga K "NotWellRead")) (tCons (tVar 0) (tCons (tLst (tCons (tVar 0) tNil)) tNil)))
    (tCons (tExK (He.ga K "NotWellRead") [fRow, fWord] (spIni2 (He.ga K "NotWellRead")) (tCons (tVar 0) (tCons (tLst (tCons (tVar 0) tNil)) tNil))) tNil)))) σ H (rowS K x ("row", "NotWellRead")) := by
  have s1 : ∀ S ∈ [Is x], Stab S := fun S h => by rw [List.mem_singleton.mp h]; exact stab_is
  have e : exS K x ("row", "NotWellRead") = Ex2 (He.ga K "NotWellRead") (Is x) (LstS [Is x]) := rfl
  have g1 : GvA (tCons (tVar 0) tNil) σ H [Is x] := gva_cons (gv_var h) stab_is gva_nil
  have g2 : GvA (tCons (tVar 0) (tCons (tLst (tCons (tVar 0) tNil)) tNil)) σ H [Is x, LstS [Is x]] := gva_cons (gv_var h) stab_is (gva_cons (gv_lst g1 s1 (by show 1 ≤ 1000; decide)) (stab_lst s1) gva_nil)
  have st := stab_ex2 (C := He.ga K "NotWellRead") (stab_is (x := x)) (stab_lst s1)
  unfold rowS
  rw [e]
  exact gv_lst (gva_cons gv_c stab_is (gva_cons (gv_exV2 g2 stab_is (stab_lst s1)) st (gva_cons (gv_exK2 g2 stab_is (stab_lst s1)) st gva_nil))) (stab3 stab_is st st) (by show 3 ≤ 1000; decide)
section
variable {P : Program} {w : World} {K : PySem.W.Frag} {mg : Str → Option Value} {base : Heap}
theorem df_given_ones (T : Kt P w K mg base) (A : At K mg "_law_given_ones" s_given_ones) : Df P w K mg base CX0 2 "_law_given_ones" ["thing"] (spOnes K (rows.take 11)) := by
  refine df_of A sc__law_given_ones (fun _ _ _ _ _ _ us hl => match us, hl with | [_], _ => rfl) (fun vs H Q E h => by obtain ⟨x, rfl, _⟩ := h; rfl) (fun f cdv A outer s H vs Q E hrs h => ?_)
  refine ⟨_, (pss_one (ps_ret (pe_lst (pa_cons (pe_lst (pa_cons pe_str (pa_cons (pe_own1 (k := 0) (T.o1 "InvalidText" (by decide +kernel)) (hrs.mono (by decide)) (pa_cons (pv 0) pa_nil)) (pa_cons (pe_own1K (k := 0) (T.o1 "InvalidText" (by decide +kernel)) (hrs.mono (by decide)) (pv 0)) pa_nil)))) (pa_cons (pe_lst (pa_cons pe_str (pa_cons (pe_own1 (k := 0) (T.o1 "InvalidBook" (by decide +kernel)) (hrs.mono (by decide)) (pa_cons (pv 0) pa_nil)) (pa_cons (pe_own1K (k := 0) (T.o1 "InvalidBook" (by decide +kernel)) (hrs.mono (by decide)) (pv 0)) pa_nil)))) (pa_cons (pe_lst (pa_cons pe_str (pa_cons (pe_own1 (k := 0) (T.o1 "InvalidTerm" (by decide +kernel)) (hrs.mono (by decide)) (pa_cons (pv 0) pa_nil)) (pa_cons (pe_own1K (k := 0) (T.o1 "InvalidTerm" (by decide +kernel)) (hrs.mono (by decide)) (pv 0)) pa_nil)))) (pa_cons (pe_lst (pa_cons pe_str (pa_cons (pe_own1 (k := 0) (T.o1 "InvalidName" (by decide +kernel)) (hrs.mono (by decide)) (pa_cons (pv 0) pa_nil)) (pa_cons (pe_own1K (k := 0) (T.o1 "InvalidName" (by decide +kernel)) (hrs.mono (by decide)) (pv 0)) pa_nil)))) (pa_cons (pe_lst (pa_cons pe_str (pa_cons (pe_own1 (k := 0) (T.o1 "InvalidNumber" (by decide +kernel)) (hrs.mono (by decide)) (pa_cons (pv 0) pa_nil)) (pa_cons (pe_own1K (k := 0) (T.o1 "InvalidNumber" (by decide +kernel)) (hrs.mono (by decide)) (pv 0)) pa_nil)))) (pa_cons (pe_lst (pa_cons pe_str (pa_cons (pe_own1 (k := 0) (T.o1 "InvalidWorld" (by decide +kernel)) (hrs.mono (by decide)) (pa_cons (pv 0) pa_nil)) (pa_cons (pe_own1K (k := 0) (T.o1 "InvalidWorld" (by decide +kernel)) (hrs.mono (by decide)) (pv 0)) pa_nil)))) (pa_cons (pe_lst (pa_cons pe_str (pa_cons (pe_own1 (k := 0) (T.o1 "InvalidValues" (by decide +kernel)) (hrs.mono (by decide)) (pa_cons (pv 0) pa_nil)) (pa_cons (pe_own1K (k := 0) (T.o1 "InvalidValues" (by decide +kernel)) (hrs.mono (by decide)) (pv 0)) pa_nil)))) (pa_cons (pe_lst (pa_cons pe_str (pa_cons (pe_own1 (k := 0) (T.o1 "InvalidSteps" (by decide +kernel)) (hrs.mono (by decide)) (pa_cons (pv 0) pa_nil)) (pa_cons (pe_own1K (k := 0) (T.o1 "InvalidSteps" (by decide +kernel)) (hrs.mono (by decide)) (pv 0)) pa_nil)))) (pa_cons (pe_lst (pa_cons pe_str (pa_cons (pe_own1 (k := 0) (T.o1 "InvalidChoice" (by decide +kernel)) (hrs.mono (by decide)) (pa_cons (pv 0) pa_nil)) (pa_cons (pe_own1K (k := 0) (T.o1 "InvalidChoice" (by decide +kernel)) (hrs.mono (by decide)) (pv 0)) pa_nil)))) (pa_cons (pe_lst (pa_cons pe_str (pa_cons (pe_own1 (k := 0) (T.o1 "InvalidLine" (by decide +kernel)) (hrs.mono (by decide)) (pa_cons (pv 0) pa_nil)) (pa_cons (pe_own1K (k := 0) (T.o1 "InvalidLine" (by decide +kernel)) (hrs.mono (by decide)) (pv 0)) pa_nil)))) (pa_cons (pe_lst (pa_cons pe_str (pa_cons (pe_own1 (k := 0) (T.o1 "NotADesk" (by decide +kernel)) (hrs.mono (by decide)) (pa_cons (pv 0) pa_nil)) (pa_cons (pe_own1K (k := 0) (T.o1 "NotADesk" (by decide +kernel)) (hrs.mono (by decide)) (pv 0)) pa_nil)))) pa_nil)))))))))))))), ?_⟩
  obtain ⟨x, rfl, q⟩ := h
  have g := gva_o1 (K := K) (σ := start ["thing"] [x]) (H := H) (x := x) (by rfl) gva_nil (rows.take 11) (by decide +kernel)
  rw [List.append_nil] at g
  exact w_ret (gv_lst g stab_rows (by rw [List.length_map]; decide +kernel) H _ (Same.refl _) q)
theorem df_index_ones (T : Kt P w K mg base) (A : At K mg "_law_index_ones" s_index_ones) : Df P w K mg base CX0 2 "_law_index_ones" ["thing"] (spOnes K (rows.drop 11)) := by
  refine df_of A sc__law_index_ones (fun _ _ _ _ _ _ us hl => match us, hl with | [_], _ => rfl) (fun vs H Q E h => by obtain ⟨x, rfl, _⟩ := h; rfl) (fun f cdv A outer s H vs Q E hrs h => ?_)
  refine ⟨_, (pss_one (ps_ret (pe_lst (pa_cons (pe_lst (pa_cons pe_str (pa_cons (pe_own2 (k := 0) T.o2 (hrs.mono (by decide)) (pa_cons (pv 0) (pa_cons (pe_lst (pa_cons (pv 0) pa_nil)) pa_nil))) (pa_cons (pe_own2K (k := 0) T.o2 (hrs.mono (by decide)) (pv 0) (pe_lst (pa_cons (pv 0) pa_nil))) pa_nil)))) (pa_cons (pe_lst (pa_cons pe_str (pa_cons (pe_own1 (k := 0) (T.o1 "InvalidRows" (by decide +kernel)) (hrs.mono (by decide)) (pa_cons (pv 0) pa_nil)) (pa_cons (pe_own1K (k := 0) (T.o1 "InvalidRows" (by decide +kernel)) (hrs.mono (by decide)) (pv 0)) pa_nil)))) (pa_cons (pe_lst (pa_cons pe_str (pa_cons (pe_own1 (k := 0) (T.o1 "InvalidDeed" (by decide +kernel)) (hrs.mono (by decide)) (pa_cons (pv 0) pa_nil)) (pa_cons (pe_own1K (k := 0) (T.o1 "InvalidDeed" (by decide +kernel)) (hrs.mono (by decide)) (pv 0)) pa_nil)))) (pa_cons (pe_lst (pa_cons pe_str (pa_cons (pe_own1 (k := 0) (T.o1 "DoesNotLead" (by decide +kernel)) (hrs.mono (by decide)) (pa_cons (pv 0) pa_nil)) (pa_cons (pe_own1K (k := 0) (T.o1 "DoesNotLead" (by decide +kernel)) (hrs.mono (by decide)) (pv 0)) pa_nil)))) (pa_cons (pe_lst (pa_cons pe_str (pa_cons (pe_own1 (k := 0) (T.o1 "Barred" (by decide +kernel)) (hrs.mono (by decide)) (pa_cons (pv 0) pa_nil)) (pa_cons (pe_own1K (k := 0) (T.o1 "Barred" (by decide +kernel)) (hrs.mono (by decide)) (pv 0)) pa_nil)))) (pa_cons (pe_lst (pa_cons pe_str (pa_cons (pe_own0 (T.o0 "NothingToUndo" (by decide +kernel))) (pa_cons (pe_own0 (T.o0 "NothingToUndo" (by decide +kernel))) pa_nil)))) (pa_cons (pe_lst (pa_cons pe_str (pa_cons (pe_own0 (T.o0 "NotEqual" (by decide +kernel))) (pa_cons (pe_own0 (T.o0 "NotEqual" (by decide +kernel))) pa_nil)))) (pa_cons (pe_lst (pa_cons pe_str (pa_cons (pe_own0 (T.o0 "NotParted" (by decide +kernel))) (pa_cons (pe_own0 (T.o0 "NotParted" (by decide +kernel))) pa_nil)))) (pa_cons (pe_lst (pa_cons pe_str (pa_cons (pe_own0 (T.o0 "TooWide" (by decide +kernel))) (pa_cons (pe_own0 (T.o0 "TooWide" (by decide +kernel))) pa_nil)))) (pa_cons (pe_lst (pa_cons pe_str (pa_cons (pe_own0 (T.o0 "NotShown" (by decide +kernel))) (pa_cons (pe_own0 (T.o0 "NotShown" (by decide +kernel))) pa_nil)))) pa_nil))))))))))))), ?_⟩
  obtain ⟨x, rfl, q⟩ := h
  have g0 := gva_o0 (K := K) (σ := start ["thing"] [x]) (H := H) (x := x) gva_nil (rows.drop 16) (by decide +kernel)
  have g1 := gva_o1 (K := K) (σ := start ["thing"] [x]) (H := H) (x := x) (by rfl) g0 ((rows.drop 12).take 4) (by decide +kernel)
  have g := gva_cons (gv_row (K := K) (σ := start ["thing"] [x]) (H := H) (x := x) (by rfl)) stab_rowS g1
  have e : rowS K x ("row", "NotWellRead") :: (((rows.drop 12).take 4).map (rowS K x) ++ ((rows.drop 16).map (rowS K x) ++ [])) = (rows.drop 11).map (rowS K x) := rfl
  rw [e] at g
  exact w_ret (gv_lst g stab_rows (by rw [List.length_map]; decide +kernel) H _ (Same.refl _) q)
end
/-! ### what such an error keeps -/
def spKept (K : PySem.W.Frag) : Sp := fun vs H Q _ => ∃ (r : Str × Str) (x v : V), vs = [.str r.1, v] ∧ r ∈ rows ∧ exS K x r v H ∧ (r.1 = "row" → ∃ d, Dz K H x d ∧ Shows (.list [d])) ∧ ∀ H', Same H H' → Q (if r.1 = "" then .non else x) H'
theorem rows_by : ∀ r ∈ rows, r = (("row" : Str), ("NotWellRead" : Str)) ∨ (r.1 = "" ∧ r.2 ∈ ones0) ∨ (r.2 ∈ ones1 ∧ fldOf r.2 = r.1 ∧ r.2 ∈ nms.take 16 ∧ (r.1 = "given" ∨ r.1 = "index" ∨ r.1 = "reason")) := by decide +kernel
theorem w_is {c A B : Prop} [Decidable c] (h : c) (a : A) : if decide c = true then A else B := by rw [if_pos (decide_eq_true h)]; exact a
theorem w_isnt {c A B : Prop} [Decidable c] (h : ¬ c) (b : B) : if decide c = true then A else B := by rw [if_neg (by rw [decide_eq_false h]; decide)]; exact b
theorem str_ne {x y : Str} (h : x ≠ y) : ¬ (V.str x = V.str y) := fun z => h (V.str.inj z)
theorem rd_same {H H' : Hp} {a : Addr} {o : HO} (s : Same H H') (h : Rd H a o) : Rd H' a o := h.imp (s _ _) fun ⟨ob, e⟩ => ⟨ob, s _ _ e⟩
theorem sqL_same {K : PySem.W.Frag} {H H' : Hp} {a : Addr} {xs : List V} (s : Same H H') (h : SqL K H a xs) : SqL K H' a xs := h.imp (rd_same s) id
theorem sqT_same {K : PySem.W.Frag} {H H' : Hp} {a : Addr} {xs : List V} (s : Same H H') (h : SqT K H a xs) : SqT K H' a xs := h.imp (rd_same s) id
mutual
theorem dz_same {K : PySem.W.Frag} {H H' : Hp} (s : Same H H') : ∀ (d : PyData) (v : V), Dz K H v d → Dz K H' v d
  | .none, _, h => by cases h; exact .non
  | .bool b, _, h => by cases h; exact .bl b
  | .int i, _, h => by cases h; exact .int i
  | .str x, _, h => by cases h; exact .str x
  | .list ds, _, h => by cases h with | lst h1 h2 => exact .lst (sqL_same s h1) (dzA_same s ds _ h2)
  | .tuple ds, _, h => by cases h with | tup h1 h2 => exact .tup (sqT_same s h1) (dzA_same s ds _ h2)
  | .dict kvs, _, h => by cases h with | dk0 e => exact .dk0 (s _ _ e)
theorem dzA_same {K : PySem.W.Frag} {H H' : Hp} (s : Same H H') : ∀ (ds : List PyData) (vs : List V), DzAll K H vs ds → DzAll K H' vs ds
  | [], _, h => by cases h; exact .nil
  | d :: ds, _, h => by cases h with | cons h1 h2 => exact .cons (dz_same s d _ h1) (dzA_same s ds _ h2)
end
section
variable {P : Program} {w : World} {K : PySem.W.Frag} {mg : Str → Option Value} {base : Heap}
theorem w_exF {te : TE} {σ : L2.St} {H : Hp} {Q : VK} {f : Str} (h : te σ H fun x H1 => ∃ (a C dd : Addr) (fs : List (Str × V)) (v : V), x = .ref a ∧ H1 a = some (exo a C (some dd)) ∧ H1 dd = some (exd dd fs) ∧ XfC K C ∧ PySem.W.findIn K (.ref C) f = some none ∧ fs.lookup f = some v ∧ Q v H1) : tExf K f te σ H Q := h
theorem df_kept (T : Kt P w K mg base) (A : At K mg "_law_kept" s_kept) : DfG P w K mg base CX0 1 "_law_kept" ["word", "e"] (spKept K) := by
  refine dfG_of A sc__law_kept (fun _ _ _ _ _ _ us hl => match us, hl with | [_, _], _ => rfl) (fun vs H Q E h => by obtain ⟨r, x, v, rfl, _⟩ := h; rfl) (fun f cdv A outer s H vs Q E hrs hgd0 h => ?_)
  have hgd : (A.deeper (envOfC "_law_kept" (defScope s_kept) s.heap.objs.size f cdv)).guards = some [] := hgd0
  have hr := hrs
  refine ⟨_, (pss_cons (ps_if (pt_cmpR op_eq (pv 0) pe_str (nomark _)) (pss_one (ps_ret (pe_exf (pv 1) rfl))) pss_nil)
      (pss_cons (ps_if (pt_cmpR op_eq (pv 0) pe_str (nomark _)) (pss_one (ps_ret (pe_exf (pv 1) rfl))) pss_nil)
      (pss_cons (ps_if (pt_cmpR op_eq (pv 0) pe_str (nomark _)) (pss_one (ps_ret (pe_ifExp (pt_cmpR op_eq (pe_callB (call_repr hr hgd T.sysm) (by rfl) T.n_repr (by decide +kernel) (pa_cons (pe_exf (pv 1) rfl) pa_nil)) (pe_callB (call_repr hr hgd T.sysm) (by rfl) T.n_repr (by decide +kernel) (pa_cons (pe_lst (pa_cons (pe_exf (pv 1) rfl) pa_nil)) pa_nil)) (nomark _)) (pe_exf (pv 1) rfl) pe_str))) pss_nil)
      (pss_one (ps_ret (pe_ifExp (pt_cmpR op_eq (pv 0) pe_str (nomark _)) (pe_exf (pv 1) rfl) pe_non)))))), ?_⟩
  obtain ⟨r, x, v, rfl, hr, hx, hz, q⟩ := h
  rcases rows_by r hr with rfl | ⟨h0, h1⟩ | ⟨h1, h2, h3, hw⟩
  · obtain ⟨a, d, u, u', rfl, ha, hd, rfl, l, xs, rfl, hl, hxs⟩ := (show Ex2 (He.ga K "NotWellRead") (Is x) (LstS [Is x]) v H from hx)
    obtain ⟨dt, hdt, sh⟩ := hz rfl
    have exs := allS_is (vs := [u]) hxs
    subst exs
    have XF := T.xf "NotWellRead" (by decide +kernel)
    walk_at "w"
    refine w_isnt (str_ne (by dsimp only; decide +kernel)) ?_
    walk_at "w"
    refine w_isnt (str_ne (by dsimp only; decide +kernel)) ?_
    walk_at "w"
    refine w_is rfl ?_
    walk_at "w"
    refine w_if ?_
    walk_at "w"
    refine w_exF ?_
    walk_at "w"
    refine ⟨a, _, d, _, .ref l, rfl, ha, hd, XF, T.nfw, rfl, ?_⟩
    walk_at "w"
    refine ⟨_, .list [dt], rfl, .lst (SqL.of hl) (.cons hdt .nil), sh, ?_⟩
    walk_at "w"
    refine w_exF ?_
    walk_at "w"
    refine ⟨a, _, d, _, u, rfl, ha, hd, XF, T.nfr, rfl, ?_⟩
    walk_at "w"
    refine ⟨by show 1 ≤ sizeLine; rw [sizeLine_eq]; omega, fun p hp => ?_⟩
    walk_at "w"
    refine ⟨_, .list [dt], rfl, .lst (SqL.of upd_same) (.cons (dz_same (same_new hp) _ _ hdt) .nil), sh, ?_⟩
    walk_at "w"
    refine w_is rfl ?_
    refine w_exF ?_
    walk_at "w"
    exact ⟨a, _, d, _, u, rfl, same_new hp _ _ ha, same_new hp _ _ hd, XF, T.nfr, rfl, q _ (same_new hp)⟩
  · obtain ⟨rw', rx⟩ := r
    dsimp only at h0
    subst h0
    walk_at "w"
    refine w_isnt (str_ne (by dsimp only; decide +kernel)) ?_
    walk_at "w"
    refine w_isnt (str_ne (by dsimp only; decide +kernel)) ?_
    walk_at "w"
    refine w_isnt (str_ne (by dsimp only; decide +kernel)) ?_
    walk_at "w"
    refine w_if ?_
    walk_at "w"
    refine w_isnt (str_ne (by dsimp only; decide +kernel)) ?_
    exact q _ (Same.refl _)
  · obtain ⟨rw', rx⟩ := r
    dsimp only at h2 hw h1 h3
    have hx' : Ex1 (He.ga K rx) rw' (Is x) v H := by
      have z := hx
      unfold exS at z
      rw [if_neg (by dsimp only; rcases hw with rfl | rfl | rfl <;> decide +kernel), if_neg (by dsimp only; rcases hw with rfl | rfl | rfl <;> decide +kernel)] at z
      exact z
    obtain ⟨a, d, u, rfl, ha, hd, rfl⟩ := hx'
    have XF := T.xf rx h3
    have nf := T.nf1 rx h1
    rw [h2] at nf
    rcases hw with rfl | rfl | rfl
    · walk_at "w"
      refine w_is rfl ?_
      walk_at "w"
      refine w_exF ?_
      walk_at "w"
      exact ⟨a, _, d, _, u, rfl, ha, hd, XF, nf, rfl, q _ (Same.refl _)⟩
    · walk_at "w"
      refine w_isnt (str_ne (by dsimp only; decide +kernel)) ?_
      walk_at "w"
      refine w_is rfl ?_
      walk_at "w"
      refine w_exF ?_
      walk_at "w"
      exact ⟨a, _, d, _, u, rfl, ha, hd, XF, nf, rfl, q _ (Same.refl _)⟩
    · walk_at "w"
      refine w_isnt (str_ne (by dsimp only; decide +kernel)) ?_
      walk_at "w"
      refine w_isnt (str_ne (by dsimp only; decide +kernel)) ?_
      walk_at "w"
      refine w_isnt (str_ne (by dsimp only; decide +kernel)) ?_
      walk_at "w"
      refine w_if ?_
      walk_at "w"
      refine w_is rfl ?_
      refine w_exF ?_
      walk_at "w"
      exact ⟨a, _, d, _, u, rfl, ha, hd, XF, nf, rfl, q _ (Same.refl _)⟩
end
end K01

set_option Elab.async false
set_option linter.all false
set_option maxRecDepth 100000
set_option maxHeartbeats 4000000
namespace K01
open PySem PySem.Spec PyProof.Rows L2 L2H HotX EqX
/-! the words' steps, one after another -/
local macro_rules | `(tactic| walk_at "w") => `(tactic| (repeat (first
  | with_reducible refine w_seq ?_ | with_reducible refine w_asg ?_ | with_reducible refine w_ret ?_ | with_reducible exact w_retN ?_ | with_reducible refine w_drop ?_ | with_reducible refine w_ifs ?_ | with_reducible refine w_next ?_
  | with_reducible refine w_name ?_ | with_reducible refine w_gsub ?_ | ((with_reducible refine' w_var ?hx ?_); (case hx => exact rfl)) | with_reducible refine w_c ?_ | with_reducible refine w_op ?_ | with_reducible refine w_un ?_ | with_reducible refine w_cb ?_ | with_reducible refine w_call ?_
  | with_reducible refine w_nil ?_ | with_reducible refine w_cons ?_ | with_reducible refine w_test ?_ | with_reducible refine w_b ?_ | with_reducible refine w_bl ?_ | with_reducible refine w_not ?_ | with_reducible refine w_and ?_ | with_reducible refine w_or ?_
  | with_reducible refine w_notV ?_ | with_reducible refine w_blV ?_ | with_reducible refine w_I0 ?_ | ((with_reducible refine w_mulL ?_ ?_); · omega) | ((with_reducible refine w_mulR ?_ ?_); · omega) | ((with_reducible refine w_pow ?_ ?_); · decide)
  | with_reducible refine w_neg ?_ | ((with_reducible refine w_eq ?_ ?_); · exact rfl) | ((with_reducible refine w_ne ?_ ?_); · exact rfl) | with_reducible refine w_int1 ?_ | with_reducible refine w_abs ?_ | with_reducible refine w_max2 ?_ | with_reducible refine w_min2 ?_
  | with_reducible refine w_gcons ?_ | with_reducible refine w_gnil ?_ | with_reducible refine w_tup ?_ | with_reducible refine w_lst ?_ | with_reducible refine w_sl ?_ | with_reducible refine w_no ?_ | with_reducible refine w_part ?_ | with_reducible refine w_partI ?_ | with_reducible refine ⟨_, (rfl : V.int _ = V.int _), ?_⟩
  | with_reducible refine w_for ?_ | with_reducible refine w_iL ?_ | with_reducible refine w_iT ?_ | with_reducible refine w_iR ?_ | with_reducible refine w_yes ?_ | with_reducible refine w_setLc ?_ | with_reducible refine w_isB ?_)))

abbrev s_is_caught : Stmt := top 32
theorem sc__law_is_caught : FnScope ["way", "thing", "e"] ["way", "thing"] (defScope s_is_caught) := ⟨rfl, rfl, rfl, by decide +kernel, rfl, by decide +kernel, by decide +kernel⟩
theorem takesF {X : Cx} : L2N.Takes X (fun _ _ _ _ => False) := fun _ _ ⟨_, _, _, _, _, _, _, _, _, _, _, _, _, _, _, _, w⟩ => w.elim
theorem suite_all {X : Cx} {b : List Stmt} {t : Obj → TS} {cls : Value} {d : Option Addr} {oe : Obj} (hz : L2N.Zn cls d oe) (hd : ∃ vs, oe.data = .fields vs) (h : PSs X b (t oe)) : PSs X b (fun D σ H => ∀ o, L2N.Zn cls d o → (∃ vs, o.data = .fields vs) → t o D σ H) :=
  ⟨fun pins s σ H D I q => h.run pins s σ H D I (q oe hz hd)⟩
theorem hot_of {A : Around} {a : Addr} {oe : Obj} {cls : Value} {d : Option Addr} (hz : L2N.Zn cls d oe) (hd : ∃ vs, oe.data = .fields vs) : Hot1 (A.mark (some (.ref a))) (a, oe) := ⟨rfl, let ⟨vs, e⟩ := hd; ⟨vs, e, hz.2.2 vs e⟩⟩
theorem roomH_mark {A : Around} {v : Option Value} {k : Nat} (r : Room k A) : RoomH k (A.mark v) := ⟨r.dp, r.un⟩
def tsCaught (K : PySem.W.Frag) (a : Addr) (cls : Value) (d : Option Addr) : TS := fun D σ H => ∀ o : Obj, L2N.Zn cls d o → (∃ vs, o.data = .fields vs) →
  (tRet (tAndV (tOp (rIxL K) (tCall (spKinds K [(a, o)]) [] E0 (tCons (tVar 2) tNil)) (tOp (rIxT K) (tTup (tCons (tC (.int 0)) (tCons (tC (.int 11)) (tCons (tC (.int 12)) (tCons (tC (.int 15)) (tCons (tC (.int 16)) tNil)))))) (tVar 0))) (tCall (spPlain K [(a, o)]) [] E0 (tCons (tVar 2) tNil)))) D σ H
def tbCaught (K : PySem.W.Frag) (W : WX) : TS :=
  tSeq (tIfS (tTest (tOp rEq (tVar 0) (tC (.int 0)))) (fun _ σ H => tMkO (He.ga K "InvalidText") (spIni1 (He.ga K "InvalidText") "given") [] (tCons (tVar 1) tNil) σ H fun cls d H' => W cls d σ H') tNext)
  (tSeq (tIfS (tTest (tOp rEq (tVar 0) (tC (.int 1)))) (fun _ σ H => tMkK (He.ga K "NotWellRead") [fRow, fWord] (spIni2 (He.ga K "NotWellRead")) (tCons (tVar 1) (tCons (tC (.int 0)) tNil)) σ H fun cls d H' => W cls d σ H') tNext)
  (tSeq (tIfS (tTest (tOp rEq (tVar 0) (tC (.int 2)))) (fun _ σ H => tMkO (He.ga K "InvalidRows") (spIni1 (He.ga K "InvalidRows") "index") [] (tCons (tVar 1) tNil) σ H fun cls d H' => W cls d σ H') tNext)
  (tSeq (tIfS (tTest (tOp rEq (tVar 0) (tC (.int 3)))) (fun _ σ H => tMkK (He.ga K "Barred") ["reason"] (spIni1 (He.ga K "Barred") "reason") (tCons (tVar 1) tNil) σ H fun cls d H' => W cls d σ H') tNext)
  (fun _ σ H => W (.ref (He.ga K "NothingToUndo")) none σ H))))
section
variable {P : Program} {w : World} {K : PySem.W.Frag} {mg : Str → Option Value} {base : Heap}
def spCaught : Sp := fun vs H Q _ => ∃ (n : Int) (x : V), vs = [.int n, x] ∧ 0 ≤ n ∧ n < 5 ∧ ∀ H', Same H H' → Q (.bl true) H'
theorem df_is_caught (T : Kt P w K mg base) (A : At K mg "_law_is_caught" s_is_caught) (DP_kinds : DfP P w K mg base CX0 1 "_law_kinds" ["e"] (spKinds K)) (DP_plain : DfP P w K mg base CX0 1 "_law_is_plain" ["e"] (spPlain K)) :
    Df P w K mg base CX0 2 "_law_is_caught" ["way", "thing"] spCaught := by
  refine df_of A sc__law_is_caught (fun _ _ _ _ _ _ us hl => match us, hl with | [_, _], _ => rfl) (fun vs H Q E h => by obtain ⟨n, x, rfl, _⟩ := h; rfl) (fun f cdv A outer s H vs Q E hrs h => ?_)
  refine ⟨_, PSs.nox (pss_cons (L2N.ps_try_as (tb := tbCaught K) (ts := tsCaught K) (Wout := fun _ _ _ _ => False) rfl rfl sc__law_is_caught.nd (i := 2) rfl rfl ⟨by rfl, by decide, .inl (T.gmc "TermError" (by decide +kernel))⟩ takesF (fun W pn xe tk hp => (pss_cons (ps_if (pt_cmpR op_eq (pv 0) pe_int (nomark _)) (pss_one (rs_own1 (k := 0) tk (T.o1 "InvalidText" (by decide +kernel)) (hrs.mono (by decide)) (pa_cons (pv 1) pa_nil))) pss_nil)
      (pss_cons (ps_if (pt_cmpR op_eq (pv 0) pe_int (nomark _)) (pss_one (rs_own2K (k := 0) tk T.o2 (hrs.mono (by decide)) (pv 1) pe_int)) pss_nil)
      (pss_cons (ps_if (pt_cmpR op_eq (pv 0) pe_int (nomark _)) (pss_one (rs_own1 (k := 0) tk (T.o1 "InvalidRows" (by decide +kernel)) (hrs.mono (by decide)) (pa_cons (pv 1) pa_nil))) pss_nil)
      (pss_cons (ps_if (pt_cmpR op_eq (pv 0) pe_int (nomark _)) (pss_one (rs_own1K (k := 0) tk (T.o1 "Barred" (by decide +kernel)) (hrs.mono (by decide)) (pv 1))) pss_nil)
      (pss_one (rs_own0 tk (T.o0 "NothingToUndo" (by decide +kernel))))))))) (fun a oe cls d pn hz hd => suite_all hz hd (pss_one (ps_ret (pe_and (pe_ix ix_list (pe_dfP (p := (a, oe)) DP_kinds (roomH_mark (hrs.mono (by decide))) (hot_of hz hd) List.mem_cons_self (pa_cons (pv 2) pa_nil)) (pe_ix ix_tup (pe_tup (pa_cons pe_int (pa_cons pe_int (pa_cons pe_int (pa_cons pe_int (pa_cons pe_int pa_nil)))))) (pv 0) (fun _ _ => rfl)) (fun _ _ => rfl)) (pe_one (pe_dfP (p := (a, oe)) DP_plain (roomH_mark (hrs.mono (by decide))) (hot_of hz hd) List.mem_cons_self (pa_cons (pv 2) pa_nil))))))))
      (pss_one (ps_ret pe_bl))), ?_⟩
  obtain ⟨n, x, rfl, n0, n5, q⟩ := h
  have su : ∀ (i : Nat) (nm : Str) (d : Option Addr) (H1 : Hp), nmsT[i]? = some nm → i < 21 → atI [V.int 0, .int 11, .int 12, .int 15, .int 16] n = some (.int i) → Same H H1 → (∀ dd, d = some dd → ∃ fs, H1 dd = some (.xd fs)) → ∀ D : Ends, D.rt = Q →
      wAs K (.ref (He.ga K "TermError")) 2 (tsCaught K) (fun _ _ _ _ => False) D (.ref (He.ga K nm)) d [some (.int n), some x, none] H1 := by
    intro i nm d H1 hi h21 hat sm hdd D hD
    refine ⟨true, (T.er i nm hi).cx, fun _ a ha => ?_, fun h => nomatch h⟩
    intro o hz hd
    obtain ⟨ws, hws⟩ := hd
    have X1 : XAt [(a, o)] H1 a (He.ga K nm) := .inr ⟨o, ws, List.mem_singleton.mpr rfl, hz.1, hws, fun dd e => hdd dd (hz.2.1.symm.trans e)⟩
    refine w_ret (w_andV ?_)
    walk_at "w"
    refine ⟨a, i, nm, rfl, hi, X1, fun l H2 s2 hl => ?_⟩
    walk_at "w"
    refine ⟨by show 5 ≤ sizeLine; rw [sizeLine_eq]; omega, fun p hp => ?_⟩
    walk_at "w"
    refine w_ixT (SqT.of upd_same) hat ?_
    refine w_ixL (SqL.of (same_new hp _ _ hl)) (v := V.bl true) (atI_nat ?_) ?_
    · rw [List.getElem?_map, show (bitsAt i)[i]? = some true from (by decide +kernel : ∀ i, i < 21 → (bitsAt i)[i]? = some true) i h21]
      rfl
    refine ⟨true, rfl, w_true ?_⟩
    have s3 : Same H1 (upd H2 p (.tup [V.int 0, .int 11, .int 12, .int 15, .int 16])) := s2.trans (same_new hp)
    walk_at "w"
    refine ⟨a, i, nm, rfl, hi, X1.same s3, fun H4 s4 => ?_⟩
    rw [hD]
    exact q _ ((sm.trans s3).trans s4)
  have σe : L2.start ["way", "thing", "e"] [V.int n, x] = [some (.int n), some x, none] := rfl
  rw [σe]
  have g1 : GvA (tCons (tVar 1) tNil) [some (.int n), some x, none] H [Is x] := gva_cons (gv_var rfl) stab_is gva_nil
  have g2 : GvA (tCons (tVar 1) (tCons (tC (.int 0)) tNil)) [some (.int n), some x, none] H [Is x, Is (.int 0)] := gva_cons (gv_var rfl) stab_is (gva_cons gv_c stab_is gva_nil)
  have d1 : ∀ {d : Addr} {fs : List (Str × V)} {H1 : Hp}, H1 d = some (.xd fs) → ∀ dd, some d = some dd → ∃ fs, H1 dd = some (.xd fs) := fun {d fs H1} h dd e => by
    cases e
    exact ⟨fs, h⟩
  have int_ne : ∀ {i j : Int}, i ≠ j → ¬ (V.int i = V.int j) := fun h z => h (V.int.inj z)
  refine w_seq ?_
  show tbCaught K _ _ _ _
  unfold tbCaught
  obtain rfl | rfl | rfl | rfl | rfl : n = 0 ∨ n = 1 ∨ n = 2 ∨ n = 3 ∨ n = 4 := by omega
  · walk_at "w"
    refine w_is rfl ?_
    exact ra_exV g1 fun d fs H1 s1 h1 => su 0 "InvalidText" (some d) H1 (by decide +kernel) (by decide) (by rfl) s1 (d1 h1) _ rfl
  · walk_at "w"
    refine w_isnt (int_ne (by decide)) ?_
    walk_at "w"
    refine w_is rfl ?_
    exact ra_exK2 g2 fun d fs H1 s1 h1 => su 11 "NotWellRead" (some d) H1 (by decide +kernel) (by decide) (by rfl) s1 (d1 h1) _ rfl
  · walk_at "w"
    refine w_isnt (int_ne (by decide)) ?_
    walk_at "w"
    refine w_isnt (int_ne (by decide)) ?_
    walk_at "w"
    refine w_is rfl ?_
    exact ra_exV g1 fun d fs H1 s1 h1 => su 12 "InvalidRows" (some d) H1 (by decide +kernel) (by decide) (by rfl) s1 (d1 h1) _ rfl
  · walk_at "w"
    refine w_isnt (int_ne (by decide)) ?_
    walk_at "w"
    refine w_isnt (int_ne (by decide)) ?_
    walk_at "w"
    refine w_isnt (int_ne (by decide)) ?_
    walk_at "w"
    refine w_is rfl ?_
    exact ra_exK g1 fun d fs H1 s1 h1 => su 15 "Barred" (some d) H1 (by decide +kernel) (by decide) (by rfl) s1 (d1 h1) _ rfl
  · walk_at "w"
    refine w_isnt (int_ne (by decide)) ?_
    walk_at "w"
    refine w_isnt (int_ne (by decide)) ?_
    walk_at "w"
    refine w_isnt (int_ne (by decide)) ?_
    walk_at "w"
    refine w_isnt (int_ne (by decide)) ?_
    walk_at "w"
    exact su 16 "NothingToUndo" none H (by decide +kernel) (by decide) (by rfl) (Same.refl _) (fun dd e => nomatch e) _ rfl
end
end K01

set_option Elab.async false
set_option linter.all false
set_option maxRecDepth 100000
set_option maxHeartbeats 4000000
namespace K01
open PySem PySem.Spec PyProof.Rows L2 L2H HotX EqX
/-! ### data told -/
def DzS (K : PySem.W.Frag) (d : PyData) : VS := fun v H => Dz K H v d
theorem stab_dz {K : PySem.W.Frag} {d : PyData} : Stab (DzS K d) := fun v _ _ s h => dz_same s d v h
theorem stab_dzs {K : PySem.W.Frag} {ds : List PyData} : ∀ S ∈ ds.map (DzS K), Stab S := fun S h => by
  obtain ⟨d, _, rfl⟩ := List.mem_map.mp h
  exact stab_dz
theorem allS_dz {K : PySem.W.Frag} {H : Hp} : ∀ {ds : List PyData} {vs : List V}, AllS (ds.map (DzS K)) vs H → DzAll K H vs ds
  | [], [], _ => .nil
  | [], _ :: _, h => h.elim
  | _ :: _, [], h => h.elim
  | _ :: _, _ :: _, h => .cons h.1 (allS_dz h.2)
section
variable {K : PySem.W.Frag} {σ : L2.St} {H : Hp} {te : TE} {ta : TA} {ds : List PyData} {d : PyData} {v : V} {i : Nat}
theorem gd_non : Gv (tC .non) σ H (DzS K .none) := fun H0 Q s q => q _ _ (Same.refl _) .non
theorem gd_bl {b : Bool} : Gv (tC (.bl b)) σ H (DzS K (.bool b)) := fun H0 Q s q => q _ _ (Same.refl _) (.bl b)
theorem gd_int {n : Int} : Gv (tC (.int n)) σ H (DzS K (.int n)) := fun H0 Q s q => q _ _ (Same.refl _) (.int n)
theorem gd_str {z : Str} : Gv (tC (.str z)) σ H (DzS K (.str z)) := fun H0 Q s q => q _ _ (Same.refl _) (.str z)
theorem gd_var (h : σ[i]? = some (some v)) (hd : Dz K H v d) : Gv (tVar i) σ H (DzS K d) := fun H0 Q s q => ⟨v, h, q _ _ (Same.refl _) (dz_same s d v hd)⟩
theorem gd_neg {n : Int} : Gv (tUn (rU fun i => V.int (-i)) (tC (.int n))) σ H (DzS K (.int (-n))) := fun H0 Q s q => ⟨n, rfl, q _ _ (Same.refl _) (.int _)⟩
theorem gd_pow : Gv (tOp (rI CPow fun i j => V.int (i ^ j.toNat)) (tC (.int 10)) (tC (.int 29))) σ H (DzS K (.int (10 ^ 29))) := fun H0 Q s q => w_pow (by decide) (q _ _ (Same.refl _) (.int _))
theorem gd_tup (h : GvA ta σ H (ds.map (DzS K))) (n : ds.length ≤ 1000) : Gv (tTup ta) σ H (DzS K (.tuple ds)) := fun H0 Q s q =>
  h H0 _ s fun vs H1 s1 h1 => ⟨by rw [h1.len, List.length_map]; exact Nat.le_trans n (by decide), fun p hp => q _ _ (s1.trans (same_new hp)) (.tup (SqT.of upd_same) (allS_dz (h1.same (same_new hp) stab_dzs)))⟩
theorem gd_lst (h : GvA ta σ H (ds.map (DzS K))) (n : ds.length ≤ 1000) : Gv (tLst ta) σ H (DzS K (.list ds)) := fun H0 Q s q =>
  h H0 _ s fun vs H1 s1 h1 => ⟨by rw [h1.len, List.length_map]; exact Nat.le_trans n (by decide), fun p hp => q _ _ (s1.trans (same_new hp)) (.lst (SqL.of upd_same) (allS_dz (h1.same (same_new hp) stab_dzs)))⟩
theorem gd_dict : Gv tDNewK σ H (DzS K (.dict [])) := fun H0 Q s q p hp => q _ _ (same_new hp) (.dk0 upd_same)
/-- the tuple itself told too -/
theorem gd_tupR {Q : VK} (h : GvA ta σ H (ds.map (DzS K))) (n : ds.length ≤ 1000) (q : ∀ a xs H1, Same H H1 → H1 a = some (.tup xs) → DzAll K H1 xs ds → Q (.ref a) H1) : tTup ta σ H Q :=
  h H _ (Same.refl _) fun vs H1 s1 h1 => ⟨by rw [h1.len, List.length_map]; exact Nat.le_trans n (by decide), fun p hp => q p vs _ (s1.trans (same_new hp)) upd_same (allS_dz (h1.same (same_new hp) stab_dzs))⟩
end
theorem dzA_len {K : PySem.W.Frag} {H : Hp} : ∀ {ds : List PyData} {vs : List V}, DzAll K H vs ds → vs.length = ds.length
  | [], _, h => by cases h; rfl
  | _ :: _, _, h => by cases h with | cons _ h2 => exact congrArg Nat.succ (dzA_len h2)
theorem dzA_mem {K : PySem.W.Frag} {H : Hp} : ∀ {ds : List PyData} {vs : List V} {v : V}, DzAll K H vs ds → v ∈ vs → ∃ d ∈ ds, Dz K H v d
  | [], _, _, h, m => by cases h; cases m
  | d :: ds, _, v, h, m => by
    cases h with
    | cons h1 h2 =>
      rcases List.mem_cons.mp m with e | m
      · exact ⟨d, List.mem_cons_self, e ▸ h1⟩
      · obtain ⟨d', m', h'⟩ := dzA_mem h2 m
        exact ⟨d', List.mem_cons_of_mem _ m', h'⟩
/-! no list of three within -/
mutual
def no3 : PyData → Bool
  | .list ds => decide (ds.length ≠ 3) && no3A ds
  | .tuple ds => no3A ds
  | _ => true
def no3A : List PyData → Bool
  | [] => true
  | d :: ds => no3 d && no3A ds
end
theorem rd_ne {H : Hp} {a d : Addr} {o o' x : HO} (h : Rd H a o) (hd : H d = some x) (n1 : x ≠ o) (n2 : ∀ ob, x ≠ .frz ob o) : Rd (upd H d o') a o := by
  rcases h with h | ⟨ob, h⟩
  · have ne : a ≠ d := fun z => by
      rw [z, hd] at h
      exact n1 (Option.some.inj h)
    exact .inl (by rw [upd_ne ne]; exact h)
  · have ne : a ≠ d := fun z => by
      rw [z, hd] at h
      exact n2 ob (Option.some.inj h)
    exact .inr ⟨ob, by rw [upd_ne ne]; exact h⟩
mutual
theorem dz_upd {K : PySem.W.Frag} {H : Hp} {p : Addr} {f s t : Int} {o : HO} (hp : H p = some (.lst (purseL f s t))) : ∀ (d : PyData) (v : V), no3 d = true → Dz K H v d → Dz K (upd H p o) v d
  | .none, _, _, h => by cases h; exact .non
  | .bool b, _, _, h => by cases h; exact .bl b
  | .int i, _, _, h => by cases h; exact .int i
  | .str x, _, _, h => by cases h; exact .str x
  | .list ds, _, n, h => by
    unfold no3 at n
    have n' := Bool.and_eq_true_iff.mp n
    cases h with
    | lst h1 h2 =>
      refine .lst (h1.imp (fun r => rd_ne r hp (fun z => ?_) (fun ob z => nomatch z)) id) (dzA_upd hp ds _ n'.2 h2)
      have e := dzA_len h2
      rw [← HO.lst.inj z] at e
      exact (of_decide_eq_true n'.1) e.symm
  | .tuple ds, _, n, h => by
    unfold no3 at n
    cases h with
    | tup h1 h2 => exact .tup (h1.imp (fun r => rd_ne r hp (fun z => nomatch z) (fun ob z => nomatch z)) id) (dzA_upd hp ds _ n h2)
  | .dict kvs, _, _, h => by
    cases h with
    | dk0 e =>
      refine .dk0 ?_
      rw [upd_ne (fun z => ?_)]
      · exact e
      · rw [z, hp] at e
        cases e
theorem dzA_upd {K : PySem.W.Frag} {H : Hp} {p : Addr} {f s t : Int} {o : HO} (hp : H p = some (.lst (purseL f s t))) : ∀ (ds : List PyData) (vs : List V), no3A ds = true → DzAll K H vs ds → DzAll K (upd H p o) vs ds
  | [], _, _, h => by cases h; exact .nil
  | d :: ds, _, n, h => by
    unfold no3A at n
    have n' := Bool.and_eq_true_iff.mp n
    cases h with
    | cons h1 h2 => exact .cons (dz_upd hp d _ n'.1 h1) (dzA_upd hp ds _ n'.2 h2)
end
/-! ### the drawn things -/
def plainD : List PyData := [.none, .bool true, .bool false, .int 0, .int 1, .int (-1), .int (10 ^ 29), .str "", .str "a", .tuple [], .tuple [.int 1, .str "good"], .list [], .dict [], .tuple [.tuple [.int 1, .str "a"]], .tuple [.bool true, .int 0]]
def overD (d : PyData) : List PyData := [d, .tuple [d, d], .list [d], .str "a text", .int (-7), .tuple [.tuple [], .tuple [d]]]
def okD (d : PyData) : Bool := no3 d && (d.showable && (decide (d.depth ≤ 60) && (decide (d.shown.length ≤ sizeLine) && ((PyData.list [d]).showable && (decide ((PyData.list [d]).depth ≤ 60) && decide ((PyData.list [d]).shown.length ≤ sizeLine))))))
theorem okD_all : ∀ d ∈ plainD, no3 d = true ∧ ∀ e ∈ overD d, okD e = true := by
  have h : (plainD.all fun d => no3 d && (overD d).all okD) = true := by decide +kernel
  intro d hd
  have h1 := Bool.and_eq_true_iff.mp (List.all_eq_true.mp h d hd)
  exact ⟨h1.1, fun e he => List.all_eq_true.mp h1.2 e he⟩
theorem okD_no3 {d : PyData} (h : okD d = true) : no3 d = true := (Bool.and_eq_true_iff.mp h).1
theorem okD_shows {d : PyData} (h : okD d = true) : Shows d ∧ Shows (.list [d]) := by
  unfold okD at h
  simp only [Bool.and_eq_true, decide_eq_true_eq] at h
  obtain ⟨_, h1, h2, h3, h4, h5, h6⟩ := h
  exact ⟨⟨h1, h2, h3⟩, ⟨h4, h5, h6⟩⟩
theorem shows_none : Shows .none := ⟨by decide +kernel, by decide +kernel, by decide +kernel⟩
/-! ### what stays when the purse changes -/
def Ext (d : Addr) (H H' : Hp) : Prop := ∀ b o, b ≠ d → H b = some o → H' b = some o
theorem Ext.of {d : Addr} {H H' : Hp} (s : Same H H') : Ext d H H' := fun b o _ e => s b o e
theorem Ext.trans {d : Addr} {H H1 H2 : Hp} (a : Ext d H H1) (b : Ext d H1 H2) : Ext d H H2 := fun c o n e => b c o n (a c o n e)
theorem Ext.upd {d : Addr} {H : Hp} {o : HO} : Ext d H (upd H d o) := fun b o' n e => by rw [upd_ne n]; exact e
theorem Purse.same {H H' : Hp} {d : Addr} (s : Same H H') (p : Purse H d) : Purse H' d := let ⟨f, s0, t, e, r⟩ := p; ⟨f, s0, t, s _ _ e, r⟩
theorem Purse.new {H : Hp} {d : Addr} {f s t : Int} (f0 : 0 ≤ f) (s0 : 0 ≤ s) (s1 : s < bigM) : Purse (upd H d (.lst (purseL f s t))) d := ⟨f, s, t, upd_same, f0, s0, s1⟩
/-- what is not a list of ints stays -/
def Keep (H H' : Hp) : Prop := ∀ b o, H b = some o → (∀ ns : List Int, o ≠ .lst (ns.map V.int)) → H' b = some o
theorem Keep.trans {H H1 H2 : Hp} (a : Keep H H1) (b : Keep H1 H2) : Keep H H2 := fun c o e n => b c o (a c o e n) n
theorem Keep.upd {H : Hp} {p : Addr} {o : HO} {ns : List Int} (hp : H p = some (.lst (ns.map V.int))) : Keep H (upd H p o) := fun b ob e n => by
  rw [upd_ne (fun z => by rw [z, hp] at e; exact n ns (Option.some.inj e).symm)]
  exact e
theorem Keep.of {H H' : Hp} (s : Same H H') : Keep H H' := fun b o e _ => s b o e
def StabK (S : VS) : Prop := ∀ v H H', Keep H H' → S v H → S v H'
theorem stabK_is {x : V} : StabK (Is x) := fun _ _ _ _ h => h
theorem allS_keep {H H' : Hp} (s : Keep H H') : ∀ {Ss : List VS} {vs : List V}, (∀ S ∈ Ss, StabK S) → AllS Ss vs H → AllS Ss vs H'
  | [], [], _, _ => trivial
  | [], _ :: _, _, h => h.elim
  | _ :: _, [], _, h => h.elim
  | _ :: _, _ :: _, st, h => ⟨st _ List.mem_cons_self _ _ _ s h.1, allS_keep s (fun S m => st S (List.mem_cons_of_mem _ m)) h.2⟩
theorem stabK_lst {S : VS} {Ss : List VS} (ni : ∀ v H, S v H → ∀ n : Int, v ≠ .int n) (st : ∀ T ∈ S :: Ss, StabK T) : StabK (LstS (S :: Ss)) := fun v H H' s ⟨a, xs, e, h, q⟩ => by
  refine ⟨a, xs, e, s _ _ h fun ns z => ?_, allS_keep s st q⟩
  match xs, q with
  | x :: xs, q =>
    have z' := HO.lst.inj z
    match ns, z' with
    | n :: ns, z' => exact ni x H q.1 n (List.cons.inj z').1
theorem stabK_ex1 {C : Addr} {f : Str} {S : VS} (st : StabK S) : StabK (Ex1 C f S) := fun _ _ _ s ⟨a, d, u, e, h1, h2, q⟩ => ⟨a, d, u, e, s _ _ h1 (fun ns z => nomatch z), s _ _ h2 (fun ns z => nomatch z), st _ _ _ s q⟩
theorem stabK_ex2 {C : Addr} {S S' : VS} (st : StabK S) (st' : StabK S') : StabK (Ex2 C S S') := fun _ _ _ s ⟨a, d, u, u', e, h1, h2, q, q'⟩ => ⟨a, d, u, u', e, s _ _ h1 (fun ns z => nomatch z), s _ _ h2 (fun ns z => nomatch z), st _ _ _ s q, st' _ _ _ s q'⟩
theorem stabK_ex0 {C : Addr} : StabK (Ex0 C) := fun _ _ _ s ⟨a, e, h⟩ => ⟨a, e, s _ _ h (fun ns z => nomatch z)⟩
theorem stabK_exS {K : PySem.W.Frag} {x : Addr} {r : Str × Str} : StabK (exS K (.ref x) r) := by
  unfold exS
  split
  · exact stabK_ex2 stabK_is (stabK_lst (fun v H h n z => by rw [show v = V.ref x from h] at z; cases z) fun S h => by rw [List.mem_singleton.mp h]; exact stabK_is)
  · split
    · exact stabK_ex0
    · exact stabK_ex1 stabK_is
theorem stabK_rowS {K : PySem.W.Frag} {x : Addr} {r : Str × Str} : StabK (rowS K (.ref x) r) := by
  refine stabK_lst (fun v H h n z => by rw [show v = V.str r.1 from h] at z; cases z) fun S h => ?_
  rcases List.mem_cons.mp h with e | h
  · rw [e]; exact stabK_is
  rcases List.mem_cons.mp h with e | h
  · rw [e]; exact stabK_exS
  rcases List.mem_cons.mp h with e | h
  · rw [e]; exact stabK_exS
  cases h
theorem stabK_rows {K : PySem.W.Frag} {x : Addr} {l : List (Str × Str)} : ∀ S ∈ l.map (rowS K (.ref x)), StabK S := fun S h => by
  obtain ⟨r, _, rfl⟩ := List.mem_map.mp h
  exact stabK_rowS
/-! ### rows read -/
theorem exS_at {K : PySem.W.Frag} {x v : V} {r : Str × Str} {H : Hp} (h : exS K x r v H) : ∃ a d, v = .ref a ∧ ExAt H a (He.ga K r.2) d := by
  unfold exS at h
  split at h
  · obtain ⟨a, d, u, u', rfl, h1, h2, _⟩ := h
    exact ⟨a, some d, rfl, h1, fun dd e => by cases e; exact ⟨_, h2⟩⟩
  · split at h
    · obtain ⟨a, rfl, h1⟩ := h
      exact ⟨a, none, rfl, h1, fun dd e => nomatch e⟩
    · obtain ⟨a, d, u, rfl, h1, h2, _⟩ := h
      exact ⟨a, some d, rfl, h1, fun dd e => by cases e; exact ⟨_, h2⟩⟩
theorem rows_at {K : PySem.W.Frag} {x v : V} {H : Hp} {xs : List V} {i : Nat} (h : AllS (rows.map (rowS K x)) xs H) (e : xs[i]? = some v) :
    ∃ (r : Str × Str) (l : Addr) (e1 e2 : V), rows[i]? = some r ∧ v = .ref l ∧ H l = some (.lst [.str r.1, e1, e2]) ∧ exS K x r e1 H ∧ exS K x r e2 H := by
  obtain ⟨S, hS, q⟩ := h.get e
  rw [List.getElem?_map] at hS
  cases hr : rows[i]? with
  | none => rw [hr] at hS; cases hS
  | some r =>
    rw [hr] at hS
    cases hS
    obtain ⟨l, ys, rfl, hl, ha⟩ := q
    match ys, ha with
    | [y1, y2, y3], ⟨h1, h2, h3, _⟩ =>
      rw [show y1 = V.str r.1 from h1] at hl
      exact ⟨r, l, y2, y3, rfl, rfl, hl, h2, h3⟩
theorem rows_nms : ∀ i, i < 21 → (rows[i]?).map (·.2) = nmsT[i]? := by decide +kernel
theorem rows_len : rows.length = 21 := by decide +kernel
/-- lists of bools as data -/
theorem dp_bls {K : PySem.W.Frag} {H : Hp} : ∀ bs : List Bool, DpAll K H (bs.map V.bl) (bs.map PyData.bool)
  | [] => .nil
  | b :: bs => .cons (.bl b) (dp_bls bs)
theorem eqv_bits : ∀ i, i < 21 → SeqAt.shaped (.list ((bitsAt i).map PyData.bool)) = true ∧ PyData.eqv (.list ((bitsAt i).map PyData.bool)) (.list ((bitsAt i).map PyData.bool)) = true := by decide +kernel
/-- a comprehension over range(n) without a test -/
theorem w_lcR {n : Nat} {g : TG} {te : TE} {vs : List Nat} {σ : L2.St} {H : Hp} {Q : VK} (Pv : Addr → Nat → Hp → Prop) (hn : n ≤ 1000) (h0 : ∀ D, H D = none → Pv D 0 (upd H D (.lst [])))
    (hs : ∀ D i H', H D = none → i < n → Pv D i H' → g (.int (0 + (i : Int))) (wipe σ vs) H' fun σ2 H2 => wipe σ2 vs = wipe σ vs ∧ te σ2 H2 fun y H4 => ∃ acc, H4 D = some (.lst acc) ∧ acc.length < sizeLine ∧ Pv D (i + 1) (upd H4 D (.lst (acc ++ [y]))))
    (hd : ∀ D H', H D = none → Pv D n H' → Q (.ref D) H') : tLc (iRng1 (tCons (tC (.int (n : Int))) tNil)) g tYes te vs σ H Q := by
  refine w_iR (w_cons (w_c (w_nil ⟨(n : Int), rfl, by omega, by omega, ?_⟩)))
  intro D hD
  have e : ((n : Int)).toNat = n := by simp
  rw [e]
  exact lc_range (Pv D) (h0 D hD) (fun i H' hi p => hs D i H' hD hi p) fun H' p => hd D H' hD p
end K01

set_option Elab.async false
set_option linter.all false
set_option maxRecDepth 100000
set_option maxHeartbeats 4000000
namespace K01
open PySem PySem.Spec PyProof.Rows L2 L2H HotX EqX
/-! the words' steps, one after another -/
local macro_rules | `(tactic| walk_at "w") => `(tactic| (repeat (first
  | with_reducible refine w_seq ?_ | with_reducible refine w_asg ?_ | with_reducible refine w_ret ?_ | with_reducible exact w_retN ?_ | with_reducible refine w_drop ?_ | with_reducible refine w_ifs ?_ | with_reducible refine w_next ?_
  | with_reducible refine w_name ?_ | with_reducible refine w_gsub ?_ | ((with_reducible refine' w_var ?hx ?_); (case hx => exact rfl)) | with_reducible refine w_c ?_ | with_reducible refine w_op ?_ | with_reducible refine w_un ?_ | with_reducible refine w_cb ?_ | with_reducible refine w_call ?_
  | with_reducible refine w_nil ?_ | with_reducible refine w_cons ?_ | with_reducible refine w_test ?_ | with_reducible refine w_b ?_ | with_reducible refine w_bl ?_ | with_reducible refine w_not ?_ | with_reducible refine w_and ?_ | with_reducible refine w_or ?_
  | with_reducible refine w_notV ?_ | with_reducible refine w_blV ?_ | with_reducible refine w_I0 ?_ | ((with_reducible refine w_mulL ?_ ?_); · omega) | ((with_reducible refine w_mulR ?_ ?_); · omega) | ((with_reducible refine w_pow ?_ ?_); · decide)
  | with_reducible refine w_neg ?_ | ((with_reducible refine w_eq ?_ ?_); · exact rfl) | ((with_reducible refine w_ne ?_ ?_); · exact rfl) | with_reducible refine w_int1 ?_ | with_reducible refine w_abs ?_ | with_reducible refine w_max2 ?_ | with_reducible refine w_min2 ?_
  | with_reducible refine w_gcons ?_ | with_reducible refine w_gnil ?_ | with_reducible refine w_tup ?_ | with_reducible refine w_lst ?_ | with_reducible refine w_sl ?_ | with_reducible refine w_no ?_ | with_reducible refine w_part ?_ | with_reducible refine w_partI ?_ | with_reducible refine ⟨_, (rfl : V.int _ = V.int _), ?_⟩
  | with_reducible refine w_for ?_ | with_reducible refine w_iL ?_ | with_reducible refine w_iT ?_ | with_reducible refine w_iR ?_ | with_reducible refine w_yes ?_ | with_reducible refine w_setLc ?_ | with_reducible refine w_isB ?_)))

def tE (K : PySem.W.Frag) : TS :=
  tSeq (tIfS (tOr (tTest (tOp (rNeD K) (tCall (spKinds K []) [] E0 (tCons (tVar 7) tNil)) (tLc (iRng1 (tCons (tC (.int 21)) tNil)) (gName 8) tYes (tOp rEq (tVar 8) (tVar 3)) [8]))) (tNot (tB (tCall (spPlain K []) [] E0 (tCons (tVar 7) tNil))))) (tRet (tC (.bl false))) tNext)
    (tIfS (tTest (tOp rNe (tCB (rRepr K) (tCons (tCall (spKept K) [] E0 (tCons (tVar 4) (tCons (tVar 7) tNil))) tNil)) (tCB (rRepr K) (tCons (tIf (tTest (tOp rNe (tVar 4) (tC (.str "")))) (tVar 2) (tC .non)) tNil)))) (tRet (tC (.bl false))) tNext)
def tTurn1 (K : PySem.W.Frag) : TS := tSeq (tFor (iTup K (tTup (tCons (tVar 5) (tCons (tVar 6) tNil)))) (gName 7) (tE K)) (tAsg (tOp (rI0 fun i j => .int (i + j)) (tVar 3) (tC (.int 1))) (gName 3))
theorem int_eq {i j : Nat} : decide (V.int (0 + (i : Int)) = V.int (j : Int)) = decide (j = i) := by
  by_cases h : j = i
  · rw [h, decide_eq_true (p := i = i) rfl]
    exact decide_eq_true (by rw [Int.zero_add])
  · rw [decide_eq_false h]
    refine decide_eq_false fun z => h ?_
    have e := V.int.inj z
    omega
section
variable {K : PySem.W.Frag} {D : Ends} {H : Hp} {dv pv : Option V} {x : V} {i : Nat} {r : Str × Str} {dt : PyData}
theorem body_e {o5 o6 : Option V} {v : V} {o8 : Option V} (hi : i < 21) (hr : rows[i]? = some r) (hx : exS K x r v H) (hd : Dz K H x dt) (s1 : Shows dt) (s2 : Shows (.list [dt]))
    (q : ∀ H', Same H H' → D.nx [dv, pv, some x, some (.int i), some (.str r.1), o5, o6, some v, o8, none, none, none] H') : tE K D [dv, pv, some x, some (.int i), some (.str r.1), o5, o6, some v, o8, none, none, none] H := by
  obtain ⟨a, d, rfl, ha⟩ := exS_at hx
  have nm : nmsT[i]? = some r.2 := by
    rw [← rows_nms i hi, hr]
    rfl
  refine w_seq (w_ifs (w_or (w_test (w_op (w_call (w_cons (w_var (by rfl) (w_nil ?_))))))))
  refine ⟨a, i, r.2, rfl, nm, .inl ⟨d, ha⟩, fun l H1 t1 hl => ?_⟩
  refine w_lcR (n := 21) (fun L j H' => Same H1 H' ∧ H' L = some (.lst ((List.range j).map fun k => V.bl (decide (i = k))))) (by decide) (fun L hL => ⟨same_new hL, upd_same⟩) (fun L j H' hL hj p => ?_) (fun L H' hL p => ?_)
  · refine w_name ⟨by rfl, ?_⟩
    refine w_op (w_var (by rfl) (w_var (by rfl) (w_eq (by rfl) ?_)))
    refine ⟨_, p.2, ?_, ?_, ?_⟩
    · rw [List.length_map, List.length_range, sizeLine_eq]
      omega
    · intro b o e
      rw [upd_ne (fun z => by rw [z, hL] at e; cases e)]
      exact p.1 b o e
    · rw [upd_same, int_eq, List.range_succ, List.map_append]
      rfl
  · obtain ⟨p1, p2⟩ := p
    have eb : (List.range 21).map (fun k => V.bl (decide (i = k))) = (bitsAt i).map V.bl := by
      unfold bitsAt
      rw [List.map_map]
      rfl
    rw [eb] at p2
    have E := eqv_bits i hi
    refine ⟨_, _, .lst (SqL.of (p1 _ _ hl)) (dp_bls _), .lst (SqL.of p2) (dp_bls _), E.1, E.1, ?_⟩
    rw [E.2]
    try dsimp only
    refine w_blV ?_
    refine w_false (w_not (w_b (w_call (w_cons (w_var (by rfl) (w_nil ?_))))))
    have S3 : Same H H' := t1.trans p1
    refine ⟨a, i, r.2, rfl, nm, .inl ⟨d, ha.keeps S3⟩, fun H4 t4 => ?_⟩
    have S4 := S3.trans t4
    try dsimp only
    refine w_blV ?_
    refine w_false (w_next ?_)
    refine w_ifs (w_test (w_op (w_cb (w_cons (w_call (w_cons (w_var (by rfl) (w_cons (w_var (by rfl) (w_nil ?_))))))))))
    refine ⟨r, x, .ref a, rfl, List.mem_of_getElem? hr, stab_exS _ _ _ S4 hx, fun _ => ⟨dt, dz_same S4 _ _ hd, s2⟩, fun H5 t5 => ?_⟩
    have S5 := S4.trans t5
    refine w_nil ?_
    have hv : ∃ dv', Dz K H5 (if r.1 = "" then V.non else x) dv' ∧ Shows dv' := by
      by_cases h : r.1 = ""
      · rw [if_pos h]
        exact ⟨.none, .non, shows_none⟩
      · rw [if_neg h]
        exact ⟨dt, dz_same S5 _ _ hd, s1⟩
    obtain ⟨dv', hdv, sdv⟩ := hv
    refine ⟨_, dv', rfl, hdv, sdv, ?_⟩
    refine w_cb (w_cons (w_if (w_test (w_op (w_var (by rfl) (w_c (w_ne (by rfl) ?_)))))))
    try dsimp only
    refine w_blV ?_
    have fin : ∀ y, y = (if r.1 = "" then V.non else x) → (tNil [dv, pv, some x, some (.int i), some (.str r.1), o5, o6, some (.ref a), o8, none, none, none] H5 fun xs H2 => rRepr K (y :: xs) H2 fun y H2 => rNe (.str dv'.shown) y H2 fun x_1 H1 => ∃ k, x_1 = V.bl k ∧ if k = true then tRet (tC (.bl false)) D [dv, pv, some x, some (.int i), some (.str r.1), o5, o6, some (.ref a), o8, none, none, none] H1 else tNext D [dv, pv, some x, some (.int i), some (.str r.1), o5, o6, some (.ref a), o8, none, none, none] H1) := by
      rintro _ rfl
      refine w_nil ⟨_, dv', rfl, hdv, sdv, ?_⟩
      refine w_ne (by rfl) ?_
      try dsimp only
      refine w_blV ?_
      rw [decide_eq_true (p := V.str dv'.shown = V.str dv'.shown) rfl]
      exact w_false (w_next (q _ S5))
    by_cases h : r.1 = ""
    · rw [decide_eq_true (p := V.str r.1 = V.str "") (by rw [h])]
      exact w_false (w_c (fin _ (by rw [if_pos h])))
    · rw [decide_eq_false (p := V.str r.1 = V.str "") (str_ne h)]
      exact w_true (w_var (by rfl) (fin _ (by rw [if_neg h])))
theorem turn_1 {e1 e2 : V} {o7 o8 : Option V} (hi : i < 21) (hr : rows[i]? = some r) (h1 : exS K x r e1 H) (h2 : exS K x r e2 H) (hd : Dz K H x dt) (s1 : Shows dt) (s2 : Shows (.list [dt]))
    (q : ∀ H' o7', Same H H' → D.nx [dv, pv, some x, some (.int ((i + 1 : Nat) : Int)), some (.str r.1), some e1, some e2, o7', o8, none, none, none] H') : tTurn1 K D [dv, pv, some x, some (.int i), some (.str r.1), some e1, some e2, o7, o8, none, none, none] H := by
  refine w_seq (w_for (w_iT (w_tup (w_cons (w_var (by rfl) (w_cons (w_var (by rfl) (w_nil ?_))))))))
  refine ⟨by show 2 ≤ sizeLine; rw [sizeLine_eq]; omega, fun p hp => ?_⟩
  refine w_forTv (fun _ σ' H' => Same (upd H p (.tup [e1, e2])) H' ∧ ∃ o7', σ' = [dv, pv, some x, some (.int i), some (.str r.1), some e1, some e2, o7', o8, none, none, none]) (SqT.of upd_same) ⟨Same.refl _, o7, rfl⟩ (fun _ _ _ _ h => SqT.of (h.1 _ _ upd_same)) (fun j y σ' H' hj h => ?_) (fun σ' H' h => ?_)
  · obtain ⟨sm, o7', rfl⟩ := h
    have S := (same_new hp).trans sm
    have hy : exS K x r y H' := by
      match j, hj with
      | 0, hj => cases hj; exact stab_exS _ _ _ S h1
      | 1, hj => cases hj; exact stab_exS _ _ _ S h2
    refine w_name (body_e hi hr hy (dz_same S _ _ hd) s1 s2 fun H2 t2 => ⟨sm.trans t2, some y, rfl⟩)
  · obtain ⟨sm, o7', rfl⟩ := h
    refine w_asg (w_op (w_var (by rfl) (w_c (w_I0 (w_name ?_)))))
    have e : ((i : Int) + 1) = ((i + 1 : Nat) : Int) := rfl
    exact q _ o7' ((same_new hp).trans sm)
end
/-! the second loop's turn -/
def tTurn2 (K : PySem.W.Frag) : TS := tIfS (tAnd (tTest (tOp (rIn K true) (tVar 4) (tTup (tCons (tC (.str "")) (tCons (tC (.str "row")) tNil)))))
  (tOr (tTest (tOp (rNeD K) (tCall (spKept K) [] E0 (tCons (tVar 4) (tCons (tVar 5) tNil))) (tVar 9))) (tTest (tOp (rNeD K) (tCall (spKept K) [] E0 (tCons (tVar 4) (tCons (tVar 6) tNil))) (tVar 9))))) (tRet (tC (.bl false))) tNext
theorem dp_ints {K : PySem.W.Frag} {H : Hp} {a : Addr} {m n : Int} (h : H a = some (.lst [.int m, .int n])) : Dp K H (.ref a) (.list [.int m, .int n]) := .lst (SqL.of h) (.cons (.int m) (.cons (.int n) .nil))
theorem eqv_ints {m n : Int} : SeqAt.shaped (.list [.int m, .int n]) = true ∧ PyData.eqv (.list [.int m, .int n]) (.list [.int m, .int n]) = true := by
  have h1 : (PyData.list [.int m, .int n]).canLay0 = true := rfl
  exact ⟨by unfold SeqAt.shaped; rw [h1]; rfl, by simp [PyData.eqv, PyData.eqvAll]⟩
theorem turn_2 {K : PySem.W.Frag} {D : Ends} {H : Hp} {o0 o1 o2 o3 o7 o8 oA oB : Option V} {r : Str × Str} {e1 e2 : V} {rw' : Addr} {m n : Int} (hr : r ∈ rows) (h1 : exS K (.ref rw') r e1 H) (h2 : exS K (.ref rw') r e2 H) (hw : H rw' = some (.lst [.int m, .int n]))
    (q : ∀ H', Same H H' → D.nx [o0, o1, o2, o3, some (.str r.1), some e1, some e2, o7, o8, some (.ref rw'), oA, oB] H') : tTurn2 K D [o0, o1, o2, o3, some (.str r.1), some e1, some e2, o7, o8, some (.ref rw'), oA, oB] H := by
  refine w_ifs (w_and (w_test (w_op (w_var (by rfl) (w_tup (w_cons (w_c (w_cons (w_c (w_nil ?_))))))))))
  refine ⟨by show 2 ≤ sizeLine; rw [sizeLine_eq]; omega, fun p hp => ?_⟩
  refine ⟨p, _, rfl, .inr (SqT.of upd_same), rfl, rfl, ?_⟩
  try dsimp only
  refine w_blV ?_
  have S1 := same_new (o := .tup [.str "", .str "row"]) hp
  rcases rows_by r hr with rfl | ⟨h0, _⟩ | ⟨_, _, _, hw'⟩
  · exact w_false (w_next (q _ S1))
  · rw [h0]
    rw [h0] at q
    exact w_false (w_next (q _ S1))
  · have e : (if true = true then !inV (.str r.1) [.str "", .str "row"] else inV (.str r.1) [.str "", .str "row"]) = true := by
      rcases hw' with h | h | h <;> (rw [h]; decide +kernel)
    rw [e]
    have nr : r.1 ≠ "row" := by rcases hw' with h | h | h <;> (rw [h]; decide +kernel)
    have nz : r.1 ≠ "" := by rcases hw' with h | h | h <;> (rw [h]; decide +kernel)
    have E := eqv_ints (m := m) (n := n)
    refine w_true (w_or (w_test (w_op (w_call (w_cons (w_var (by rfl) (w_cons (w_var (by rfl) (w_nil ?_)))))))))
    refine ⟨r, .ref rw', e1, rfl, hr, stab_exS _ _ _ S1 h1, fun z => absurd z nr, fun H2 t2 => ?_⟩
    rw [if_neg nz]
    have S2 := S1.trans t2
    refine w_var (by rfl) ⟨_, _, dp_ints (S2 _ _ hw), dp_ints (S2 _ _ hw), E.1, E.1, ?_⟩
    rw [E.2]
    try dsimp only
    refine w_blV ?_
    refine w_false (w_test (w_op (w_call (w_cons (w_var (by rfl) (w_cons (w_var (by rfl) (w_nil ?_))))))))
    refine ⟨r, .ref rw', e2, rfl, hr, stab_exS _ _ _ S2 h2, fun z => absurd z nr, fun H3 t3 => ?_⟩
    rw [if_neg nz]
    have S3 := S2.trans t3
    refine w_var (by rfl) ⟨_, _, dp_ints (S3 _ _ hw), dp_ints (S3 _ _ hw), E.1, E.1, ?_⟩
    rw [E.2]
    try dsimp only
    refine w_blV ?_
    exact w_false (w_next (q _ S3))
end K01

set_option Elab.async false
set_option linter.all false
set_option maxRecDepth 100000
set_option maxHeartbeats 4000000
namespace K01
open PySem PySem.Spec PyProof.Rows L2 L2H HotX EqX
/-! the words' steps, one after another -/
local macro_rules | `(tactic| walk_at "w") => `(tactic| (repeat (first
  | with_reducible refine w_seq ?_ | with_reducible refine w_asg ?_ | with_reducible refine w_ret ?_ | with_reducible exact w_retN ?_ | with_reducible refine w_drop ?_ | with_reducible refine w_ifs ?_ | with_reducible refine w_next ?_
  | with_reducible refine w_name ?_ | with_reducible refine w_gsub ?_ | ((with_reducible refine' w_var ?hx ?_); (case hx => exact rfl)) | with_reducible refine w_c ?_ | with_reducible refine w_op ?_ | with_reducible refine w_un ?_ | with_reducible refine w_cb ?_ | with_reducible refine w_call ?_
  | with_reducible refine w_nil ?_ | with_reducible refine w_cons ?_ | with_reducible refine w_test ?_ | with_reducible refine w_b ?_ | with_reducible refine w_bl ?_ | with_reducible refine w_not ?_ | with_reducible refine w_and ?_ | with_reducible refine w_or ?_
  | with_reducible refine w_notV ?_ | with_reducible refine w_blV ?_ | with_reducible refine w_I0 ?_ | ((with_reducible refine w_mulL ?_ ?_); · omega) | ((with_reducible refine w_mulR ?_ ?_); · omega) | ((with_reducible refine w_pow ?_ ?_); · decide)
  | with_reducible refine w_neg ?_ | ((with_reducible refine w_eq ?_ ?_); · exact rfl) | ((with_reducible refine w_ne ?_ ?_); · exact rfl) | with_reducible refine w_int1 ?_ | with_reducible refine w_abs ?_ | with_reducible refine w_max2 ?_ | with_reducible refine w_min2 ?_
  | with_reducible refine w_gcons ?_ | with_reducible refine w_gnil ?_ | with_reducible refine w_tup ?_ | with_reducible refine w_lst ?_ | with_reducible refine w_sl ?_ | with_reducible refine w_no ?_ | with_reducible refine w_part ?_ | with_reducible refine w_partI ?_ | with_reducible refine ⟨_, (rfl : V.int _ = V.int _), ?_⟩
  | with_reducible refine w_for ?_ | with_reducible refine w_iL ?_ | with_reducible refine w_iT ?_ | with_reducible refine w_iR ?_ | with_reducible refine w_yes ?_ | with_reducible refine w_setLc ?_ | with_reducible refine w_isB ?_)))

abbrev s_right : Stmt := top 33
theorem sc__law_right : FnScope ["draws", "plain", "thing", "spot", "word", "one", "two", "e", "at", "row", "made", "way"] ["draws"] (defScope s_right) := ⟨rfl, rfl, rfl, by decide +kernel, rfl, by decide +kernel, by decide +kernel⟩
section
variable {P : Program} {w : World} {K : PySem.W.Frag} {mg : Str → Option Value} {base : Heap}
def spRight : Sp := fun vs H Q _ => ∃ (d : Addr), vs = [.ref d] ∧ Purse H d ∧ ∀ H', (∀ b o, b ≠ d → H b = some o → H' b = some o) → Q (.bl true) H'
theorem df_right (T : Kt P w K mg base) (A : At K mg "_law_right" s_right)
    (D__law_take : Df P w K mg base CX0 1 "_law_take" ["draws", "many"] spTake) (D__law_pick : Df P w K mg base CX0 2 "_law_pick" ["draws", "some"] (spPick K)) (D__law_kinds : Df P w K mg base CX0 1 "_law_kinds" ["e"] (spKinds K []))
    (D__law_is_plain : Df P w K mg base CX0 1 "_law_is_plain" ["e"] (spPlain K [])) (D__law_given_ones : Df P w K mg base CX0 2 "_law_given_ones" ["thing"] (spOnes K (rows.take 11)))
    (D__law_index_ones : Df P w K mg base CX0 2 "_law_index_ones" ["thing"] (spOnes K (rows.drop 11))) (D__law_kept : DfG P w K mg base CX0 1 "_law_kept" ["word", "e"] (spKept K)) (D__law_is_caught : Df P w K mg base CX0 2 "_law_is_caught" ["way", "thing"] spCaught) :
    DfG P w K mg base CX0 3 "_law_right" ["draws"] spRight := by
  refine dfG_of A sc__law_right (fun _ _ _ _ _ _ us hl => match us, hl with | [_], _ => rfl) (fun vs H Q E h => by obtain ⟨d, rfl, _⟩ := h; rfl) (fun f cdv A outer s H vs Q E hrs hgd0 h => ?_)
  have hgd : (A.deeper (envOfC "_law_right" (defScope s_right) s.heap.objs.size f cdv)).guards = some [] := hgd0
  have hr := hrs
  have hu : (A.deeper (envOfC "_law_right" (defScope s_right) s.heap.objs.size f cdv)).units + 64 < cLine := by have := hrs.un; omega
  refine ⟨_, PSs.nox (pss_cons (ps_if (PW.pt (pw_or (pt_not (pt_val (pe_df D__law_is_plain (hrs.mono (by decide)) (pa_cons (pe_own0 (T.o0 "TermError" (by decide +kernel))) pa_nil)))) (pw_or1 (pt_cmpR op_in_seq pe_bl (pe_df D__law_kinds (hrs.mono (by decide)) (pa_cons (pe_own0 (T.o0 "TermError" (by decide +kernel))) pa_nil)) (by rfl))))) (pss_one (ps_ret pe_bl)) pss_nil)
      (pss_cons (ps_set (i := 1) sc__law_right.nd rfl (Or.inl rfl) (pe_tup (pa_cons pe_non (pa_cons pe_bl (pa_cons pe_bl (pa_cons pe_int (pa_cons pe_int (pa_cons (pe_un un_neg pe_int) (pa_cons (pe_op op_pow pe_int pe_int) (pa_cons pe_str (pa_cons pe_str (pa_cons (pe_tup pa_nil) (pa_cons (pe_tup (pa_cons pe_int (pa_cons pe_str pa_nil))) (pa_cons (pe_lst pa_nil) (pa_cons pe_dnewK (pa_cons (pe_tup (pa_cons (pe_tup (pa_cons pe_int (pa_cons pe_str pa_nil))) pa_nil)) (pa_cons (pe_tup (pa_cons pe_bl (pa_cons pe_int pa_nil))) pa_nil)))))))))))))))))
      (pss_cons (ps_set (i := 2) sc__law_right.nd rfl (Or.inr rfl) (pe_df D__law_pick (hrs.mono (by decide)) (pa_cons (pv 0) (pa_cons (pv 1) pa_nil))))
      (pss_cons (ps_set (i := 2) sc__law_right.nd rfl (Or.inr rfl) (pe_df D__law_pick (hrs.mono (by decide)) (pa_cons (pv 0) (pa_cons (pe_tup (pa_cons (pv 2) (pa_cons (pe_tup (pa_cons (pv 2) (pa_cons (pv 2) pa_nil))) (pa_cons (pe_lst (pa_cons (pv 2) pa_nil)) (pa_cons pe_str (pa_cons (pe_un un_neg pe_int) (pa_cons (pe_tup (pa_cons (pe_tup pa_nil) (pa_cons (pe_tup (pa_cons (pv 2) pa_nil)) pa_nil))) pa_nil))))))) pa_nil))))
      (pss_cons (ps_set (i := 3) sc__law_right.nd rfl (Or.inr rfl) pe_int)
      (pss_cons (ps_for PassesOwn.never rfl (pi_list (pe_op op_cat (pe_df D__law_given_ones (hrs.mono (by decide)) (pa_cons (pv 2) pa_nil)) (pe_df D__law_index_ones (hrs.mono (by decide)) (pa_cons (pv 2) pa_nil)))) (pg_unl rfl (pgs_cons (pg_name (i := 4) sc__law_right.nd rfl (Or.inl rfl)) (pgs_cons (pg_name (i := 5) sc__law_right.nd rfl (Or.inl rfl)) (pgs_cons (pg_name (i := 6) sc__law_right.nd rfl (Or.inl rfl)) pgs_nil)))) (pss_cons (ps_for PassesOwn.never rfl (pi_tup (pe_tup (pa_cons (pv 5) (pa_cons (pv 6) pa_nil)))) (pg_name (i := 7) sc__law_right.nd rfl (Or.inl rfl)) (pss_cons (ps_if (PW.pt (pw_or (pt_cmpR (op_neD hu) (pe_df D__law_kinds (hrs.mono (by decide)) (pa_cons (pv 7) pa_nil)) (pe_lc (own := [("at", 8)]) (g := gName 8) (tt := tYes) (by rfl) sc__law_right.nd (pi_range1 (by rfl) T.n_range (pa_cons pe_int pa_nil)) (blkOk_by (own := [("at", 8)]) (N := ["draws", "plain", "thing", "spot", "word", "one", "two", "e", "at", "row", "made", "way"]) (sc := defScope s_right) (by decide +kernel)) (fun _ _ _ _ _ => pg_name (i := 8) sc__law_right.nd rfl (Or.inl rfl)) (fun _ _ _ _ _ => pts_nil) (fun _ _ _ _ _ => (pe_cmpR op_eq (pv 8) (pv 3) (nomark _)))) (nomark _)) (pw_or1 (pt_not (pt_val (pe_df D__law_is_plain (hrs.mono (by decide)) (pa_cons (pv 7) pa_nil))))))) (pss_one (ps_ret pe_bl)) pss_nil)
      (pss_one (ps_if (pt_cmpR op_ne (pe_callB (call_repr hr hgd T.sysm) (by rfl) T.n_repr (by decide +kernel) (pa_cons (pe_dfG D__law_kept (hrs.mono (by decide)) hgd (pa_cons (pv 4) (pa_cons (pv 7) pa_nil))) pa_nil)) (pe_callB (call_repr hr hgd T.sysm) (by rfl) T.n_repr (by decide +kernel) (pa_cons (pe_ifExp (pt_cmpR op_ne (pv 4) pe_str (nomark _)) (pv 2) pe_non) pa_nil)) (nomark _)) (pss_one (ps_ret pe_bl)) pss_nil))))
      (pss_one (ps_set (i := 3) sc__law_right.nd rfl (Or.inr rfl) (pe_op op_add (pv 3) pe_int)))))
      (pss_cons (ps_set (i := 9) sc__law_right.nd rfl (Or.inl rfl) (pe_lst (pa_cons (pe_df D__law_take (hrs.mono (by decide)) (pa_cons (pv 0) (pa_cons pe_int pa_nil))) pa_nil)))
      (pss_cons (ps_set (i := 10) sc__law_right.nd rfl (Or.inl rfl) (pe_op op_cat (pe_df D__law_given_ones (hrs.mono (by decide)) (pa_cons (pv 9) pa_nil)) (pe_df D__law_index_ones (hrs.mono (by decide)) (pa_cons (pv 9) pa_nil))))
      (pss_cons (ps_expr (pe_bm PySem.F.plainAttrs_list PySem.F.slot_list_append PySem.F.type_list_append mt_append (pv 9) (pa_cons (pe_df D__law_take (hrs.mono (by decide)) (pa_cons (pv 0) (pa_cons pe_int pa_nil))) pa_nil)))
      (pss_cons (ps_for PassesOwn.never rfl (pi_list (pv 10)) (pg_unl rfl (pgs_cons (pg_name (i := 4) sc__law_right.nd rfl (Or.inl rfl)) (pgs_cons (pg_name (i := 5) sc__law_right.nd rfl (Or.inl rfl)) (pgs_cons (pg_name (i := 6) sc__law_right.nd rfl (Or.inl rfl)) pgs_nil)))) (pss_one (ps_if (PW.pt (pw_and (pt_cmpR op_notIn_seq (pv 4) (pe_tup (pa_cons pe_str (pa_cons pe_str pa_nil))) (by rfl)) (pw_and1 (PW.pt (pw_or (pt_cmpR (op_neD hu) (pe_dfG D__law_kept (hrs.mono (by decide)) hgd (pa_cons (pv 4) (pa_cons (pv 5) pa_nil))) (pv 9) (nomark _)) (pw_or1 (pt_cmpR (op_neD hu) (pe_dfG D__law_kept (hrs.mono (by decide)) hgd (pa_cons (pv 4) (pa_cons (pv 6) pa_nil))) (pv 9) (nomark _)))))))) (pss_one (ps_ret pe_bl)) pss_nil)))
      (pss_one (ps_ret (pe_callB (cr_all rfl) (by rfl) T.n_all (by decide +kernel) (pa_cons (pe_lc (own := [("way", 11)]) (g := gName 11) (tt := tYes) (by rfl) sc__law_right.nd (pi_range1 (by rfl) T.n_range (pa_cons pe_int pa_nil)) (blkOk_by (own := [("way", 11)]) (N := ["draws", "plain", "thing", "spot", "word", "one", "two", "e", "at", "row", "made", "way"]) (sc := defScope s_right) (by decide +kernel)) (fun _ _ _ _ _ => pg_name (i := 11) sc__law_right.nd rfl (Or.inl rfl)) (fun _ _ _ _ _ => pts_nil) (fun _ _ _ _ _ => (pe_cmpR op_isBl (pe_df D__law_is_caught (hrs.mono (by decide)) (pa_cons (pv 11) (pa_cons (pv 2) pa_nil))) pe_bl (nomark _)))) pa_nil)))))))))))))), ?_⟩
  obtain ⟨d, rfl, hp, q⟩ := h
  -- no kinds of the class above
  refine w_seq (w_ifs (w_or (w_not (w_b (w_call (w_cons (fun a ha => w_nil ?_)))))))
  refine ⟨a, 21, "TermError", rfl, by decide +kernel, .inl ⟨none, upd_same, fun dd e => nomatch e⟩, fun H1 s1 => ?_⟩
  refine w_blV ?_
  refine w_false (w_test (w_op (w_c (w_call (w_cons (fun b hb => w_nil ?_))))))
  refine ⟨b, 21, "TermError", rfl, by decide +kernel, .inl ⟨none, upd_same, fun dd e => nomatch e⟩, fun l H2 s2 hl => ?_⟩
  have S2 : Same H H2 := ((same_new ha).trans s1).trans ((same_new hb).trans s2)
  refine ⟨l, _, rfl, .inl (SqL.of hl), rfl, by decide +kernel, ?_⟩
  refine w_blV ?_
  rw [show inV (.bl true) ((bitsAt 21).map V.bl) = false from by decide +kernel]
  refine w_false (w_next ?_)
  dsimp only
  -- plain
  have σe : L2.start ["draws", "plain", "thing", "spot", "word", "one", "two", "e", "at", "row", "made", "way"] [V.ref d] = [some (.ref d), none, none, none, none, none, none, none, none, none, none, none] := rfl
  rw [σe]
  refine w_seq (w_asg ?_)
  refine gd_tupR (K := K) (ds := plainD) ?_ (by decide) fun a1 xs1 H3 s3 h3 z3 => ?_
  · refine gva_cons gd_non stab_dz (gva_cons gd_bl stab_dz (gva_cons gd_bl stab_dz (gva_cons gd_int stab_dz (gva_cons gd_int stab_dz (gva_cons gd_neg stab_dz (gva_cons gd_pow stab_dz (gva_cons gd_str stab_dz (gva_cons gd_str stab_dz ?_))))))))
    refine gva_cons (gd_tup gva_nil (by decide)) stab_dz (gva_cons (gd_tup (gva_cons gd_int stab_dz (gva_cons gd_str stab_dz gva_nil)) (by decide)) stab_dz (gva_cons (gd_lst gva_nil (by decide)) stab_dz (gva_cons gd_dict stab_dz ?_)))
    refine gva_cons (gd_tup (gva_cons (gd_tup (gva_cons gd_int stab_dz (gva_cons gd_str stab_dz gva_nil)) (by decide)) stab_dz gva_nil) (by decide)) stab_dz ?_
    exact gva_cons (gd_tup (gva_cons gd_bl stab_dz (gva_cons gd_int stab_dz gva_nil)) (by decide)) stab_dz gva_nil
  refine w_name ?_
  -- the first draw
  have p3 : Purse H3 d := Purse.same (S2.trans s3) hp
  refine w_seq (w_asg (w_call (w_cons (w_var (by rfl) (w_cons (w_var (by rfl) (w_nil ?_)))))))
  have ne1 : a1 ≠ d := fun z => by
    obtain ⟨f, s, t, e, _⟩ := p3
    rw [← z, h3] at e
    cases e
  have l1 := dzA_len z3
  refine ⟨d, a1, xs1, rfl, p3, .inr (SqT.of h3), ne1, fun z => ?_, ?_, fun v f1 t1 u1 hm f0 s0 s1 => ?_⟩
  · rw [z] at l1
    exact absurd l1 (by decide)
  · rw [l1]
    decide
  obtain ⟨dt, hdt, hv⟩ := dzA_mem z3 hm
  obtain ⟨n3, all6⟩ := okD_all dt hdt
  obtain ⟨f', s', t', hd3, _⟩ := p3
  have hv4 := dz_upd (o := .lst (purseL f1 t1 u1)) hd3 dt v n3 hv
  have p4 : Purse (upd H3 d (.lst (purseL f1 t1 u1))) d := Purse.new f0 s0 s1
  have E4 : Ext d H (upd H3 d (.lst (purseL f1 t1 u1))) := (Ext.of (S2.trans s3)).trans Ext.upd
  generalize upd H3 d (.lst (purseL f1 t1 u1)) = H4 at hv4 p4 E4 ⊢
  refine w_name ?_
  -- the second draw
  refine w_seq (w_asg (w_call (w_cons (w_var (by rfl) (w_cons ?_)))))
  have gv : Gv (tVar 2) (List.set (List.set [some (.ref d), none, none, none, none, none, none, none, none, none, none, none] 1 (some (.ref a1))) 2 (some v)) H4 (DzS K dt) := gd_var (by rfl) hv4
  refine gd_tupR (K := K) (ds := overD dt) ?_ (by show 6 ≤ 1000; decide) fun a2 xs2 H5 s5 h5 z5 => ?_
  · have g1 : GvA (tCons (tVar 2) tNil) (List.set (List.set [some (.ref d), none, none, none, none, none, none, none, none, none, none, none] 1 (some (.ref a1))) 2 (some v)) H4 ([dt].map (DzS K)) := gva_cons gv stab_dz gva_nil
    have g2 : GvA (tCons (tVar 2) (tCons (tVar 2) tNil)) (List.set (List.set [some (.ref d), none, none, none, none, none, none, none, none, none, none, none] 1 (some (.ref a1))) 2 (some v)) H4 ([dt, dt].map (DzS K)) := gva_cons gv stab_dz g1
    refine gva_cons gv stab_dz (gva_cons (gd_tup g2 (by show 2 ≤ 1000; decide)) stab_dz (gva_cons (gd_lst g1 (by show 1 ≤ 1000; decide)) stab_dz (gva_cons gd_str stab_dz (gva_cons gd_neg stab_dz ?_))))
    exact gva_cons (gd_tup (ds := [.tuple [], .tuple [dt]]) (gva_cons (gd_tup (ds := []) gva_nil (by decide)) stab_dz (gva_cons (gd_tup g1 (by show 1 ≤ 1000; decide)) stab_dz gva_nil)) (by show 2 ≤ 1000; decide)) stab_dz gva_nil
  refine w_nil ?_
  have p5 : Purse H5 d := Purse.same s5 p4
  have ne2 : a2 ≠ d := fun z => by
    obtain ⟨f, s, t, e, _⟩ := p5
    rw [← z, h5] at e
    cases e
  have l2 := dzA_len z5
  refine ⟨d, a2, xs2, rfl, p5, .inr (SqT.of h5), ne2, fun z => ?_, ?_, fun x f2 t2 u2 hm2 f0' s0' s1' => ?_⟩
  · rw [z] at l2
    exact absurd l2 (by show ¬ 0 = 6; decide)
  · rw [l2]
    show 6 < 1000000
    decide
  obtain ⟨dx, hdx, hx5⟩ := dzA_mem z5 hm2
  have okx := all6 dx hdx
  obtain ⟨sh1, sh2⟩ := okD_shows okx
  obtain ⟨f5, s5', t5, hd5, _⟩ := p5
  have hx6 := dz_upd (o := .lst (purseL f2 t2 u2)) hd5 dx x (okD_no3 okx) hx5
  have p6 : Purse (upd H5 d (.lst (purseL f2 t2 u2))) d := Purse.new f0' s0' s1'
  have E6 : Ext d H (upd H5 d (.lst (purseL f2 t2 u2))) := (E4.trans (Ext.of s5)).trans Ext.upd
  generalize upd H5 d (.lst (purseL f2 t2 u2)) = H6 at hx6 p6 E6 ⊢
  refine w_name (w_seq (w_asg (w_c (w_name (w_seq (w_for (w_iL (w_op (w_call (w_cons (w_var (by rfl) (w_nil ?_))))))))))))
  -- the first loop
  refine ⟨x, rfl, fun v1 H7 s7 hv1 => ?_⟩
  obtain ⟨L1, ys1, rfl, hL1, hA1⟩ := hv1
  refine w_call (w_cons (w_var (by rfl) (w_nil ?_)))
  refine ⟨x, rfl, fun v2 H8 s8 hv2 => ?_⟩
  obtain ⟨L2', ys2, rfl, hL2, hA2⟩ := hv2
  have hA : AllS (rows.map (rowS K x)) (ys1 ++ ys2) H8 := by
    have z := (hA1.same s8 stab_rows).app hA2
    rw [← List.map_append, List.take_append_drop] at z
    exact z
  have lA : (ys1 ++ ys2).length = 21 := by rw [hA.len, List.length_map, rows_len]
  refine ⟨L1, L2', ys1, ys2, rfl, rfl, s8 _ _ hL1, hL2, ?_, fun M hM => ?_⟩
  · rw [← List.length_append, lA, sizeLine_eq]
    omega
  have hM' := same_new (o := .lst (ys1 ++ ys2)) hM
  have S9 : Same H6 (upd H8 M (.lst (ys1 ++ ys2))) := (s7.trans s8).trans hM'
  refine w_forLv (xs := ys1 ++ ys2) (fun i σ' H' => Same (upd H8 M (.lst (ys1 ++ ys2))) H' ∧ ∃ o4 o5 o6 o7, σ' = [some (.ref d), some (.ref a1), some x, some (.int ((i : Nat) : Int)), o4, o5, o6, o7, none, none, none, none]) (SqL.of upd_same)
    ⟨Same.refl _, none, none, none, none, rfl⟩ (fun _ _ _ _ h => SqL.of (h.1 _ _ upd_same)) (fun i y σ' H' hi h => ?_) (fun σ' H' h => ?_)
  · obtain ⟨sm, o4, o5, o6, o7, rfl⟩ := h
    obtain ⟨r, l, e1, e2, hr, rfl, hl, x1, x2⟩ := rows_at hA hi
    have S := hM'.trans sm
    have hi' : i < 21 := by
      have z := List.getElem?_eq_some_iff.mp hi
      obtain ⟨z, _⟩ := z
      omega
    refine w_unl (SqL.of (S _ _ hl)) (by rfl) (w_gcons (w_name (w_gcons (w_name (w_gcons (w_name (w_gnil ?_)))))))
    exact turn_1 hi' hr (stab_exS _ _ _ S x1) (stab_exS _ _ _ S x2) (dz_same (S9.trans sm) _ _ hx6) sh1 sh2 fun H2 o7' t2 => ⟨sm.trans t2, _, _, _, _, rfl⟩
  obtain ⟨sm9, o4, o5, o6, o7, rfl⟩ := h
  have p9 : Purse H' d := Purse.same (S9.trans sm9) p6
  have E9 : Ext d H H' := E6.trans (Ext.of (S9.trans sm9))
  -- the row
  refine w_seq (w_asg (w_lst (w_cons (w_call (w_cons (w_var (by rfl) (w_cons (w_c (w_nil ?_)))))))))
  refine ⟨d, 9, rfl, p9, by decide, by decide, fun r0 f9 t9 u9 r00 r01 g0 g1 g2 => w_nil ⟨by show 1 ≤ sizeLine; rw [sizeLine_eq]; omega, fun R hR => ?_⟩⟩
  have pA : Purse (upd (upd H' d (.lst (purseL f9 t9 u9))) R (.lst [.int r0])) d := Purse.same (same_new hR) (Purse.new g0 g1 g2)
  have EA : Ext d H (upd (upd H' d (.lst (purseL f9 t9 u9))) R (.lst [.int r0])) := (E9.trans Ext.upd).trans (Ext.of (same_new hR))
  have nRd : R ≠ d := fun z => by
    rw [z, upd_same] at hR
    cases hR
  have RN : H R = none := by
    cases e : H R with
    | none => rfl
    | some o =>
      have z := (E9.trans (Ext.upd (o := .lst (purseL f9 t9 u9)))) R o nRd e
      rw [hR] at z
      cases z
  have hRA : upd (upd H' d (.lst (purseL f9 t9 u9))) R (.lst [.int r0]) R = some (.lst [.int r0]) := upd_same
  generalize upd (upd H' d (.lst (purseL f9 t9 u9))) R (.lst [.int r0]) = HA at pA EA hRA ⊢
  refine w_name (w_seq (w_asg (w_op (w_call (w_cons (w_var (by rfl) (w_nil ?_)))))))
  refine ⟨.ref R, rfl, fun v3 HB sB hv3 => ?_⟩
  obtain ⟨L3, ys3, rfl, hL3, hA3⟩ := hv3
  refine w_call (w_cons (w_var (by rfl) (w_nil ?_)))
  refine ⟨.ref R, rfl, fun v4 HC sC hv4 => ?_⟩
  obtain ⟨L4, ys4, rfl, hL4, hA4⟩ := hv4
  have hB : AllS (rows.map (rowS K (.ref R))) (ys3 ++ ys4) HC := by
    have z := (hA3.same sC stab_rows).app hA4
    rw [← List.map_append, List.take_append_drop] at z
    exact z
  have lB : (ys3 ++ ys4).length = 21 := by rw [hB.len, List.length_map, rows_len]
  refine ⟨L3, L4, ys3, ys4, rfl, rfl, sC _ _ hL3, hL4, ?_, fun M2 hM2 => ?_⟩
  · rw [← List.length_append, lB, sizeLine_eq]
    omega
  have hM2' := same_new (o := .lst (ys3 ++ ys4)) hM2
  have SD : Same HA (upd HC M2 (.lst (ys3 ++ ys4))) := (sB.trans sC).trans hM2'
  have hBD := hB.same hM2' stab_rows
  have pD : Purse (upd HC M2 (.lst (ys3 ++ ys4))) d := Purse.same SD pA
  have hRD := SD _ _ hRA
  have ED : Ext d H (upd HC M2 (.lst (ys3 ++ ys4))) := EA.trans (Ext.of SD)
  have hMD : upd HC M2 (.lst (ys3 ++ ys4)) M2 = some (.lst (ys3 ++ ys4)) := upd_same
  generalize upd HC M2 (.lst (ys3 ++ ys4)) = HD at hBD pD hRD ED hMD ⊢
  -- one more
  refine w_name ?_
  dsimp only
  refine w_seq (w_drop ?_)
  refine w_var (v := .ref R) (by rfl) ⟨.inl ⟨rfl, _, SqL.of hRD⟩, w_cons (w_call (w_cons (w_var (by rfl) (w_cons (w_c (w_nil ?_))))))⟩
  have pD' := pD
  obtain ⟨fD, sD, tD, hdD, _⟩ := pD'
  refine ⟨d, 9, rfl, pD, by decide, by decide, fun r1 fE tE' uE r10 r11 k0 k1 k2 => w_nil ?_⟩
  have hR2 : upd HD d (.lst (purseL fE tE' uE)) R = some (.lst [.int r0]) := by rw [upd_ne nRd]; exact hRD
  refine ⟨R, _, .int r1, rfl, rfl, hR2, by show 1 < sizeLine; rw [sizeLine_eq]; omega, ?_⟩
  have KE : Keep HD (upd (upd HD d (.lst (purseL fE tE' uE))) R (.lst ([.int r0] ++ [.int r1]))) := (Keep.upd (ns := [fD, sD, tD]) hdD).trans (Keep.upd (ns := [r0]) hR2)
  have EE : Ext d H (upd (upd HD d (.lst (purseL fE tE' uE))) R (.lst ([.int r0] ++ [.int r1]))) := fun b o n e => by
    rw [upd_ne (fun z => by rw [z, RN] at e; cases e)]
    exact (ED.trans (Ext.upd (o := .lst (purseL fE tE' uE)))) b o n e
  have hRE : upd (upd HD d (.lst (purseL fE tE' uE))) R (.lst ([.int r0] ++ [.int r1])) R = some (.lst [.int r0, .int r1]) := upd_same
  have hBE := allS_keep KE stabK_rows hBD
  have hME := KE _ _ hMD fun ns z => by
    obtain ⟨y, hy⟩ : ∃ y, (ys3 ++ ys4)[0]? = some y := ⟨_, List.getElem?_eq_getElem (by omega)⟩
    obtain ⟨_, l, _, _, _, rfl, _⟩ := rows_at hBD hy
    rw [HO.lst.inj z, List.getElem?_map] at hy
    cases h0 : ns[0]? with
    | none => rw [h0] at hy; cases hy
    | some n => rw [h0] at hy; cases hy
  generalize upd (upd HD d (.lst (purseL fE tE' uE))) R (.lst ([.int r0] ++ [.int r1])) = HE at hBE hME EE hRE ⊢
  dsimp only
  refine w_seq (w_for (w_iL (w_var (by rfl) ?_)))
  refine w_forLv (xs := ys3 ++ ys4) (fun _ σ' H' => Same HE H' ∧ ∃ o3 o4 o5 o6 o7, σ' = [some (.ref d), some (.ref a1), some x, o3, o4, o5, o6, o7, none, some (.ref R), some (.ref M2), none]) (SqL.of hME)
    ⟨Same.refl _, _, _, _, _, _, rfl⟩ (fun _ _ _ _ h => SqL.of (h.1 _ _ hME)) (fun i y σ' H' hi h => ?_) (fun σ' H' h => ?_)
  · obtain ⟨sm, o3, o4, o5, o6, o7, rfl⟩ := h
    obtain ⟨r, l, e1, e2, hr, rfl, hl, x1, x2⟩ := rows_at hBE hi
    refine w_unl (SqL.of (sm _ _ hl)) (by rfl) (w_gcons (w_name (w_gcons (w_name (w_gcons (w_name (w_gnil ?_)))))))
    exact turn_2 (List.mem_of_getElem? hr) (stab_exS _ _ _ sm x1) (stab_exS _ _ _ sm x2) (sm _ _ hRE) fun H2 t2 => ⟨sm.trans t2, _, _, _, _, _, rfl⟩
  obtain ⟨smF, o3, o4, o5, o6, o7, rfl⟩ := h
  dsimp only
  refine w_ret (w_cb (w_cons ?_))
  refine w_lcR (n := 5) (fun L j HX => Same H' HX ∧ HX L = some (.lst ((List.replicate j true).map V.bl))) (by decide) (fun L hL => ⟨same_new hL, upd_same⟩) (fun L j HX hL hj p => ?_) (fun L HX hL p => ?_)
  · refine w_name ⟨by rfl, ?_⟩
    refine w_op (w_call (w_cons (w_var (by rfl) (w_cons (w_var (by rfl) (w_nil ?_))))))
    refine ⟨0 + (j : Int), x, rfl, by omega, by omega, fun HY tY => ?_⟩
    refine w_c (w_isB ?_)
    refine ⟨_, tY _ _ p.2, ?_, ?_, ?_⟩
    · rw [List.length_map, List.length_replicate, sizeLine_eq]
      omega
    · intro b o e
      rw [upd_ne (fun z => by rw [z, hL] at e; cases e)]
      exact tY _ _ (p.1 b o e)
    · rw [upd_same, List.replicate_succ', List.map_append]
      rfl
  · refine w_nil (w_all (bs := List.replicate 5 true) (SqL.of p.2) ?_)
    exact q _ (EE.trans (Ext.of (smF.trans p.1)))
end
end K01

set_option Elab.async false
set_option linter.all false
set_option maxRecDepth 100000
set_option maxHeartbeats 4000000
namespace K01
open PySem PySem.Spec PyProof.Rows L2 L2H HotX EqX
/-! the words' steps, one after another -/
local macro_rules | `(tactic| walk_at "w") => `(tactic| (repeat (first
  | with_reducible refine w_seq ?_ | with_reducible refine w_asg ?_ | with_reducible refine w_ret ?_ | with_reducible exact w_retN ?_ | with_reducible refine w_drop ?_ | with_reducible refine w_ifs ?_ | with_reducible refine w_next ?_
  | with_reducible refine w_name ?_ | with_reducible refine w_gsub ?_ | ((with_reducible refine' w_var ?hx ?_); (case hx => exact rfl)) | with_reducible refine w_c ?_ | with_reducible refine w_op ?_ | with_reducible refine w_un ?_ | with_reducible refine w_cb ?_ | with_reducible refine w_call ?_
  | with_reducible refine w_nil ?_ | with_reducible refine w_cons ?_ | with_reducible refine w_test ?_ | with_reducible refine w_b ?_ | with_reducible refine w_bl ?_ | with_reducible refine w_not ?_ | with_reducible refine w_and ?_ | with_reducible refine w_or ?_
  | with_reducible refine w_notV ?_ | with_reducible refine w_blV ?_ | with_reducible refine w_I0 ?_ | ((with_reducible refine w_mulL ?_ ?_); · omega) | ((with_reducible refine w_mulR ?_ ?_); · omega) | ((with_reducible refine w_pow ?_ ?_); · decide)
  | with_reducible refine w_neg ?_ | ((with_reducible refine w_eq ?_ ?_); · exact rfl) | ((with_reducible refine w_ne ?_ ?_); · exact rfl) | with_reducible refine w_int1 ?_ | with_reducible refine w_abs ?_ | with_reducible refine w_max2 ?_ | with_reducible refine w_min2 ?_
  | with_reducible refine w_gcons ?_ | with_reducible refine w_gnil ?_ | with_reducible refine w_tup ?_ | with_reducible refine w_lst ?_ | with_reducible refine w_sl ?_ | with_reducible refine w_no ?_ | with_reducible refine w_part ?_ | with_reducible refine w_partI ?_ | with_reducible refine ⟨_, (rfl : V.int _ = V.int _), ?_⟩
  | with_reducible refine w_for ?_ | with_reducible refine w_iL ?_ | with_reducible refine w_iT ?_ | with_reducible refine w_iR ?_ | with_reducible refine w_yes ?_ | with_reducible refine w_setLc ?_ | with_reducible refine w_isB ?_)))

abbrev s_law : Stmt := top 34
theorem sc_law : FnScope ["cells", "at"] ["cells"] (defScope s_law) := ⟨rfl, rfl, rfl, by decide +kernel, rfl, by decide +kernel, by decide +kernel⟩
theorem w_lc {wi : TI} {g : TG} {tt : TT} {te : TE} {vs : List Nat} {σ : L2.St} {H : Hp} {Q : VK} (h : wi σ H fun J H1 => ∀ D, H1 D = none → ∃ W : Nat → Nat → Hp → Prop, (∃ m, W 0 m (upd H1 D (.lst []))) ∧ ∀ i m H, W i m H →
  (J.stop i H ∧ Q (.ref D) H) ∨ (J.go i H ∧ ∃ Nx : Hp → Prop, (∀ H', Nx H' → ∃ m', m' < m ∧ W (i + 1) m' H') ∧ ∀ x H', J.yld i H x H' → g x (wipe σ vs) H' fun σ2 H2 => wipe σ2 vs = wipe σ vs ∧ tt σ2 H2 fun b H3 =>
    if b = true then te σ2 H3 fun y H4 => ∃ acc, H4 D = some (.lst acc) ∧ acc.length < sizeLine ∧ Nx (upd H4 D (.lst (acc ++ [y]))) else Nx H3)) : tLc wi g tt te vs σ H Q := h
section
variable {P : Program} {w : World} {K : PySem.W.Frag} {mg : Str → Option Value} {base : Heap}
def spLaw (K : PySem.W.Frag) : Sp := fun vs H Q _ => ∃ (a : Addr) (ns : List Int), vs = [.ref a] ∧ SqL K H a (ns.map V.int) ∧ ns.length ≤ 63 ∧ ∀ H', Q (.bl true) H'
theorem df_law (T : Kt P w K mg base) (A : At K mg "law" s_law) (D__law_purse : Df P w K mg base CX0 1 "_law_purse" ["cells", "at"] (spPurse K)) (D__law_right : DfG P w K mg base CX0 3 "_law_right" ["draws"] spRight) :
    DfG P w K mg base CX0 4 "law" ["cells"] (spLaw K) := by
  refine dfG_of A sc_law (fun _ _ _ _ _ _ us hl => match us, hl with | [_], _ => rfl) (fun vs H Q E h => by obtain ⟨a, ns, rfl, _⟩ := h; rfl) (fun f cdv A outer s H vs Q E hrs hgd0 h => ?_)
  have hgd : (A.deeper (envOfC "law" (defScope s_law) s.heap.objs.size f cdv)).guards = some [] := hgd0
  have hr := hrs
  refine ⟨_, PSs.nox (pss_one (ps_ret (pe_callB (cr_all rfl) (by rfl) T.n_all (by decide +kernel) (pa_cons (pe_lc (own := [("at", 1)]) (g := gName 1) (tt := tYes) (by rfl) sc_law.nd (pi_range1 (by rfl) T.n_range (pa_cons (pe_callB (c_max2 rfl) (by rfl) T.n_max (by decide +kernel) (pa_cons pe_int (pa_cons (pe_callB (c_min2 rfl) (by rfl) T.n_min (by decide +kernel) (pa_cons (pe_callB c_lenS (by rfl) T.n_len PySem.boot_len (pa_cons (pv 0) pa_nil)) (pa_cons pe_int pa_nil))) pa_nil))) pa_nil)) (blkOk_by (own := [("at", 1)]) (N := ["cells", "at"]) (sc := defScope s_law) (by decide +kernel)) (fun _ _ _ _ _ => pg_name (i := 1) sc_law.nd rfl (Or.inl rfl)) (fun _ _ _ _ _ => pts_nil) (fun _ _ _ _ _ => (pe_dfG D__law_right (hrs.mono (by decide)) hgd (pa_cons (pe_df D__law_purse (hrs.mono (by decide)) (pa_cons (pv 0) (pa_cons (pv 1) pa_nil))) pa_nil)))) pa_nil)))), ?_⟩
  obtain ⟨a, ns, rfl, hs, hl, q⟩ := h
  refine w_ret (w_cb (w_cons (w_lc ?_)))
  walk_at "w"
  refine w_lenL hs ?_
  walk_at "w"
  obtain ⟨n, hn, en⟩ : ∃ n : Nat, n ≤ 3 ∧ (if (if (3 : Int) < ((ns.map V.int).length : Int) then (3 : Int) else ((ns.map V.int).length : Int)) > 2 then (if (3 : Int) < ((ns.map V.int).length : Int) then (3 : Int) else ((ns.map V.int).length : Int)) else 2) = (n : Int) := by
    refine ⟨(if (if (3 : Int) < ((ns.map V.int).length : Int) then (3 : Int) else ((ns.map V.int).length : Int)) > 2 then (if (3 : Int) < ((ns.map V.int).length : Int) then (3 : Int) else ((ns.map V.int).length : Int)) else 2).toNat, ?_, ?_⟩ <;> (repeat' split) <;> omega
  refine ⟨(n : Int), by rw [← en], by omega, by omega, fun D hD => ?_⟩
  have e2 : ((n : Int)).toNat = n := by simp
  rw [e2]
  refine lc_range (fun i H' => Same H H' ∧ H' D = some (.lst ((List.replicate i true).map V.bl))) ⟨same_new hD, upd_same⟩ (fun i H' hi p => ?_) (fun H' p => ?_)
  · refine w_name ⟨by rfl, ?_⟩
    refine w_yes ?_
    refine w_true (w_call (w_cons (w_call (w_cons (w_var (by rfl) (w_cons (w_var (by rfl) (w_nil ?_))))))))
    refine ⟨a, ns, i, by rw [Int.zero_add], sqL_same p.1 hs, by omega, hl, fun d H1 hd hp s1 => ?_⟩
    refine w_nil ⟨d, rfl, hp, fun H2 e => ?_⟩
    have E : Ext d H' H2 := fun b o n q => e b o n (s1 _ _ q)
    have nd : D ≠ d := fun z => by
      have := p.2
      rw [z, hd] at this
      cases this
    refine ⟨_, E _ _ nd p.2, ?_, ?_, ?_⟩
    · rw [List.length_map, List.length_replicate, sizeLine_eq]
      omega
    · intro b o z
      rw [upd_ne (fun y => by rw [y, hD] at z; cases z)]
      exact E b o (fun y => by rw [y, p.1.free hd] at z; cases z) (p.1 b o z)
    · rw [upd_same, List.replicate_succ', List.map_append]
      rfl
  · refine w_nil (w_all (bs := List.replicate n true) (SqL.of p.2) ?_)
    have e : (List.replicate n true).all id = true := by simp
    rw [e]
    exact q _
end
end K01

set_option Elab.async false
set_option linter.all false
set_option maxRecDepth 100000
set_option maxHeartbeats 0
namespace K01
open PySem PySem.Spec PyProof.Rows L2 L2H HotX EqX PySem.EqX
/-! ### the top: what it leaves -/
def iniOf (i : Nat) : Stmt := match top i with
  | .ClassDef (body := b) .. => b.getD 0 (.Pass ⟨0, 0, 0, 0⟩)
  | _ => .Pass ⟨0, 0, 0, 0⟩
def dfD (x : Str) (st : Stmt) : He.DefD := ⟨(x, none), x, x, defArgs st, defBody st, defScope st, [], []⟩
def inD (x q : Str) (st : Stmt) : IniD := ⟨x, q, defArgs st, defBody st, defScope st⟩
def defNames : List Str := ["_law_purse", "_law_take", "_law_pick", "_law_given_ones", "_law_index_ones", "_law_kinds", "_law_kept", "_law_is_plain", "_law_is_caught", "_law_right", "law"]
def freeNames : List Str := ["len", "int", "abs", "isinstance", "repr", "all", "range", "max", "min", "LookupError", "ArithmeticError", "TypeError", "AttributeError", "RuntimeError", "ValueError", "super"]
def errB (K : PySem.W.Frag) (C : Addr) (i : Nat) : Bool := excCB K C && (decide (nms.map (fun x => PySem.W.kitOne K (.ref C) (.ref (He.ga K x))) = (bitsAt i).map some) && (decide (PySem.W.kitOne K (.ref C) (.ref (He.ga K "TermError")) = some true) &&
  (decide (PySem.W.kitOne K (.ref C) (.type "ValueError") = some true) && (decide (PySem.W.kitAny K (.ref C) plainTys = some false) && decide (PySem.W.exmOne K (.ref C) (.ref (He.ga K "TermError")) = some true)))))
theorem errB_ok {K : PySem.W.Frag} {C : Addr} {i : Nat} (h : errB K C i = true) : ErrK K C i := by
  unfold errB at h
  simp only [Bool.and_eq_true, decide_eq_true_eq] at h
  obtain ⟨h1, h2, h3, h4, h5, h6⟩ := h
  exact ⟨excCB_ok h1, h2, h3, h4, h5, h6⟩
def own0B (K : PySem.W.Frag) (x : Str) : Bool := PySem.W.excIn K (He.ga K x) PySem.HandSPX.veTail "ValueError.__new__" && (PySem.W.keepIn K (.ref (He.ga K x)) && (decide (PySem.W.subIn K (.ref (He.ga K x)) (.type "BaseException") = some true) && decide (PySem.W.typeIn K (.ref (He.ga K x)) = some (.type "type"))))
def sysB (K : PySem.W.Frag) : Bool := match K.lookup sysModules with
  | some o => decide (o.cls ≠ .type "list")
  | none => false
theorem sysB_ok {K : PySem.W.Frag} (h : sysB K = true) : ∃ o, K.lookup sysModules = some o ∧ o.cls ≠ .type "list" := by
  unfold sysB at h
  cases e : K.lookup sysModules with
  | none => rw [e] at h; cases h
  | some o => rw [e] at h; exact ⟨o, rfl, of_decide_eq_true h⟩
def fld1B (K : PySem.W.Frag) : Bool := ones1.all fun x => decide (PySem.W.findIn K (.ref (He.ga K x)) (fldOf x) = some none)
def fld2B (K : PySem.W.Frag) : Bool := decide (PySem.W.findIn K (.ref (He.ga K "NotWellRead")) fRow = some none) && decide (PySem.W.findIn K (.ref (He.ga K "NotWellRead")) fWord = some none)
def hd : HdE := ⟨4, PySem.Challenge.pw_equalworlds_k01_errors_each_of_its_own.main.file,
  [fun K => (defNames ++ nmsT).all fun x => (He.Fa.glo x).ok K, fun K => freeNames.all fun x => (He.Fa.free x).ok K, sysB, fun K => (List.range 22).all fun i => errB K (He.ga K (nmsT.getD i "")) i,
    fun K => (nms.take 16).all fun x => eclassB K (He.ga K x), fun K => ones0.all fun x => own0B K x, fun K => (nms.take 16).all fun x => xfB K (He.ga K x), fld1B, fld2B],
  [dfD "_law_purse" s_purse, dfD "_law_take" s_take, dfD "_law_pick" s_pick, dfD "_law_given_ones" s_given_ones, dfD "_law_index_ones" s_index_ones, dfD "_law_kinds" s_kinds, dfD "_law_kept" s_kept, dfD "_law_is_plain" s_is_plain, dfD "_law_is_caught" s_is_caught, dfD "_law_right" s_right, dfD "law" s_law],
  [inD "InvalidText" "InvalidText.__init__" (iniOf 2), inD "InvalidBook" "InvalidBook.__init__" (iniOf 3), inD "InvalidTerm" "InvalidTerm.__init__" (iniOf 4), inD "InvalidName" "InvalidName.__init__" (iniOf 5), inD "InvalidNumber" "InvalidNumber.__init__" (iniOf 6), inD "InvalidWorld" "InvalidWorld.__init__" (iniOf 7), inD "InvalidValues" "InvalidValues.__init__" (iniOf 8), inD "InvalidSteps" "InvalidSteps.__init__" (iniOf 9), inD "InvalidChoice" "InvalidChoice.__init__" (iniOf 10), inD "InvalidLine" "InvalidLine.__init__" (iniOf 11), inD "NotADesk" "NotADesk.__init__" (iniOf 12), inD "NotWellRead" "NotWellRead.__init__" (iniOf 13), inD "InvalidRows" "InvalidRows.__init__" (iniOf 14), inD "InvalidDeed" "InvalidDeed.__init__" (iniOf 15), inD "DoesNotLead" "DoesNotLead.__init__" (iniOf 16), inD "Barred" "Barred.__init__" (iniOf 17)]⟩
abbrev R : PySem.W.OpenRow := PySem.W.OpenLaw.row PySem.Challenge.rw_equalworlds_k01_errors_each_of_its_own
def loose : List Str := nmsT ++ (["_law_purse", "_law_take", "_law_pick", "_law_given_ones", "_law_index_ones", "_law_kinds", "_law_kept", "_law_is_plain", "_law_is_caught", "_law_right"] : List Str)
theorem run (w : World) : HandSHeadRun.RunEq R (PySem.W.view R.prog [34]) hd.hook hd.ob 60000 loose w := by
  intro os
  kernel_rfl
end K01

set_option Elab.async false
set_option linter.all false
set_option maxRecDepth 100000
set_option maxHeartbeats 0
namespace K01
open PySem PySem.Spec PyProof.Rows L2 L2H HotX EqX PySem.EqX
theorem own1_of {P : Program} {w : World} {K : PySem.W.Frag} {mg : Str → Option Value} {base : Heap} {x f qual : Str} {params : Arguments} {body : List Stmt} {scope : Scope} {fd : FuncData} (gm : mg x = some (.ref (He.ga K x))) (T : EClass K (He.ga K x))
    (I : EInit P K (He.ga K x) (iAd K x) qual params body scope fd) (hok : ∀ k, FnOk P w K mg base CX0 k (iAd K x) fd ["self", f] (spIni1 (He.ga K x) f))
    (hb : ∀ (doc pm : Value) (an : Option Addr) (cdv ct : Value) (cc : Addr) (u v : Value), bindArgs (PySem.W.ksFn "__init__" qual params body scope .none .none doc pm an cdv ct cc) ⟨[u, v], []⟩ = pure [(("self" : Str), u), (f, v)])
    (hk : ∀ (doc pm : Value) (an : Option Addr) (cdv ct : Value) (cc : Addr) (u v : Value), bindArgs (PySem.W.ksFn "__init__" qual params body scope .none .none doc pm an cdv ct cc) ⟨[u], [(f, v)]⟩ = pure [(("self" : Str), u), (f, v)]) : Own1 P w K mg base x f := by
  refine ⟨gm, T, iAd K x, fd, I.iC, I.tI, hok, ?_, ?_⟩
  · obtain ⟨oc, od, doc, pm, an, ct, osl, cda, cc, ccl, cdd, fvs, ccs, file, tf, cl, cld, csl, rfl, _⟩ := I.fn
    exact .all fun us hl => match us, hl with | [u, v], _ => hb doc pm an _ ct cc u v
  · obtain ⟨oc, od, doc, pm, an, ct, osl, cda, cc, ccl, cdd, fvs, ccs, file, tf, cl, cld, csl, rfl, _⟩ := I.fn
    exact fun s u ws hl => match ws, hl with | [v], _ => .of_eq (hk doc pm an _ ct cc u v)
theorem own2_of {P : Program} {w : World} {K : PySem.W.Frag} {mg : Str → Option Value} {base : Heap} {x qual : Str} {params : Arguments} {body : List Stmt} {scope : Scope} {fd : FuncData} (gm : mg x = some (.ref (He.ga K x))) (T : EClass K (He.ga K x))
    (I : EInit P K (He.ga K x) (iAd K x) qual params body scope fd) (hok : ∀ k, FnOk P w K mg base CX0 k (iAd K x) fd ["self", fRow, fWord] (spIni2 (He.ga K x)))
    (hb : ∀ (doc pm : Value) (an : Option Addr) (cdv ct : Value) (cc : Addr) (u v z : Value), bindArgs (PySem.W.ksFn "__init__" qual params body scope .none .none doc pm an cdv ct cc) ⟨[u, v, z], []⟩ = pure [(("self" : Str), u), (fRow, v), (fWord, z)])
    (hk : ∀ (doc pm : Value) (an : Option Addr) (cdv ct : Value) (cc : Addr) (u v z : Value), bindArgs (PySem.W.ksFn "__init__" qual params body scope .none .none doc pm an cdv ct cc) ⟨[u], [(fRow, v), (fWord, z)]⟩ = pure [(("self" : Str), u), (fRow, v), (fWord, z)]) : Own2 P w K mg base x := by
  refine ⟨gm, T, iAd K x, fd, I.iC, I.tI, hok, ?_, ?_⟩
  · obtain ⟨oc, od, doc, pm, an, ct, osl, cda, cc, ccl, cdd, fvs, ccs, file, tf, cl, cld, csl, rfl, _⟩ := I.fn
    exact .all fun us hl => match us, hl with | [u, v, z], _ => hb doc pm an _ ct cc u v z
  · obtain ⟨oc, od, doc, pm, an, ct, osl, cda, cc, ccl, cdd, fvs, ccs, file, tf, cl, cld, csl, rfl, _⟩ := I.fn
    exact fun s u ws hl => match ws, hl with | [v, z], _ => .of_eq (hk doc pm an _ ct cc u v z)
section
variable {w : World} {K : PySem.W.Frag} {mg : Str → Option Value} {h base : Heap}
theorem glo (X : K.In h) (G : h.Ns mainGlobals mg) (c : hd.Says K) (x : Str) (hx : x ∈ defNames ++ nmsT) : mg x = some (.ref (He.ga K x)) := He.glo_ok X G (List.all_eq_true.mp (c.fact 0 (f := fun K => (defNames ++ nmsT).all fun x => (He.Fa.glo x).ok K) rfl) x hx)
theorem free (X : K.In h) (G : h.Ns mainGlobals mg) (c : hd.Says K) (x : Str) (hx : x ∈ freeNames) : mg x = none := He.free_ok X G (List.all_eq_true.mp (c.fact 1 (f := fun K => freeNames.all fun x => (He.Fa.free x).ok K) rfl) x hx)
theorem ecl (c : hd.Says K) (x : Str) (hx : x ∈ nms.take 16) : EClass K (He.ga K x) := eclassB_ok (List.all_eq_true.mp (c.fact 4 (f := fun K => (nms.take 16).all fun x => eclassB K (He.ga K x)) rfl) x hx)
theorem nf1 (c : hd.Says K) (x : Str) (hx : x ∈ ones1) : PySem.W.findIn K (.ref (He.ga K x)) (fldOf x) = some none := of_decide_eq_true (List.all_eq_true.mp (c.fact 7 (f := fld1B) rfl) x hx)
theorem top_super : (R.prog.main.scope.names.lookup ("super" : Str)).isSome = false := by kernel_rfl
theorem own_InvalidText (X : K.In h) (G : h.Ns mainGlobals mg) (c : hd.Says K) : Own1 R.prog w K mg base "InvalidText" "given" := by
  obtain ⟨fd, I⟩ := c.ini_ (P := R.prog) rfl top_super 0 (d := inD "InvalidText" "InvalidText.__init__" (iniOf 2)) rfl
  have T := ecl c "InvalidText" (by decide +kernel)
  exact own1_of (glo X G c "InvalidText" (by decide +kernel)) T I (fun k => ok_ini1 (f := "given") T I (by decide +kernel) (by decide +kernel) (by decide +kernel) (by decide +kernel) (nf1 c "InvalidText" (by decide +kernel)) (free X G c "super" (by decide +kernel)) (fun _ => rfl) (fun _ => rfl) (fun _ => rfl)) (fun _ _ _ _ _ _ _ _ => rfl) (fun _ _ _ _ _ _ _ _ => rfl)
theorem own_InvalidBook (X : K.In h) (G : h.Ns mainGlobals mg) (c : hd.Says K) : Own1 R.prog w K mg base "InvalidBook" "given" := by
  obtain ⟨fd, I⟩ := c.ini_ (P := R.prog) rfl top_super 1 (d := inD "InvalidBook" "InvalidBook.__init__" (iniOf 3)) rfl
  have T := ecl c "InvalidBook" (by decide +kernel)
  exact own1_of (glo X G c "InvalidBook" (by decide +kernel)) T I (fun k => ok_ini1 (f := "given") T I (by decide +kernel) (by decide +kernel) (by decide +kernel) (by decide +kernel) (nf1 c "InvalidBook" (by decide +kernel)) (free X G c "super" (by decide +kernel)) (fun _ => rfl) (fun _ => rfl) (fun _ => rfl)) (fun _ _ _ _ _ _ _ _ => rfl) (fun _ _ _ _ _ _ _ _ => rfl)
theorem own_InvalidTerm (X : K.In h) (G : h.Ns mainGlobals mg) (c : hd.Says K) : Own1 R.prog w K mg base "InvalidTerm" "given" := by
  obtain ⟨fd, I⟩ := c.ini_ (P := R.prog) rfl top_super 2 (d := inD "InvalidTerm" "InvalidTerm.__init__" (iniOf 4)) rfl
  have T := ecl c "InvalidTerm" (by decide +kernel)
  exact own1_of (glo X G c "InvalidTerm" (by decide +kernel)) T I (fun k => ok_ini1 (f := "given") T I (by decide +kernel) (by decide +kernel) (by decide +kernel) (by decide +kernel) (nf1 c "InvalidTerm" (by decide +kernel)) (free X G c "super" (by decide +kernel)) (fun _ => rfl) (fun _ => rfl) (fun _ => rfl)) (fun _ _ _ _ _ _ _ _ => rfl) (fun _ _ _ _ _ _ _ _ => rfl)
theorem own_InvalidName (X : K.In h) (G : h.Ns mainGlobals mg) (c : hd.Says K) : Own1 R.prog w K mg base "InvalidName" "given" := by
  obtain ⟨fd, I⟩ := c.ini_ (P := R.prog) rfl top_super 3 (d := inD "InvalidName" "InvalidName.__init__" (iniOf 5)) rfl
  have T := ecl c "InvalidName" (by decide +kernel)
  exact own1_of (glo X G c "InvalidName" (by decide +kernel)) T I (fun k => ok_ini1 (f := "given") T I (by decide +kernel) (by decide +kernel) (by decide +kernel) (by decide +kernel) (nf1 c "InvalidName" (by decide +kernel)) (free X G c "super" (by decide +kernel)) (fun _ => rfl) (fun _ => rfl) (fun _ => rfl)) (fun _ _ _ _ _ _ _ _ => rfl) (fun _ _ _ _ _ _ _ _ => rfl)
theorem own_InvalidNumber (X : K.In h) (G : h.Ns mainGlobals mg) (c : hd.Says K) : Own1 R.prog w K mg base "InvalidNumber" "given" := by
  obtain ⟨fd, I⟩ := c.ini_ (P := R.prog) rfl top_super 4 (d := inD "InvalidNumber" "InvalidNumber.__init__" (iniOf 6)) rfl
  have T := ecl c "InvalidNumber" (by decide +kernel)
  exact own1_of (glo X G c "InvalidNumber" (by decide +kernel)) T I (fun k => ok_ini1 (f := "given") T I (by decide +kernel) (by decide +kernel) (by decide +kernel) (by decide +kernel) (nf1 c "InvalidNumber" (by decide +kernel)) (free X G c "super" (by decide +kernel)) (fun _ => rfl) (fun _ => rfl) (fun _ => rfl)) (fun _ _ _ _ _ _ _ _ => rfl) (fun _ _ _ _ _ _ _ _ => rfl)
theorem own_InvalidWorld (X : K.In h) (G : h.Ns mainGlobals mg) (c : hd.Says K) : Own1 R.prog w K mg base "InvalidWorld" "given" := by
  obtain ⟨fd, I⟩ := c.ini_ (P := R.prog) rfl top_super 5 (d := inD "InvalidWorld" "InvalidWorld.__init__" (iniOf 7)) rfl
  have T := ecl c "InvalidWorld" (by decide +kernel)
  exact own1_of (glo X G c "InvalidWorld" (by decide +kernel)) T I (fun k => ok_ini1 (f := "given") T I (by decide +kernel) (by decide +kernel) (by decide +kernel) (by decide +kernel) (nf1 c "InvalidWorld" (by decide +kernel)) (free X G c "super" (by decide +kernel)) (fun _ => rfl) (fun _ => rfl) (fun _ => rfl)) (fun _ _ _ _ _ _ _ _ => rfl) (fun _ _ _ _ _ _ _ _ => rfl)
theorem own_InvalidValues (X : K.In h) (G : h.Ns mainGlobals mg) (c : hd.Says K) : Own1 R.prog w K mg base "InvalidValues" "given" := by
  obtain ⟨fd, I⟩ := c.ini_ (P := R.prog) rfl top_super 6 (d := inD "InvalidValues" "InvalidValues.__init__" (iniOf 8)) rfl
  have T := ecl c "InvalidValues" (by decide +kernel)
  exact own1_of (glo X G c "InvalidValues" (by decide +kernel)) T I (fun k => ok_ini1 (f := "given") T I (by decide +kernel) (by decide +kernel) (by decide +kernel) (by decide +kernel) (nf1 c "InvalidValues" (by decide +kernel)) (free X G c "super" (by decide +kernel)) (fun _ => rfl) (fun _ => rfl) (fun _ => rfl)) (fun _ _ _ _ _ _ _ _ => rfl) (fun _ _ _ _ _ _ _ _ => rfl)
theorem own_InvalidSteps (X : K.In h) (G : h.Ns mainGlobals mg) (c : hd.Says K) : Own1 R.prog w K mg base "InvalidSteps" "given" := by
  obtain ⟨fd, I⟩ := c.ini_ (P := R.prog) rfl top_super 7 (d := inD "InvalidSteps" "InvalidSteps.__init__" (iniOf 9)) rfl
  have T := ecl c "InvalidSteps" (by decide +kernel)
  exact own1_of (glo X G c "InvalidSteps" (by decide +kernel)) T I (fun k => ok_ini1 (f := "given") T I (by decide +kernel) (by decide +kernel) (by decide +kernel) (by decide +kernel) (nf1 c "InvalidSteps" (by decide +kernel)) (free X G c "super" (by decide +kernel)) (fun _ => rfl) (fun _ => rfl) (fun _ => rfl)) (fun _ _ _ _ _ _ _ _ => rfl) (fun _ _ _ _ _ _ _ _ => rfl)
theorem own_InvalidChoice (X : K.In h) (G : h.Ns mainGlobals mg) (c : hd.Says K) : Own1 R.prog w K mg base "InvalidChoice" "given" := by
  obtain ⟨fd, I⟩ := c.ini_ (P := R.prog) rfl top_super 8 (d := inD "InvalidChoice" "InvalidChoice.__init__" (iniOf 10)) rfl
  have T := ecl c "InvalidChoice" (by decide +kernel)
  exact own1_of (glo X G c "InvalidChoice" (by decide +kernel)) T I (fun k => ok_ini1 (f := "given") T I (by decide +kernel) (by decide +kernel) (by decide +kernel) (by decide +kernel) (nf1 c "InvalidChoice" (by decide +kernel)) (free X G c "super" (by decide +kernel)) (fun _ => rfl) (fun _ => rfl) (fun _ => rfl)) (fun _ _ _ _ _ _ _ _ => rfl) (fun _ _ _ _ _ _ _ _ => rfl)
theorem own_InvalidLine (X : K.In h) (G : h.Ns mainGlobals mg) (c : hd.Says K) : Own1 R.prog w K mg base "InvalidLine" "given" := by
  obtain ⟨fd, I⟩ := c.ini_ (P := R.prog) rfl top_super 9 (d := inD "InvalidLine" "InvalidLine.__init__" (iniOf 11)) rfl
  have T := ecl c "InvalidLine" (by decide +kernel)
  exact own1_of (glo X G c "InvalidLine" (by decide +kernel)) T I (fun k => ok_ini1 (f := "given") T I (by decide +kernel) (by decide +kernel) (by decide +kernel) (by decide +kernel) (nf1 c "InvalidLine" (by decide +kernel)) (free X G c "super" (by decide +kernel)) (fun _ => rfl) (fun _ => rfl) (fun _ => rfl)) (fun _ _ _ _ _ _ _ _ => rfl) (fun _ _ _ _ _ _ _ _ => rfl)
theorem own_NotADesk (X : K.In h) (G : h.Ns mainGlobals mg) (c : hd.Says K) : Own1 R.prog w K mg base "NotADesk" "given" := by
  obtain ⟨fd, I⟩ := c.ini_ (P := R.prog) rfl top_super 10 (d := inD "NotADesk" "NotADesk.__init__" (iniOf 12)) rfl
  have T := ecl c "NotADesk" (by decide +kernel)
  exact own1_of (glo X G c "NotADesk" (by decide +kernel)) T I (fun k => ok_ini1 (f := "given") T I (by decide +kernel) (by decide +kernel) (by decide +kernel) (by decide +kernel) (nf1 c "NotADesk" (by decide +kernel)) (free X G c "super" (by decide +kernel)) (fun _ => rfl) (fun _ => rfl) (fun _ => rfl)) (fun _ _ _ _ _ _ _ _ => rfl) (fun _ _ _ _ _ _ _ _ => rfl)
theorem own_NotWellRead (X : K.In h) (G : h.Ns mainGlobals mg) (c : hd.Says K) : Own2 R.prog w K mg base "NotWellRead" := by
  obtain ⟨fd, I⟩ := c.ini_ (P := R.prog) rfl top_super 11 (d := inD "NotWellRead" "NotWellRead.__init__" (iniOf 13)) rfl
  have T := ecl c "NotWellRead" (by decide +kernel)
  have n2 := He.ba (c.fact 8 (f := fld2B) rfl)
  exact own2_of (glo X G c "NotWellRead" (by decide +kernel)) T I (fun k => ok_ini2 T I (of_decide_eq_true n2.1) (of_decide_eq_true n2.2) (free X G c "super" (by decide +kernel)) (fun _ => rfl) (fun _ => rfl) (fun _ => rfl) (fun _ => rfl)) (fun _ _ _ _ _ _ _ _ _ => rfl) (fun _ _ _ _ _ _ _ _ _ => rfl)
theorem own_InvalidRows (X : K.In h) (G : h.Ns mainGlobals mg) (c : hd.Says K) : Own1 R.prog w K mg base "InvalidRows" "index" := by
  obtain ⟨fd, I⟩ := c.ini_ (P := R.prog) rfl top_super 12 (d := inD "InvalidRows" "InvalidRows.__init__" (iniOf 14)) rfl
  have T := ecl c "InvalidRows" (by decide +kernel)
  exact own1_of (glo X G c "InvalidRows" (by decide +kernel)) T I (fun k => ok_ini1 (f := "index") T I (by decide +kernel) (by decide +kernel) (by decide +kernel) (by decide +kernel) (nf1 c "InvalidRows" (by decide +kernel)) (free X G c "super" (by decide +kernel)) (fun _ => rfl) (fun _ => rfl) (fun _ => rfl)) (fun _ _ _ _ _ _ _ _ => rfl) (fun _ _ _ _ _ _ _ _ => rfl)
theorem own_InvalidDeed (X : K.In h) (G : h.Ns mainGlobals mg) (c : hd.Says K) : Own1 R.prog w K mg base "InvalidDeed" "index" := by
  obtain ⟨fd, I⟩ := c.ini_ (P := R.prog) rfl top_super 13 (d := inD "InvalidDeed" "InvalidDeed.__init__" (iniOf 15)) rfl
  have T := ecl c "InvalidDeed" (by decide +kernel)
  exact own1_of (glo X G c "InvalidDeed" (by decide +kernel)) T I (fun k => ok_ini1 (f := "index") T I (by decide +kernel) (by decide +kernel) (by decide +kernel) (by decide +kernel) (nf1 c "InvalidDeed" (by decide +kernel)) (free X G c "super" (by decide +kernel)) (fun _ => rfl) (fun _ => rfl) (fun _ => rfl)) (fun _ _ _ _ _ _ _ _ => rfl) (fun _ _ _ _ _ _ _ _ => rfl)
theorem own_DoesNotLead (X : K.In h) (G : h.Ns mainGlobals mg) (c : hd.Says K) : Own1 R.prog w K mg base "DoesNotLead" "index" := by
  obtain ⟨fd, I⟩ := c.ini_ (P := R.prog) rfl top_super 14 (d := inD "DoesNotLead" "DoesNotLead.__init__" (iniOf 16)) rfl
  have T := ecl c "DoesNotLead" (by decide +kernel)
  exact own1_of (glo X G c "DoesNotLead" (by decide +kernel)) T I (fun k => ok_ini1 (f := "index") T I (by decide +kernel) (by decide +kernel) (by decide +kernel) (by decide +kernel) (nf1 c "DoesNotLead" (by decide +kernel)) (free X G c "super" (by decide +kernel)) (fun _ => rfl) (fun _ => rfl) (fun _ => rfl)) (fun _ _ _ _ _ _ _ _ => rfl) (fun _ _ _ _ _ _ _ _ => rfl)
theorem own_Barred (X : K.In h) (G : h.Ns mainGlobals mg) (c : hd.Says K) : Own1 R.prog w K mg base "Barred" "reason" := by
  obtain ⟨fd, I⟩ := c.ini_ (P := R.prog) rfl top_super 15 (d := inD "Barred" "Barred.__init__" (iniOf 17)) rfl
  have T := ecl c "Barred" (by decide +kernel)
  exact own1_of (glo X G c "Barred" (by decide +kernel)) T I (fun k => ok_ini1 (f := "reason") T I (by decide +kernel) (by decide +kernel) (by decide +kernel) (by decide +kernel) (nf1 c "Barred" (by decide +kernel)) (free X G c "super" (by decide +kernel)) (fun _ => rfl) (fun _ => rfl) (fun _ => rfl)) (fun _ _ _ _ _ _ _ _ => rfl) (fun _ _ _ _ _ _ _ _ => rfl)
end
end K01

set_option Elab.async false
set_option linter.all false
set_option maxRecDepth 100000
set_option maxHeartbeats 0
namespace K01
open PySem PySem.Spec PyProof.Rows L2 L2H HotX EqX PySem.EqX
section
variable {w : World} {K : PySem.W.Frag} {mg : Str → Option Value} {h base : Heap}
theorem all_own1 (X : K.In h) (G : h.Ns mainGlobals mg) (c : hd.Says K) : ∀ x ∈ ones1, Own1 R.prog w K mg base x (fldOf x) := by
  intro x hx
  have hx' : x ∈ (["InvalidText", "InvalidBook", "InvalidTerm", "InvalidName", "InvalidNumber", "InvalidWorld", "InvalidValues", "InvalidSteps", "InvalidChoice", "InvalidLine", "NotADesk", "InvalidRows", "InvalidDeed", "DoesNotLead", "Barred"] : List Str) := hx
  simp only [List.mem_cons, List.not_mem_nil, or_false] at hx'
  rcases hx' with rfl | rfl | rfl | rfl | rfl | rfl | rfl | rfl | rfl | rfl | rfl | rfl | rfl | rfl | rfl
  · rw [show fldOf "InvalidText" = "given" from by decide +kernel]; exact own_InvalidText X G c
  · rw [show fldOf "InvalidBook" = "given" from by decide +kernel]; exact own_InvalidBook X G c
  · rw [show fldOf "InvalidTerm" = "given" from by decide +kernel]; exact own_InvalidTerm X G c
  · rw [show fldOf "InvalidName" = "given" from by decide +kernel]; exact own_InvalidName X G c
  · rw [show fldOf "InvalidNumber" = "given" from by decide +kernel]; exact own_InvalidNumber X G c
  · rw [show fldOf "InvalidWorld" = "given" from by decide +kernel]; exact own_InvalidWorld X G c
  · rw [show fldOf "InvalidValues" = "given" from by decide +kernel]; exact own_InvalidValues X G c
  · rw [show fldOf "InvalidSteps" = "given" from by decide +kernel]; exact own_InvalidSteps X G c
  · rw [show fldOf "InvalidChoice" = "given" from by decide +kernel]; exact own_InvalidChoice X G c
  · rw [show fldOf "InvalidLine" = "given" from by decide +kernel]; exact own_InvalidLine X G c
  · rw [show fldOf "NotADesk" = "given" from by decide +kernel]; exact own_NotADesk X G c
  · rw [show fldOf "InvalidRows" = "index" from by decide +kernel]; exact own_InvalidRows X G c
  · rw [show fldOf "InvalidDeed" = "index" from by decide +kernel]; exact own_InvalidDeed X G c
  · rw [show fldOf "DoesNotLead" = "index" from by decide +kernel]; exact own_DoesNotLead X G c
  · rw [show fldOf "Barred" = "reason" from by decide +kernel]; exact own_Barred X G c
theorem kt_of (X : K.In h) (G : h.Ns mainGlobals mg) (c : hd.Says K) : Kt R.prog w K mg base where
  n_len := free X G c "len" (by decide +kernel)
  n_int := free X G c "int" (by decide +kernel)
  n_abs := free X G c "abs" (by decide +kernel)
  n_isinstance := free X G c "isinstance" (by decide +kernel)
  n_repr := free X G c "repr" (by decide +kernel)
  n_all := free X G c "all" (by decide +kernel)
  n_range := free X G c "range" (by decide +kernel)
  n_max := free X G c "max" (by decide +kernel)
  n_min := free X G c "min" (by decide +kernel)
  n_LookupError := free X G c "LookupError" (by decide +kernel)
  n_ArithmeticError := free X G c "ArithmeticError" (by decide +kernel)
  n_TypeError := free X G c "TypeError" (by decide +kernel)
  n_AttributeError := free X G c "AttributeError" (by decide +kernel)
  n_RuntimeError := free X G c "RuntimeError" (by decide +kernel)
  n_ValueError := free X G c "ValueError" (by decide +kernel)
  sysm := sysB_ok (c.fact 2 (f := sysB) rfl)
  gmc := fun x hx => glo X G c x (List.mem_append_right _ hx)
  er := fun i x hx => by
    have hi : i < 22 := (List.getElem?_eq_some_iff.mp hx).1
    have z := List.all_eq_true.mp (c.fact 3 (f := fun K => (List.range 22).all fun i => errB K (He.ga K (nmsT.getD i "")) i) rfl) i (List.mem_range.mpr hi)
    have e : nmsT.getD i "" = x := by rw [List.getD_eq_getElem?_getD, hx]; rfl
    rw [e] at z
    exact errB_ok z
  o1 := all_own1 X G c
  o2 := own_NotWellRead X G c
  o0 := fun x hx => by
    have z := List.all_eq_true.mp (c.fact 5 (f := fun K => ones0.all fun x => own0B K x) rfl) x hx
    unfold own0B at z
    simp only [Bool.and_eq_true, decide_eq_true_eq] at z
    obtain ⟨z1, z2, z3, z4⟩ := z
    exact ⟨glo X G c x (List.mem_append_right _ ((by decide +kernel : ∀ y ∈ ones0, y ∈ nmsT) x hx)), z1, z2, z3, z4⟩
  xf := fun x hx => xfB_ok (List.all_eq_true.mp (c.fact 6 (f := fun K => (nms.take 16).all fun x => xfB K (He.ga K x)) rfl) x hx)
  nf1 := nf1 c
  nfr := of_decide_eq_true (He.ba (c.fact 8 (f := fld2B) rfl)).1
  nfw := of_decide_eq_true (He.ba (c.fact 8 (f := fld2B) rfl)).2
theorem at_of (X : K.In h) (G : h.Ns mainGlobals mg) (c : hd.Says K) (i : Nat) {x : Str} {st : Stmt} (e : hd.fn[i]? = some (dfD x st)) (hx : x ∈ defNames ++ nmsT) : At K mg x st := ⟨c.def_ i (d := dfD x st) e, glo X G c x hx⟩
theorem facts (X : K.In h) (G : h.Ns mainGlobals mg) (c : hd.Says K) : DfG R.prog w K mg base CX0 4 "law" ["cells"] (spLaw K) := by
  have T : Kt R.prog w K mg base := kt_of X G c
  have A0 : At K mg "_law_purse" s_purse := at_of X G c 0 rfl (by decide +kernel)
  have A1 : At K mg "_law_take" s_take := at_of X G c 1 rfl (by decide +kernel)
  have A2 : At K mg "_law_pick" s_pick := at_of X G c 2 rfl (by decide +kernel)
  have A3 : At K mg "_law_given_ones" s_given_ones := at_of X G c 3 rfl (by decide +kernel)
  have A4 : At K mg "_law_index_ones" s_index_ones := at_of X G c 4 rfl (by decide +kernel)
  have A5 : At K mg "_law_kinds" s_kinds := at_of X G c 5 rfl (by decide +kernel)
  have A6 : At K mg "_law_kept" s_kept := at_of X G c 6 rfl (by decide +kernel)
  have A7 : At K mg "_law_is_plain" s_is_plain := at_of X G c 7 rfl (by decide +kernel)
  have A8 : At K mg "_law_is_caught" s_is_caught := at_of X G c 8 rfl (by decide +kernel)
  have A9 : At K mg "_law_right" s_right := at_of X G c 9 rfl (by decide +kernel)
  have A10 : At K mg "law" s_law := at_of X G c 10 rfl (by decide +kernel)
  have take := df_take (w := w) (base := base) (P := R.prog) T.toBt A1
  have pick := df_pick T.toBt A2 take
  have kinds := df_kinds T A5
  have plain := df_is_plain T A7
  have kept := df_kept T A6
  have given := df_given_ones T A3
  have index := df_index_ones T A4
  have caught := df_is_caught T A8 (dp_kinds T A5) (dp_is_plain T A7)
  exact df_law T A10 (df_purse T.toBt A0) (df_right T A9 take pick kinds plain given index kept caught)
end
end K01
open PySem PySem.W PySem.Calls PyProof.Rows
theorem PySem.Challenge.cw_equalworlds_k01_errors_each_of_its_own_holds : PySem.Challenge.rw_equalworlds_k01_errors_each_of_its_own.Holds := by
  w_on; o_law
  refine HandSHeadRun.head_any (r := OpenLaw.row PySem.Challenge.rw_equalworlds_k01_errors_each_of_its_own) (q := view (OpenLaw.row PySem.Challenge.rw_equalworlds_k01_errors_each_of_its_own).prog [34]) (H := K01.hd.hook) (ob := K01.hd.ob) (M := 60000) (loose := K01.loose) (d := HandSHeadRun.topDef (OpenLaw.row PySem.Challenge.rw_equalworlds_k01_errors_each_of_its_own).prog 34) (kwd := []) K01.hd.ob_eq
    (by kernel_rfl) (fun s => by kernel_rfl) K01.run (by kernel_rfl) (by kernel_rfl) (by kernel_rfl) (by rfl) (by first | assumption | decide +kernel) (by decide +kernel) ⟨rfl, rfl, rfl, rfl, rfl, by decide +kernel⟩ ?hw ?hc
  case hw => w_witness2
  case hc =>
    refine EqX.walk_ofG (l := PySem.Challenge.rw_equalworlds_k01_errors_each_of_its_own) (n := 63) (k := 4) (x := "cells") rfl (by decide) (by kernel_rfl) ⟨rfl, by decide, by decide⟩ ?F
    intro w mg fa h Y G hmg0
    obtain ⟨K, KX, c⟩ := Y
    have e : (HandSHeadRun.topDef (OpenLaw.row PySem.Challenge.rw_equalworlds_k01_errors_each_of_its_own).prog 34).name = ("law" : PySem.Str) := by kernel_rfl
    rw [e] at hmg0
    refine ⟨K, K01.spLaw K, KX, fun H a ns hl _ hS => ⟨a, ns, rfl, hS, hl, fun _ => rfl⟩, fun base _ _ => ?_⟩
    have D := K01.facts (w := w) (base := base) KX G c
    have ea : fa = He.ga K "law" := Value.ref.inj (Option.some.inj (hmg0.symm.trans D.gm))
    rw [ea]
    exact D.ex
