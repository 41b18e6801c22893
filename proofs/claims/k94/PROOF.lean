import PyProof.Rows.All
import Wide.All
import OpenK.AllK
import Wide.FinOn
import HandS.ForExc
import HandS.ExcInit
import KE.KExcSuper
import HandS.Comp
import KE.GoesRaise
import HandS.Lambda
import HandS.Nested
import KE.KDflt
import HandS.ExcField
import HandS.ExcValue
import KE.KExcIs
import HandS.TupAny
import PyProof.SumAny
import PyProof.WalksMore
import PyProof.NeKinds
import HandS.ForMost
import HandS.Flow
import HandS.IsInst
import HandS.Gcd
import HandS.Wide
import HandS.TupLen
import HandS.Codes
import HandS.Walk
import PySem.Challenge.RW_slidercuts_k94_texts_of_values_and_point
import PyProof.Rows.StrDigitsNeg
import HandS.Conv
import PyProof.StrBlock2
import HandS.EndTab
import HandS.ExcIs
import KE.KNestM
section
set_option Elab.async false
set_option linter.all false
set_option maxRecDepth 100000
set_option maxHeartbeats 4000000
/-! S1Exc: an own exception class below ValueError (classes between) whose __init__ says super().__init__("..") and stores its parameters (one, or two). -/
namespace S9
open PySem PySem.W PySem.Calls PyProof.Rows PySem.HandSPX
section
variable {prog : Program} {w : World} {A : Around} {E : Value → Shared → Prop} {h : Heap} {g : Array GenState} {d : Drawn} {t : Nat} {os : OsState}
variable {nm q : Str} {C N : Addr} {bs bm : List Value} {hdct : Bool} {sn : List Str} {sub : List Value} {ab : Bool} {col : Option Bool} {dd : Option Addr} {k0 k1 k2 k3 k5 : Option Value}
/-- the bound ValueError.__init__ is called: the args' tuple is laid, the exception's record points at it -/
theorem call_mw {u e t0 : Addr} {vs : List Value} {Q : Value → Shared → Prop}
    (hC : h.get? C = some (excClassObj nm q C N bs bm hdct sn sub ab col dd k0 k1 k2 k3 k5 "ValueError.__new__")) (he : h.get? e = some (excO C t0))
    (hu : h.get? u = some (kxs_mw "ValueError.__init__" e)) (hz : vs.length ≤ sizeLine)
    (hq : ∀ h' t1, (∀ b o, b ≠ e → h.get? b = some o → h'.get? b = some o) → h'.get? e = some (excO C t1) → Q .none ⟨h', g, d, t, os⟩) :
    wpAny (model prog w) A (call (.ref u) vs) Q E ⟨h, g, d, t, os⟩ := by
  refine wpAny_call (codeAny_of_tree ?_)
  show wpAny _ A.in1 (callAny (.ref u) ⟨vs, []⟩) _ _ _
  simp only [callAny]
  refine wpAny_bind (wpAny_load hu ?_)
  have key : (Value.type "method-wrapper" == Value.type "method" || Value.type "method-wrapper" == Value.type "builtin_function_or_method" || Value.type "method-wrapper" == Value.type "method-wrapper") = true := by decide
  simp only [kxs_mw, key, if_true]
  refine KFB.if_so (by decide) (wpAny_bind (check_bound_init F.excBase_ValueError.toExcCallFacts hC he rfl ?_))
  refine wpAny_bind (wpAny_pure (wpAny_pure ⟨plainId_quiet F.excBase_ValueError.init.plain _, codeAny_builtin F.excBase_ValueError.initEntry ?_⟩))
  exact exc_init_tree (cls := .ref C) (t0 := t0) (dv := none) (c2 := .none) (c3 := .none) (b4 := .bool false) he hz fun h' k e' _ => hq h' _ k e'
end

/-- the text of such an __init__ with one parameter, with two -/
def iArgs1 (a : Str) (p1 p2 : Pos) : Arguments := { posonlyargs := [], args := [{ arg := "self", annotation := none, pos := p1 }, { arg := a, annotation := none, pos := p2 }], vararg := none, kwonlyargs := [], kw_defaults := [], kwarg := none, defaults := [] }
def iArgs2 (a b : Str) (p1 p2 p3 : Pos) : Arguments := { posonlyargs := [], args := [{ arg := "self", annotation := none, pos := p1 }, { arg := a, annotation := none, pos := p2 }, { arg := b, annotation := none, pos := p3 }], vararg := none, kwonlyargs := [], kw_defaults := [], kwarg := none, defaults := [] }
def iSup (nm : Str) (j : Nat) (p0 p1 p2 p3 p4 p5 : Pos) : Stmt := .Expr (.Call (.Attribute (.Call (.Name "super" p0) [] [] p1) "__init__" p2) [.Constant (.str nm) j p3] [] p4) p5
def iSto (f : Str) (p1 p2 p3 p4 : Pos) : Stmt := .Assign [.Attribute (.Name "self" p1) f p2] (.Name f p3) p4
def iSc1 (a : Str) : Scope := { kind := .function, names := [(PySem.Str.ofString "self", .local), (a, .local), (PySem.Str.ofString "__class__", .free), (PySem.Str.ofString "super", .globalImplicit)], isGenerator := false, isCoroutine := false, more := [] }
def iSc2 (a b : Str) : Scope := { kind := .function, names := [(PySem.Str.ofString "self", .local), (a, .local), (b, .local), (PySem.Str.ofString "__class__", .free), (PySem.Str.ofString "super", .globalImplicit)], isGenerator := false, isCoroutine := false, more := [] }

/-- what the written part says of such a class (at C) and of its __init__ (at fI: arguments ia, body ib, scope sc) -/
structure XTxt (prog : Program) (K : Frag) (C fI : Addr) (qual : Str) (ia : Arguments) (ib : List Stmt) (sc : Scope) : Prop where
  cls : ∃ nm q N bs bm sn sub ab col dd k0 k1 k2 k3 k5, K.lookup C = some (excClassObj nm q C N bs bm true sn sub ab col dd k0 k1 k2 k3 k5 "ValueError.__new__") ∧ refsVE bm = true
  sa : findIn K (.ref C) "__setattr__" = some (some (.builtin "object.__setattr__"))
  iC : findIn K (.ref C) "__init__" = some (some (.ref fI))
  tI : typeIn K (.ref fI) = some (.type "function")
  up : ks_superIn K C C "__init__" = some (some (.builtin "ValueError.__init__"))
  tp : nsIn K cStatics "thirdparty.any" = some none
  su : nsIn K mainGlobals "super" = some none
  file : (prog.main.scope.names.lookup ("super" : Str)).isSome = false
  fn : ∃ (oc : Value) (od : Option Addr) (kV doc pm : Value) (an : Option Addr) (cda : Addr) (ct : Value) (osl : Array (Option Value)) (cc : Addr) (cl : Value) (cld : Option Addr) (csl : Array (Option Value)) (ccl : Value) (cdd : Option Addr) (vs : Array Value) (ccs : Array (Option Value)) (fl : Str) (tf : Tok),
    K.lookup fI = some ⟨oc, od, .func (ksFn "__init__" qual ia ib sc .none kV doc pm an (.ref cda) ct cc), osl⟩ ∧ codeIn K (.ref cda) qual = true ∧ K.lookup cc = some ⟨cl, cld, .cell (some (.ref C)), csl⟩ ∧
    K.lookup cda = some ⟨ccl, cdd, .fields vs, ccs⟩ ∧ vs[2]? = some (.str fl tf) ∧ ((prog.main.file : Str) == fl) = true
/-- what such an __init__ leaves of a fresh exception at x -/
structure IEnd (h h' : Heap) (x C dx t1 : Addr) (m : Str → Option Value) : Prop where
  keep : ∀ b o, b ≠ x → h.get? b = some o → h'.get? b = some o
  obj : h'.get? x = some { cls := .ref C, dict := some dx, data := .fields #[.ref t1, .none, .none, .none, .bool false, .none] }
  dbig : h.objs.size ≤ dx
  dne : dx ≠ x
  ns : h'.Ns1 dx m
section
variable {prog : Program} {w : World} {A : Around} {E : Value → Shared → Prop} {R : Result → Shared → Prop} {s : Shared} {K : Frag} {mg : Str → Option Value} {base : Heap} {C fI : Addr}
theorem ld_l {M : Model} {env : Env} {L : Addr} {m : Str → Option Value} {x : Str} {pos : Pos} {v : Value} {Q : Value → Shared → Prop} (hn : s.heap.Ns L m) (hv : m x = some v) (h : Q v s)
    (hL : env.locals = L := by rfl) (hk : env.scope.kind = .function := by rfl) (hl : env.kindOf x = some .local := by rfl) (hd : (x == ("__debug__" : Str)) = false := by decide) :
    wpAny M A (eval (.Name x pos) env) Q E s := by
  subst hL
  exact wpAny_Name (wpAny_loadName_local hk hl hn hv h) hd
/-- super().__init__("..") in the body of fI, the frame at L holds self -/
theorem sup_ok {ia : Arguments} {ib : List Stmt} {sc : Scope} {qual : Str} (T : XTxt prog K C fI qual ia ib sc) {x t0 L cda cc : Addr} {m : Str → Option Value} {kV doc pm ct oc cl ccl : Value} {an od cld cdd : Option Addr} {osl csl ccs : Array (Option Value)} {vs : Array Value} {fl : Str} {tf : Tok}
    {nm : Str} {j : Nat} {p0 p1 p2 p3 p4 p5 : Pos} {ar : Arg} {body : List Stmt} {Q : Flow → Shared → Prop}
    (X : K.In s.heap) (G : s.heap.Ns mainGlobals mg) (Bt : ∃ mb, s.heap.Ns builtinsNs mb ∧ ∀ x : Str, x ≠ "__name__" → mb x = bootBuiltins x) (gs : mg "super" = none)
    (ho : K.lookup fI = some ⟨oc, od, .func (ksFn "__init__" qual ia ib sc .none kV doc pm an (.ref cda) ct cc), osl⟩) (hcc : K.lookup cc = some ⟨cl, cld, .cell (some (.ref C)), csl⟩)
    (hcd : K.lookup cda = some ⟨ccl, cdd, .fields vs, ccs⟩) (hvs : vs[2]? = some (.str fl tf)) (hfl : ((prog.main.file : Str) == fl) = true)
    (har : (ia.posonlyargs ++ ia.args).head? = some ar) (hks : sc.names.lookup ("super" : Str) = some .globalImplicit) (hkc : sc.names.lookup ("__class__" : Str) = some .free) (hka : sc.names.lookup ar.arg = some .local) (hk : sc.kind = .function)
    (hx : s.heap.get? x = some (excO C t0)) (hn : s.heap.Ns L m) (hm : m ar.arg = some (.ref x)) {pl : Sem Bool}
    (he : eval (.Call (.Attribute (.Call (.Name "super" p0) [] [] p1) "__init__" p2) [.Constant (.str nm) j p3] [] p4) (ksEnv qual sc L fI (.ref cda) cc) = (do
      let ov ← attributeBase (.Call (.Name "super" p0) [] [] p1) "__init__" (ksEnv qual sc L fI (.ref cda) cc) (eval (.Call (.Name "super" p0) [] [] p1) (ksEnv qual sc L fI (.ref cda) cc))
      standAt p2.atName
      let (f, first) ← holding [ov] (getMethod ov "__init__" pl)
      callWith p4 f first (backTo p4 (starEach [.Constant (.str nm) j p3] (ksEnv qual sc L fI (.ref cda) cc))) []))
    (hq : ∀ h' t1 tk, (∀ b o, b ≠ x → s.heap.get? b = some o → h'.get? b = some o) → h'.get? x = some (excO C t1) → Q .next { s with heap := h', toks := tk }) :
    _root_.PySem.wpAt (model prog w) A (.func body (ksEnv qual sc L fI (.ref cda) cc)) (exec (iSup nm j p0 p1 p2 p3 p4 p5) (ksEnv qual sc L fI (.ref cda) cc)) Q E s := by
  obtain ⟨nmC, q, N, bs, bm, sn, sub, ab, col, dd, k0, k1, k2, k3, k5, hC, hbm⟩ := T.cls
  have hD : clsIn K C = some { name := nmC, bases := bs, mro := .ref C :: bm, ns := N, qualname := q, hasDict := true, slotNames := sn, subclasses := sub, abstract := ab, collection := col, hasDel := false } := by unfold clsIn; rw [hC] <;> rfl
  have I : InstAt s.heap x (excO C t0) C none := ⟨hx, rfl, rfl, trivial⟩
  have hup := T.up
  unfold ks_superIn at hup
  rw [hD] at hup
  have hne : ∀ n : String, (Value.ref C :: bm).contains (.type n) = veTail.contains (.type n) := fun n => by
    rw [List.contains_cons]
    exact (refsVE_contains n bm hbm)
  have mem : ∀ b : Value, (Value.ref C :: bm).contains b = true → mroIn K C b = some true := fun b hb => by
    unfold mroIn
    rw [hD, Option.bind_some, if_neg (show ¬ (List.isEmpty (Value.ref C :: bm) = true) from Bool.false_ne_true), hb]
  have hselfC : mroIn K C (.ref C) = some true := mem _ (by simp)
  have hVE : mroIn K C (.type "ValueError") = some true := mem _ ((hne "ValueError").trans (by decide +kernel))
  obtain ⟨mb, hb1, hb2⟩ := Bt
  obtain ⟨hp, g, d, t, os⟩ := s
  show _root_.PySem.wpAt _ _ _ (exec (.Expr (.Call (.Attribute (.Call (.Name "super" p0) [] [] p1) "__init__" p2) [.Constant (.str nm) j p3] [] p4) p5) _) _ _ _
  refine ks_wpAt_Expr_any ?_ (by unfold interactive; rw [show (ksEnv qual sc L fI (.ref cda) cc).scope.kind = .function from hk]; rfl)
  refine ks_wpAt_MethodCall (pl := pl) ?_ he
  refine ks_wpAt_super_base (env := ksEnv qual sc L fI (.ref cda) cc) hks hkc (by decide) rfl (X _ _ ho) rfl har rfl (X _ _ hcd) rfl hvs hfl T.file ?_
  refine ks_loadName_global hk hks (loadGlobal_builtin (env := ksEnv qual sc L fI (.ref cda) cc) G gs hb1 ((hb2 _ (by decide +kernel)).trans (by decide +kernel)) ⟨rfl, ?_⟩)
  refine wpAny_loadName_free hk hkc rfl ⟨_, X _ _ hcc, rfl⟩ ?_
  refine wpAny_loadName_local hk hka hn hm ?_
  refine ks_wpAny_isType_cls (X _ _ hC) rfl ⟨rfl, ?_⟩
  refine ks_wpAny_call_super (X _ _ hC) rfl hx rfl (fun c e => by cases e) (looks_mroIn X hselfC) (fun h1 so k1' => ?_)
  have X1 : K.In h1 := X.keeps k1'
  have I1 : InstAt h1 x (excO C t0) C none := ⟨k1' _ _ hx, rfl, rfl, trivial⟩
  have isx : Looks (model prog w) h1 (isInstance (.ref x) (.type "ValueError")) true := I1.type.andThen (looks_mroIn X1 hVE)
  refine kxs_getMethod kxs_ValueError so (looks_opaque X1 T.tp) (l₀ := Value.ref C :: bm) ?_ rfl X1 hup isx (ks_ne X1 I1 hD) (by decide) ?_
  · exact fun A Q E s k q => wpAny_bind ((looks_clsIn X1 hD) A _ E s k (wpAny_pure q))
  refine kxs_callWith (i := "ValueError.__init__") (x := x) rfl ?_
  refine evalArgs_plain (spliced_cons (Constant_str (k := j) (pos := p3) (spliced_nil ⟨Heap.get?_push_size _ rfl, ?_⟩)))
  refine call_mw (e := x) (t0 := t0) (Heap.get?_push_of_some _ (X1 _ _ hC)) (Heap.get?_push_of_some _ (k1' _ _ hx)) (Heap.get?_push_size _ rfl) (by show 1 ≤ sizeLine; decide) fun h2 t1 k2' hx2 => ?_
  exact hq h2 t1 _ (fun b o hb e => k2' b o hb (Heap.get?_push_of_some _ (k1' b o e))) hx2
/-- self.f = f, the first store into the exception -/
theorem sto_new {ia : Arguments} {ib : List Stmt} {sc : Scope} {qual : Str} (T : XTxt prog K C fI qual ia ib sc) {x t0 L : Addr} {m : Str → Option Value} {f : Str} {v : Value} {p1 p2 p3 p4 : Pos} {env : Env} {Q : Flow → Shared → Prop}
    (X : K.In s.heap) (hno : findIn K (.ref C) f = some none) (hx : s.heap.get? x = some (excO C t0)) (hn : s.heap.Ns L m) (hself : m "self" = some (.ref x)) (hv : m f = some v) (hL : env.locals = L) (hk : env.scope.kind = .function) (hl : env.kindOf f = some .local) (hls : env.kindOf "self" = some .local) (hd : (f == ("__debug__" : Str)) = false)
    (hsw : swapsWith (.Name f p3) (some (.Attribute (.Name "self" p1) f p2)) p4.line env = pure false)
    (hq : ∀ h' tk dx, (∀ b o, b ≠ x → s.heap.get? b = some o → h'.get? b = some o) → s.heap.objs.size ≤ dx → dx ≠ x → h'.get? x = some { cls := .ref C, dict := some dx, data := .fields #[.ref t0, .none, .none, .none, .bool false, .none] } →
      h'.Ns1 dx (fun y => if y = f then some v else none) → Q .next { s with heap := h', toks := tk }) :
    wpAny (model prog w) A (exec (iSto f p1 p2 p3 p4) env) Q E s := by
  obtain ⟨nmC, q, N, bs, bm, sn, sub, ab, col, dd, k0, k1, k2, k3, k5, hC, hbm⟩ := T.cls
  have hcl : clsIn K C = some { name := nmC, bases := bs, mro := .ref C :: bm, ns := N, qualname := q, hasDict := true, slotNames := sn, subclasses := sub, abstract := ab, collection := col, hasDel := false } := by unfold clsIn; rw [hC] <;> rfl
  obtain ⟨hp, g, d, t, os⟩ := s
  show wpAny _ _ (exec (.Assign [.Attribute (.Name "self" p1) f p2] (.Name f p3) p4) env) _ _ _
  refine plainObj_wpAny_Assign_Attribute (ld_l hn hv (ld_l hn hself ?_ hL hk hls) hL hk hl hd) hsw
  refine set_plain X (ox := excO C t0) (od := none) ⟨hx, rfl, rfl, trivial⟩ T.sa ?_
  exact exc_osa X hx hcl (show refsVE (.ref C :: bm) = true from hbm) rfl hno fun h' tk dx a b c d' e => hq h' tk dx a b c d' e
/-- .. a further one -/
theorem sto_old {ia : Arguments} {ib : List Stmt} {sc : Scope} {qual : Str} (T : XTxt prog K C fI qual ia ib sc) {x t0 dx L : Addr} {m m0 : Str → Option Value} {nl : List Str} {f : Str} {v : Value} {p1 p2 p3 p4 : Pos} {env : Env} {Q : Flow → Shared → Prop}
    (X : K.In s.heap) (hno : findIn K (.ref C) f = some none) (hx : s.heap.get? x = some { cls := .ref C, dict := some dx, data := .fields #[.ref t0, .none, .none, .none, .bool false, .none] }) (hns : s.heap.Ns1 dx m0) (hw : Within m0 nl) (hz : nl.length ≤ 1000)
    (hn : s.heap.Ns L m) (hself : m "self" = some (.ref x)) (hv : m f = some v) (hL : env.locals = L) (hk : env.scope.kind = .function) (hl : env.kindOf f = some .local) (hls : env.kindOf "self" = some .local) (hd : (f == ("__debug__" : Str)) = false)
    (hsw : swapsWith (.Name f p3) (some (.Attribute (.Name "self" p1) f p2)) p4.line env = pure false)
    (hq : ∀ h' tk, (∀ b o, b ≠ dx → s.heap.get? b = some o → h'.get? b = some o) → h'.Ns1 dx (fun y => if y = f then some v else m0 y) → Q .next { s with heap := h', toks := tk }) :
    wpAny (model prog w) A (exec (iSto f p1 p2 p3 p4) env) Q E s := by
  obtain ⟨nmC, q, N, bs, bm, sn, sub, ab, col, dd, k0, k1, k2, k3, k5, hC, hbm⟩ := T.cls
  have hcl : clsIn K C = some { name := nmC, bases := bs, mro := .ref C :: bm, ns := N, qualname := q, hasDict := true, slotNames := sn, subclasses := sub, abstract := ab, collection := col, hasDel := false } := by unfold clsIn; rw [hC] <;> rfl
  obtain ⟨hp, g, d, t, os⟩ := s
  obtain ⟨oD, _, _, hoD, _, _⟩ := hns.count hw
  show wpAny _ _ (exec (.Assign [.Attribute (.Name "self" p1) f p2] (.Name f p3) p4) env) _ _ _
  refine plainObj_wpAny_Assign_Attribute (ld_l hn hv (ld_l hn hself ?_ hL hk hls) hL hk hl hd) hsw
  refine set_plain X (ox := { cls := .ref C, dict := some dx, data := .fields #[.ref t0, .none, .none, .none, .bool false, .none] }) (od := some oD) ⟨hx, rfl, rfl, hoD⟩ T.sa ?_
  exact PySem.OEX.osa_old X hx hns hw hz hcl (show refsVE (.ref C :: bm) = true from hbm) rfl hno fun h' tk k hn' => hq h' tk k hn'
/-- an exception made: e, its dict d -/
structure Made (h h' : Heap) (e C d : Addr) (m : Str → Option Value) : Prop where
  keep : ∀ b o, h.get? b = some o → h'.get? b = some o
  new : h.objs.size ≤ e
  obj : ∃ t1 : Addr, h'.get? e = some { cls := .ref C, dict := some d, data := .fields #[.ref t1, .none, .none, .none, .bool false, .none] }
  dbig : h.objs.size ≤ d
  dne : d ≠ e
  ns : h'.Ns1 d m
/-- what the walk of such an __init__ asks of its text, told by the text's own looks -/
structure SupTxt (ia : Arguments) (sc : Scope) (nm : Str) (j : Nat) (p0 p1 p2 p3 p4 p5 : Pos) : Prop where
  kind : sc.kind = .function
  co : sc.isCoroutine = false
  gen : sc.isGenerator = false
  ks : sc.names.lookup ("super" : Str) = some .globalImplicit
  kc : sc.names.lookup ("__class__" : Str) = some .free
  self : sc.names.lookup ("self" : Str) = some .local
  hd : ∃ p, (ia.posonlyargs ++ ia.args).head? = some { arg := "self", annotation := none, pos := p }
  nocell : ∀ x ∈ sc.names, x.2 ≠ .cell
  ev : ∀ (qual : Str) (L fI cda cc : Addr), ∃ pl : Sem Bool, eval (.Call (.Attribute (.Call (.Name "super" p0) [] [] p1) "__init__" p2) [.Constant (.str nm) j p3] [] p4) (ksEnv qual sc L fI (.ref cda) cc) = (do
      let ov ← attributeBase (.Call (.Name "super" p0) [] [] p1) "__init__" (ksEnv qual sc L fI (.ref cda) cc) (eval (.Call (.Name "super" p0) [] [] p1) (ksEnv qual sc L fI (.ref cda) cc))
      standAt p2.atName
      let (f, first) ← holding [ov] (getMethod ov "__init__" pl)
      callWith p4 f first (backTo p4 (starEach [.Constant (.str nm) j p3] (ksEnv qual sc L fI (.ref cda) cc))) [])
structure StoTxt (sc : Scope) (f : Str) (p1 p2 p3 p4 : Pos) : Prop where
  loc : sc.names.lookup f = some .local
  db : (f == ("__debug__" : Str)) = false
  sw : ∀ (qual : Str) (L fI cda cc : Addr), swapsWith (.Name f p3) (some (.Attribute (.Name "self" p1) f p2)) p4.line (ksEnv qual sc L fI (.ref cda) cc) = pure false
theorem init_two {ia : Arguments} {sc : Scope} {qual nm f1 f2 : Str} {j : Nat} {p0 p1 p2 p3 p4 p5 a1 a2 a3 a4 b1 b2 b3 b4 : Pos} (T : XTxt prog K C fI qual ia [iSup nm j p0 p1 p2 p3 p4 p5, iSto f1 a1 a2 a3 a4, iSto f2 b1 b2 b3 b4] sc)
    (S : SupTxt ia sc nm j p0 p1 p2 p3 p4 p5) (S1 : StoTxt sc f1 a1 a2 a3 a4) (S2 : StoTxt sc f2 b1 b2 b3 b4) (n1 : findIn K (.ref C) f1 = some none) (n2 : findIn K (.ref C) f2 = some none) (ne : f2 ≠ f1) (e1 : f1 ≠ "self") (e2 : f2 ≠ "self")
    (hb : ∀ (kV doc pm ct : Value) (an : Option Addr) (cda cc : Addr) (x u v : Value), bindArgs (ksFn "__init__" qual ia [iSup nm j p0 p1 p2 p3 p4 p5, iSto f1 a1 a2 a3 a4, iSto f2 b1 b2 b3 b4] sc .none kV doc pm an (.ref cda) ct cc) ⟨[x, u, v], []⟩ = pure [(("self" : Str), x), (f1, u), (f2, v)])
    {x t0 : Addr} {u v : Value} (X : K.In s.heap) (G : s.heap.Ns mainGlobals mg) (Bt : ∃ mb, s.heap.Ns builtinsNs mb ∧ ∀ x : Str, x ≠ "__name__" → mb x = bootBuiltins x) (gs : mg "super" = none) (lim : s.heap.NoLimit) (hx : s.heap.get? x = some (excO C t0)) (nx : K.lookup x = none) (gx : mainGlobals ≠ x) (bx : builtinsNs ≠ x) (room : A.depth < recursionLimit)
    (hq : ∀ h' tk dx t1, IEnd s.heap h' x C dx t1 (fun y => if y = f2 then some v else if y = f1 then some u else none) → R (.ok (.ret .none)) { s with heap := h', toks := tk }) :
    codeAny (model prog w) A (.call (.ref fI) ⟨[.ref x, u, v], []⟩) R s := by
  obtain ⟨oc, od, kV, doc, pm, an, cda, ct, osl, cc, cl, cld, csl, ccl, cdd, vs, ccs, fl, tf, ho, hcd, hcc, hco, hvs, hfl⟩ := T.fn
  refine ks_codeAny_call_defAt (binds := [(("self" : Str), .ref x), (f1, u), (f2, v)]) room (X _ _ ho) rfl lim (codeRec_of X hcd) rfl (BindsTo.of_eq (hb _ _ _ _ _ _ _ _ _ _)) S.nocell (fun y hy => ?_) (fun h₀ hn k0 => ?_) S.co S.gen S.kind
  · simp only [List.mem_cons, List.not_mem_nil, or_false] at hy
    rcases hy with rfl | rfl | rfl
    · exact S.self
    · exact S1.loc
    · exact S2.loc
  have hm0 : (fun y => ([(("self" : Str), Value.ref x), (f1, u), (f2, v)] : List (Str × Value)).reverse.lookup y) "self" = some (.ref x) := by
    have q1 : (("self" : Str) == f2) = false := by simpa using fun z => e2 z.symm
    have q2 : (("self" : Str) == f1) = false := by simpa using fun z => e1 z.symm
    simp [List.lookup, q1, q2]
  have hm1 : (fun y => ([(("self" : Str), Value.ref x), (f1, u), (f2, v)] : List (Str × Value)).reverse.lookup y) f1 = some u := by
    have q1 : (f1 == f2) = false := by simpa using fun z => ne z.symm
    simp [List.lookup, q1]
  have hm2 : (fun y => ([(("self" : Str), Value.ref x), (f1, u), (f2, v)] : List (Str × Value)).reverse.lookup y) f2 = some v := by simp [List.lookup]
  generalize (fun y => ([(("self" : Str), Value.ref x), (f1, u), (f2, v)] : List (Str × Value)).reverse.lookup y) = m at hn hm0 hm1 hm2
  obtain ⟨hp, g, d, t, os⟩ := s
  have Lx : hp.objs.size ≠ x := Nat.ne_of_gt (Heap.lt_size hx)
  have X0 : K.In h₀ := X.keeps k0
  have nsK : ∀ {h' : Heap} {b : Addr} {mm : Str → Option Value} {x : Addr}, h₀.Ns b mm → b ≠ x → (∀ c o, c ≠ x → h₀.get? c = some o → h'.get? c = some o) → h'.Ns b mm := fun {h' b mm x} q nb k => by
    obtain ⟨o, es, ep, e, r⟩ := q
    exact ⟨o, es, ep, k _ _ nb e, r⟩
  obtain ⟨p, hd⟩ := S.hd
  obtain ⟨pl, hev⟩ := S.ev qual hp.objs.size fI cda cc
  refine ks_wpAt_execs_cons (sup_ok (mg := mg) (ib := [iSup nm j p0 p1 p2 p3 p4 p5, iSto f1 a1 a2 a3 a4, iSto f2 b1 b2 b3 b4]) T X0 (G.keeps k0) ?_ gs ho hcc hco hvs hfl hd S.ks S.kc S.self S.kind (k0 _ _ hx) hn hm0 (pl := pl) hev fun h1 t1 tk1 k1 hx1 => ?_)
  · obtain ⟨mb, z1, z2⟩ := Bt
    exact ⟨mb, z1.keeps k0, z2⟩
  have X1 : K.In h1 := fun a o e => k1 a o (fun z => by rw [z, nx] at e; cases e) (X0 a o e)
  have L1 : h1.Ns hp.objs.size m := nsK hn Lx k1
  refine ks_wpAt_execs_cons (wpAt_of_wpAny (sto_new T X1 n1 hx1 L1 hm0 hm1 rfl S.kind S1.loc S.self S1.db (S1.sw _ _ _ _ _) fun h2 tk2 dx k2 dbig dne hx2 hn2 => ?_))
  have Ld : hp.objs.size ≠ dx := fun z => by
    obtain ⟨o, _, _, e, _⟩ := L1
    rw [← z] at dbig
    exact absurd (Nat.lt_of_lt_of_le (Heap.lt_size e) dbig) (Nat.lt_irrefl _)
  have X2 : K.In h2 := fun a o e => k2 a o (fun z => by rw [z, nx] at e; cases e) (X1 a o e)
  have L2' : h2.Ns hp.objs.size m := by
    obtain ⟨o, es, ep, e, r⟩ := L1
    exact ⟨o, es, ep, k2 _ _ Lx e, r⟩
  refine ks_wpAt_execs_cons (wpAt_of_wpAny (sto_old T X2 n2 hx2 hn2 (nl := [f1]) (fun y hy => ?_) (by simp) L2' hm0 hm2 rfl S.kind S2.loc S.self S2.db (S2.sw _ _ _ _ _) fun h3 tk3 k3 hn3 => ?_))
  · by_cases z : y = f1
    · simp [z]
    · exact absurd (if_neg z) hy
  refine wpAt_of_wpAny (wpAny_execs_nil (hq h3 tk3 dx t1 ⟨fun b o hb e => ?_, ?_, ?_, dne, hn3⟩))
  · have z1 := k1 b o hb (k0 b o e)
    refine k3 b o (fun z => ?_) (k2 b o hb z1)
    rw [← z] at dbig
    exact absurd (Nat.lt_of_lt_of_le (Heap.lt_size z1) dbig) (Nat.lt_irrefl _)
  · exact k3 x _ dne.symm hx2
  · obtain ⟨o, _, _, e, _⟩ := L1
    exact Nat.le_of_lt (Nat.lt_of_lt_of_le (Heap.lt_size e) dbig)
/-- C(u, v): the class is called (initD: what its __init__ does to a fresh exception) -/
theorem made_of {ia : Arguments} {ib : List Stmt} {sc : Scope} {qual : Str} (T : XTxt prog K C fI qual ia ib sc) {us : List Value} {m : Str → Option Value} (X : K.In s.heap) (G : s.heap.Ns mainGlobals mg) (Bt : ∃ mb, s.heap.Ns builtinsNs mb ∧ ∀ x : Str, x ≠ "__name__" → mb x = bootBuiltins x) (lim : s.heap.NoLimit) (hz : us.length ≤ sizeLine)
    (initD : ∀ (A' : Around) (R' : Result → Shared → Prop) (s' : Shared) (x t0 : Addr), A'.depth ≤ A.depth + 1 → K.In s'.heap → s'.heap.Ns mainGlobals mg → (∃ mb, s'.heap.Ns builtinsNs mb ∧ ∀ x : Str, x ≠ "__name__" → mb x = bootBuiltins x) → s'.heap.NoLimit → s'.heap.get? x = some (excO C t0) → K.lookup x = none → mainGlobals ≠ x → builtinsNs ≠ x →
      (∀ h' tk dx t1, IEnd s'.heap h' x C dx t1 m → R' (.ok (.ret .none)) { s' with heap := h', toks := tk }) → codeAny (model prog w) A' (.call (.ref fI) ⟨.ref x :: us, []⟩) R' s')
    (hq : ∀ h' tk e d, Made s.heap h' e C d m → R (.ok (.ret (.ref e))) { s with heap := h', toks := tk }) :
    codeAny (model prog w) A (.call (.ref C) ⟨us, []⟩) R s := by
  obtain ⟨nmC, q, N, bs, bm, sn, sub, ab, col, dd, k0, k1, k2, k3, k5, hC, hbm⟩ := T.cls
  obtain ⟨hp, g, dr, tk, os⟩ := s
  have kk : ∀ b o, hp.get? b = some o → ((hp.push (kdv_tup us)).push (excO C hp.objs.size)).get? b = some o := fun b o e => Heap.get?_push_of_some _ (Heap.get?_push_of_some _ e)
  have hx : ((hp.push (kdv_tup us)).push (excO C hp.objs.size)).get? (hp.objs.size + 1) = some (excO C hp.objs.size) := by heap_get
  have far : ∀ {b : Addr} {o : Obj}, hp.get? b = some o → b ≠ hp.objs.size + 1 := fun {b o} e => Nat.ne_of_lt (Nat.lt_succ_of_lt (Heap.lt_size e))
  have nx : K.lookup (hp.objs.size + 1) = none := by
    cases e : K.lookup (hp.objs.size + 1) with
    | none => rfl
    | some o => exact absurd rfl (far (X _ _ e))
  have nsfar : ∀ {b : Addr} {mm : Str → Option Value}, hp.Ns b mm → b ≠ hp.objs.size + 1 := fun {b mm} z => by
    obtain ⟨o, _, _, e, _⟩ := z
    exact far e
  refine call_own F.excBase_ValueError (fun Y => refsVE_contains Y bm hbm) (X _ _ hC) (looks_findIn X T.iC) (fun self => bind_fn X self T.tI) hz ?_
  refine initD _ _ ⟨(hp.push (kdv_tup us)).push (excO C hp.objs.size), g, dr, tk, os⟩ (hp.objs.size + 1) hp.objs.size ?_ (X.keeps kk) (G.keeps kk) ?_ (lim.keeps kk) hx nx (nsfar G) ?_ fun h' tk' dx t1 Y => ?_
  · exact Nat.le_of_eq L2.make_depth
  · obtain ⟨mb, z1, z2⟩ := Bt
    exact ⟨mb, z1.keeps kk, z2⟩
  · obtain ⟨mb, z1, z2⟩ := Bt
    exact nsfar z1
  · have z : hp.objs.size + 1 + 1 ≤ dx := by
      have y := Y.dbig
      first
        | exact y
        | (rw [Heap.size_push, Heap.size_push] at y; exact y)
    exact ⟨rfl, hq h' tk' (hp.objs.size + 1) dx ⟨fun b o e => Y.keep b o (far e) (kk b o e), Nat.le_succ _, ⟨t1, Y.obj⟩, Nat.le_trans (Nat.le_trans (Nat.le_succ _) (Nat.le_succ _)) z, Y.dne, Y.ns⟩⟩
end
end S9
namespace S9
open PySem PySem.Spec PyProof.Rows L2
theorem relO_two {u v : V} {u' v' : Value} {f1 f2 : Str} (ne : f2 ≠ f1) (r1 : RelV u u') (r2 : RelV v v') (f : Str) : RelO (List.lookup f [(f1, u), (f2, v)]) (if f = f2 then some v' else if f = f1 then some u' else none) := by
  by_cases h1 : f = f1
  · subst h1
    rw [if_neg (Ne.symm ne), if_pos rfl]
    have e : List.lookup f [(f, u), (f2, v)] = some u := by simp [List.lookup]
    rw [e]
    exact r1
  · have q1 : (f == f1) = false := by simpa using h1
    rw [if_neg h1]
    by_cases h2 : f = f2
    · subst h2
      rw [if_pos rfl]
      have e : List.lookup f [(f1, u), (f, v)] = some v := by simp [List.lookup, q1]
      rw [e]
      exact r2
    · have q2 : (f == f2) = false := by simpa using h2
      rw [if_neg h2]
      have e : List.lookup f [(f1, u), (f2, v)] = none := by simp [List.lookup, q1, q2]
      rw [e]
      trivial
/-- C(a, b) that makes an exception with two fields: its class, its dict (new) -/
def tMk2 (C : Addr) (f1 f2 : Str) (ta : TA) : L2.St → Hp → XK → Prop := fun σ H Q => ta σ H fun vs H1 => ∃ u v, vs = [u, v] ∧ ∀ d, H1 d = none → Q (.ref C) (some d) (upd H1 d (.xd [(f1, u), (f2, v)]))
section
variable {X : Cx} {C fI : Addr} {ia : Arguments} {ib : List Stmt} {sc : Scope} {qual : Str}
theorem pmk_two {x : Str} {a b : Expr} {ta : TA} {p pos : Pos} {k : Nat} {f1 f2 : Str} (T : XTxt X.prog X.K C fI qual ia ib sc) (gC : X.mg x = some (.ref C)) (kC : PySem.W.keepIn X.K (.ref C) = true) (exC : PySem.W.subIn X.K (.ref C) (.type "BaseException") = some true) (tyC : PySem.W.typeIn X.K (.ref C) = some (.type "type")) (ne : f2 ≠ f1)
    (initD : ∀ (A' : Around) (R' : Result → Shared → Prop) (s' : Shared) (x t0 : Addr) (u v : Value), A'.depth < recursionLimit → X.K.In s'.heap → s'.heap.Ns mainGlobals X.mg → (∃ mb, s'.heap.Ns builtinsNs mb ∧ ∀ x : Str, x ≠ "__name__" → mb x = bootBuiltins x) → s'.heap.NoLimit → s'.heap.get? x = some (PySem.HandSPX.excO C t0) → X.K.lookup x = none → mainGlobals ≠ x → builtinsNs ≠ x →
      (∀ h' tk dx t1, IEnd s'.heap h' x C dx t1 (fun y => if y = f2 then some v else if y = f1 then some u else none) → R' (.ok (.ret .none)) { s' with heap := h', toks := tk }) → codeAny (model X.prog X.w) A' (.call (.ref fI) ⟨[.ref x, u, v], []⟩) R' s')
    (hr : Room k X.A) (ha : PA X [a, b] ta) (hg : Gl X x) (hdb : (x == ("__debug__" : Str)) = false := by decide)
    (he : starEach [a, b] X.env = (false, eval a X.env) :: starEach [b] X.env := by rfl) (hpl : (backTo pos (starEach [b] X.env)).any (·.1) = false := by rfl) :
    PMk X (.Call (.Name x p) [a, b] [] pos) (tMk2 C f1 f2 ta) := by
  intro pins s σ H Q I h
  refine wpAny_Call_Name_kw (ld_glob I hg gC ?_ hdb)
  refine PySem.W.callWith_K (h₀ := X.base) I.ok.mod.kin kC (thn (ha.run pos pins s σ H _ I h) fun us s1 hh => ?_) he hpl
  obtain ⟨vs, H1, I1, r1, u, v, ev, q1⟩ := hh
  subst ev
  refine ⟨I1.kIn, ?_⟩
  obtain ⟨u', v', rfl, ru, rv⟩ := vals2 r1
  show wpAny _ _ (call (.ref C) [u', v']) _ _ _
  have hG := I1.mod.glob.keeps I1.bk
  have hB : ∃ mb, s1.heap.Ns builtinsNs mb ∧ ∀ x : Str, x ≠ "__name__" → mb x = bootBuiltins x := by
    obtain ⟨mb, z1, z2⟩ := I1.mod.blt
    exact ⟨mb, z1.keeps I1.bk, z2⟩
  have hlim := I1.nolimit
  have hdp := hr.dp
  obtain ⟨hp, g, dr, tk, os⟩ := s1
  refine wpAny_call (made_of T I1.kIn hG hB hlim (by show 2 ≤ sizeLine; decide) (fun A' R' s' x t0 hd a1 a2 a3 a4 a5 a6 a7 a8 hq => initD A' R' s' x t0 u' v' (by omega) a1 a2 a3 a4 a5 a6 a7 a8 hq) fun h' tk' e d M => ?_)
  show MkP X pins σ Q (.ref e) ⟨h', g, dr, tk', os⟩
  obtain ⟨t1, hoe⟩ := M.obj
  have hns := M.ns
  obtain ⟨G', g1, g2⟩ := restrict h' fun b => decide (b ≠ e)
  have gk : ∀ b, b ≠ e → G'.get? b = h'.get? b := fun b hb => g1 b (decide_eq_true hb)
  have ge : G'.get? e = none := g2 e (by simp)
  have old : ∀ b o, hp.get? b = some o → G'.get? b = some o := fun b o q => (gk b (Nat.ne_of_lt (Nat.lt_of_lt_of_le (Heap.lt_size q) M.new))).trans (M.keep b o q)
  have ob : ObjOk X.prog X.w (upd H1 d (.xd [(f1, u), (f2, v)])) G' d (.xd [(f1, u), (f2, v)]) :=
    ⟨_, hns.at (fun o q => (gk d M.dne).trans q), fun f => relO_two ne ru rv f⟩
  have J : Inv X pins σ (upd H1 d (.xd [(f1, u), (f2, v)])) ⟨G', g, dr, tk', os⟩ := I1.laid (t' := tk') old M.dbig ob
  refine ⟨e, _, _, ⟨G', g, dr, tk', os⟩, _, .ref C, some d, rfl, J, fun b o q => ?_, ge, hoe, ⟨rfl, rfl⟩, rfl, rfl, ?_, rfl, I1.bare, raises_own exC tyC, q1 d (I1.hok.fresh M.dbig)⟩
  · by_cases hb : b = e
    · have q' : G'.get? b = some o := q
      rw [hb, ge] at q'
      cases q'
    · exact (gk b hb).symm.trans q
  · rw [upd_ne (Ne.symm M.dne)]
    exact I1.hok.fresh M.new
end
end S9
end

section
set_option Elab.async false
set_option linter.all false
set_option maxRecDepth 100000
set_option maxHeartbeats 4000000
/-! S2Comp: an exception out of a list comprehension: an element whose call lets one out. -/
namespace S9
open PySem PySem.Spec PyProof.Rows L2
section
variable {X : Cx} {pins : List (Addr × Obj)} {σ : L2.St} {H1 : Hp} {EE : XK}
theorem traced_but {h h2 base : Heap} {e C : Addr} {Z : Obj → Prop} {fl : Value} {m : Str → Option Value} (t : PySem.HandSPX.TracedZ h base e Z fl) (hn : h.Ns C m) (sb : Heap.SameBut C h h2) : PySem.HandSPX.TracedZ h2 base e Z fl := by
  obtain ⟨oe, vs, T, oT, ts, h1, hz, hd, hv, hb, hne, hT, hdT, h3⟩ := t
  obtain ⟨oC, es, ep, hC, hdC, _⟩ := hn
  have k : ∀ {b : Addr} {o : Obj} {ws : Array Value}, h.get? b = some o → o.data = .fields ws → h2.get? b = some o := fun {b o ws} z y => by
    refine (sb.2 b fun q => ?_).trans z
    rw [q, hC] at z
    cases z
    rw [hdC] at y
    cases y
  exact ⟨oe, vs, T, oT, ts, k h1 hd, hz, hd, hv, hb, hne, k hT hdT, hdT, h3⟩
/-- a call's exception, met in a comprehension's block (its names at C): noted, the block let go, it flies on as the def's own -/
theorem out_of_block {ce : Env} {s s2 : Shared} {m : Str → Option Value} {u : Value} (hs : X.stack = X.env :: X.outer) (hf : X.env.frame = some X.env.locals) (tk : Takes X fun cls d _ H => EE cls d H) (I : Inv X pins σ H1 s)
    (hC : H1 ce.locals = none) (hL : ce.locals ≠ X.env.locals) (hF : ce.locals ∉ X.fs) (hE : X.s_0.heap.objs.size ≤ ce.locals) (hcl : ∀ x c, X.env.cells.lookup x = some c → c ≠ ce.locals) (hp : ∀ p ∈ X.pn ++ pins, p.1 ≠ ce.locals) (hn : s.heap.Ns ce.locals m) (hcf : ce.frame = X.env.frame)
    (c : L2.CX X.prog X.w X.stack H1 s EE u s2) : notedBy (model X.prog X.w) X.A ce (CompFails (model X.prog X.w) X.A X.xe ce) u s2 := by
  obtain ⟨a, B, H2, cls, d, rfl, fl, hokB, ub, na, os, ag, hq⟩ := c
  have hfr : X.A.frames = some (X.env :: X.outer) := by rw [I.ok.frames, hs]
  obtain ⟨oC, es, ep, hoC, hdC, hrC⟩ := id hn
  have nst : ce.locals ∉ frs X.stack := fun z => (List.mem_cons.mp (I.stkSub _ z)).elim hL hF
  have bC : B.get? ce.locals = some oC := ub.keep _ _ hoC hC nst
  have h2C : H2 ce.locals = none := ub.free _ _ hoC hC
  obtain ⟨B', b1, b2⟩ := restrict B fun b => decide (b ≠ ce.locals)
  have bk : ∀ {b : Addr}, b ≠ ce.locals → B'.get? b = B.get? b := fun {b} hb => b1 b (decide_eq_true hb)
  have bn : B'.get? ce.locals = none := b2 _ (by simp)
  have bs : ∀ {b : Addr} {o : Obj}, B'.get? b = some o → B.get? b = some o ∧ b ≠ ce.locals := fun {b o} z => by
    by_cases q : b = ce.locals
    · rw [q, bn] at z; cases z
    · exact ⟨(bk q).symm.trans z, q⟩
  have none_of : ∀ {b : Addr}, B.get? b = none → B'.get? b = none := fun {b} z => by
    by_cases q : b = ce.locals
    · rw [q]; exact bn
    · rw [bk q]; exact z
  have fl' : PySem.HandSPX.FlyingZ B' (X.env :: X.outer) a (Zc cls d) s2.heap := by
    obtain ⟨f1, f2, f3, f4⟩ := fl
    refine ⟨fun b o z => f1 b o (bs z).1, none_of f2, ?_, ?_⟩
    · rw [← hs]
      exact funFrames_none f3 fun L hL => none_of (f3.mem hL).1
    · obtain ⟨oe, vs, T, oT, ts, x1, x2, x3, x4, x5, x6⟩ := f4
      exact ⟨oe, vs, T, oT, ts, x1, x2, x3, x4, none_of x5, x6⟩
  have hn2 : s2.heap.Ns ce.locals m := ⟨oC, es, ep, fl.1 _ _ bC, hdC, hrC⟩
  show wpAny _ _ (noteFrame (.ref a) ce) _ _ s2
  rw [noteFrame_env _ hcf]
  refine PySem.HandSPX.looks_onZ Zc.steady hfr hf fl' fun h3 hh up => ?_
  have hn3 : h3.Ns ce.locals m := hn2.upToSlots up
  refine ⟨m, hn3, fun h4 m4 hn4 sb => ?_⟩
  have hh4 : PySem.HandSPX.HeldZ B' (X.env :: X.outer) a (Zc cls d) X.env.locals h4 := by
    obtain ⟨g1, g2, g3, g4⟩ := hh
    exact ⟨fun b o z => (sb.2 b (bs z).2).trans (g1 b o z), g2, Heap.FunFrames.sameBut sb hn4 g3, traced_but g4 hn3 sb⟩
  obtain ⟨oe, vs, T, oT, ts, x1, x2, x3, x4, x5, x6⟩ := hh4.2.2.2
  unfold PySem.passOn
  refine wpAny_bind (wpAny_field x1 x3 x4 ?_)
  rw [if_neg (show ¬ ((Value.ref T == Value.none) = true) from by simp), hcf, hf]
  refine wpAny_bind (PySem.HandSPX.setFlight_onZ hh4 fun h5 hh5 up5 => wpAny_throw (tk _ _ ?_))
  -- the state without the exception and the block
  obtain ⟨G, g1, g2⟩ := restrict h5 fun b => (B'.get? b).isSome || decide (b ∈ frs X.stack)
  have st5 : B'.StaysIn h5 := hh5.1
  have gB : ∀ b o, B'.get? b = some o → G.get? b = some o := fun b o z => (g1 b (by simp [z])).trans (st5 b o z)
  have og : ∀ {b : Addr} {o : Obj}, G.get? b = some o → h5.get? b = some o ∧ ((B'.get? b).isSome = true ∨ b ∈ frs X.stack) := fun {b o} z => by
    cases q : ((B'.get? b).isSome || decide (b ∈ frs X.stack)) with
    | false => rw [g2 b q] at z; cases z
    | true => exact ⟨(g1 b q).symm.trans z, by simpa [Bool.or_eq_true] using q⟩
  have slot : ∀ {b : Addr} {o : Obj}, s.heap.get? b = some o → b ∈ frs X.stack → ∃ sl, G.get? b = some { o with slots := sl } := fun {b o} z hb => by
    obtain ⟨sl, y1⟩ := ub.slot b o z hb
    have hbC : b ≠ ce.locals := fun q => nst (q ▸ hb)
    have nf : ∀ ws, o.data ≠ .fields ws := fun ws q => by
      obtain ⟨_, o1, w1, w2⟩ := fl.2.2.1.mem hb
      rw [y1] at w1
      cases w1
      exact w2 ws q
    obtain ⟨sl2, y2⟩ := up b _ y1 nf
    obtain ⟨sl3, y3⟩ := up5 b _ ((sb.2 b hbC).trans y2) nf
    exact ⟨sl3, (g1 b (by simp [hb])).trans y3⟩
  refine ⟨a, B', { s with heap := G, gens := s2.gens, drawn := s2.drawn, toks := s2.toks }, pins, σ, H2, cls, d, rfl, ?_, fun b o z hb => ?_, Heap.UpToSlots.of_keeps fun b o z => (og z).1, .inr (.inr (by rw [hs]; exact hh5)), na, os, ag, hq⟩
  · refine I.call (ch := [ce.locals]) ⟨fun b o z n hb hx => gB b o ((bk (by simpa using hx)).trans (ub.keep b o z n hb)), fun b o z _ hb _ => slot z hb, fun b o z n _ => ub.free b o z n, fun b o z hx => ?_, ub.tups, ub.frzs, ub.tbls⟩ ?_ ag ?_
    · by_cases hb : b ∈ frs X.stack
      · obtain ⟨sl, y⟩ := slot z hb
        exact ⟨_, y⟩
      · obtain ⟨o', y⟩ := ub.there b o z hb
        exact ⟨o', gB b o' ((bk (by simpa using hx)).trans y)⟩
    · intro b o z
      have hb : b ≠ ce.locals := fun q => by rw [q, h2C] at z; cases z
      refine (hokB b o z).stay (fun c v hc y => ?_) (fun _ y => y) fun _ _ y => y
      have hcC : c ≠ ce.locals := by
        rcases hc with q | q
        · rw [q]; exact hb
        · exact fun r => by rw [r, h2C] at q; cases q
      exact gB c v ((bk hcC).trans y)
    · intro b hb
      have e : b = ce.locals := by simpa using hb
      subst e
      exact ⟨.inr hE, hL, hcl, hp⟩
  · obtain ⟨y, q⟩ := og z
    rcases q with q | q
    · obtain ⟨o', w⟩ := Option.isSome_iff_exists.mp q
      have v := st5 b o' w
      rw [y] at v
      cases v
      exact w
    · exact absurd q hb
/-- the block's context of a comprehension whose element may let an exception out -/
abbrev blkX (X : Cx) (s : Shared) (H : Hp) (scope : Scope) (cl : List (Str × Addr)) (C : Addr) (fp : List Addr) (xe : Value → Shared → Prop) : Cx := (X.blk s H scope (compEnvC scope cl C X.env) fp).wish xe
theorem lcX_run {s : Shared} {H : Hp} {Q : VK} {elt tg iter : Expr} {ifs : List Expr} {scope : Scope} {own : List (Str × Nat)} {pos pos' : Pos} {wi : TI} {g : TG} {tt : TT} {te : TE}
    (hs : X.stack = X.env :: X.outer) (hf : X.env.frame = some X.env.locals) (tk : Takes X fun cls d _ H => EE cls d H) (hc : X.calm = true) (hN : X.N.Nodup) (I : Inv X pins σ H s) (hi : PI X tg iter wi) (ok : BlkOk X.N X.env.scope scope own)
    (hg : ∀ (s : Shared) (H : Hp) (C : Addr) (cl : List (Str × Addr)) (fp : List Addr), PG (X.blk s H scope (compEnvC scope cl C X.env) fp) tg g)
    (ht : ∀ (s : Shared) (H : Hp) (C : Addr) (cl : List (Str × Addr)) (fp : List Addr), PTs (X.blk s H scope (compEnvC scope cl C X.env) fp) ifs tt)
    (he : ∀ (s : Shared) (H : Hp) (C : Addr) (cl : List (Str × Addr)) (fp : List Addr) (xe : Value → Shared → Prop), Passes (L2.CX X.prog X.w) (blkX X s H scope cl C fp xe) EE → PE (blkX X s H scope cl C fp xe) elt te)
    (hit : ∀ x, foldedSetIterable iter X.env x = pure x) (h : tLc wi g tt te (own.map (·.2)) σ H Q) :
    wpAny (model X.prog X.w) X.A (comprehension (.ListComp elt [⟨tg, iter, ifs, 0⟩] scope pos) scope X.env pos' (newList []) false (eval iter X.env) none) (EP X pins σ Q) X.xe s := by
  have hfree : ∀ y ∈ scope.names, y.2 = .free → ∃ c, X.env.cells.lookup y.1 = some c := fun y hy e => I.ok.has _ (ok.free y hy e)
  refine comprehension_at (use := none) rfl hit (closure_ok hfree) ok.kind (fun y hy e => (ok.uniq y hy).trans (by rw [e])) (thn (hi.run pins s σ H _ I h) fun xv s1 hx => thn hx fun itv s2 h2 => ?_)
  obtain ⟨it, fp, tn, J, H2, rfl, I2, T, st2, f2, q⟩ := h2
  refine wpAny_newObj_type (newEnv_comp ?_) (show 0 ≤ sizeLine by decide)
  generalize hD : s2.heap.objs.size = D
  obtain ⟨W, ⟨m0, w0⟩, turn⟩ := q D (I2.hok.fresh (Nat.le_of_eq hD))
  generalize hs3 : ({ s2 with heap := s2.heap.push { cls := .type "list", data := .seq ([] : List Value).toArray } } : Shared) = s3
  have h3 : s3.heap = s2.heap.push { cls := .type "list", data := .seq ([] : List Value).toArray } := by subst hs3; rfl
  have I3 : Inv X pins σ (upd H2 D (.lst [])) s3 := by
    subst hs3
    exact I2.laid (t' := s2.toks) (fun b o e => Heap.get?_push_of_some _ e) (Nat.le_of_eq hD) ⟨Nat.zero_le _, [], 0, .nil, by subst hD; exact Heap.get?_push_size _ rfl⟩
  have sz : ∀ b ∈ fp, b < s2.heap.objs.size := fun b hb => let ⟨_, e, _⟩ := T.obj _ _ st2 b hb; Heap.lt_size e
  have f3 : ∀ b ∈ fp, FpOk X pins (upd H2 D (.lst [])) b ∧ b < s3.heap.objs.size := fun b hb =>
    ⟨⟨(upd_ne (by subst hD; exact Nat.ne_of_lt (sz b hb))).trans (f2 b hb).1, (f2 b hb).2⟩, by rw [h3, Heap.size_push]; exact Nat.lt_succ_of_lt (sz b hb)⟩
  have st3 : tn 0 s3.heap := T.keep _ _ _ st2 fun b _ o e => by rw [h3]; exact Heap.get?_push_of_some _ e
  -- the block
  generalize hcl : cellsFrom (s3.heap.objs.size + 1) scope.names (cloFrom X.env.cells scope.names []) = cl
  have I4 := block_start I3 ok hN f3
  rw [hcl] at I4
  show codeAny _ _ (.compStart (.ListComp elt [⟨tg, iter, ifs, 0⟩] scope pos) 0 (.ref it) (.ref D) (compEnvC scope cl s3.heap.objs.size X.env))
    (compEnds (model X.prog X.w) X.A X.xe none (EP X pins σ Q) (.ref D) (compEnvC scope cl s3.heap.objs.size X.env)) { s3 with heap := pushCells (s3.heap.push { cls := .type "dict", data := .dict #[] }) scope.names }
  generalize hH3 : upd H2 D (.lst []) = H3 at I3 I4 w0 f3
  have pg := hg s3 H3 s3.heap.objs.size cl fp
  have pt := ht s3 H3 s3.heap.objs.size cl fp
  have pe := he s3 H3 s3.heap.objs.size cl fp
  have nfp : ∀ b ∈ fp, H3 b = none := fun b hb => (f3 b hb).1.1
  have cfr : (compEnvC scope cl s3.heap.objs.size X.env).frame = X.env.frame := rfl
  have cL : (compEnvC scope cl s3.heap.objs.size X.env).locals = s3.heap.objs.size := rfl
  unfold blkX at pe
  generalize compEnvC scope cl s3.heap.objs.size X.env = ce at I4 pg pt pe cfr cL ⊢
  generalize hs4 : ({ s3 with heap := pushCells (s3.heap.push { cls := .type "dict", data := .dict #[] }) scope.names } : Shared) = s4 at I4 ⊢
  have st4 : tn 0 s4.heap := T.keep _ _ _ st3 fun b _ o e => by subst hs4; exact pushCells_keeps _ _ _ _ (Heap.get?_push_of_some _ e)
  have fOk : ∀ {σ' : L2.St} {H' : Hp} {s' : Shared}, Inv (X.blk s3 H3 scope ce fp) [] σ' H' s' → (∀ b ∈ fp, H' b = none) → ∀ b ∈ fp, FpOk (X.blk s3 H3 scope ce fp) [] H' b := fun {σ' H' s'} I' hn b hb =>
    ⟨hn b hb, (I'.ok.exf b hb).1, I'.ok.exfs b hb, .inl hb, fun x c e => (I'.ok.exf b hb).2 x c e, fun p hp => nomatch (show p ∈ ([] : List (Addr × Obj)) from hp)⟩
  -- back in the def's own context
  have back : ∀ {pn' : List (Addr × Obj)} {σ' : L2.St} {H' : Hp} {s' : Shared}, Inv (X.blk s3 H3 scope ce fp) pn' σ' H' s' → Inv X pins σ H' s' ∧ H' s3.heap.objs.size = none ∧ ∃ m, s'.heap.Ns s3.heap.objs.size m := fun {pn' σ' H' s'} I' => by
    refine ⟨I3.call' (ch := fp) I'.os I'.base I'.hok I'.bare fun b hb => let z := (f3 b hb).1; ⟨z.2.2.2.1, z.2.1, z.2.2.2.2.1, z.2.2.2.2.2⟩, ?_, ?_⟩
    · have z : H' ce.locals = none := I'.free
      rw [cL] at z
      exact z
    · obtain ⟨m, z, _⟩ := I'.loc
      have z : s'.heap.Ns ce.locals m := z
      rw [cL] at z
      exact ⟨m, z⟩
  have fC : ∀ {H' : Hp}, H' s3.heap.objs.size = none → FpOk X pins H' s3.heap.objs.size := fun z => I3.fpOk (Nat.le_refl _) z
  -- what the element's calls may let out
  have hps : Passes (L2.CX X.prog X.w) ((X.blk s3 H3 scope ce fp).wish (notedBy (model X.prog X.w) X.A ce (CompFails (model X.prog X.w) X.A X.xe ce))) EE := fun pn' σ' H' s' e s'' I' c => by
    obtain ⟨I6, n6, m, hn6⟩ := back I'.unwish
    obtain ⟨_, y1, y2, y3, y4, y5⟩ := fC n6
    have y3' : X.s_0.heap.objs.size ≤ ce.locals := by rw [cL]; exact I3.sz
    rw [← cL] at n6 hn6 y1 y2 y4 y5
    exact out_of_block hs hf tk I6 n6 y1 y2 y3' (fun x c z => y4 x c z) y5 hn6 cfr c
  have pe := pe _ hps
  have loop : codeAny (model X.prog X.w) X.A (.compLoop (.ListComp elt [⟨tg, iter, ifs, 0⟩] scope pos) 0 (.ref it) (.ref D) ce) (compEnds (model X.prog X.w) X.A X.xe none (EP X pins σ Q) (.ref D) ce) s4 := by
    refine compLoop_any (fun n s' => ∃ i H', Inv (X.blk s3 H3 scope ce fp) [] (wipe σ (own.map (·.2))) H' s' ∧ tn i s'.heap ∧ (∀ b ∈ fp, H' b = none) ∧ W i n H') ?_ m0 ⟨0, H3, I4, st4, nfp, w0⟩
    rintro n s5 ⟨i, H5, I5, st5, n5, w5⟩
    rcases turn i n H5 w5 with ⟨stop, qq⟩ | ⟨go, Nx, hNx, step⟩
    · refine thnF (T.done (X.blk s3 H3 scope ce fp) rfl rfl rfl hc i [] s5 _ H5 (fun _ _ => False) I5 (fOk I5 n5) st5 stop) fun r s6 ⟨hr, I6⟩ => ?_
      subst hr
      obtain ⟨I7, nC, m, hn⟩ := back I6
      obtain ⟨y0, y1, _, y3, y4, y5⟩ := fC nC
      rw [← cL] at hn y0 y1 y3 y4 y5
      exact ⟨m, hn, fun h'' sb => ⟨.ref D, H5, I7.turned (t' := s6.toks) (fun b o hb e => (sb.2 b hb).trans e) y0 y1 y3 y4 y5, rfl, qq⟩⟩
    · refine thnF (T.item (X.blk s3 H3 scope ce fp) rfl rfl rfl hc i [] s5 _ H5 (fun _ _ => False) I5 (fOk I5 n5) st5 go) fun r s6 ⟨u, hr, h6⟩ => ?_
      subst hr
      refine thnF h6 fun _ s7 ⟨x, H7, I7, r7, y7, st7, n7⟩ => ?_
      refine thnF (pg.run _ s7 _ H7 x u _ (I7.pinned (fOk I7 n7) (T.obj _ _ st7)) r7 (step x H7 y7)) fun _ s8 ⟨σ8, H8, I8, hw8, q8⟩ => thnF (pt.run _ s8 σ8 H8 _ I8 q8) fun b s9 ⟨H9, I9, q9⟩ => ?_
      have fin : ∀ {s' : Shared} {H' : Hp}, Inv (X.blk s3 H3 scope ce fp) ([] ++ pinsAt fp s7.heap) σ8 H' s' → Nx H' → ∃ m, m < n ∧ ∃ i H', Inv (X.blk s3 H3 scope ce fp) [] (wipe σ (own.map (·.2))) H' s' ∧ tn i s'.heap ∧ (∀ b ∈ fp, H' b = none) ∧ W i m H' := fun {s' H'} I' nx => by
        obtain ⟨m', hm, w'⟩ := hNx H' nx
        have pin' : ∀ b ∈ fp, ∀ o, s7.heap.get? b = some o → s'.heap.get? b = some o ∧ H' b = none := fun b hb o e => let z := I'.pin (b, o) (List.mem_append_right _ (List.mem_append_right _ (mem_pinsAt hb e))); ⟨z.1, z.2.1⟩
        refine ⟨m', hm, i + 1, H', (I'.unpinned (pins := [])).weak (by rw [← hw8, wipe_length]) (fun j v e => ?_), T.keep _ _ _ st7 fun b hb o e => (pin' b hb o e).1, fun b hb => let ⟨o, e, _⟩ := T.obj _ _ st7 b hb; (pin' b hb o e).2, w'⟩
        rw [← hw8] at e
        exact (wipe_some e).1
      cases b with
      | false =>
        simp only [Bool.false_eq_true, if_false] at q9 ⊢
        exact fin I9 q9
      | true =>
        simp only [if_true] at q9 ⊢
        refine thn (pe.run _ s9 σ8 H9 _ (I9.wish _) q9) fun z s10 ⟨yv, H10, I10, r10, acc, hD10, hz10, nx⟩ => ?_
        exact app_ok (X := X.blk s3 H3 scope ce fp) I10.unwish hD10 hz10 r10 fun s11 I11 => fin I11 nx
  exact codeAny_compStart_list loop (T.self X.A 0 _ _ _ st4 loop)
/-- [elt for tg in iter if ..] where elt's calls may let out what the def lets out -/
theorem pe_lcX {elt tg iter : Expr} {ifs : List Expr} {scope : Scope} {own : List (Str × Nat)} {pos : Pos} {wi : TI} {g : TG} {tt : TT} {te : TE}
    (hs : X.stack = X.env :: X.outer) (hf : X.env.frame = some X.env.locals) (tk : Takes X fun cls d _ H => EE cls d H) (hc : X.calm = true) (hN : X.N.Nodup) (hi : PI X tg iter wi) (ok : BlkOk X.N X.env.scope scope own)
    (hg : ∀ (s : Shared) (H : Hp) (C : Addr) (cl : List (Str × Addr)) (fp : List Addr), PG (X.blk s H scope (compEnvC scope cl C X.env) fp) tg g)
    (ht : ∀ (s : Shared) (H : Hp) (C : Addr) (cl : List (Str × Addr)) (fp : List Addr), PTs (X.blk s H scope (compEnvC scope cl C X.env) fp) ifs tt)
    (he : ∀ (s : Shared) (H : Hp) (C : Addr) (cl : List (Str × Addr)) (fp : List Addr) (xe : Value → Shared → Prop), Passes (L2.CX X.prog X.w) (blkX X s H scope cl C fp xe) EE → PE (blkX X s H scope cl C fp xe) elt te)
    (hit : ∀ x, foldedSetIterable iter X.env x = pure x := by intro _; rfl) : PE X (.ListComp elt [⟨tg, iter, ifs, 0⟩] scope pos) (tLc wi g tt te (own.map (·.2))) := by
  refine ⟨fun pins s σ H Q I h => ?_⟩
  rw [eval_ListComp]
  exact lcX_run hs hf tk hc hN I hi ok hg ht he hit h
end
end S9
end

section
set_option Elab.async false
set_option linter.all false
set_option maxRecDepth 100000
set_option maxHeartbeats 4000000
/-! S3Lam: lambdas as values (one default or none), kept in lists, called from within another lambda that a def was given. -/
namespace S9
open PySem PySem.Spec PyProof.Rows L2 LamX NdefX
/-! ### the function value -/
structure LF where
  qual : Str
  params : Arguments
  body : Expr
  scope : Scope
  cl : List (Str × Addr)
  c : Addr
  dv : Value
abbrev LF.fd (F : LF) (doc pm ctv : Value) : FuncData := PySem.W.kdv_fn "<lambda>" F.qual F.params (.expr F.body) F.scope F.cl F.dv doc pm (.ref F.c) ctv
/-- what Nested's rules of a frame ask of it -/
abbrev LF.nf (F : LF) : NF := ⟨"<lambda>", F.qual, F.params, [], F.scope, F.cl, F.c⟩
/-- at f stands F -/
def LamO (f : Addr) (F : LF) : HO := .ext fun h => ∃ doc pm ctv : Value, h.get? f = some ({ cls := .type "function", data := .func (F.fd doc pm ctv) } : Obj)
theorem lamO_ne {f : Addr} {F : LF} (ps : Array Value) : LamO f F ≠ .tbl ps := fun z => by
  unfold LamO at z
  cases z
theorem lamO_at {P : Program} {w : World} {H : Hp} {h : Heap} {f : Addr} {F : LF} (hok : HOk P w H h) (e : H f = some (LamO f F)) : ∃ doc pm ctv : Value, h.get? f = some ({ cls := .type "function", data := .func (F.fd doc pm ctv) } : Obj) := by
  obtain ⟨z, _, _⟩ := hok f _ e
  exact z
/-- what its defaults are -/
def DvO (dv : Value) (ds : List V) (H : Hp) : Prop := (dv = .none ∧ ds = []) ∨ ∃ T : Addr, dv = .ref T ∧ H T = some (.tup ds)
section
variable {X : Cx} {pins : List (Addr × Obj)} {σ : L2.St} {H : Hp} {s : Shared}
theorem inv_lam {F : LF} {o : Obj} {tk : Nat} {doc pm ctv : Value} (I : Inv X pins σ H s) (ho : o = { cls := .type "function", data := .func (F.fd doc pm ctv) }) :
    Inv X pins σ (upd H s.heap.objs.size (LamO s.heap.objs.size F)) { s with heap := s.heap.push o, toks := tk } := by
  cases ho
  have e : (s.heap.push ({ cls := .type "function", data := .func (F.fd doc pm ctv) } : Obj)).get? s.heap.objs.size = some _ := Heap.get?_push_size _ rfl
  exact I.laid (fun b u q => Heap.get?_push_of_some _ q) (Nat.le_refl _) ⟨⟨doc, pm, ctv, e⟩, ⟨_, e⟩, fun h1 h2 ⟨d, p, t, z⟩ st => ⟨d, p, t, st _ z⟩⟩
/-- what a lambda's making leaves -/
structure LMade (X : Cx) (T : List (Addr × Str)) (H H1 : Hp) (f : Addr) (F : LF) : Prop where
  ext : ExtN H H1
  was : ∀ b, H1 b = none → H b = none
  tabs : Tabs T H1
  new : H f = none
  at_ : H1 f = some (LamO f F)
  co : H1 F.c = some (CodeO F.c F.qual)
/-- a lambda's last making: the defaults stand already -/
theorem lam_tail {T : List (Addr × Str)} {c P : Addr} {params : Arguments} {body : Expr} {scope : Scope} {pos : Pos} {dV : Value} {E : Value → Shared → Prop} {Q : Value → Shared → Prop} (I : Inv X pins σ H s) (TB : TabB X.base X.mg c P) (hcode : X.env.code = .ref c)
    (hm : (P, X.env.qual ++ "<lambda>") ∈ T) (hu : ∀ p ∈ T, p.1 = P → p.2 = X.env.qual ++ "<lambda>") (hT : Tabs T H) (hfree : ∀ y ∈ scope.names, y.2 = .free → ∃ c, X.env.cells.lookup y.1 = some c)
    (h : ∀ (f c' : Addr) (H1 : Hp) (s' : Shared), Inv X pins σ H1 s' → LMade X T H H1 f ⟨X.env.qual ++ "<lambda>", params, body, scope, cloFrom X.env.cells scope.names [], c', dV⟩ → Q (.ref f) s') :
    wpAny (model X.prog X.w) X.A (makeTail "<lambda>" (X.env.qual ++ "<lambda>") params (.expr body) scope X.env dV .none none pos pos.line) Q E s := by
  obtain ⟨ps, hP, ht, ha⟩ := hT _ hm
  have bP : s.heap.BuiltinsAt X.mg P := TB.bm.keeps I.bk
  have oP : s.heap.get? P = some { cls := .none, data := .fields ps } := I.hok P _ hP
  cases hc : codeAmong pos ps.toList with
  | some cv =>
    obtain ⟨c', rfl, hco⟩ := ha pos cv hc
    refine PySem.W.kdv_makeTailHit (mg := X.mg) (c := c) (P := P) (ps := ps) (closure_ok hfree) I.ok.glob (I.mod.glob.keeps I.bk) hcode (TB.code.keeps I.bk) oP ht hc bP fun ctv doc h' tk hx _ => ?_
    have J : Inv X pins σ H { s with heap := h', toks := tk } := I.kept hx
    have n0 : H h'.objs.size = none := J.hok.fresh (Nat.le_refl _)
    have J2 := inv_lam (F := ⟨X.env.qual ++ "<lambda>", params, body, scope, cloFrom X.env.cells scope.names [], c', dV⟩) (doc := doc) (pm := (X.mg "__name__").getD .none) (ctv := ctv) (tk := tk) J rfl
    have st : ∀ b o, H b = some o → upd H h'.objs.size (LamO h'.objs.size ⟨X.env.qual ++ "<lambda>", params, body, scope, cloFrom X.env.cells scope.names [], c', dV⟩) b = some o := fun b o e => (upd_ne (ne_of_none e n0)).trans e
    exact h _ c' _ _ J2 ⟨ExtN.of st, fun b e => upd_none e, hT.ext st, n0, upd_same, st _ _ hco⟩
  | none =>
    refine PySem.W.kdv_makeTail (mg := X.mg) (c := c) (P := P) (ps := ps) (closure_ok hfree) I.ok.glob (I.mod.glob.keeps I.bk) hcode (TB.code.keeps I.bk) oP ht hc TB.gP bP fun c' ctv doc h' tk hx hge hlt hrec htb => ?_
    obtain ⟨c2, oc, vs, t, e2, hoc, hd, hv⟩ := hrec
    cases e2
    have nC : H c' = none := I.hok.fresh hge
    have J := inv_table (t' := tk) (h' := h') (more := #[rawInt pos.line, rawInt pos.col, .ref c']) I hP (fun b o hb e => hx b o hb e) htb hge ⟨oc, vs, t, hoc, hd, hv⟩
    have nS := J.hok.fresh (Nat.le_refl _)
    have J2 := inv_lam (F := ⟨X.env.qual ++ "<lambda>", params, body, scope, cloFrom X.env.cells scope.names [], c', dV⟩) (doc := doc) (pm := (X.mg "__name__").getD .none) (ctv := ctv) (tk := tk) J rfl
    have a1 : ExtN H (upd (upd H P (.tbl (ps ++ #[rawInt pos.line, rawInt pos.col, .ref c']))) c' (CodeO c' (X.env.qual ++ "<lambda>"))) := fun b o e n => by
      have hb : b ≠ P := fun z => by
        rw [z, hP] at e
        exact n ps (Option.some.inj e).symm
      rw [upd_ne (ne_of_none e nC), upd_ne hb]
      exact e
    have lp : (ps ++ #[rawInt pos.line, rawInt pos.col, .ref c']).toList = ps.toList ++ [rawInt pos.line, rawInt pos.col, .ref c'] := by simp
    have t1 : Tabs T (upd (upd H P (.tbl (ps ++ #[rawInt pos.line, rawInt pos.col, .ref c']))) c' (CodeO c' (X.env.qual ++ "<lambda>"))) := by
      intro q hq
      by_cases hb : q.1 = P
      · refine ⟨ps ++ #[rawInt pos.line, rawInt pos.col, .ref c'], ?_, ?_, ?_⟩
        · rw [hb, upd_ne (ne_of_none hP nC), upd_same]
        · rw [lp]
          exact PySem.TriplesOk_snoc _ _ _ _ ht
        · intro p' cv hcv
          rw [lp] at hcv
          rw [hu q hq hb]
          rcases among_app _ ht hcv with z | z
          · obtain ⟨c0, e1, e2⟩ := ha p' cv z
            exact ⟨c0, e1, a1 _ _ e2 codeO_ne⟩
          · exact ⟨c', z, upd_same⟩
      · obtain ⟨qs, b1, b2, b3⟩ := hT q hq
        refine ⟨qs, ?_, b2, ?_⟩
        · rw [upd_ne (ne_of_none b1 nC), upd_ne hb]
          exact b1
        · intro p' cv hcv
          obtain ⟨c0, e1, e2⟩ := b3 p' cv hcv
          exact ⟨c0, e1, a1 _ _ e2 codeO_ne⟩
    have st : ∀ b o, upd (upd H P (.tbl (ps ++ #[rawInt pos.line, rawInt pos.col, .ref c']))) c' (CodeO c' (X.env.qual ++ "<lambda>")) b = some o → upd (upd (upd H P (.tbl (ps ++ #[rawInt pos.line, rawInt pos.col, .ref c']))) c' (CodeO c' (X.env.qual ++ "<lambda>"))) h'.objs.size (LamO h'.objs.size ⟨X.env.qual ++ "<lambda>", params, body, scope, cloFrom X.env.cells scope.names [], c', dV⟩) b = some o :=
      fun b o e => (upd_ne (ne_of_none e nS)).trans e
    exact h _ c' _ _ J2 ⟨a1.trans (ExtN.of st), fun b e => upd_none (upd_none (upd_none e)), t1.ext st, I.hok.fresh (Nat.le_trans hge (Nat.le_of_lt hlt)), upd_same, st _ _ upd_same⟩
end
/-! ### lambda .., lambda x, y=e: .. -/
/-- a new function value; mk: its words, from its code object -/
def tLam0 (X : Cx) (T : List (Addr × Str)) (mk : Addr → Value → LF) : TE := fun _ H Q => Tabs T H ∧ ∀ (f c' : Addr) (H1 : Hp), LMade X T H H1 f (mk c' .none) → Q (.ref f) H1
/-- .. with one default -/
def tLam1 (X : Cx) (T : List (Addr × Str)) (mk : Addr → Value → LF) (te : TE) : TE := fun σ H Q => te σ H fun v H1 => Tabs T H1 ∧ ∀ (t f c' : Addr) (H2 : Hp), H1 t = none → LMade X T (upd H1 t (.tup [v])) H2 f (mk c' (.ref t)) → Q (.ref f) H2
section
variable {X : Cx} {T : List (Addr × Str)} {c P : Addr} {params : Arguments} {body e : Expr} {scope : Scope} {pos : Pos} {te : TE}
abbrev lfOf (X : Cx) (params : Arguments) (body : Expr) (scope : Scope) : Addr → Value → LF := fun c' dv => ⟨X.env.qual ++ "<lambda>", params, body, scope, cloFrom X.env.cells scope.names [], c', dv⟩
theorem free_has (hfree : ∀ y ∈ scope.names, y.2 = .free → X.env.scope.names.lookup y.1 = some .cell ∨ X.env.scope.names.lookup y.1 = some .free) (ok : X.Ok) : ∀ y ∈ scope.names, y.2 = .free → ∃ c, X.env.cells.lookup y.1 = some c :=
  fun y hy q => (hfree y hy q).elim (fun z => ok.has _ (.inl z)) fun z => ok.has _ (.inr z)
theorem pe_lam0 (TB : TabB X.base X.mg c P) (hcode : X.env.code = .ref c) (hm : (P, X.env.qual ++ "<lambda>") ∈ T) (hu : ∀ p ∈ T, p.1 = P → p.2 = X.env.qual ++ "<lambda>")
    (hfree : ∀ y ∈ scope.names, y.2 = .free → X.env.scope.names.lookup y.1 = some .cell ∨ X.env.scope.names.lookup y.1 = some .free) (hdef : defaultsOf params X.env = ([], [])) : PE X (.Lambda params body scope pos) (tLam0 X T (lfOf X params body scope)) := by
  refine ⟨fun pins s σ H Q I h => ?_⟩
  refine PySem.W.kla_eval hdef ?_
  rw [makeFunction_eq]
  simp only [List.zip_nil_right, List.filterMap_nil, List.isEmpty_nil, if_true, pure_bind]
  exact lam_tail I TB hcode hm hu h.1 (free_has hfree I.ok) fun f c' H1 s' I1 M => ⟨.ref f, H1, I1, rfl, h.2 f c' H1 M⟩
theorem pe_lam1 (TB : TabB X.base X.mg c P) (hcode : X.env.code = .ref c) (hm : (P, X.env.qual ++ "<lambda>") ∈ T) (hu : ∀ p ∈ T, p.1 = P → p.2 = X.env.qual ++ "<lambda>")
    (hfree : ∀ y ∈ scope.names, y.2 = .free → X.env.scope.names.lookup y.1 = some .cell ∨ X.env.scope.names.lookup y.1 = some .free) (hd : params.defaults = [e]) (hk : params.kw_defaults = []) (he : PE X e te) : PE X (.Lambda params body scope pos) (tLam1 X T (lfOf X params body scope) te) := by
  refine ⟨fun pins s σ H Q I h => ?_⟩
  refine PySem.W.kdv_lam (by rw [hd]; rfl) hk ?_
  rw [hd]
  refine PySem.W.kdv_all1 (thn (he.run pins s σ H _ I h) fun u s1 ⟨v, H1, I1, r, hT, q⟩ => PySem.W.kdv_all0 ?_)
  rw [makeFunction_eq]
  simp only [List.zip_nil_right, List.filterMap_nil, List.isEmpty_nil, List.isEmpty_cons, Bool.false_eq_true, if_false, if_true, pure_bind]
  have n0 : H1 s1.heap.objs.size = none := I1.hok.fresh (Nat.le_refl _)
  have st : ∀ b o, H1 b = some o → upd H1 s1.heap.objs.size (.tup [v]) b = some o := fun b o e => (upd_ne (ne_of_none e n0)).trans e
  refine wpAny_bind (wpAny_newTextTuple ?_)
  have J := I1.laid (t' := s1.toks) (a := s1.heap.objs.size) (o := .tup [v]) (fun b ob q => Heap.get?_push_of_some ({ cls := .type "tuple", data := .seq [u].toArray } : Obj) q) (Nat.le_refl _) ?_
  · exact lam_tail J TB hcode hm hu (hT.ext st) (free_has hfree I1.ok) fun f c' H2 s' I2 M => ⟨.ref f, H2, I2, rfl, q _ f c' H2 n0 M⟩
  · exact ⟨by show 1 ≤ sizeLine; decide, [u], .cons r .nil, ⟨_, Heap.get?_push_size _ rfl, rfl, _, rfl⟩⟩
end
/-! ### what it promises -/
/-- the cells hold still what they held -/
theorem cells_un {cl : List (Str × Addr)} {fr : List Str} {ws : List (Option V)} {fs ex : List Addr} {H H' : Hp} {h h' : Heap} (C : CellsAt cl fr ws h H) (u : Un fs ex H H' h h') (hx : ∀ y c, cl.lookup y = some c → c ∉ ex) : CellsAt cl fr ws h' H' := by
  have go : ∀ y c v, cl.lookup y = some c → h.IsCell c v → h'.IsCell c v := fun y c v e ⟨o, ho, hd⟩ => by
    obtain ⟨sl, q⟩ := u.any ho (C.all y c e).1 (hx y c e)
    exact ⟨_, q, hd⟩
  refine ⟨C.len, fun y c e => ?_, C.inj, fun i y e => ?_⟩
  · obtain ⟨n, v, z⟩ := C.all y c e
    obtain ⟨o, ho, _⟩ := id z
    exact ⟨u.free c o ho n (hx y c e), v, go y c v e z⟩
  · obtain ⟨c, e1, e2⟩ := C.has i y e
    exact ⟨c, e1, fun v q => let ⟨w', r, z⟩ := e2 v q; ⟨w', r, go y c _ e1 z⟩⟩
/-- F at f, called so, keeps sp; ws: what its cells hold, ds: its defaults -/
structure LOk (P : Program) (w : World) (K : PySem.W.Frag) (mg : Str → Option Value) (base : Heap) (CX : CXT) (k : Nat) (f : Addr) (F : LF) (n : Nat) (ds : List V) (fr : List Str) (sp : List (Option V) → Sp) : Prop where
  len : ∀ ws vs H Q E, sp ws vs H Q E → vs.length = n
  run : ∀ (A : Around) (outer : List Env) (s : Shared) (H : Hp) (us : List Value) (vs : List V) (ws : List (Option V)) (Q : VK) (E : XK), Room k A → Env0 P w K mg base A outer s H → H f = some (LamO f F) → H F.c = some (CodeO F.c F.qual) → DvO F.dv ds H →
    CellsAt F.cl fr ws s.heap H → Vals vs us → sp ws vs H Q E → codeAny (model P w) A (.call (.ref f) ⟨us, []⟩) (CR CX outer P w H s Q E) s
section
variable {CX : CXT} {P : Program} {w : World} {K : PySem.W.Frag} {mg : Str → Option Value} {base : Heap} {N ps fr : List Str} {F : LF} {f : Addr} {k j n : Nat} {ds : List V} {sp sp' : List (Option V) → Sp}
theorem LOk.mono (o : LOk P w K mg base CX j f F n ds fr sp) (h : j ≤ k) : LOk P w K mg base CX k f F n ds fr sp := ⟨o.len, fun A outer s H us vs ws Q E hr => o.run A outer s H us vs ws Q E (hr.mono h)⟩
/-- how its parameters are bound -/
def LBinds (F : LF) (ps : List Str) (n : Nat) (ds : List V) : Prop := ∀ (doc pm ctv : Value) (s : Shared) (H : Hp) (P : Program) (w : World), HOk P w H s.heap → DvO F.dv ds H → ∃ its : List Value, Vals ds its ∧ ∀ us : List Value, us.length = n → BindsTo s (F.fd doc pm ctv) ⟨us, []⟩ (ps.zip (us ++ its))
theorem lbinds0 (h : ∀ (doc pm ctv : Value) (us : List Value), us.length = n → bindArgs (F.fd doc pm ctv) ⟨us, []⟩ = pure (ps.zip us)) : LBinds F ps n [] := fun doc pm ctv s H P w hok hd => by
  refine ⟨[], .nil, fun us hl => ?_⟩
  rw [List.append_nil]
  exact .of_eq (h doc pm ctv us hl)
theorem lbinds1 {T : Addr} {d : V} (hT : F.dv = .ref T) (h : ∀ (doc pm ctv : Value) (us its : List Value), us.length = n → its.length = 1 → ∃ k, bindArgs (F.fd doc pm ctv) ⟨us, []⟩ = seqItems? (F.fd doc pm ctv).defaults >>= k ∧ k (some its.toArray) = pure (ps.zip (us ++ its))) : LBinds F ps n [d] := fun doc pm ctv s H P w hok hd => by
  rcases hd with ⟨e, _⟩ | ⟨T', e, hT'⟩
  · rw [hT] at e
    cases e
  · obtain ⟨_, its, r, o, ho, _, m, hs⟩ := hok T' _ hT'
    refine ⟨its, r, fun us hl => ?_⟩
    obtain ⟨k, h1, h2⟩ := h doc pm ctv us its hl r.length.symm
    exact BindsTo.of_defaults (fd := F.fd doc pm ctv) e ho hs h1 h2
/-- THE RULE: a lambda by its body -/
theorem lok_of (S : NScope N ps fr F.scope) (hb : LBinds F ps n ds) (hn : n + ds.length = ps.length) (len : ∀ ws vs H Q E, sp ws vs H Q E → vs.length = n)
    (hbody : ∀ (A : Around) (outer : List Env) (s : Shared) (H : Hp) (vs : List V) (ws : List (Option V)) (Q : VK) (E : XK), Room k (A.deeper (envF F.nf f s.heap.objs.size)) → ws.length = fr.length → sp ws vs H Q E →
      ∃ t, PE (ncx CX P w K mg base N F.nf f A outer s H E) F.body t ∧ t (startF N (vs ++ ds) ws) H Q) :
    LOk P w K mg base CX (k + 1) f F n ds fr sp := by
  refine ⟨len, fun A outer s H us vs ws Q E hr e0 hf hc hD C r hsp => ?_⟩
  have hl := len _ _ _ _ _ hsp
  have lim : s.heap.NoLimit := e0.mod.nolimit.keeps fun b o e => (e0.bs b o e).1
  obtain ⟨doc, pm, ctv, ho⟩ := lamO_at e0.hok hf
  obtain ⟨its, rd, bt⟩ := hb doc pm ctv s H P w e0.hok hD
  have rv := r.append rd
  have hl2 : (vs ++ ds).length = ps.length := by rw [List.length_append, hl, hn]
  refine PySem.W.kla_callFunE (fd := F.fd doc pm ctv) hr.depth ho rfl S.co S.gen rfl (codeO_at e0.hok hc) ?_
  refine bt us (by rw [← r.length]; exact hl) _ _ _ _ ?_
  refine wpAny_newFunctionEnv S.nocell (fun ⟨m, _⟩ hy => S.par m (List.of_mem_zip hy).1) (fun h₁ hns hsb => ⟨lim.fresh _ hsb, ?_⟩) S.kind
  show codeAny _ _ (.expr F.body (envF F.nf f s.heap.objs.size)) _ _
  have kp : ∀ b o, s.heap.get? b = some o → h₁.get? b = some o := fun b o e => hsb.extBut b o (Nat.ne_of_lt (Heap.lt_size e)) (Heap.get?_push_of_some _ e)
  obtain ⟨t, ht, hq⟩ := hbody A outer s H vs ws Q E (hr.deeper _) C.len hsp
  have I : Inv (ncx CX P w K mg base N F.nf f A outer s H E) [] (startF N (vs ++ ds) ws) H { s with heap := h₁, toks := s.toks + (ps.zip (us ++ its)).length } := inv_startN (F := F.nf) S hr.hd e0 hl2 rv C hns kp
  refine PySem.W.kla_codeExpr (wpAny_mono (ht.run [] _ _ H Q I hq) (fun u s' hs => ?_) fun e s' hs => hs)
  obtain ⟨v, H', J, rv', q⟩ := hs
  exact ⟨v, H', J.os, J.bare, J.base, J.hok, rv', q⟩
end
/-! ### calls of such a value, through a captured name -/
/-- x(..), slot i holds a lambda whose cells are among those that Cp tells of (their names' slots are js, σ₀ what stood in them) -/
def tCallL (X : Cx) (CX : CXT) (Cp : List (Str × Addr) → List Str → List Nat → Prop) (σ₀ : L2.St) (i k : Nat) (E : XK) (t : TA) : TE := fun σ H Q => ∃ f F n ds fr js sp, σ[i]? = some (some (.ref f)) ∧ H f = some (LamO f F) ∧ Cp F.cl fr js ∧ LOk X.prog X.w X.K X.mg X.base CX k f F n ds fr sp ∧
  t σ H fun vs H1 => H1 f = some (LamO f F) ∧ H1 F.c = some (CodeO F.c F.qual) ∧ DvO F.dv ds H1 ∧ sp (js.map (slotAt σ₀)) vs H1 Q E
section
variable {X : Cx} {CX : CXT} {Cp : List (Str × Addr) → List Str → List Nat → Prop} {σ₀ : L2.St} {i j k : Nat} {x : Str} {E : XK} {t : TA} {e : Expr} {es : List Expr} {p pos : Pos}
theorem pe_callL (hC : ∀ cl fr js, Cp cl fr js → CellsAt cl fr (js.map (slotAt σ₀)) X.s_0.heap X.H_0) (hex : X.ex = []) (hr : Room j X.A) (hk : k ≤ j) (hx : Passes CX X E) (hN : X.N[i]? = some x) (hv : Vis X.env.scope x) (ha : PA X (e :: es) t)
    (hd : (x == ("__debug__" : Str)) = false := by decide) (hcd : (x == ("__classdict__" : Str)) = false := by decide)
    (he : starEach (e :: es) X.env = (false, eval e X.env) :: starEach es X.env := by rfl) (hpl : (backTo pos (starEach es X.env)).any (·.1) = false := by rfl) :
    PE X (.Call (.Name x p) (e :: es) [] pos) (tCallL X CX Cp σ₀ i k E t) := by
  refine ⟨fun pins s σ H Q I h => ?_⟩
  obtain ⟨f, F, n, ds, fr, js, sp, hs, hf, hcp, Fn, ht⟩ := h
  refine wpAny_Call_Name_kw (thn ((pe_var (pos := p) hN hv hd hcd).run pins s σ H (fun v H1 => v = .ref f ∧ H1 = H) I ⟨.ref f, hs, rfl, rfl⟩) fun u s1 ⟨v, H1, I1, r1, q1⟩ => ?_)
  obtain ⟨rfl, rfl⟩ := q1
  obtain rfl : u = Value.ref f := r1
  have fa : ∀ {H2 : Hp} {s2 : Shared}, Inv X pins σ H2 s2 → H2 f = some (LamO f F) → PySem.W.FnAt f s2.heap := fun I2 e2 => by
    obtain ⟨d, pm, ct, ho⟩ := lamO_at I2.hok e2
    exact ⟨_, _, _, _, ho⟩
  refine PySem.W.callWith_F (first := []) (fa I1 hf) (thn (ha.run pos pins s1 σ _ _ I1 ht) fun us s2 ⟨vs, H2, I2, r, h1, h2, h3, q⟩ => ⟨fa I2 h1, ?_⟩) he hpl
  show wpAny _ _ (call (.ref f) us) _ _ _
  have cells := cells_un (hC _ _ _ hcp) I2.base (fun y c _ => by rw [hex]; exact fun z => nomatch z)
  refine wpAny_call (codeAny_mono (Fn.run X.A X.stack s2 H2 us vs _ Q E (hr.mono hk) I2.env0 h1 h2 h3 cells r q) fun r s' hq => ?_)
  cases r with
  | error e => exact hx pins σ _ s2 e s' I2 hq
  | ok fl =>
    cases fl with
    | ret u => exact I2.after hq
    | next => exact False.elim hq
    | brk => exact False.elim hq
    | cont => exact False.elim hq
end
/-! ### a lambda handed to a def, its body told what the maker's cells hold -/
/-- of the maker X: the cells of cl are X's, its names fr stand in the slots js -/
abbrev OwnCaps (X : Cx) : List (Str × Addr) → List Str → List Nat → Prop := fun cl fr js => X.Ok → Caps X cl fr js
section
variable {X : Cx} {pins : List (Addr × Obj)} {σ : L2.St} {H : Hp} {s : Shared}
theorem pe_actC {CXg : CXT} {Eg : XK} {Ng : List Str} {qg : Str} {sg : Scope} {g f c' : Addr} {cdg pm ctv : Value} {params : Arguments} {body : Expr} {scope : Scope} {k i : Nat} {a : Str} {pn : List (Addr × Obj)} {xe : Value → Shared → Prop} {W : WX} {tb : XK → TE} {p1 p2 : Pos}
    (I : Inv X pins σ H s) (hex : X.ex = []) (L : LamS X.env.scope scope) (hf : s.heap.get? f = some (PySem.W.kla_obj "<lambda>" (X.env.qual ++ "<lambda>") params body scope (cloFrom X.env.cells scope.names []) pm c' ctv)) (hfn : H f = none) (hfr : f ∉ frs X.stack)
    (hbind : bindArgs (PySem.W.kla_fn "<lambda>" (X.env.qual ++ "<lambda>") params body scope (cloFrom X.env.cells scope.names []) pm (.ref c') ctv) ⟨[], []⟩ = pure [])
    (tk : Takes ((cxOf CXg X.prog X.w X.K X.mg X.base Ng qg sg g cdg X.A X.stack s H Eg).tr pn xe) W) (hr : Room (k + 1) (X.A.deeper (envOfC qg sg s.heap.objs.size g cdg)))
    (hbody : ∀ (E : XK) (A : Around) (outer : List Env) (s : Shared) (H : Hp), Room k (A.deeper (lamEnv X scope s.heap.objs.size f c')) → (∀ cl fr js, OwnCaps X cl fr js → CellsAt cl fr (js.map (slotAt σ)) s.heap H) → PE (lamCx X A outer s H E scope f c') body (tb E))
    (hN : Ng[i]? = some a) (hv : Vis sg a) (hd : (a == ("__debug__" : Str)) = false := by decide) (hcd : (a == ("__classdict__" : Str)) = false := by decide) :
    PE ((cxOf CXg X.prog X.w X.K X.mg X.base Ng qg sg g cdg X.A X.stack s H Eg).tr pn xe) (.Call (.Name a p1) [] [] p2)
      (fun σZ HZ Q => σZ[i]? = some (some (.ref f)) ∧ HZ c' = some (CodeO c' (X.env.qual ++ "<lambda>")) ∧ ∃ E : XK, (∀ cls d H', E cls d H' → W cls d σZ H') ∧ tb E σ HZ Q) := by
  refine ⟨fun pinsZ sZ σZ HZ Q IZ h => ?_⟩
  obtain ⟨h1, h2, E, hW, h3⟩ := h
  refine wpAny_Call_Name_kw (thn ((pe_var (pos := p1) (i := i) hN hv hd hcd).run pinsZ sZ σZ HZ (fun v H1 => v = .ref f ∧ H1 = HZ) IZ ⟨.ref f, h1, rfl, rfl⟩) fun u s1 ⟨v, H1, I1, r1, q1⟩ => ?_)
  obtain ⟨rfl, rfl⟩ := q1
  obtain rfl : u = Value.ref f := r1
  have un : Un (frs X.stack) [] H H1 s.heap s1.heap := I1.base
  have of1 := un.keep f _ hf hfn hfr (fun z => nomatch z)
  refine PySem.W.callWith_F0 ⟨_, _, _, _, of1⟩ ?_
  have cells : ∀ cl fr js, OwnCaps X cl fr js → CellsAt cl fr (js.map (slotAt σ)) s1.heap H1 := fun cl fr js cp => cells_un (cells_of I (cp I.ok)) un fun _ _ _ z => nomatch z
  refine wpAny_call (codeAny_mono (?_ : codeAny (model X.prog X.w) (X.A.deeper (envOfC qg sg s.heap.objs.size g cdg)) (.call (.ref f) ⟨[], []⟩) (CR (L2.CX X.prog X.w) (envOfC qg sg s.heap.objs.size g cdg :: X.stack) X.prog X.w H1 s1 Q E) s1) fun r s' hq => ?_)
  · refine PySem.W.kla_callFunE hr.depth of1 rfl L.co L.gen rfl (codeO_at I1.hok h2) ?_
    rw [hbind]
    refine wpAny_pure (wpAny_newFunctionEnv (fun y hy => (L.own y hy).2) (fun y hy => absurd hy (by simp)) (fun h₁ hns hsb => ⟨I1.nolimit.fresh _ hsb, ?_⟩) L.kind)
    have J := lam_start2 (E := E) (f := f) (c' := c') (tk := s1.toks + ([] : List (Str × Value)).length) I L I1.env0 hr.hd un hns fun b o e => hsb.extBut b o (Nat.ne_of_lt (Heap.lt_size e)) (Heap.get?_push_of_some _ e)
    refine PySem.W.kla_codeExpr (wpAny_mono ((hbody E _ _ s1 H1 (hr.deeper _) cells).run [] _ _ H1 Q J h3) (fun v s' ⟨v', H', J', rv, q⟩ => ?_) fun e s' hq => hq)
    exact ⟨v', H', J'.os, J'.bare, J'.base, J'.hok, rv, q⟩
  · cases r with
    | error e => exact tk e s' (XE.of_call I1 (fun cls d H' y => hW cls d H' y) hq)
    | ok fl =>
      cases fl with
      | ret u => exact I1.after hq
      | next => exact False.elim hq
      | brk => exact False.elim hq
      | cont => exact False.elim hq
end
/-- the def that calls what it got (in slot 0): TT, what it makes of the lambda's reading -/
def GivesAt (X : Cx) (Ng : List Str) (x : Str) (sg : Scope) (g : Addr) (cdg : Value) (bg : List Stmt) (a : Str) (q : Str) (TT : (XK → Hp → VK → Prop) → Hp → VK → Prop) : Prop :=
  ∀ (f c' : Addr) (s : Shared) (H : Hp) (Q : VK) (tl : XK → Hp → VK → Prop),
    (∀ (W : WX) (pn : List (Addr × Obj)) (xe : Value → Shared → Prop) (p1 p2 : Pos), Takes ((cxOf C8.CX0 X.prog X.w X.K X.mg X.base Ng x sg g cdg X.A X.stack s H C8.E0).tr pn xe) W →
      PE ((cxOf C8.CX0 X.prog X.w X.K X.mg X.base Ng x sg g cdg X.A X.stack s H C8.E0).tr pn xe) (.Call (.Name a p1) [] [] p2) (fun σZ HZ Q => σZ[0]? = some (some (.ref f)) ∧ HZ c' = some (CodeO c' q) ∧ ∃ E : XK, (∀ cls d H', E cls d H' → W cls d σZ H') ∧ tl E HZ Q)) →
    H c' = some (CodeO c' q) → TT tl H Q →
    ∃ t, PSs (cxOf C8.CX0 X.prog X.w X.K X.mg X.base Ng x sg g cdg X.A X.stack s H C8.E0).nox bg t ∧ t { nx := fun _ H' => Q .non H', rt := Q } (L2.start Ng [.ref f]) H
def tLamC (T : List (Addr × Str)) (TT : (XK → Hp → VK → Prop) → Hp → VK → Prop) (t : L2.St → XK → TE) : TE := fun σ H Q => Tabs T H ∧ ∀ H1, ExtN H H1 → Tabs T H1 → TT (fun E H' Q' => t σ E σ H' Q') H1 Q
section
variable {X : Cx}
/-- x(lambda: body) -/
theorem pe_lamcallC {T : List (Addr × Str)} {TT : (XK → Hp → VK → Prop) → Hp → VK → Prop} {x a : Str} {g c P : Addr} {k : Nat} {pg : Arguments} {bg : List Stmt} {sg : Scope} {dV kV doc pm cdv ct oc : Value} {an od : Option Addr} {osl : Array (Option Value)} {Ng : List Str}
    {params : Arguments} {body : Expr} {scope : Scope} {t : L2.St → XK → TE} {p lpos pos : Pos} (hex : X.ex = []) (hg : Gl X x) (hm : X.mg x = some (.ref g)) (hk : PySem.W.keepIn X.K (.ref g) = true)
    (lk : X.K.lookup g = some ⟨oc, od, .func (PySem.W.fnOf x x pg bg sg dV kV doc pm an cdv ct), osl⟩) (hcg : PySem.W.codeIn X.K cdv x = true) (hb : L2.Binds X.K (PySem.W.fnOf x x pg bg sg dV kV doc pm an cdv ct) [a] []) (Sg : FnScope Ng [a] sg) (hNg : Ng[0]? = some a) (hva : Vis sg a)
    (hG : GivesAt X Ng x sg g cdv bg a (X.env.qual ++ "<lambda>") TT)
    (TB : TabB X.base X.mg c P) (hcode : X.env.code = .ref c) (hmT : (P, X.env.qual ++ "<lambda>") ∈ T) (hu : ∀ p ∈ T, p.1 = P → p.2 = X.env.qual ++ "<lambda>") (hr : Room (k + 2) X.A) (L : LamS X.env.scope scope) (hdef : defaultsOf params X.env = ([], []))
    (hbind : ∀ (q : Str) (cl : List (Str × Addr)) (pm cv ctv : Value), bindArgs (PySem.W.kla_fn "<lambda>" q params body scope cl pm cv ctv) ⟨[], []⟩ = pure [])
    (hbody : ∀ (σ : L2.St) (A : Around) (outer : List Env) (s : Shared) (H : Hp) (E : XK) (f c' : Addr), Room k (A.deeper (lamEnv X scope s.heap.objs.size f c')) → (∀ cl fr js, OwnCaps X cl fr js → CellsAt cl fr (js.map (slotAt σ)) s.heap H) → PE (lamCx X A outer s H E scope f c') body (t σ E))
    (hdb : (x == ("__debug__" : Str)) = false := by decide) (hd : (a == ("__debug__" : Str)) = false := by decide) (hcd : (a == ("__classdict__" : Str)) = false := by decide) :
    PE X (.Call (.Name x p) [.Lambda params body scope lpos] [] pos) (tLamC T TT t) := by
  refine ⟨fun pins s σ H Q I h => ?_⟩
  refine wpAny_Call_Name_kw (ld_glob I hg hm ?_ hdb)
  refine PySem.W.callWith_K (h₀ := X.base) I.ok.mod.kin hk ?_ (by rfl) (by rfl)
  show wpAny _ _ (spliced ((false, eval (.Lambda params body scope lpos) X.env) :: backTo pos (starEach [] X.env))) _ _ s
  refine Calls.spliced_cons (lam_make2 I TB hcode hmT hu h.1 hdef (L.has I.ok) fun f c' pm' ctv H1 s' I1 eN T1 hf hfn hfr hco => Calls.spliced_nil ⟨I1.kIn, ?_⟩)
  refine wpAny_call (codeAny_mono (?_ : codeAny (model X.prog X.w) X.A (.call (.ref g) ⟨[.ref f], []⟩) (CR C8.CX0 X.stack X.prog X.w H1 s' Q C8.E0) s') fun r s2 hq => ?_)
  · refine run_ofS (N := Ng) (ps := [a]) (us := [.ref f]) (vs := [.ref f]) lk hcg Sg hr I1.env0 (hb s' [.ref f] I1.kIn rfl) (.cons rfl .nil) rfl fun hr' => ?_
    obtain ⟨t', ht', hq'⟩ := hG f c' s' H1 Q (fun E H' Q' => t σ E σ H' Q') (fun W pn xe p1 p2 tk => pe_actC (i := 0) (tb := fun E => t σ E) I1 hex L hf hfn hfr (hbind _ _ _ _ _) tk hr' (fun E A outer s H hr2 hc => hbody σ A outer s H E f c' hr2 hc) hNg hva hd hcd) hco (h.2 H1 eN T1)
    exact ⟨t', ht'.nox, hq'⟩
  · cases r with
    | error e => exact (show False from hq).elim
    | ok fl =>
      cases fl with
      | ret u => exact I1.after hq
      | next => exact False.elim hq
      | brk => exact False.elim hq
      | cont => exact False.elim hq
end
end S9
end

section
set_option Elab.async false
set_option linter.all false
set_option maxRecDepth 100000
set_option maxHeartbeats 4000000
/-! S4Keep: an exception that an except suite puts by, looked at behind the try. -/
namespace S9
open PySem PySem.Spec PyProof.Rows L2
/-- at a lies an exception of the class cls with the dict d -/
def ExK (cls : Value) (d : Option Addr) (a : Addr) : HO := .ext fun h => ∃ oe vs, h.get? a = some oe ∧ Zc cls d oe ∧ oe.data = .fields vs
theorem exK_ok {P : Program} {w : World} {H : Hp} {h : Heap} {a : Addr} {cls : Value} {d : Option Addr} {oe : Obj} {vs : Array Value} (e : h.get? a = some oe) (z : Zc cls d oe) (f : oe.data = .fields vs) : ObjOk P w H h a (ExK cls d a) :=
  ⟨⟨oe, vs, e, z, f⟩, ⟨oe, e⟩, fun _ _ ⟨o, v, q, r⟩ k => ⟨o, v, k o q, r⟩⟩
theorem exK_at {P : Program} {w : World} {H : Hp} {h : Heap} {a : Addr} {cls : Value} {d : Option Addr} (hok : HOk P w H h) (e : H a = some (ExK cls d a)) : ∃ oe vs, h.get? a = some oe ∧ Zc cls d oe ∧ oe.data = .fields vs := by
  have z : ObjOk P w H h a (ExK cls d a) := hok a _ e
  exact z.1
section
variable {X : Cx} {pins : List (Addr × Obj)} {σ : L2.St} {H : Hp} {s : Shared}
/-- what is there already is tracked from now on -/
theorem inv_track {a : Addr} {φ : Heap → Prop} (I : Inv X pins σ H s) (n0 : X.s_0.heap.get? a = none) (nH : H a = none) (nL : a ≠ X.env.locals) (nc : ∀ x c, X.env.cells.lookup x = some c → c ≠ a) (np : ∀ p ∈ X.pn ++ pins, p.1 ≠ a) (ok : ObjOk X.prog X.w H s.heap a (.ext φ)) :
    Inv X pins σ (upd H a (.ext φ)) s := by
  have old : ∀ b o, X.s_0.heap.get? b = some o → b ≠ a := fun b o e z => by
    rw [z, n0] at e
    cases e
  have tk : ∀ b o, H b = some o → upd H a (.ext φ) b = some o := fun b o e => (upd_ne (ne_of_none e nH)).trans e
  exact ⟨I.ok, I.os, I.bare, ⟨I.base.keep, I.base.slot, fun b o e n hx => (upd_ne (old b o e)).trans (I.base.free b o e n hx), I.base.there, fun b xs e => tk _ _ (I.base.tups b xs e), fun b o u e => tk _ _ (I.base.frzs b o u e), fun b ps e => let ⟨m, z⟩ := I.base.tbls b ps e; ⟨m, tk _ _ z⟩⟩,
    I.loc, I.cell, (upd_ne (Ne.symm nL)).trans I.free, fun x c e => (upd_ne (nc x c e)).trans (I.freeC x c e), fun p hp => let ⟨e1, e2, r⟩ := I.pin p hp; ⟨e1, (upd_ne (np p hp)).trans e2, r⟩, fun b u e => by
      by_cases hb : b = a
      · subst hb
        rw [upd_same] at e
        cases e
        exact ok
      · rw [upd_ne hb] at e
        exact (I.hok b u e).stay (fun _ _ _ q => q) (fun c q => tk _ _ q) fun c xs q => tk _ _ q, I.len⟩
end
/-- what 'except x as n' wishes, the exception looked at behind the suite too -/
def wKeep (K : PySem.W.Frag) (c : Value) (i : Nat) (ts : Addr → Value → Option Addr → TS) (D : Ends) : WX := fun cls d σ H => PySem.W.exmOne K cls c = some true ∧
  ∀ a, H a = none → ts a cls d { nx := fun σ' H' => H' a = none → D.nx (σ'.set i none) (upd H' a (ExK cls d a)), rt := fun _ _ => False, bk := fun _ _ => False, ct := fun _ _ => False } (σ.set i (some (.ref a))) H
section
variable {X : Cx} {x n : Str} {c : Value} {i : Nat} {body suite : List Stmt} {b₀ : Stmt} {np pos pos' : Pos} {tb : WX → TS} {ts : Addr → Value → Option Addr → TS}
theorem ps_try_keep (hs : X.stack = X.env :: X.outer) (hf : X.env.frame = some X.env.locals) (hex : X.ex = []) (hN : X.N.Nodup) (hi : X.N[i]? = some n) (hln : X.env.kindOf n = some .local) (hc : Names X x c)
    (hb : ∀ (W : WX) (pn : List (Addr × Obj)) (xe : Value → Shared → Prop), Takes (X.tr pn xe) W → PassesOwn (model X.prog X.w) X.A X.env xe → PSs (X.tr pn xe) body (tb W))
    (hsu : ∀ (a : Addr) (oe : Obj) (cls : Value) (d : Option Addr) (pn : List (Addr × Obj)), Zc cls d oe → (∃ vs, oe.data = .fields vs) → PSs (X.suite a ((a, oe) :: pn)) (b₀ :: suite) (ts a cls d)) :
    PS X (.Try body [.ExceptHandler (some (.Name x np)) (some n) (b₀ :: suite) pos'] [] [] pos) (fun D σ H => tb (wKeep X.K c i ts D) D σ H) := by
  refine ⟨fun pins s σ H D I h => wpAny_Try_except ?_⟩
  have good := I.ok
  have fra : X.A.frames = some (X.env :: X.outer) := by rw [good.frames, hs]
  have run := (hb (wKeep X.K c i ts D) (X.pn ++ pins) (fun e t1 => wpAny (model X.prog X.w) X.A (noteFrame e X.env) (fun _ t2 => wpAny (model X.prog X.w) X.A (setFlight e none) (fun _ t3 =>
    wpAny (model X.prog X.w) X.A (handleBy e X.env [.ExceptHandler (some (.Name x np)) (some n) (b₀ :: suite) pos']) (SP X pins D) X.xe t3) X.xe t2) X.xe t1) ?_ PassesOwn.looking).run [] s σ H D (I.toTry _) h
  · refine wpAny_mono run (fun f t hsp => ?_) fun e t he => he
    cases f with
    | next => exact let ⟨σ1, H1, J, q⟩ := hsp; wpAny_execs_nil ⟨σ1, H1, J.ofTry good, q⟩
    | ret u => exact let ⟨v, σ1, H1, J, r, q⟩ := hsp; ⟨v, σ1, H1, J.ofTry good, r, q⟩
    | brk => exact let ⟨σ1, H1, J, q⟩ := hsp; ⟨σ1, H1, J.ofTry good, q⟩
    | cont => exact let ⟨σ1, H1, J, q⟩ := hsp; ⟨σ1, H1, J.ofTry good, q⟩
  · intro u t xx
    obtain ⟨a, B, tI, pins1, σ1, H1, cls, d, rfl, J0, ground, up, sky, aH, os, gens, hit, hyes⟩ := xx
    have J : Inv X pins σ1 H1 tI := J0.ofTry good
    have sky1 : Sky B (X.env :: X.outer) a (Zc cls d) X.env.locals t.heap := hs ▸ sky
    show wpAny (model X.prog X.w) X.A (noteFrame (.ref a) X.env) _ _ _
    refine Sky.land Zc.steady fra hf sky1 fun g fl upG => ?_
    obtain ⟨oe, vs, he, hz, hd⟩ := fl.there
    have off : a ∉ frs (X.env :: X.outer) := fun hm => by
      obtain ⟨_, o1, e1, nf⟩ := fl.2.2.1.mem hm
      rw [he] at e1
      cases e1
      exact nf _ hd
    have offL : a ≠ X.env.locals := fun z => off (List.mem_filterMap.mpr ⟨X.env, List.mem_cons_self, by rw [hf, z]⟩)
    have offF : a ∉ X.fs := fun hm => let ⟨e, h1, h2⟩ := List.mem_filterMap.mp hm; off (List.mem_filterMap.mpr ⟨e, List.mem_cons_of_mem _ h1, h2⟩)
    -- a is new to what stood before the exception
    have aI : tI.heap.get? a = none := by
      cases q : tI.heap.get? a with
      | none => rfl
      | some o =>
        have z := ground a o q (by rw [hs]; exact off)
        have nB : B.get? a = none := fl.2.1
        rw [nB] at z
        cases z
    have a0 : X.s_0.heap.get? a = none := by
      cases q : X.s_0.heap.get? a with
      | none => rfl
      | some o =>
        obtain ⟨o', z⟩ := J.base.there a o q (by rw [hex]; exact fun z => nomatch z)
        rw [aI] at z
        cases z
    have aC : ∀ y cc, X.env.cells.lookup y = some cc → cc ≠ a := fun y cc e z => by
      obtain ⟨_, o, ho, _⟩ := J.cell y cc e
      rw [z, aI] at ho
      cases ho
    have aP : ∀ p ∈ X.pn ++ pins, p.1 ≠ a := fun p hp z => by
      have q := (J.pin p hp).1
      rw [z, aI] at q
      cases q
    have JG : Inv X pins σ1 H1 { t with heap := g } := J.landed ground fl.1 (up.trans upG) os gens
    have SG := JG.suite he hd aH offL offF
    refine wpAny_handleBy_cons (codeAny_handlers_test ?_) (by intro q; cases q)
    have LT : PySem.W.Looks (model X.prog X.w) g (typeOf (.ref a)) cls := fun _ _ _ _ k q => wpAny_typeOf_ref (k _ _ he) (by rw [hz.1]; exact q)
    have LM := PySem.W.exm_one (M := model X.prog X.w) JG.kIn LT hit
    have test : ∀ {Q : Value → Shared → Prop} {E : Value → Shared → Prop}, Q c { t with heap := g } → wpAny (model X.prog X.w) (X.A.mark (some (.ref a))) (eval (.Name x np) X.env) Q E { t with heap := g } := fun {Q E} q => by
      obtain ⟨hg, hdb, m1 | ⟨m1, m2, m3⟩⟩ := hc
      · exact ld_glob (X := X.suite a ((a, oe) :: (X.pn ++ pins))) SG hg m1 q hdb
      · exact ld_blt (X := X.suite a ((a, oe) :: (X.pn ++ pins))) SG hg m1 m2 q m3 hdb
    refine test (LM.here (codeAny_handlers_suite_as ?_))
    refine HandSPX.lands_againZ fl fun g2 fl2 up2 => ?_
    obtain ⟨oe2, vs2, he2, hz2, hd2⟩ := fl2.there
    have S2 := (J.landed ground fl2.1 ((up.trans upG).trans up2) os gens : Inv X pins σ1 H1 { t with heap := g2 }).suite he2 hd2 aH offL offF
    refine store_ok (X := X.suite a ((a, oe2) :: (X.pn ++ pins))) (v := .ref a) S2 hN hi (.inl hln) rfl (fun t5 S5 => ?_) (.inr hln)
    refine wpAny_mono ((hsu a oe2 cls d (X.pn ++ pins) hz2 ⟨_, hd2⟩).run [] t5 _ H1 _ S5 (hyes a aH)) (fun f t6 hsp => ?_) fun _ _ z => False.elim z
    cases f with
    | next =>
      obtain ⟨σ6, H6, S6, q6⟩ := hsp
      refine gone_ok (X := X.suite a ((a, oe2) :: (X.pn ++ pins))) S6 hN hi hln fun t7 S7 => ?_
      obtain ⟨p1, p2, _⟩ := S7.pin (a, oe2) (List.mem_append_left _ List.mem_cons_self)
      exact ⟨_, _, inv_track (S7.unsuite good) a0 p2 offL aC aP (exK_ok p1 hz2 hd2), q6 p2⟩
    | ret u => exact let ⟨_, _, _, _, _, q⟩ := hsp; False.elim q
    | brk => exact let ⟨_, _, _, q⟩ := hsp; False.elim q
    | cont => exact let ⟨_, _, _, q⟩ := hsp; False.elim q
end
/-! ### looks at it -/
section
variable {X : Cx} {C : Addr} {e : Expr} {te : TE} {pos : Pos} {n : Str}
/-- e.f, e a kept exception -/
def tXk (C : Addr) (f : Str) (te : TE) : TE := fun σ H Q => te σ H fun x H1 => ∃ (a dd : Addr) (fs : List (Str × V)) (v : V), x = .ref a ∧ H1 a = some (ExK (.ref C) (some dd) a) ∧ H1 dd = some (.xd fs) ∧ fs.lookup f = some v ∧ Q v H1
theorem pe_xk (T : XfC X.K C) (hno : PySem.W.findIn X.K (.ref C) n = some none) (he : PE X e te) (hb : attributeBase e n X.env (eval e X.env) = eval e X.env := by rfl) : PE X (.Attribute e n pos) (tXk C n te) := by
  refine ⟨fun pins s σ H Q I h => attr_of hb (thn (he.run pins s σ H _ I h) fun u s1 hh => ?_)⟩
  obtain ⟨x, H1, I1, rx, a, dd, fs, v, rfl, ea, ed, l, q⟩ := hh
  obtain rfl : u = Value.ref a := rx
  obtain ⟨oe, vs, ho, hz, hd⟩ := exK_at I1.hok ea
  obtain ⟨mA, hns, hr⟩ := (show ObjOk X.prog X.w H1 s1.heap dd (.xd fs) from I1.hok dd _ ed)
  obtain ⟨od, hod, hl⟩ := lookIn_ns hns
  obtain ⟨u, hu, ru⟩ := RelO.some_of (v := v) (o := mA n) (by rw [← l]; exact hr n)
  have J : PySem.W.InstAt s1.heap a oe C (some od) := ⟨ho, hz.1, by unfold PySem.W.notCls; rw [hd] <;> rfl, by rw [hz.2]; exact hod⟩
  exact HandSPX.exc_get I1.kIn J T.ga T.gg T.exC (PySem.W.findObj_own T.hdC hno rfl (by rw [hl, hu])) (handed_of ru) ⟨v, H1, I1.tok _, ru, q⟩
/-- what isinstance asks of its class -/
structure XkC (K : PySem.W.Frag) (D : Addr) : Prop where
  cl : (PySem.W.clsIn K D).isSome = true
  ga : PySem.W.findIn K (.ref D) "__getattribute__" = some (some (.builtin "BaseException.__getattribute__"))
  gg : PySem.W.findIn K (.ref D) "__getattr__" = some none
  sb : PySem.W.subIn K (.ref D) (.type "BaseException") = some true
  ca : PySem.W.findIn K (.ref D) "__class__" = some (some (.builtin "object.__class__"))
  nn : PySem.W.specialIn K (.builtin "object.__class__") "__get__" = some (some (.builtin "getset_descriptor.__get__"))
  tk : PySem.W.takesIn K (.builtin "object.__class__") = some true
  mr : PySem.W.mroIn K D (.type "object") = some true
/-- isinstance(e, c), e a kept exception of the class D -/
def rIsK (K : PySem.W.Frag) (D : Addr) : List V → Hp → VK → Prop := fun xs H Q => ∃ (a dd : Addr) (fs : List (Str × V)) (c : V) (cv : Value) (b : Bool), xs = [.ref a, c] ∧ H a = some (ExK (.ref D) (some dd) a) ∧ H dd = some (.xd fs) ∧ (∀ u, RelV c u → u = cv) ∧ PySem.W.kitOne K (.ref D) cv = some b ∧ Q (.bl b) H
theorem call_isK {D : Addr} (C : XkC X.K D) : CallR X (.builtin "isinstance") (rIsK X.K D) := by
  intro pins s σ H xs us Q I r h
  obtain ⟨a, dd, fs, c, cv, b, rfl, ea, ed, hcv, e, q⟩ := h
  obtain ⟨u1, u2, rfl, r1, r2⟩ : ∃ u1 u2, us = [u1, u2] ∧ RelV (.ref a) u1 ∧ RelV c u2 := by
    cases r with
    | cons rx rr =>
      cases rr with
      | cons rt rr =>
        cases rr
        exact ⟨_, _, rfl, rx, rt⟩
  obtain rfl : u1 = Value.ref a := r1
  cases hcv _ r2
  obtain ⟨oe, vs, ho, hz, hd⟩ := exK_at I.hok ea
  obtain ⟨mA, hns, _⟩ := (show ObjOk X.prog X.w H s.heap dd (.xd fs) from I.hok dd _ ed)
  obtain ⟨od, hod, _⟩ := lookIn_ns hns
  have J : PySem.W.InstAt s.heap a oe D (some od) := ⟨ho, hz.1, by unfold PySem.W.notCls; rw [hd] <;> rfl, by rw [hz.2]; exact hod⟩
  exact PySem.W.kia_one (PySem.W.kitx_exc C.cl C.ga C.gg C.sb C.ca C.nn C.tk C.mr) I.kIn J e (fun z => nomatch z) fun tk => ⟨.bl b, H, I.kept (t' := tk) fun _ _ z => z, rfl, q⟩
end
end S9
end

section
set_option Elab.async false
set_option linter.all false
set_option maxRecDepth 100000
set_option maxHeartbeats 4000000
/-! S5Sum: sum of a tuple of tuples, from (). -/
namespace S9
open PySem PySem.Spec PyProof.Rows L2 HT
theorem args_sum2 (a b : Value) : argsOk "sum" ⟨[a, b], []⟩ := by unfold argsOk; kernel_rfl
section
variable {prog : Program} {w : World} {A : Around} {E : Value → Shared → Prop} {s : Shared} {R : Result → Shared → Prop} {I ax : Addr} {ts : List (Addr × List Value)}
/-- the two tuples' sum, either way -/
theorem add_tups {a b : Addr} {vs us : List Value} {Q : Value → Shared → Prop} (ha : IsTup s.heap a vs.toArray) (hb : IsTup s.heap b us.toArray) (hz : vs.length + us.length ≤ sizeLine)
    (h : ∀ (r : Addr) (h' : Heap), (∀ c o, s.heap.get? c = some o → h'.get? c = some o) → IsTup h' r (vs ++ us).toArray → (r = a ∨ r = b ∨ r = s.heap.objs.size) → Q (.ref r) { s with heap := h' }) : wpAny (model prog w) A (binaryOp .Add (.ref a) (.ref b)) Q E s := by
  by_cases hv : vs = []
  · subst hv
    exact cat_tup0 ha hb (h b s.heap (fun _ _ e => e) hb (.inr (.inl rfl)))
  · refine HT.cat_tup ha hb hv (fun hu => ?_) (fun hu => ?_) hz
    · subst hu
      rw [List.append_nil] at h
      exact h a s.heap (fun _ _ e => e) ha (.inl rfl)
    · exact h _ _ (fun c o e => Heap.get?_push_of_some _ e) (IsTup.new _ _) (.inr (.inr rfl))
theorem flat_length (l : List (Addr × List Value)) : (l.flatMap (·.2)).length = (l.map (·.2.length)).sum := by
  induction l with
  | nil => rfl
  | cons p l ih => simp [ih]
theorem flat_take {l : List (Addr × List Value)} {i : Nat} {p : Addr × List Value} (e : l[i]? = some p) : (l.take (i + 1)).flatMap (·.2) = (l.take i).flatMap (·.2) ++ p.2 := by
  rw [List.take_add_one, e]
  simp
theorem flat_le {l : List (Addr × List Value)} (i : Nat) : ((l.take i).flatMap (·.2)).length ≤ (l.flatMap (·.2)).length := by
  have e : (l.flatMap (·.2)) = (l.take i).flatMap (·.2) ++ (l.drop i).flatMap (·.2) := by rw [← List.flatMap_append, List.take_append_drop]
  rw [e, List.length_append]
  omega
theorem sumT_loop (W : WalksS prog w A.in1 I [I, ax] [I] (fun a b => b = a) ts.length (fun i v => (ts.map fun p => Value.ref p.1).toArray[i]? = some v) (fun i s => s.heap.IsTupleIter I ax i ∧ s.heap.IsTuple ax (ts.map fun p => Value.ref p.1).toArray))
    (S : Addr) (hSI : S ≠ I) (hSa : S ≠ ax) (hz : (ts.flatMap (·.2)).length ≤ sizeLine) :
    ∀ (k i : Nat) (s : Shared) (tot : Addr) (c : Nat), ts.length - i = k → i ≤ ts.length → (s.heap.IsTupleIter I ax i ∧ s.heap.IsTuple ax (ts.map fun p => Value.ref p.1).toArray) →
      s.heap.get? S = some { cls := .type "list", dict := none, data := .seq #[.ref tot] c, slots := #[] } → IsTup s.heap tot ((ts.take i).flatMap (·.2)).toArray → tot ≠ S → tot ≠ I → (∀ p ∈ ts, IsTup s.heap p.1 p.2.toArray ∧ p.1 ≠ S ∧ p.1 ≠ I) →
      (∀ s' r, Moved [S, I] (fun a b => b = a) s s' → IsTup s'.heap r (ts.flatMap (·.2)).toArray → (r = tot ∨ (∃ p ∈ ts, r = p.1) ∨ s.heap.get? r = none) → R (.ok (.ret (.ref r))) s') →
      codeAny (model prog w) A (.builtin "sum.loop" ⟨[.ref I, .ref S, rawInt 2, rawInt 0], []⟩) R s := by
  intro k
  induction k with
  | zero =>
    intro i s tot c hk hi st hS ht n1 n2 hp hR
    obtain rfl : i = ts.length := by omega
    refine codeAny_builtin F.entry_sum_loop ?_
    rw [Around.under_plainId F.plain_sum_loop _]
    show wpAny _ A.in1 (seqItems? (.ref S) >>= _) _ _ s
    refine wpAny_bind (wpAny_seqItems hS rfl ?_)
    show wpAny _ A.in1 (tryCatch (pyNext (.ref I)) _ >>= _) _ _ s
    refine wpAny_bind (wpAny_tryCatch (W.done s _ _ st fun s' hm => ?_))
    rw [List.take_length] at ht
    have hm' : Moved [S, I] (fun a b => b = a) s s' := hm.mono fun b hb => List.mem_cons_of_mem _ hb
    refine wpAny_pure (hR s' tot hm' ?_ (.inl rfl))
    obtain ⟨o, ho, r⟩ := ht
    exact ⟨o, hm.heap _ _ (by simpa using n2) ho, r⟩
  | succ k ih =>
    intro i s tot c hk hi st hS ht n1 n2 hp hR
    have hlt : i < ts.length := by omega
    refine codeAny_builtin F.entry_sum_loop ?_
    rw [Around.under_plainId F.plain_sum_loop _]
    show wpAny _ A.in1 (seqItems? (.ref S) >>= _) _ _ s
    refine wpAny_bind (wpAny_seqItems hS rfl ?_)
    show wpAny _ A.in1 (tryCatch (pyNext (.ref I)) _ >>= _) _ _ s
    refine wpAny_bind (wpAny_tryCatch (W.item i s _ _ hlt st fun v s1 hv st1 hm => ?_))
    obtain ⟨p, ep⟩ : ∃ p, ts[i]? = some p := ⟨ts[i], by simp [hlt]⟩
    obtain rfl : v = Value.ref p.1 := by
      have e : (ts.map fun p => Value.ref p.1)[i]? = some v := by simpa using hv
      rw [List.getElem?_map, ep] at e
      exact (Option.some.inj e).symm
    have pm : p ∈ ts := List.mem_of_getElem? ep
    have k1 : ∀ b o, b ≠ I → s.heap.get? b = some o → s1.heap.get? b = some o := fun b o hb e => hm.heap b o (by simpa using hb) e
    have tup1 : ∀ {b : Addr} {z : Array Value}, b ≠ I → IsTup s.heap b z → IsTup s1.heap b z := fun hb ⟨o, ho, r⟩ => ⟨o, k1 _ _ hb ho, r⟩
    have hS1 := k1 S _ hSI hS
    obtain ⟨tp, tS, tI⟩ := hp p pm
    have zz : ((ts.take i).flatMap (·.2)).length + p.2.length ≤ sizeLine := by
      have e := flat_take ep
      have l := flat_le (l := ts) (i + 1)
      rw [e, List.length_append] at l
      omega
    show wpAny _ A.in1 ((holding [Value.ref p.1] (binaryOp .Add (.ref tot) (.ref p.1))).attempt >>= _) _ _ _
    refine wpAny_bind (wpAny_attempt (wpAny_holding (add_tups (tup1 n2 ht) (tup1 tI tp) zz fun r h2 k2 tr hr => ?_)))
    rw [← flat_take ep] at tr
    have hS2 := k2 S _ hS1
    have lt1 : ∀ {b : Addr} {o : Obj}, s1.heap.get? b = some o → b ≠ s1.heap.objs.size := fun e => Nat.ne_of_lt (Heap.lt_size e)
    have rS : r ≠ S := by
      rcases hr with rfl | rfl | rfl
      · exact n1
      · exact tS
      · exact Ne.symm (lt1 hS1)
    have rI : r ≠ I := by
      rcases hr with rfl | rfl | rfl
      · exact n2
      · exact tI
      · obtain ⟨o, ho, _⟩ := st1.1
        exact Ne.symm (lt1 ho)
    show wpAny _ A.in1 (updateSeq S (fun _ => #[.ref r]) >>= _) _ _ _
    refine wpAny_bind (wpAny_updateSeq hS2 rfl ?_)
    have hS3 := Heap.get?_update_self (Obj.mapSeq fun _ => #[Value.ref r]) hS2 rfl
    refine wpAny_bind (wpAny_letGo ?_)
    have other : ∀ {b : Addr} {o : Obj}, b ≠ S → h2.get? b = some o → ((h2.update S (Obj.mapSeq fun _ => #[Value.ref r])).update S (Obj.mapSeq fun _ => #[Value.ref r])).get? b = some o := fun {b o} hb e =>
      (Heap.get?_update_other _ _ (Ne.symm hb)).trans ((Heap.get?_update_other _ _ (Ne.symm hb)).trans e)
    have tup3 : ∀ {b : Addr} {z : Array Value}, b ≠ S → IsTup h2 b z → IsTup ((h2.update S (Obj.mapSeq fun _ => #[Value.ref r])).update S (Obj.mapSeq fun _ => #[Value.ref r])) b z := fun hb ⟨o, ho, r⟩ => ⟨o, other hb ho, r⟩
    have tup2 : ∀ {b : Addr} {z : Array Value}, IsTup s1.heap b z → IsTup h2 b z := fun ⟨o, ho, r⟩ => ⟨o, k2 _ _ ho, r⟩
    refine wpAny_bind (wpAny_updateSeq hS3 rfl (wpAny_pure ⟨plainId_quiet F.plain_sum_loop _, ih (i + 1) _ r _ (by omega) hlt
      (W.frame (i + 1) s1 _ _ st1 (Nat.le_refl _) fun b hb o e => other (fun z => ?_) (k2 _ _ e)) (Heap.get?_update_self _ hS3 rfl) (tup3 rS tr) rS rI (fun q hq => ⟨tup3 (hp q hq).2.1 (tup2 (tup1 (hp q hq).2.2 (hp q hq).1)), (hp q hq).2⟩) fun s' r' hm2 tr' hr' => ?_⟩))
    · have hb2 : b = I ∨ b = ax := by simpa using hb
      rcases hb2 with q | q
      · exact hSI (z.symm.trans q)
      · exact hSa (z.symm.trans q)
    · have old : ∀ b o, b ∉ [S, I] → s.heap.get? b = some o → s'.heap.get? b = some o := fun b o hb e => by
        have h1 : b ≠ S := fun z => hb (by simp [z])
        have h3 : b ≠ I := fun z => hb (by simp [z])
        exact hm2.heap b o hb (other h1 (k2 _ _ (k1 _ _ h3 e)))
      refine hR s' r' ⟨old, hm2.gens.trans hm.gens, hm2.drawn.trans hm.drawn, hm2.os.trans hm.os, Nat.le_trans hm.toks hm2.toks⟩ tr' ?_
      have none1 : ∀ b, s1.heap.get? b = none → s.heap.get? b = none := fun b e => by
        cases q : s.heap.get? b with
        | none => rfl
        | some o =>
          by_cases hb : b = I
          · obtain ⟨oi, ho, _⟩ := st1.1
            rw [hb, ho] at e
            cases e
          · rw [k1 b o hb q] at e
            cases e
      rcases hr' with z | z | z
      · rcases hr with y | y | y
        · exact .inl (z.trans y)
        · exact .inr (.inl ⟨p, pm, z.trans y⟩)
        · exact .inr (.inr (none1 _ (by rw [z, y]; exact Heap.get?_none_of_le (Nat.le_refl _))))
      · exact .inr (.inl z)
      · refine .inr (.inr (none1 _ ?_))
        cases q : s1.heap.get? r' with
        | none => rfl
        | some o =>
          by_cases hb : r' = S
          · have z' := z
            rw [hb] at z'
            rw [Heap.get?_update_self _ hS3 rfl] at z'
            cases z'
          · rw [other hb (k2 _ _ q)] at z
            cases z
theorem call_sumT {T e : Addr} {Q : Value → Shared → Prop} (hh : A.handled = none) (hT : s.heap.IsTuple T (ts.map fun p => Value.ref p.1).toArray) (he : IsTup s.heap e ([] : List Value).toArray) (hp : ∀ p ∈ ts, IsTup s.heap p.1 p.2.toArray) (hz : (ts.flatMap (·.2)).length ≤ sizeLine)
    (h : ∀ h' tk r, (∀ b o, s.heap.get? b = some o → h'.get? b = some o) → IsTup h' r (ts.flatMap (·.2)).toArray → (r = e ∨ (∃ p ∈ ts, r = p.1) ∨ s.heap.get? r = none) → Q (.ref r) { s with heap := h', toks := tk }) :
    wpAny (model prog w) A (call (.builtin "sum") [.ref T, .ref e]) Q E s := by
  obtain ⟨oT, hoT, _⟩ := id hT
  obtain ⟨oe, hoe, hce, _⟩ := id he
  have hne : T ≠ s.heap.objs.size := Nat.ne_of_lt (Heap.lt_size hoT)
  have te : ∀ {h' : Heap} {g d tk os}, h'.get? e = some oe → (⟨h', g, d, tk, os⟩ : Shared).TypeIs (.ref e) "tuple" := fun q => ⟨oe, q, hce⟩
  refine call_function_tree F.kind_sum F.plain_sum F.entry_sum (args_sum2 _ _) ?_
  unfold Builtin.«sum»
  simp only [List.length_cons, List.length_nil]
  rw [if_neg (by decide)]
  refine wpAny_bind (wpAny_of_eq (show Builtin.Builtins.bindParams "sum" ["start"] 0 ⟨[.ref e], []⟩ = pure [some (.ref e)] from rfl) ?_)
  refine wpAny_bind (wpAny_pyIter_tuple hT ?_)
  refine wpAny_bind (wpAny_pure ?_)
  have he1 : (s.heap.push { cls := .type "tuple_iterator", data := .fields #[.ref T, .int 0 0] }).get? e = some oe := Heap.get?_push_of_some _ hoe
  simp only [List.forIn_cons, List.forIn_nil]
  refine wpAny_bind (wpAny_bind (wpAny_bind (wpAny_isInstance (T := "tuple") (b := false) (te he1) F.sub_tuple_str ?_)))
  simp only [Bool.false_eq_true, if_false]
  refine wpAny_pure (wpAny_bind (wpAny_bind (wpAny_isInstance (T := "tuple") (b := false) (te he1) F.sub_tuple_bytes ?_)))
  simp only [Bool.false_eq_true, if_false]
  refine wpAny_pure (wpAny_bind (wpAny_bind (wpAny_isInstance (T := "tuple") (b := false) (te he1) F.sub_tuple_bytearray ?_)))
  simp only [Bool.false_eq_true, if_false]
  refine wpAny_pure (wpAny_pure ?_)
  refine wpAny_bind (wpAny_newObj_type ?_)
  have s1 : (s.heap.push { cls := .type "tuple_iterator", data := .fields #[.ref T, .int 0 0] }).objs.size = s.heap.objs.size + 1 := Heap.size_push ..
  have lift : ∀ {b : Addr} {o o1 o2 : Obj}, s.heap.get? b = some o → ((s.heap.push o1).push o2).get? b = some o := fun e => Heap.get?_push_of_some _ (Heap.get?_push_of_some _ e)
  have W := (Walks.tuple (prog := prog) (w := w) (A := A.in1) hh s.heap.objs.size T hne (ts.map fun p => Value.ref p.1).toArray).toS
  rw [show (ts.map fun p => Value.ref p.1).toArray.size = ts.length by simp] at W
  have lt : ∀ {b : Addr} {o : Obj}, s.heap.get? b = some o → b < s.heap.objs.size := fun e => Heap.lt_size e
  have lt1 : ∀ {b : Addr} {z : Array Value}, IsTup s.heap b z → b ≠ (s.heap.push { cls := .type "tuple_iterator", data := .fields #[.ref T, .int 0 0] }).objs.size ∧ b ≠ s.heap.objs.size := fun ⟨o, ho, _⟩ => by
    have l := Heap.lt_size ho
    rw [s1]
    exact ⟨Nat.ne_of_lt (Nat.lt_succ_of_lt l), Nat.ne_of_lt l⟩
  refine wpAny_pure ⟨plainId_quiet F.plain_sum_loop _, sumT_loop W (s.heap.push { cls := .type "tuple_iterator", data := .fields #[.ref T, .int 0 0] }).objs.size (by rw [s1]; exact Nat.succ_ne_self _) (by rw [s1]; exact Nat.ne_of_gt (Nat.lt_succ_of_lt (lt hoT))) hz ts.length 0 _ e 0 (by omega) (Nat.zero_le _) ?_ (Heap.get?_push_size _ rfl) ?_ ?_ ?_ ?_ ?_⟩
  · exact ⟨⟨_, Heap.get?_push_of_some _ (Heap.get?_push_size _ rfl), rfl, rfl⟩, hT.at fun o q => lift q⟩
  · obtain ⟨o, ho, r⟩ := he
    exact ⟨o, lift ho, r⟩
  · exact (lt1 he).1
  · exact (lt1 he).2
  · exact fun p hm => ⟨let ⟨o, ho, r⟩ := hp p hm; ⟨o, lift ho, r⟩, lt1 (hp p hm)⟩
  · intro s' r hm tr hr
    obtain ⟨h', g', d', tk', os'⟩ := s'
    have e1 : g' = s.gens := hm.gens
    have e2 : d' = s.drawn := hm.drawn
    have e3 : os' = s.os := hm.os
    subst e1 e2 e3
    refine h h' tk' r (fun b o q => hm.heap b o (fun z => ?_) (lift q)) tr ?_
    · have l := Heap.lt_size q
      have z2 : b = (s.heap.push { cls := .type "tuple_iterator", data := .fields #[.ref T, .int 0 0] }).objs.size ∨ b = s.heap.objs.size := by simpa using z
      rw [s1] at z2
      rcases z2 with q2 | q2
      · rw [q2] at l
        exact absurd l (Nat.not_lt_of_ge (Nat.le_succ _))
      · rw [q2] at l
        exact Nat.lt_irrefl _ l
    · rcases hr with z | z | z
      · exact .inl z
      · exact .inr (.inl z)
      · refine .inr (.inr ?_)
        cases q : s.heap.get? r with
        | none => rfl
        | some o =>
          rw [lift q] at z
          cases z
end
section
variable {X : Cx}
/-- sum(t, ()) -/
def rSumT (K : PySem.W.Frag) : List V → Hp → VK → Prop := fun vs H Q => ∃ (t e : Addr) (ts : List (Addr × List V)), vs = [.ref t, .ref e] ∧ SqT K H t (ts.map fun p => V.ref p.1) ∧ SqT K H e [] ∧ (∀ p ∈ ts, SqT K H p.1 p.2) ∧ (ts.flatMap (·.2)).length ≤ sizeLine ∧
  (∀ r, (r = e ∧ ts.flatMap (·.2) = [] ∨ ∃ p ∈ ts, r = p.1) → SqT K H r (ts.flatMap (·.2)) → Q (.ref r) H) ∧ ∀ r, H r = none → Q (.ref r) (upd H r (.tup (ts.flatMap (·.2))))
theorem tups_of {pins : List (Addr × Obj)} {σ : L2.St} {H : Hp} {s : Shared} (I : Inv X pins σ H s) : ∀ {ts : List (Addr × List V)}, (∀ p ∈ ts, SqT X.K H p.1 p.2) → ∃ tv : List (Addr × List Value), tv.map (·.1) = ts.map (·.1) ∧ Vals (ts.flatMap (·.2)) (tv.flatMap (·.2)) ∧ ∀ q ∈ tv, IsTup s.heap q.1 q.2.toArray ∧ ∃ p ∈ ts, p.1 = q.1 ∧ Vals p.2 q.2
  | [], _ => ⟨[], rfl, .nil, fun q hq => by cases hq⟩
  | p :: ts, h => by
    obtain ⟨tv, e, r, a⟩ := tups_of I (ts := ts) fun q hq => h q (List.mem_cons_of_mem _ hq)
    obtain ⟨its, r1, p1, _⟩ := I.tuple (h p List.mem_cons_self)
    refine ⟨(p.1, its) :: tv, by simp [e], ?_, fun q hq => ?_⟩
    · simp only [List.flatMap_cons]
      exact r1.append r
    · rcases List.mem_cons.mp hq with z | z
      · subst z
        exact ⟨p1, p, List.mem_cons_self, rfl, r1⟩
      · obtain ⟨b, p', m, e1, e2⟩ := a q z
        exact ⟨b, p', List.mem_cons_of_mem _ m, e1, e2⟩
theorem refs_of : ∀ {ts : List (Addr × List V)} {us : List Value}, Vals (ts.map fun p => V.ref p.1) us → us = (ts.map (·.1)).map Value.ref
  | [], us, r => by cases r; rfl
  | p :: ts, us, r => by
    cases r with
    | cons a b =>
      cases (show _ = _ from a)
      rw [refs_of b]
      rfl
theorem tup_same {h : Heap} {a : Addr} {x y : List Value} (p : IsTup h a x.toArray) (q : IsTup h a y.toArray) : x = y := by
  obtain ⟨o, ho, _, n, d⟩ := p
  obtain ⟨o', ho', _, n', d'⟩ := q
  rw [ho] at ho'
  cases ho'
  rw [d] at d'
  injection d' with e _
  simpa using congrArg Array.toList e
theorem cr_sumT (hc : X.calm = true) : CallR X (.builtin "sum") (rSumT X.K) := by
  intro pins s σ H vs us Q I r h
  obtain ⟨t, e, ts, rfl, ht, he, hp, hz, q1, q2⟩ := h
  obtain ⟨u1, u2, rfl, r1, r2⟩ : ∃ u1 u2, us = [u1, u2] ∧ RelV (.ref t) u1 ∧ RelV (.ref e) u2 := by
    cases r with
    | cons a b =>
      cases b with
      | cons c d =>
        cases d
        exact ⟨_, _, rfl, a, c⟩
  obtain rfl : u1 = Value.ref t := r1
  obtain rfl : u2 = Value.ref e := r2
  obtain ⟨tv, em, rv, av⟩ := tups_of I hp
  obtain ⟨its, rt, pt, _⟩ := I.tuple ht
  obtain ⟨ites, re, pe, _⟩ := I.tuple he
  cases re
  have eits : its = tv.map fun p => Value.ref p.1 := by
    rw [refs_of rt, ← em, List.map_map]
    rfl
  subst eits
  have hl : (tv.flatMap (·.2)).length ≤ sizeLine := by rw [← rv.length]; exact hz
  obtain ⟨oT, hoT, hcT, nT, hdT⟩ := pt
  refine call_sumT (ts := tv) (I.ok.hd hc) ⟨oT, hoT, hcT, nT, hdT⟩ pe (fun p hm => (av p hm).1) hl fun h' tk r hk tr hr => ?_
  have J : Inv X pins σ H { s with heap := h', toks := tk } := I.kept hk
  have keep : ∀ {b : Addr} {z : Array Value}, IsTup s.heap b z → IsTup h' b z := fun ⟨o, ho, y⟩ => ⟨o, hk _ _ ho, y⟩
  rcases hr with z | ⟨p, hm, z⟩ | z
  · subst z
    have e0 : tv.flatMap (·.2) = [] := tup_same tr (keep pe)
    have e1 : ts.flatMap (·.2) = [] := by
      rw [e0] at rv
      cases hh : ts.flatMap (·.2) with
      | nil => rfl
      | cons a b =>
        rw [hh] at rv
        cases rv
    exact ⟨.ref _, H, J, rfl, q1 _ (.inl ⟨rfl, e1⟩) (by rw [e1]; exact he)⟩
  · obtain ⟨a1, p', m', e1, e2⟩ := av p hm
    have e0 : tv.flatMap (·.2) = p.2 := tup_same tr (by rw [z]; exact keep a1)
    rw [e0] at rv
    have e3 : ts.flatMap (·.2) = p'.2 := rv.inj e2
    refine ⟨.ref r, H, J, rfl, q1 r (.inr ⟨p', m', z.trans e1.symm⟩) ?_⟩
    rw [e3, z, ← e1]
    exact hp p' m'
  · have hn : H r = none := I.hok.gone z
    refine ⟨.ref r, _, I.laidN (t' := tk) (o := .tup (ts.flatMap (·.2))) hk z hn ⟨hz, _, rv, tr⟩, rfl, q2 r hn⟩
end
end S9
end

section
set_option Elab.async false
set_option linter.all false
set_option maxRecDepth 100000
set_option maxHeartbeats 4000000
/-! S6NeNil: a list of whatever items != []. -/
namespace S9
open PySem PySem.Spec PyProof.Rows L2
def rNeNil (K : PySem.W.Frag) : R2 := fun x y H Q => ∃ a b xs, x = .ref a ∧ y = .ref b ∧ SqL K H a xs ∧ SqL K H b [] ∧ Q (.bl (!xs.isEmpty)) H
theorem op_neNil {X : Cx} (hu : X.A.units + 64 < cLine) : OpR X (compareOp .NotEq) (rNeNil X.K) := by
  intro pins s σ H x y v u Q I rx ry h
  obtain ⟨a, b, xs, rfl, rfl, ha, hb, q⟩ := h
  cases xs with
  | nil => exact op_neD hu pins s σ H (.ref a) (.ref b) v u Q I rx ry ⟨.list [], .list [], .lst ha .nil, .lst hb .nil, by decide +kernel, by decide +kernel, q⟩
  | cons z zs =>
    cases rx
    cases ry
    obtain ⟨its, r1, p1, _⟩ := I.list ha
    obtain ⟨its2, r2, p2, _⟩ := I.list hb
    cases r2
    refine SeqAt.RcNeAt.lists_lengths p1.isList p2.isList ?_ (by omega) _ _ _ _ ⟨.bl true, H, I, rfl, q⟩
    cases r1 with
    | cons _ _ => rfl
end S9
end

section
set_option Elab.async false
set_option linter.all false
set_option maxRecDepth 100000
/-! D94: the text by places. -/
namespace C94
open PySem L2
def top (i : Nat) : Stmt := PySem.Challenge.pw_slidercuts_k94_texts_of_values_and_point.main.body.getD i (.Pass ⟨0, 0, 0, 0⟩)
abbrev sBadText : Stmt := inClass (top 9) 0
abbrev sIsFrac : Stmt := top 14
abbrev sIsInt : Stmt := top 17
abbrev sWithin : Stmt := top 18
abbrev sNeedNum : Stmt := top 19
abbrev sInit : Stmt := inClass (top 23) 0
abbrev sRefuse : Stmt := inClass (top 23) 1
abbrev sNext : Stmt := inClass (top 23) 2
abbrev sNeed : Stmt := inClass (top 23) 4
abbrev sFrac : Stmt := inClass (top 23) 7
abbrev sEnd : Stmt := inClass (top 23) 9
abbrev sIntOf : Stmt := top 24
abbrev sFracOf : Stmt := top 25
abbrev sTake : Stmt := top 26
abbrev sPoint : Stmt := top 29
abbrev sValues : Stmt := top 30
abbrev sReadV : Stmt := top 31
abbrev sReadP : Stmt := top 32
abbrev sPen : Stmt := top 34
abbrev sDraw : Stmt := top 35
abbrev sPick : Stmt := top 36
abbrev sGcd : Stmt := top 37
abbrev sHeard : Stmt := top 38
abbrev sWhole : Stmt := top 39
abbrev sLFrac : Stmt := top 40
abbrev sDue : Stmt := top 41
abbrev sLaw : Stmt := top 42
/-- the built-in names that the program leaves alone, and its constants -/
structure Names (mg : Str → Option Value) : Prop where
  isinstance : mg "isinstance" = none
  len : mg "len" = none
  list : mg "list" = none
  tuple : mg "tuple" = none
  all : mg "all" = none
  int : mg "int" = none
  bool : mg "bool" = none
  str : mg "str" = none
  abs : mg "abs" = none
  range : mg "range" = none
  enumerate : mg "enumerate" = none
  sum : mg "sum" = none
  gcd : mg "gcd" = some (.builtin "math.gcd")
  signs : ∃ t, mg "MOST_SIGNS" = some (.int 402 t)
  part : ∃ t, mg "MOST_PART" = some (.int ((10 ^ 50) ^ 8) t)
  digits : ∃ t, mg "DIGITS" = some (.str "0123456789" t)
  nowhere : ∃ t, mg "NOWHERE" = some (.str "." t)
/-- a statement that is never come to -/
theorem ps_dead {X : Cx} {st : Stmt} : PS X st (fun _ _ _ => False) := ⟨fun _ _ _ _ _ _ h => h.elim⟩
theorem pss_dead {X : Cx} {st : List Stmt} : PSs X st (fun _ _ _ => False) := ⟨fun _ _ _ _ _ _ h => h.elim⟩
theorem pe_dead {X : Cx} {e : Expr} : PE X e (fun _ _ _ => False) := ⟨fun _ _ _ _ _ _ h => h.elim⟩
/-- what was is; a new object beside -/
theorem same_upd {H : Hp} {p : Addr} {o : HO} (n : H p = none) : Same H (upd H p o) := fun b u e => (upd_ne (ne_of_none e n)).trans e
theorem same_upd' {H H1 : Hp} {p : Addr} {o : HO} (s : Same H H1) (n : H p = none) : Same H (upd H1 p o) := fun b u e => (upd_ne (ne_of_none e n)).trans (s _ _ e)
/-- a comprehension without test: each item makes its value, beside it new objects alone -/
theorem lc_mapS {J : It} {G : Hp → Prop} {xs : List V} (w : Walk J xs.length G (YAt xs)) {g : TG} {te : TE} {vs : List Nat} {σ : L2.St} {H1 : Hp} {D : Addr} {Qd : Hp → Prop} (f : V → V) (nD : H1 D = none) (hz : xs.length ≤ sizeLine) (hG : ∀ H, Same H1 H → G H)
    (hs : ∀ (i : Nat) (x : V) (H : Hp) (Qk : VK), xs[i]? = some x → Same H1 H → (∀ H4, Same H H4 → Qk (f x) H4) → g x (wipe σ vs) H fun σ2 H2 => wipe σ2 vs = wipe σ vs ∧ te σ2 H2 Qk) (hd : ∀ H, Same H1 H → H D = some (.lst (xs.map f)) → Qd H) :
    ∃ W : Nat → Nat → Hp → Prop, (∃ m, W 0 m (upd H1 D (.lst []))) ∧ ∀ i m H, W i m H →
      (J.stop i H ∧ Qd H) ∨ (J.go i H ∧ ∃ Nx : Hp → Prop, (∀ H', Nx H' → ∃ m', m' < m ∧ W (i + 1) m' H') ∧ ∀ x H', J.yld i H x H' → g x (wipe σ vs) H' fun σ2 H2 => wipe σ2 vs = wipe σ vs ∧ tYes σ2 H2 fun b H3 =>
        if b = true then te σ2 H3 fun y H4 => ∃ acc, H4 D = some (.lst acc) ∧ acc.length < sizeLine ∧ Nx (upd H4 D (.lst (acc ++ [y]))) else Nx H3) := by
  refine lc_it (n := xs.length) (Y := YAt xs) w (fun i H => Same H1 H ∧ H D = some (.lst ((xs.take i).map f))) ⟨same_upd nD, by rw [upd_same]; rfl⟩ (fun i H _ p => hG H p.1) (fun i x H H' hi ⟨p, q⟩ y => ?_) (fun H p => hd H p.1 (by have z := p.2; rw [List.take_length] at z; exact z))
  obtain ⟨rfl, hx⟩ := y
  refine hs i x _ _ hx p fun H4 s4 => ?_
  refine ⟨_, s4 _ _ q, ?_, same_upd' (p.trans s4) nD, ?_⟩
  · rw [List.length_map, List.length_take]
    omega
  · rw [upd_same, List.take_add_one, hx, List.map_append]
    rfl
end C94
end

section
set_option Elab.async false
set_option linter.all false
set_option maxRecDepth 100000
set_option maxHeartbeats 2000000
namespace C94
open PySem L2 PyProof.Rows
section
variable {P : Program} {w : World} {K : PySem.W.Frag} {mg : Str → Option Value} {base : Heap}
/-! ### checks -/
def spIsInt : Sp := fun vs H Q _ => ∃ i : Int, vs = [.int i] ∧ Q (.bl true) H
theorem scIsInt : FnScope ["value"] ["value"] (defScope sIsInt) := ⟨rfl, rfl, rfl, by decide +kernel, rfl, by decide +kernel, by decide +kernel⟩
theorem kit_int_int {K : PySem.W.Frag} : PySem.W.kitOne K (.type "int") (.type "int") = some true := kit_ty (by decide +kernel)
theorem kit_int_bool {K : PySem.W.Frag} : PySem.W.kitOne K (.type "int") (.type "bool") = some false := kit_ty (by decide +kernel)
theorem kit_tup_list {K : PySem.W.Frag} : PySem.W.kitOne K (.type "tuple") (.type "list") = some false := kit_ty (by decide +kernel)
theorem kit_tup_tup {K : PySem.W.Frag} : PySem.W.kitOne K (.type "tuple") (.type "tuple") = some true := kit_ty (by decide +kernel)
theorem kit_list_list {K : PySem.W.Frag} : PySem.W.kitOne K (.type "list") (.type "list") = some true := kit_ty (by decide +kernel)
theorem kit_str_str {K : PySem.W.Frag} : PySem.W.kitOne K (.type "str") (.type "str") = some true := kit_ty (by decide +kernel)
theorem bo_int : bootBuiltins "int" = some (.type "int") := by decide +kernel
theorem bo_bool : bootBuiltins "bool" = some (.type "bool") := by decide +kernel
theorem bo_list : bootBuiltins "list" = some (.type "list") := by decide +kernel
theorem bo_tuple : bootBuiltins "tuple" = some (.type "tuple") := by decide +kernel
theorem bo_str : bootBuiltins "str" = some (.type "str") := by decide +kernel
theorem bo_isi : bootBuiltins "isinstance" = some (.builtin "isinstance") := by decide +kernel
theorem bo_len : bootBuiltins "len" = some (.builtin "len") := by decide +kernel
theorem bo_all : bootBuiltins "all" = some (.builtin "all") := by decide +kernel
theorem bo_abs : bootBuiltins "abs" = some (.builtin "abs") := by decide +kernel
theorem bo_sum : bootBuiltins "sum" = some (.builtin "sum") := by decide +kernel
/-- isinstance(x, T), T a built-in type -/
theorem pe_isT {X : Cx} {K : PySem.W.Frag} {T : Str} {n : String} {e : Expr} {te : TE} {p p2 pos : Pos} (hg : Gl X "isinstance") (hm : X.mg "isinstance" = none) (hgT : Gl X T) (hmT : X.mg T = none) (hvT : bootBuiltins T = some (.type n)) (hnT : T ≠ "__name__") (hdT : (T == ("__debug__" : Str)) = false) (he : PE X e te) (hK : X.K = K := by rfl)
    (hst : starEach (e :: [.Name T p2]) X.env = (false, eval e X.env) :: starEach [.Name T p2] X.env := by rfl) (hpl : (backTo pos (starEach [.Name T p2] X.env)).any (·.1) = false := by rfl) :
    PE X (.Call (.Name "isinstance" p) [e, .Name T p2] [] pos) (tCB (rIsi K) (tCons te (tCons (tC (.ty n)) tNil))) := by
  subst hK
  exact pe_callB call_isi hg hm bo_isi (pa_cons he (pa_cons (pe_bltn hgT hmT hvT rfl hnT hdT) pa_nil) hst) (he := hst) (hpl := hpl)
/-- T, a built-in type -/
theorem pe_cls {X : Cx} {T : Str} {n : String} {pos : Pos} (hg : Gl X T) (hm : X.mg T = none) (hv : bootBuiltins T = some (.type n)) (hn : T ≠ "__name__" := by decide) (hd : (T == ("__debug__" : Str)) = false := by decide) : PE X (.Name T pos) (tC (.ty n)) :=
  pe_bltn (v := .ty n) hg hm hv rfl hn hd
theorem ok_isInt {f : Addr} {fd : FuncData} (F : Fun K "is_integer" "is_integer" sIsInt f fd) (T : Names mg) : FnOk P w K mg base CX0 1 f fd ["value"] spIsInt := by
  refine F.ok scIsInt (fun vs H Q E h => ?_) (fun cdv A outer s H vs Q E hr h => ?_)
  · obtain ⟨i, rfl, _⟩ := h
    rfl
  · obtain ⟨i, rfl, k⟩ := h
    refine ⟨_, pss_one (ps_ret (pe_and (pe_isT (K := K) (by rfl) T.isinstance (by rfl) T.int bo_int (by decide) (by decide) (pv 0)) (pe_one (pe_not (pe_isT (K := K) (by rfl) T.isinstance (by rfl) T.bool bo_bool (by decide) (by decide) (pv 0)))))), ?_⟩
    refine ⟨_, rfl, _, _, _, _, _, rfl, .ty _, .base (.int _), kit_int_int, _, rfl, ?_⟩
    refine iteT ?_
    exact ⟨_, rfl, _, _, _, _, _, rfl, .ty _, .base (.int _), kit_int_bool, _, rfl, k⟩
def spWithin : Sp := fun vs H Q _ => ∃ i a b : Int, vs = [.int i, .int a, .int b] ∧ Q (.bl (decide (a ≤ i) && decide (i ≤ b))) H
theorem scWithin : FnScope ["value", "least", "most"] ["value", "least", "most"] (defScope sWithin) := ⟨rfl, rfl, rfl, by decide +kernel, rfl, by decide +kernel, by decide +kernel⟩
theorem ok_within {f fI : Addr} {fd fdI : FuncData} (F : Fun K "is_within" "is_within" sWithin f fd) (G : FnOk P w K mg base CX0 1 fI fdI ["value"] spIsInt) (gI : mg "is_integer" = some (.ref fI)) (kI : PySem.W.keepIn K (.ref fI) = true) (bI : Binds K fdI ["value"] []) :
    FnOk P w K mg base CX0 2 f fd ["value", "least", "most"] spWithin := by
  refine F.ok scWithin (fun vs H Q E h => ?_) (fun cdv A outer s H vs Q E hr h => ?_)
  · obtain ⟨i, a, b, rfl, _⟩ := h
    rfl
  · obtain ⟨i, a, b, rfl, k⟩ := h
    refine ⟨_, pss_cons (ps_if (pt_not (pt_val (pe_call G hr rfl gI kI bI .nil pass0 (pa_cons (pv 0) pa_nil)))) (pss_one (ps_ret pe_bl)) pss_nil)
      (pss_one (ps_ret (pe_and (pe_or (pe_cmp (pc_isN (pv 1))) (pe_one (pe_cmpR op_ge (pv 0) (pv 1) (nomark _)))) (pe_one (pe_or (pe_cmp (pc_isN (pv 2))) (pe_one (pe_cmpR op_le (pv 0) (pv 2) (nomark _)))))))), ?_⟩
    refine ⟨_, rfl, i, rfl, true, rfl, iteF ?_⟩
    refine ⟨_, rfl, false, rfl, iteF ?_⟩
    refine ⟨_, rfl, _, rfl, _, _, rfl, rfl, _, rfl, ?_⟩
    cases h1 : decide (a ≤ i) with
    | false =>
      rw [h1] at k
      exact iteF k
    | true =>
      rw [h1] at k
      refine iteT ⟨_, rfl, false, rfl, iteF ?_⟩
      exact ⟨_, rfl, _, rfl, _, _, rfl, rfl, k⟩
/-- need_number of a number that is within -/
def spNeedNum : Sp := fun vs H Q _ => ∃ (i a b : Int) (x : V), vs = [.int i, x, .int a, .int b] ∧ a ≤ i ∧ i ≤ b ∧ Q .non H
theorem scNeedNum : FnScope ["value", "part", "least", "most"] ["value", "part", "least", "most"] (defScope sNeedNum) := ⟨rfl, rfl, rfl, by decide +kernel, rfl, by decide +kernel, by decide +kernel⟩
theorem ok_needNum {f fI : Addr} {fd fdI : FuncData} (F : Fun K "need_number" "need_number" sNeedNum f fd) (G : FnOk P w K mg base CX0 2 fI fdI ["value", "least", "most"] spWithin) (gI : mg "is_within" = some (.ref fI)) (kI : PySem.W.keepIn K (.ref fI) = true) (bI : Binds K fdI ["value", "least", "most"] []) :
    FnOk P w K mg base CX0 3 f fd ["value", "part", "least", "most"] spNeedNum := by
  refine F.ok scNeedNum (fun vs H Q E h => ?_) (fun cdv A outer s H vs Q E hr h => ?_)
  · obtain ⟨i, a, b, x, rfl, _⟩ := h
    rfl
  · obtain ⟨i, a, b, x, rfl, h1, h2, k⟩ := h
    refine ⟨_, pss_one (ps_if (pt_not (pt_val (pe_call G hr rfl gI kI bI .nil pass0 (pa_cons (pv 0) (pa_cons (pv 2) (pa_cons (pv 3) pa_nil)))))) pss_dead pss_nil), ?_⟩
    refine ⟨_, rfl, _, rfl, _, rfl, i, a, b, rfl, _, rfl, ?_⟩
    rw [decide_eq_true h1, decide_eq_true h2]
    exact iteF k
/-! ### is_frac -/
/-- d > 0 and gcd(n, d) == 1 -/
def fracB (n d : Int) : Bool := decide (0 < d) && decide (Nat.gcd n.natAbs d.natAbs = 1)
def spIsFrac : Sp := fun vs H Q _ => ∃ (a : Addr) (n d : Int), vs = [.ref a] ∧ H a = some (.tup [.int n, .int d]) ∧ ∀ H', Same H H' → Q (.bl (fracB n d)) H'
theorem scIsFrac : FnScope ["value", "part"] ["value"] (defScope sIsFrac) := ⟨rfl, rfl, rfl, by decide +kernel, rfl, by decide +kernel, by decide +kernel⟩
theorem ok_isFrac {f : Addr} {fd : FuncData} (F : Fun K "is_frac" "is_frac" sIsFrac f fd) (T : Names mg) : FnOk P w K mg base CX0 1 f fd ["value"] spIsFrac := by
  refine F.ok scIsFrac (fun vs H Q E h => ?_) (fun cdv A outer s H vs Q E hr h => ?_)
  · obtain ⟨a, n, d, rfl, _⟩ := h
    rfl
  · obtain ⟨a, n, d, rfl, ha, k⟩ := h
    refine ⟨_, pss_cons (ps_if (PW.pt (pw_or (pt_not (pt_val (pe_callB call_isiT (by rfl) T.isinstance bo_isi (pa_cons (pv 0) (pa_cons (pe_tup (pa_cons (pe_cls (by rfl) T.list bo_list) (pa_cons (pe_cls (by rfl) T.tuple bo_tuple) pa_nil))) pa_nil)))))
        (pw_or1 (pt_cmpR op_ne (pe_callB call_len_seq (by rfl) T.len bo_len (pa_cons (pv 0) pa_nil)) pe_int (nomark _))))) (pss_one (ps_ret pe_bl)) pss_nil)
      (pss_cons (ps_if (pt_not (pt_val (pe_callB (cr_all rfl) (by rfl) T.all bo_all (pa_cons (by exact (pe_lc (own := [("part", 1)]) (g := gName 1) (tt := tYes) rfl scIsFrac.nd (pi_tup (pv 0)) (blkOk_by (N := ["value", "part"]) (sc := defScope sIsFrac) (by decide +kernel)) (fun _ _ _ _ _ => pg_name (i := 1) scIsFrac.nd rfl (Or.inl rfl)) (fun _ _ _ _ _ => pts_nil)
          (fun _ _ _ _ _ => pe_and (pe_isT (K := K) (by rfl) T.isinstance (by rfl) T.int bo_int (by decide) (by decide) (pv 1)) (pe_one (pe_not (pe_isT (K := K) (by rfl) T.isinstance (by rfl) T.bool bo_bool (by decide) (by decide) (pv 1))))))) pa_nil)))) (pss_one (ps_ret pe_bl)) pss_nil)
      (pss_one (ps_ret (pe_and (pe_cmpR op_gt (pe_ix ix_tup (pv 0) pe_int (fun _ _ => rfl)) pe_int (nomark _)) (pe_one (pe_cmpR op_eq (pe_callBfun cr_gcd (by rfl) T.gcd (pa_cons (pe_ix ix_tup (pv 0) pe_int (fun _ _ => rfl)) (pa_cons (pe_ix ix_tup (pv 0) pe_int (fun _ _ => rfl)) pa_nil))) pe_int (nomark _))))))), ?_⟩
    refine ⟨_, rfl, (by show 2 ≤ sizeLine; decide), fun tp htp => ?_⟩
    have st := same_upd (o := .tup [.ty "list", .ty "tuple"]) htp
    refine ⟨_, _, _, _, _, true, rfl, upd_same, .cons (.ty _) (.cons (.ty _) .nil), .base (.tup (st _ _ ha)), ?_, _, rfl, ?_⟩
    · exact kitAny_cons kit_tup_list (fun _ => kitAny_cons kit_tup_tup (fun z => nomatch z) fun _ => rfl) fun z => nomatch z
    refine iteF ⟨_, rfl, a, _, rfl, .inr (SqT.of (st _ _ ha)), rfl, _, rfl, iteNS rfl ?_⟩
    refine ⟨_, rfl, a, rfl, ⟨_, SqT.of (st _ _ ha)⟩, fun D hD => lc_mapS (xs := [.int n, .int d]) (σ := start ["value", "part"] [.ref a]) walk_tup (fun _ => .bl true) hD (by show 2 ≤ sizeLine; decide) (fun H1 s1 => SqT.of (s1 _ _ (st _ _ ha))) (fun i x H1 Qk hx s1 q => ?_) fun H1 s1 hl => ?_⟩
    · obtain ⟨z, rfl⟩ : ∃ z : Int, x = V.int z := by
        have m := List.mem_of_getElem? hx
        simp only [List.mem_cons, List.mem_nil_iff, or_false] at m
        rcases m with m | m
        · exact ⟨_, m⟩
        · exact ⟨_, m⟩
      refine ⟨rfl, _, rfl, _, _, _, _, _, rfl, .ty _, .base (.int _), kit_int_int, _, rfl, iteT ?_⟩
      exact ⟨_, rfl, _, _, _, _, _, rfl, .ty _, .base (.int _), kit_int_bool, _, rfl, q _ (Same.refl _)⟩
    · refine ⟨D, [true, true], rfl, SqL.of hl, _, rfl, iteF ?_⟩
      have h2 := s1 _ _ (st _ _ ha)
      have k1 := k H1 (st.trans s1)
      have i0 : atI [V.int n, V.int d] 0 = some (V.int n) := rfl
      have i1 : atI [V.int n, V.int d] 1 = some (V.int d) := rfl
      refine ⟨_, rfl, a, _, _, _, rfl, rfl, SqT.of h2, i1, _, _, rfl, rfl, _, rfl, ?_⟩
      unfold fracB at k1
      cases hd : decide (0 < d) with
      | false =>
        rw [hd] at k1
        exact iteF k1
      | true =>
        rw [hd] at k1
        refine iteT ⟨_, rfl, a, _, _, _, rfl, rfl, SqT.of h2, i0, _, rfl, a, _, _, _, rfl, rfl, SqT.of h2, i1, n, d, rfl, rfl, ?_⟩
        have e : decide (V.int ((Nat.gcd n.natAbs d.natAbs : Nat) : Int) = V.int 1) = decide (Nat.gcd n.natAbs d.natAbs = 1) := by
          rw [Bool.eq_iff_iff]
          simp only [decide_eq_true_eq, V.int.injEq]
          omega
        rw [e]
        exact k1
end
end C94
end

section
set_option Elab.async false
set_option linter.all false
set_option maxRecDepth 100000
set_option maxHeartbeats 2000000
/-! M94: whole numbers and fractions as texts; both readers. -/
namespace C94
open PySem L2 TL
abbrev Sgs := List Nat
def digL : Sgs → Sgs
  | 45 :: r => r
  | l => l
def allDig (l : Sgs) : Bool := l.all fun c => decide (48 ≤ c) && decide (c ≤ 57)
/-- no nought ahead -/
def headOk : Sgs → Bool
  | [] => false
  | [48] => true
  | c :: _ => decide (c ≠ 48)
def wholeL (l : Sgs) : Bool := allDig (digL l) && headOk (digL l) && decide (l ≠ [45, 48])
def valL : Sgs → Int
  | 45 :: r => -((NumText.digitsVal r : Nat) : Int)
  | l => ((NumText.digitsVal l : Nat) : Int)
theorem allDig_iff {l : Sgs} : allDig l = true ↔ NumText.AllDigits l := by
  unfold allDig NumText.AllDigits
  simp only [List.all_eq_true, Bool.and_eq_true, decide_eq_true_eq]
theorem digL_neg {l : Sgs} (h : l.head? = some 45) : ∃ r, l = 45 :: r := by
  cases l with
  | nil => cases h
  | cons c r =>
    cases h
    exact ⟨r, rfl⟩
theorem digL_pos {l : Sgs} (h : l.head? ≠ some 45) : digL l = l := by
  unfold digL
  split
  · exact absurd rfl h
  · rfl
theorem valL_pos {l : Sgs} (h : l.head? ≠ some 45) : valL l = ((NumText.digitsVal l : Nat) : Int) := by
  unfold valL
  split
  · exact absurd rfl h
  · rfl
/-! ### canonical digits -/
theorem snoc_of : ∀ {l : Sgs} (ne : l ≠ []), l.dropLast ++ [l.getLast ne] = l
  | [], ne => absurd rfl ne
  | [a], _ => rfl
  | a :: b :: r, _ => by
    have ih := snoc_of (l := b :: r) (by simp)
    simp only [List.dropLast_cons₂, List.cons_append]
    rw [List.getLast_cons (by simp)]
    exact congrArg (a :: ·) ih
theorem dv_snoc (l : Sgs) (c : Nat) : NumText.digitsVal (l ++ [c]) = NumText.digitsVal l * 10 + (c - 48) := by
  unfold NumText.digitsVal
  rw [List.foldl_append]
  rfl
theorem headOk_snoc {l : Sgs} {c d : Nat} (h : headOk (l ++ [c] ++ [d]) = true) : headOk (l ++ [c]) = true ∧ (l ++ [c]).head? ≠ some 48 := by
  cases l with
  | nil =>
    have z : decide (c ≠ 48) = true := by
      simp only [List.nil_append, List.cons_append, headOk] at h
      exact h
    have z := of_decide_eq_true z
    refine ⟨?_, fun q => z (Option.some.inj q)⟩
    simp only [List.nil_append]
    unfold headOk
    split
    · rename_i q
      cases q
    · rfl
    · rename_i q
      cases q
      exact decide_eq_true z
  | cons a r =>
    have z : a ≠ 48 := by
      simp only [List.cons_append] at h
      unfold headOk at h
      split at h
      · cases h
      · rename_i q
        simp at q
      · rename_i q
        cases q
        exact of_decide_eq_true h
    refine ⟨?_, fun q => z (Option.some.inj q)⟩
    simp only [List.cons_append]
    unfold headOk
    split
    · rename_i q
      cases q
    · rfl
    · rename_i q
      cases q
      exact decide_eq_true z
theorem dv_pos : ∀ (n : Nat) (l : Sgs), l.length = n → NumText.AllDigits l → headOk l = true → l.head? ≠ some 48 → 0 < NumText.digitsVal l := by
  intro n
  induction n with
  | zero =>
    intro l hl _ h _
    rw [List.length_eq_zero_iff.mp hl] at h
    cases h
  | succ n ih =>
    intro l hl ha h hd
    obtain ⟨r, c, rfl⟩ : ∃ r c, l = r ++ [c] := by
      have ne : l ≠ [] := fun z => by rw [z] at hl; cases hl
      exact ⟨l.dropLast, l.getLast ne, (snoc_of ne).symm⟩
    rw [dv_snoc]
    have hc := ha c (by simp)
    cases n with
    | zero =>
      have er : r = [] := by
        rw [List.length_append, List.length_singleton] at hl
        exact List.length_eq_zero_iff.mp (by omega)
      subst er
      have : c ≠ 48 := fun z => hd (by rw [z]; rfl)
      omega
    | succ n =>
      obtain ⟨r2, c2, rfl⟩ : ∃ r2 c2, r = r2 ++ [c2] := by
        have ne : r ≠ [] := fun z => by
          rw [z] at hl
          simp at hl
        exact ⟨r.dropLast, r.getLast ne, (snoc_of ne).symm⟩
      obtain ⟨h1, h2⟩ := headOk_snoc h
      have := ih (r2 ++ [c2]) (by simp at hl ⊢; omega) (fun x hx => ha x (List.mem_append_left _ hx)) h1 h2
      omega
/-- the digits of a number told without noughts ahead are the ones told -/
theorem canon : ∀ (n : Nat) (l : Sgs), l.length = n → NumText.AllDigits l → headOk l = true → numL (NumText.digitsVal l) = l := by
  intro n
  induction n with
  | zero =>
    intro l hl _ h
    rw [List.length_eq_zero_iff.mp hl] at h
    cases h
  | succ n ih =>
    intro l hl ha h
    obtain ⟨r, c, rfl⟩ : ∃ r c, l = r ++ [c] := by
      have ne : l ≠ [] := fun z => by rw [z] at hl; cases hl
      exact ⟨l.dropLast, l.getLast ne, (snoc_of ne).symm⟩
    rw [dv_snoc]
    have hc := ha c (by simp)
    cases n with
    | zero =>
      have er : r = [] := by
        rw [List.length_append, List.length_singleton] at hl
        exact List.length_eq_zero_iff.mp (by omega)
      subst er
      show numL (NumText.digitsVal [] * 10 + (c - 48)) = [c]
      have e0 : NumText.digitsVal [] = 0 := rfl
      rw [e0, numL_lt (by omega)]
      congr 1
      omega
    | succ n =>
      obtain ⟨r2, c2, rfl⟩ : ∃ r2 c2, r = r2 ++ [c2] := by
        have ne : r ≠ [] := fun z => by
          rw [z] at hl
          simp at hl
        exact ⟨r.dropLast, r.getLast ne, (snoc_of ne).symm⟩
      obtain ⟨h1, h2⟩ := headOk_snoc h
      have ha2 : NumText.AllDigits (r2 ++ [c2]) := fun x hx => ha x (List.mem_append_left _ hx)
      have hp := dv_pos _ (r2 ++ [c2]) rfl ha2 h1 h2
      have e := ih (r2 ++ [c2]) (by simp at hl ⊢; omega) ha2 h1
      rw [numL_step (by omega)]
      have q1 : (NumText.digitsVal (r2 ++ [c2]) * 10 + (c - 48)) / 10 = NumText.digitsVal (r2 ++ [c2]) := by omega
      have q2 : (NumText.digitsVal (r2 ++ [c2]) * 10 + (c - 48)) % 10 = c - 48 := by omega
      rw [q1, q2, e]
      congr 2
      omega
theorem numL_head (n : Nat) : headOk (numL n) = true := by
  induction n using Nat.strongRecOn with
  | _ n ih =>
    by_cases h : n < 10
    · rw [numL_lt h]
      unfold headOk
      split
      · rename_i q
        cases q
      · rfl
      · rename_i hne q
        cases q
        refine decide_eq_true fun z => ?_
        exact hne z rfl
    · rw [numL_step (by omega)]
      have i := ih (n / 10) (by omega)
      have hp : numL (n / 10) ≠ [48] := fun z => by
        have e := numL_val (n / 10)
        rw [z] at e
        have : n / 10 = 0 := e.symm
        omega
      cases e : numL (n / 10) with
      | nil => exact absurd e (numL_ne _)
      | cons a r =>
        rw [e] at i hp
        have z : a ≠ 48 := by
          unfold headOk at i
          split at i
          · cases i
          · rename_i q
            exact absurd q hp
          · rename_i q
            cases q
            exact of_decide_eq_true i
        show headOk (a :: (r ++ [48 + n % 10])) = true
        unfold headOk
        split
        · rename_i q
          cases q
        · rfl
        · rename_i q
          cases q
          exact decide_eq_true z
/-- str(int(word)) == word, just if no nought stands ahead (and no minus ahead of 0) -/
theorem back_iff {l : Sgs} (ha : NumText.AllDigits (digL l)) (hne : digL l ≠ []) : tl (Str.ofString (toString (valL l))) = l ↔ wholeL l = true := by
  have e1 : allDig (digL l) = true := allDig_iff.mpr ha
  unfold wholeL
  rw [e1, Bool.true_and, Bool.and_eq_true, decide_eq_true_eq]
  by_cases hm : l.head? = some 45
  · obtain ⟨r, rfl⟩ := digL_neg hm
    have hd : digL (45 :: r) = r := rfl
    have hv : valL (45 :: r) = -((NumText.digitsVal r : Nat) : Int) := rfl
    rw [hd] at ha hne ⊢
    rw [hv]
    by_cases z : NumText.digitsVal r = 0
    · rw [z]
      have e : tl (Str.ofString (toString (-((0 : Nat) : Int)))) = [48] := by
        have q := tl_num 0
        rw [numL_lt (by omega)] at q
        exact q
      rw [e]
      constructor
      · intro q
        cases q
      · rintro ⟨h1, h2⟩
        have q := canon _ r rfl ha h1
        rw [z, numL_lt (by omega)] at q
        exact absurd (by rw [← q]) h2
    · have hn : -((NumText.digitsVal r : Nat) : Int) < 0 := by omega
      have e : tl (Str.ofString (toString (-((NumText.digitsVal r : Nat) : Int)))) = 45 :: numL (NumText.digitsVal r) := by
        have q : (0 : Int) - -((NumText.digitsVal r : Nat) : Int) = ((NumText.digitsVal r : Nat) : Int) := by omega
        rw [PyProof.Rows.toString_neg hn, q, tl_ofString, String.toList_append, List.map_append]
        have t := tl_num (NumText.digitsVal r)
        rw [tl_ofString] at t
        rw [t]
        rfl
      rw [e]
      constructor
      · intro q
        have q2 : numL (NumText.digitsVal r) = r := by
          injection q
        refine ⟨?_, fun y => ?_⟩
        · rw [← q2]
          exact numL_head _
        · injection y with _ y
          rw [y] at z
          exact z rfl
      · rintro ⟨h1, _⟩
        rw [canon _ r rfl ha h1]
  · have hd := digL_pos hm
    rw [hd] at ha hne ⊢
    rw [valL_pos hm, tl_num]
    constructor
    · intro q
      refine ⟨by rw [← q]; exact numL_head _, fun y => hm (by rw [y]; rfl)⟩
    · rintro ⟨h1, _⟩
      exact canon _ l rfl ha h1
/-- int(word) -/
theorem int_val {w : Str} (ha : NumText.AllDigits (digL (tl w))) (hne : digL (tl w) ≠ []) (hl : w.length ≤ 4300) : intText? w = some (valL (tl w)) := by
  by_cases hm : (tl w).head? = some 45
  · obtain ⟨r, er⟩ := digL_neg hm
    rw [er] at ha hne ⊢
    exact intText_neg er ha hne hl
  · have hd := digL_pos hm
    rw [hd] at ha hne
    rw [valL_pos hm]
    exact intText_digits ha hne hl
theorem dv_lt : ∀ (n : Nat) (l : Sgs), l.length = n → NumText.AllDigits l → NumText.digitsVal l < 10 ^ n := by
  intro n
  induction n with
  | zero =>
    intro l hl _
    rw [List.length_eq_zero_iff.mp hl]
    exact Nat.one_pos
  | succ n ih =>
    intro l hl ha
    obtain ⟨r, c, rfl⟩ : ∃ r c, l = r ++ [c] := by
      have ne : l ≠ [] := fun z => by rw [z] at hl; cases hl
      exact ⟨l.dropLast, l.getLast ne, (snoc_of ne).symm⟩
    rw [dv_snoc]
    have hc := ha c (by simp)
    have q := ih r (by simpa using hl) fun x hx => ha x (List.mem_append_left _ hx)
    rw [Nat.pow_succ]
    omega
theorem valL_lt {l : Sgs} (ha : NumText.AllDigits (digL l)) (hl : l.length ≤ 402) : (valL l).natAbs < 10 ^ 402 := by
  by_cases hm : l.head? = some 45
  · obtain ⟨r, rfl⟩ := digL_neg hm
    have q := dv_lt _ r rfl ha
    have e : (valL (45 :: r)).natAbs = NumText.digitsVal r := Int.natAbs_neg _
    rw [e]
    exact Nat.lt_of_lt_of_le q (Nat.pow_le_pow_right (by decide) (by simp at hl; omega))
  · rw [valL_pos hm]
    rw [digL_pos hm] at ha
    have q := dv_lt _ l rfl ha
    show NumText.digitsVal l < _
    exact Nat.lt_of_lt_of_le q (Nat.pow_le_pow_right (by decide) hl)
theorem p402 : (10 : Nat) ^ 402 ≤ 2 ^ 1400 := by decide +kernel
theorem valL_log {l : Sgs} (ha : NumText.AllDigits (digL l)) (hl : l.length ≤ 402) : (valL l).natAbs.log2 < 1920 :=
  Nat.lt_trans (PySem.Flt.log2_lt_of (by decide) (Nat.lt_of_lt_of_le (valL_lt ha hl) p402)) (by decide)
theorem s_minus : ("-" : Str) = SX.S [45] := by decide +kernel
theorem s_empty : ("" : Str) = SX.S [] := by decide +kernel
end C94
end

section
set_option Elab.async false
set_option linter.all false
set_option maxRecDepth 100000
set_option maxHeartbeats 2000000
namespace C94
open PySem L2 PyProof.Rows
open SX (S)
/-- an int or None -/
def vOpt : Option Int → V
  | none => .non
  | some i => .int i
def intOfL (l : Sgs) : Option Int := if l.length ≤ 402 ∧ wholeL l = true then some (valL l) else none
def sgV (c : Nat) : V := .str ⟨#[c]⟩
/-- sign in DIGITS -/
def sgB : V → V
  | .str z => .bl (decide (48 ≤ z.cps.toList.headD 0) && decide (z.cps.toList.headD 0 ≤ 57))
  | _ => .non
def isDig (c : Nat) : Bool := decide (48 ≤ c) && decide (c ≤ 57)
/-- a text's signs, one by one -/
theorem walk_sgs (l : Sgs) : Walk (Its (S l)) (l.map sgV).length (fun _ => True) (YAt (l.map sgV)) := by
  have e : (S l).cps.size = (l.map sgV).length := by simp [S]
  have w := walk_str (z := S l)
  rw [e] at w
  refine w.mono (fun _ _ => trivial) fun i H x H' _ _ y => ?_
  obtain ⟨h1, c, h2, h3⟩ := y
  refine ⟨h1, ?_⟩
  have h2' : l[i]? = some c := by simpa [S] using h2
  rw [List.getElem?_map, h2', h3]
  rfl
theorem in_digits (c : Nat) : decide (c ∈ (("0123456789" : Str)).cps.toList) = isDig c := by
  have e : (("0123456789" : Str)).cps.toList = [48, 49, 50, 51, 52, 53, 54, 55, 56, 57] := by decide +kernel
  rw [e]
  unfold isDig
  rw [Bool.eq_iff_iff]
  simp only [decide_eq_true_eq, Bool.and_eq_true, List.mem_cons, List.mem_nil_iff, or_false]
  omega
section
variable {P : Program} {w : World} {K : PySem.W.Frag} {mg : Str → Option Value} {base : Heap}
def spIntOf : Sp := fun vs H Q _ => ∃ l : Sgs, vs = [.str (S l)] ∧ l.length ≤ 1000000 ∧ ∀ H', Same H H' → Q (vOpt (intOfL l)) H'
theorem scIntOf : FnScope ["word", "digits", "found", "sign"] ["word"] (defScope sIntOf) := ⟨rfl, rfl, rfl, by decide +kernel, rfl, by decide +kernel, by decide +kernel⟩
theorem ok_intOf {f : Addr} {fd : FuncData} (F : Fun K "integer_of" "integer_of" sIntOf f fd) (T : Names mg) : FnOk P w K mg base CX0 1 f fd ["word"] spIntOf := by
  obtain ⟨t1, m1⟩ := T.signs
  obtain ⟨t2, m2⟩ := T.digits
  refine F.ok scIntOf (fun vs H Q E h => ?_) (fun cdv A outer s H vs Q E hr h => ?_)
  · obtain ⟨l, rfl, _⟩ := h
    rfl
  · obtain ⟨l, rfl, hl, k⟩ := h
    refine ⟨_, pss_cons (ps_if (PW.pt (pw_or (pt_cmp (pc_isN (pv 0))) (pw_or1 (pt_not (pt_chain op_lt op_le pe_int (pe_callB call_len_str (by rfl) T.len bo_len (pa_cons (pv 0) pa_nil)) (pe_glob (v := .int 402) (by rfl) m1 ⟨_, rfl⟩)))))) (pss_one (ps_ret pe_non)) pss_nil)
      (pss_cons (ps_set (i := 1) scIntOf.nd rfl (Or.inl rfl) (pe_ifExp (pt_cmpR op_eq (pe_ix ix_str (pv 0) pe_int (fun _ _ => rfl)) pe_str (nomark _)) (pe_slice C8.sl_txt (pv 0) (po_some pe_int) po_none) (pv 0)))
      (pss_cons (ps_if (PW.pt (pw_or (pt_cmpR op_eq (pv 1) pe_str (nomark _)) (pw_or1 (pt_not (pt_val (pe_callB (cr_all rfl) (by rfl) T.all bo_all (pa_cons (pe_lc (own := [("sign", 3)]) (g := gName 3) (tt := tYes) rfl scIntOf.nd (pi_str (pv 1)) (blkOk_by (N := ["word", "digits", "found", "sign"]) (sc := defScope sIntOf) (by decide +kernel)) (fun _ _ _ _ _ => pg_name (i := 3) scIntOf.nd rfl (Or.inl rfl)) (fun _ _ _ _ _ => pts_nil)
          (fun _ _ _ _ _ => pe_cmpR op_in_sign (pv 3) (pe_glob (v := .str "0123456789") (by rfl) m2 ⟨_, rfl⟩) rfl)) pa_nil))))))) (pss_one (ps_ret pe_non)) pss_nil)
      (pss_cons (ps_set (i := 2) scIntOf.nd rfl (Or.inl rfl) (pe_callTy call_int_str (by rfl) T.int bo_int (pa_cons (pv 0) pa_nil)))
      (pss_one (ps_ret (pe_ifExp (pt_cmpR op_eq (pe_callTy call_str_int (by rfl) T.str bo_str (pa_cons (pv 2) pa_nil)) (pv 0) (nomark _)) (pv 2) pe_non)))))), ?_⟩
    have z0 : (S l).length = l.length := SX.S_len l
    have zs : (S l).length ≤ sizeLine := by rw [z0]; exact Nat.le_trans hl (by decide)
    have none_of : (¬ (l.length ≤ 402 ∧ wholeL l = true)) → ∀ H', Same H H' → Q .non H' := fun c H' s' => by
      have q := k H' s'
      unfold intOfL at q
      rw [if_neg c] at q
      exact q
    refine ⟨_, rfl, false, rfl, iteF ⟨_, rfl, S l, rfl, zs, _, _, rfl, rfl, _, rfl, ?_⟩⟩
    rw [z0]
    by_cases h0 : l = []
    · subst h0
      refine ite2 (fun c => absurd (of_decide_eq_true c) (by decide)) fun _ => ⟨_, rfl, iteT ?_⟩
      exact none_of (fun c => by have := c.2; unfold wholeL digL headOk at this; simp at this) H (Same.refl H)
    have hpos : 0 < l.length := List.length_pos_iff.mpr h0
    refine ite2 (fun _ => ?_) (fun c => absurd (decide_eq_true (by omega)) c)
    refine ⟨_, _, rfl, rfl, _, rfl, ?_⟩
    by_cases h4 : l.length ≤ 402
    case neg =>
      rw [decide_eq_false (by omega : ¬ ((l.length : Nat) : Int) ≤ 402)]
      exact iteT (none_of (fun c => h4 c.1) H (Same.refl H))
    rw [decide_eq_true (by omega : ((l.length : Nat) : Int) ≤ 402)]
    refine iteF ?_
    -- digits
    obtain ⟨c, r, rfl⟩ : ∃ c r, l = c :: r := by
      cases l with
      | nil => exact absurd rfl h0
      | cons c r => exact ⟨c, r, rfl⟩
    refine ⟨_, rfl, _, _, c, rfl, rfl, zs, atI_nat (j := 0) (show (c :: r)[0]? = some c from rfl), rfl, _, rfl, ?_⟩
    have dig : ∀ (Qk : VK), Qk (.str (S (digL (c :: r)))) H → if decide (V.str ⟨#[c]⟩ = V.str "-") = true then tSl C8.rSlX (tVar 0) (tPart (tC (V.int 1))) tNoPart (start ["word", "digits", "found", "sign"] [V.str (S (c :: r))]) H Qk else tVar 0 (start ["word", "digits", "found", "sign"] [V.str (S (c :: r))]) H Qk := fun Qk q => by
      by_cases hm : c = 45
      · subst hm
        refine ite2 (fun _ => ?_) (fun z => absurd (decide_eq_true (by decide +kernel)) z)
        refine ⟨_, rfl, ?_⟩
        refine ⟨_, rfl, _, rfl, zs, ?_⟩
        rw [SX.slice_from (by decide)]
        exact q
      · refine ite2 (fun z => ?_) (fun _ => ?_)
        · have z := of_decide_eq_true z
          rw [s_minus] at z
          have z2 := SX.S_inj (a := [c]) (V.str.inj z)
          exact absurd (List.cons.inj z2).1 hm
        · refine ⟨_, rfl, ?_⟩
          rw [digL_pos (l := c :: r) (fun z => hm (Option.some.inj z))] at q
          exact q
    refine dig _ ?_
    by_cases hd : digL (c :: r) = []
    · rw [hd]
      refine ⟨_, rfl, rfl, _, rfl, ?_⟩
      rw [s_empty]
      refine ite2 (fun _ => ?_) (fun z => absurd (decide_eq_true rfl) z)
      refine iteT (none_of (fun y => ?_) H (Same.refl H))
      have y2 := y.2
      unfold wholeL at y2
      rw [hd] at y2
      simp [headOk] at y2
    refine ⟨_, rfl, rfl, _, rfl, ?_⟩
    rw [s_empty]
    refine ite2 (fun z => absurd (SX.S_inj (V.str.inj (of_decide_eq_true z))) hd) (fun _ => ?_)
    have fd : ∀ ds : Sgs, (ds.map sgV).map sgB = (ds.map isDig).map V.bl := fun ds => by
      rw [List.map_map, List.map_map]
      exact List.map_congr_left fun x _ => rfl
    refine ⟨_, rfl, _, rfl, fun D hD => lc_mapS (xs := (digL (c :: r)).map sgV) (σ := [some (V.str (S (c :: r))), some (V.str (S (digL (c :: r)))), none, none]) (walk_sgs _) sgB hD ?_ (fun _ _ => trivial) (fun i x H1 Qk hx s1 q => ?_) fun H1 s1 hL => ?_⟩
    · rw [List.length_map]
      refine Nat.le_trans (m := 1000000) (Nat.le_trans ?_ hl) (by decide)
      unfold digL
      split
      · rename_i e
        cases e
        simp
      · exact Nat.le_refl _
    · obtain ⟨y, rfl⟩ : ∃ y, x = sgV y := by
        have m := List.mem_of_getElem? hx
        obtain ⟨y, _, e⟩ := List.mem_map.mp m
        exact ⟨y, e.symm⟩
      refine ⟨rfl, _, rfl, y, _, rfl, rfl, ?_⟩
      rw [in_digits]
      exact q _ (Same.refl _)
    rw [fd] at hL
    refine ⟨D, _, rfl, SqL.of hL, _, rfl, ?_⟩
    have ea : ((digL (c :: r)).map isDig).all id = allDig (digL (c :: r)) := by
      unfold allDig isDig
      rw [List.all_map]
      rfl
    rw [ea]
    cases hA : allDig (digL (c :: r)) with
    | false =>
      refine iteT (none_of (fun y => ?_) H1 s1)
      have y2 := y.2
      unfold wholeL at y2
      rw [hA] at y2
      simp at y2
    | true =>
      have hA2 := allDig_iff.mp hA
      have hv := int_val (w := S (c :: r)) hA2 hd (by rw [z0]; omega)
      refine iteF ⟨_, rfl, _, _, rfl, hv, by rw [z0]; omega, ?_⟩
      refine ⟨_, rfl, _, rfl, valL_log hA2 h4, _, rfl, rfl, _, rfl, ?_⟩
      have bk := back_iff hA2 hd
      have eq1 : (V.str (Str.ofString (toString (valL (c :: r)))) = V.str (S (c :: r))) ↔ wholeL (c :: r) = true := by
        rw [← bk]
        constructor
        · intro q
          have q2 := congrArg TL.tl (V.str.inj q)
          exact q2
        · intro q
          refine congrArg V.str (TL.ext_tl q)
      have kk := k H1 s1
      unfold intOfL at kk
      refine ite2 (fun z => ?_) (fun z => ?_)
      · have z := eq1.mp (of_decide_eq_true z)
        rw [if_pos ⟨h4, z⟩] at kk
        exact ⟨_, rfl, kk⟩
      · rw [if_neg (fun y => z (decide_eq_true (eq1.mpr y.2)))] at kk
        exact kk
end
end C94
end

section
set_option Elab.async false
set_option linter.all false
set_option maxRecDepth 100000
set_option maxHeartbeats 2000000
namespace C94
open PySem L2 PyProof.Rows
open SX (S)
open S9
/-! ### BadText -/
theorem bad_body : defBody sBadText = [iSup "BadText" 0 ⟨30, 8, 30, 13⟩ ⟨30, 8, 30, 15⟩ ⟨30, 8, 30, 24⟩ ⟨30, 25, 30, 34⟩ ⟨30, 8, 30, 35⟩ ⟨30, 8, 30, 35⟩, iSto "line" ⟨31, 8, 31, 12⟩ ⟨31, 8, 31, 17⟩ ⟨31, 20, 31, 24⟩ ⟨31, 8, 31, 24⟩, iSto "word" ⟨32, 8, 32, 12⟩ ⟨32, 8, 32, 17⟩ ⟨32, 20, 32, 24⟩ ⟨32, 8, 32, 24⟩] := rfl
theorem bad_sup : SupTxt (defArgs sBadText) (defScope sBadText) "BadText" 0 ⟨30, 8, 30, 13⟩ ⟨30, 8, 30, 15⟩ ⟨30, 8, 30, 24⟩ ⟨30, 25, 30, 34⟩ ⟨30, 8, 30, 35⟩ ⟨30, 8, 30, 35⟩ where
  kind := rfl
  co := rfl
  gen := rfl
  ks := rfl
  kc := rfl
  self := rfl
  hd := ⟨_, rfl⟩
  nocell := by decide +kernel
  ev := fun _ _ _ _ _ => ⟨_, rfl⟩
theorem bad_line : StoTxt (defScope sBadText) "line" ⟨31, 8, 31, 12⟩ ⟨31, 8, 31, 17⟩ ⟨31, 20, 31, 24⟩ ⟨31, 8, 31, 24⟩ where
  loc := rfl
  db := by decide
  sw := fun _ _ _ _ _ => by first | rfl | with_unfolding_all rfl
theorem bad_word : StoTxt (defScope sBadText) "word" ⟨32, 8, 32, 12⟩ ⟨32, 8, 32, 17⟩ ⟨32, 20, 32, 24⟩ ⟨32, 8, 32, 24⟩ where
  loc := rfl
  db := by decide
  sw := fun _ _ _ _ _ => by first | rfl | with_unfolding_all rfl
/-- what the written part says of BadText -/
structure BadTxt (P : Program) (K : PySem.W.Frag) (mg : Str → Option Value) (CB fB : Addr) : Prop where
  txt : XTxt P K CB fB "BadText.__init__" (defArgs sBadText) (defBody sBadText) (defScope sBadText)
  mgB : mg "BadText" = some (.ref CB)
  kC : PySem.W.keepIn K (.ref CB) = true
  exC : PySem.W.subIn K (.ref CB) (.type "BaseException") = some true
  tyC : PySem.W.typeIn K (.ref CB) = some (.type "type")
  nL : PySem.W.findIn K (.ref CB) "line" = some none
  nW : PySem.W.findIn K (.ref CB) "word" = some none
  sup : mg "super" = none
theorem lw : ¬ (("word" : Str) = "line") := by decide +kernel
theorem ls : ¬ (("line" : Str) = "self") := by decide +kernel
theorem ws_ : ¬ (("word" : Str) = "self") := by decide +kernel
section
variable {X : Cx} {CB fB : Addr}
/-- BadText(a, b) -/
theorem pmk_bad {a b : Expr} {ta : TA} {p pos : Pos} {k : Nat} (B : BadTxt X.prog X.K X.mg CB fB) (hr : Room k X.A) (ha : PA X [a, b] ta) (hg : Gl X "BadText")
    (he : starEach [a, b] X.env = (false, eval a X.env) :: starEach [b] X.env := by rfl) (hpl : (backTo pos (starEach [b] X.env)).any (·.1) = false := by rfl) :
    PMk X (.Call (.Name "BadText" p) [a, b] [] pos) (tMk2 CB "line" "word" ta) := by
  refine pmk_two (f1 := "line") (f2 := "word") B.txt B.mgB B.kC B.exC B.tyC lw (fun A' R' s' x t0 u v hd X' G Bt lim hx nx gx bx hq => ?_) hr ha hg (by decide) he hpl
  exact init_two (f1 := "line") (f2 := "word") B.txt bad_sup bad_line bad_word B.nL B.nW lw ls ws_ (fun _ _ _ _ _ _ _ _ _ _ => rfl) X' G Bt B.sup lim hx nx gx bx hd hq
end
end C94
end

section
set_option Elab.async false
set_option linter.all false
set_option maxRecDepth 100000
set_option maxHeartbeats 2000000
/-! M94b: split and count; fractions. -/
namespace C94
open PySem L2 TL PySem.Builtin PySem.Builtin.Str PySem.StrLaws
theorem partsFrom_len (x : Str) (w : Nat) : ∀ (cuts : List Nat) (a : Nat), (partsFrom x w a cuts).length = cuts.length + 1
  | [], _ => rfl
  | c :: r, a => by
    show (partsFrom x w (c + w) r).length + 1 = _
    rw [partsFrom_len x w r]
    rfl
theorem sub_len (x : Str) (i j : Nat) : (strSub x i j).length ≤ x.length := by
  rw [len_tl, len_tl, tl_strSub, List.length_take, List.length_drop]
  omega
theorem partsFrom_short (x : Str) (w : Nat) : ∀ (cuts : List Nat) (a : Nat), ∀ p ∈ partsFrom x w a cuts, p.length ≤ x.length
  | [], a, p, h => by
    have e : p = strSub x a x.length := List.mem_singleton.mp h
    rw [e]
    exact sub_len _ _ _
  | c :: r, a, p, h => by
    rcases List.mem_cons.mp (show p ∈ strSub x a c :: partsFrom x w (c + w) r from h) with e | e
    · rw [e]
      exact sub_len _ _ _
    · exact partsFrom_short x w r _ p e
section
variable {x y : Str}
theorem split_parts (hy : tl y ≠ []) (hk : y.cps.all (· < 256) = true) : (Txt.split x y).map tl = (partsFrom x y.length 0 (occurrences x y 0 x.length (x.length + 1))).map tl := by
  obtain ⟨f, g, hn⟩ := occ_tight x y (len1 hy)
  have key := parts_spl hy _ 0 f (Nat.zero_le _) g hn
  rw [List.drop_zero] at key
  rw [split_spl x y hy (kind_ok hk), ← key]
theorem split_len (hy : tl y ≠ []) (hk : y.cps.all (· < 256) = true) : ((Txt.split x y).length : Int) = Txt.count x y + 1 := by
  have e := congrArg List.length (split_parts (x := x) hy hk)
  rw [List.length_map, List.length_map, partsFrom_len] at e
  rw [e]
  rfl
theorem split_short (hy : tl y ≠ []) (hk : y.cps.all (· < 256) = true) : ∀ p ∈ Txt.split x y, p.length ≤ x.length := fun p hp => by
  have m : tl p ∈ (partsFrom x y.length 0 (occurrences x y 0 x.length (x.length + 1))).map tl := by
    rw [← split_parts hy hk]
    exact List.mem_map_of_mem hp
  obtain ⟨q, hq, e⟩ := List.mem_map.mp m
  rw [len_tl, ← e, ← len_tl]
  exact partsFrom_short x _ _ _ q hq
theorem split_ne (hy : tl y ≠ []) (hk : y.cps.all (· < 256) = true) : Txt.split x y ≠ [] := fun z => by
  have e := congrArg List.length (split_parts (x := x) hy hk)
  rw [z, List.length_map, List.length_map, partsFrom_len] at e
  simp at e
theorem split_count_le (hy : tl y ≠ []) (hk : y.cps.all (· < 256) = true) : (Txt.split x y).length ≤ x.length + 1 := by
  obtain ⟨f, g, hn⟩ := occ_tight x y (len1 hy)
  have e := congrArg List.length (split_parts (x := x) hy hk)
  rw [List.length_map, List.length_map, partsFrom_len] at e
  rw [e]
  have go : ∀ (cuts : List Nat) (a f : Nat), a ≤ x.length → ChainG x y x.length a cuts f → a + cuts.length ≤ x.length := by
    intro cuts
    induction cuts with
    | nil => intro a f ha _; simpa using ha
    | cons c r ih =>
      intro a f ha h
      obtain ⟨h1, h2, _, h4⟩ := h
      have hc : c + y.length ≤ x.length := h2.1
      have q := ih (c + y.length) f hc h4
      have l1 := len1 hy
      simp only [List.length_cons]
      omega
  have q := go _ 0 f (Nat.zero_le _) g
  omega
end
theorem slash_ne : tl ("/" : Str) ≠ [] := by decide +kernel
theorem slash_k : ("/" : Str).cps.all (· < 256) = true := by decide +kernel
theorem blank_ne : tl (" " : Str) ≠ [] := by decide +kernel
theorem blank_k : (" " : Str).cps.all (· < 256) = true := by decide +kernel
theorem slash_l : (("/" : Str).length == 0) = false := by decide +kernel
theorem blank_l : ((" " : Str).length == 0) = false := by decide +kernel
/-! ### fractions -/
/-- 10 ** 400 -/
def MP : Int := (10 ^ 50) ^ 8
def okFr (n d : Int) : Option (Int × Int) := if fracB n d = true ∧ (n.natAbs : Int) ≤ MP ∧ d ≤ MP then some (n, d) else none
def frOf : List (Option Int) → Option (Int × Int)
  | [some n] => okFr n 1
  | [some n, some d] => if d < 2 then none else okFr n d
  | _ => none
def fracOf (z : Str) : Option (Int × Int) := frOf ((Txt.split z "/").map fun p => intOfL (tl p))
end C94
end

section
set_option Elab.async false
set_option linter.all false
set_option maxRecDepth 100000
set_option maxHeartbeats 2000000
namespace C94
open PySem L2 PyProof.Rows TL
open SX (S)
/-- part's text, the value of its slot -/
def intV : V → V
  | .str z => vOpt (intOfL (tl z))
  | _ => .non
section
variable {P : Program} {w : World} {K : PySem.W.Frag} {mg : Str → Option Value} {base : Heap}
def spFracOf : Sp := fun vs H Q _ => ∃ x, vs = [x] ∧ ((x = .non ∧ Q .non H) ∨ ∃ z : Str, x = .str z ∧ z.length ≤ 1000000 ∧ (fracOf z = none → ∀ H', Same H H' → Q .non H') ∧ ∀ n d, fracOf z = some (n, d) → ∀ H' a, Same H H' → H' a = some (.tup [.int n, .int d]) → Q (.ref a) H')
theorem scFracOf : FnScope ["word", "parts", "found", "part"] ["word"] (defScope sFracOf) := ⟨rfl, rfl, rfl, by decide +kernel, rfl, by decide +kernel, by decide +kernel⟩
theorem vopt_flat (l : List (Option Int)) : (l.map vOpt).all flatV = true := by
  rw [List.all_map, List.all_eq_true]
  intro x _
  cases x <;> rfl
theorem vopt_none (l : List (Option Int)) : inV .non (l.map vOpt) = l.any Option.isNone := by
  unfold inV
  rw [List.any_map]
  congr 1
  funext x
  cases x <;> rfl
theorem fr_long {l : List (Option Int)} (h : 2 < l.length) : frOf l = none := by
  unfold frOf
  split
  · simp at h
  · simp at h
  · rfl
theorem fr_none {l : List (Option Int)} (h : l.any Option.isNone = true) : frOf l = none := by
  unfold frOf
  split
  · simp at h
  · simp at h
  · rfl
/-- what comes behind found's making -/
def tFr (K : PySem.W.Frag) : TS := tSeq (tIfS (tOr (tNot (tB (tCall spIsFrac [] E0 (tCons (tVar 2) tNil)))) (tOr (tTest (tOp (rI0 fun i j => V.bl (decide (j < i)))
    (tCB (fun xs H Q => ∃ i, xs = [V.int i] ∧ Q (V.int (if i < 0 then -i else i)) H) (tCons (tOp (rIxT K) (tVar 2) (tC (V.int 0))) tNil)) (tC (V.int ((10 ^ 50) ^ 8)))))
    (tTest (tOp (rI0 fun i j => V.bl (decide (j < i))) (tOp (rIxT K) (tVar 2) (tC (V.int 1))) (tC (V.int ((10 ^ 50) ^ 8))))))) (tRet (tC V.non)) tNext) (tRet (tVar 2))
theorem frac_tail (K : PySem.W.Frag) {n d : Int} {H : Hp} {a : Addr} {σ : L2.St} {Q : VK} {nx : L2.St → Hp → Prop} (ha : H a = some (.tup [.int n, .int d])) (hσ : σ[2]? = some (some (.ref a))) (kN : okFr n d = none → ∀ H', Same H H' → Q .non H') (kS : okFr n d = some (n, d) → ∀ H', Same H H' → H' a = some (.tup [.int n, .int d]) → Q (.ref a) H') :
    tFr K { nx := nx, rt := Q } σ H := by
  have i0 : atI [V.int n, V.int d] 0 = some (V.int n) := rfl
  have i1 : atI [V.int n, V.int d] 1 = some (V.int d) := rfl
  unfold okFr MP at kN kS
  refine ⟨_, hσ, a, n, d, rfl, ha, fun H' s' => ⟨_, rfl, ?_⟩⟩
  have h' := s' _ _ ha
  cases hB : fracB n d with
  | false =>
    rw [if_neg (by rw [hB]; simp)] at kN
    exact iteT (iteT (kN rfl H' s'))
  | true =>
    refine iteF ?_
    refine ⟨_, hσ, a, _, _, _, rfl, rfl, SqT.of h', i0, _, rfl, _, _, rfl, rfl, _, rfl, ?_⟩
    have en : (if n < 0 then -n else n) = (n.natAbs : Int) := by omega
    rw [en]
    refine ite2 (fun c => ?_) (fun c => ?_)
    · have c := of_decide_eq_true c
      rw [if_neg (fun y => absurd y.2.1 (Int.not_le.mpr c))] at kN
      exact iteT (kN rfl H' s')
    · have c : ¬ ((10 ^ 50) ^ 8 : Int) < (n.natAbs : Int) := fun y => c (decide_eq_true y)
      refine ⟨_, hσ, a, _, _, _, rfl, rfl, SqT.of h', i1, _, _, rfl, rfl, _, rfl, ?_⟩
      refine ite2 (fun c2 => ?_) (fun c2 => ?_)
      · have c2 := of_decide_eq_true c2
        rw [if_neg (fun y => absurd y.2.2 (Int.not_le.mpr c2))] at kN
        exact kN rfl H' s'
      · have c2 : ¬ ((10 ^ 50) ^ 8 : Int) < d := fun y => c2 (decide_eq_true y)
        rw [if_pos ⟨hB, Int.not_lt.mp c, Int.not_lt.mp c2⟩] at kS
        exact ⟨_, hσ, kS rfl H' s' h'⟩
theorem ok_fracOf {f fI fG : Addr} {fd fdI fdG : FuncData} (F : Fun K "fraction_of" "fraction_of" sFracOf f fd) (T : Names mg) (GI : FnOk P w K mg base CX0 1 fI fdI ["word"] spIntOf) (gI : mg "integer_of" = some (.ref fI)) (kI : PySem.W.keepIn K (.ref fI) = true) (bI : Binds K fdI ["word"] [])
    (GG : FnOk P w K mg base CX0 1 fG fdG ["value"] spIsFrac) (gG : mg "is_frac" = some (.ref fG)) (kG : PySem.W.keepIn K (.ref fG) = true) (bG : Binds K fdG ["value"] []) : FnOk P w K mg base CX0 2 f fd ["word"] spFracOf := by
  obtain ⟨t1, m1⟩ := T.part
  refine F.ok scFracOf (fun vs H Q E h => ?_) (fun cdv A outer s H vs Q E hr h => ?_)
  · obtain ⟨x, rfl, _⟩ := h
    rfl
  · obtain ⟨x, rfl, h⟩ := h
    refine ⟨_, pss_cons (ps_if (PW.pt (pw_or (pt_cmp (pc_isN (pv 0))) (pw_or1 (pt_cmpR op_gt (pe_m1 PySem.F.slot_str_count PySem.F.type_str_count mt_count (pv 0) pe_str) pe_int (nomark _))))) (pss_one (ps_ret pe_non)) pss_nil)
      (pss_cons (ps_setLc (i := 1) (own := [("part", 3)]) (g := gName 3) (tt := tYes) rfl scFracOf.nd rfl rfl (sw_true rfl rfl rfl (by decide +kernel)) (pi_list (pe_split (pv 0) pe_str)) (blkOk_by (N := ["word", "parts", "found", "part"]) (sc := defScope sFracOf) (by decide +kernel)) (fun _ _ _ _ _ => pg_name (i := 3) scFracOf.nd rfl (Or.inl rfl)) (fun _ _ _ _ _ => pts_nil)
          (fun _ _ _ _ _ => pe_call GI hr rfl gI kI bI .nil pass0 (pa_cons (pv 3) pa_nil)))
      (pss_cons (ps_if (PW.pt (pw_or (pt_cmpR op_in_seq pe_non (pv 1) rfl) (pw_or1 (PW.pt (pw_and (pt_cmpR op_eq (pe_callB call_len_seq (by rfl) T.len bo_len (pa_cons (pv 1) pa_nil)) pe_int (nomark _)) (pw_and1 (pt_cmpR op_lt (pe_ix ix_list (pv 1) pe_int (fun _ _ => rfl)) pe_int (nomark _)))))))) (pss_one (ps_ret pe_non)) pss_nil)
      (pss_cons (ps_set (i := 2) scFracOf.nd rfl (Or.inl rfl) (pe_tup (pa_cons (pe_ix ix_list (pv 1) pe_int (fun _ _ => rfl)) (pa_cons (pe_ifExp (pt_cmpR op_eq (pe_callB call_len_seq (by rfl) T.len bo_len (pa_cons (pv 1) pa_nil)) pe_int (nomark _)) (pe_ix ix_list (pv 1) pe_int (fun _ _ => rfl)) pe_int) pa_nil))))
      (pss_cons (ps_if (PW.pt (pw_or (pt_not (pt_val (pe_call GG hr rfl gG kG bG .nil pass0 (pa_cons (pv 2) pa_nil)))) (pw_or (pt_cmpR op_gt (pe_callB call_abs (by rfl) T.abs bo_abs (pa_cons (pe_ix ix_tup (pv 2) pe_int (fun _ _ => rfl)) pa_nil)) (pe_glob (v := .int ((10 ^ 50) ^ 8)) (by rfl) m1 ⟨_, rfl⟩) (nomark _))
          (pw_or1 (pt_cmpR op_gt (pe_ix ix_tup (pv 2) pe_int (fun _ _ => rfl)) (pe_glob (v := .int ((10 ^ 50) ^ 8)) (by rfl) m1 ⟨_, rfl⟩) (nomark _)))))) (pss_one (ps_ret pe_non)) pss_nil)
      (pss_one (ps_ret (pv 2))))))), ?_⟩
    rcases h with ⟨rfl, k⟩ | ⟨z, rfl, hz, kN, kS⟩
    · exact ⟨_, rfl, true, rfl, iteT k⟩
    have hlen := split_len (x := z) slash_ne slash_k
    have hsh := split_short (x := z) slash_ne slash_k
    have hcl := split_count_le (x := z) slash_ne slash_k
    have hne := split_ne (x := z) slash_ne slash_k
    refine ⟨_, rfl, false, rfl, iteF ⟨_, rfl, ⟨_, rfl⟩, z, _, rfl, rfl, _, _, rfl, rfl, _, rfl, ?_⟩⟩
    refine ite2 (fun c => ?_) (fun c => ?_)
    · have c := of_decide_eq_true c
      exact kN (fr_long (by rw [List.length_map]; omega)) H (Same.refl H)
    have c : Txt.count z "/" ≤ 1 := by
      have q : ¬ ((1 : Int) < Txt.count z "/") := fun y => c (decide_eq_true y)
      omega
    refine ⟨_, rfl, ⟨_, rfl⟩, z, _, rfl, rfl, slash_l, Nat.le_trans (Nat.add_le_add_right hz 2) (by decide), fun p hp => ⟨p, rfl, ⟨_, SqL.of upd_same⟩, fun D hD => lc_mapS (xs := (Txt.split z "/").map V.str) (σ := [some (V.str z), none, none, none]) walk_list intV hD ?_ (fun H1 s1 => SqL.of (s1 _ _ upd_same)) (fun i x H1 Qk hx s1 q => ?_) fun H1 s1 hL => ?_⟩⟩
    · rw [List.length_map]
      exact Nat.le_trans hcl (Nat.le_trans (Nat.add_le_add_right hz 1) (by decide))
    · obtain ⟨y, hy, rfl⟩ : ∃ y, y ∈ Txt.split z "/" ∧ x = V.str y := by
        have m := List.mem_of_getElem? hx
        obtain ⟨y, hy, e⟩ := List.mem_map.mp m
        exact ⟨y, hy, e.symm⟩
      refine ⟨rfl, _, rfl, tl y, congrArg (fun u => [V.str u]) (SX.S_tl y).symm, ?_, fun H' s' => q H' s'⟩
      have := hsh y hy
      rw [len_tl] at this
      omega
    have s2 : Same H H1 := (same_upd hp).trans s1
    have el : ((Txt.split z "/").map V.str).map intV = ((Txt.split z "/").map fun p => intOfL (tl p)).map vOpt := by
      rw [List.map_map, List.map_map]
      exact List.map_congr_left fun x _ => rfl
    rw [el] at hL
    have il : ((Txt.split z "/").map fun p => intOfL (tl p)).length = (Txt.split z "/").length := List.length_map _
    have hpos : 0 < (Txt.split z "/").length := List.length_pos_iff.mpr hne
    unfold fracOf at kN kS
    generalize ((Txt.split z "/").map fun p => intOfL (tl p)) = is at hL il kN kS
    have hl12 : is.length = 1 ∨ is.length = 2 := by omega
    refine ⟨_, rfl, D, _, rfl, .inl (SqL.of hL), rfl, vopt_flat is, _, rfl, ?_⟩
    show if (if false = true then !inV .non (is.map vOpt) else inV .non (is.map vOpt)) = true then _ else _
    rw [if_neg Bool.false_ne_true, vopt_none]
    cases ha : is.any Option.isNone with
    | true => exact iteT (iteT (kN (fr_none ha) H1 s2))
    | false =>
      refine iteF ?_
      have go : ∀ (n d : Int) (a : Addr), (frOf is = none ∨ frOf is = okFr n d) → (okFr n d = none → frOf is = none) → (okFr n d = some (n, d) → frOf is = some (n, d)) → H1 a = none → tFr K { nx := fun _ H' => Q .non H', rt := Q } [some (.str z), some (.ref D), some (.ref a), none] (upd H1 a (.tup [.int n, .int d])) := fun n d a _ e1 e2 na =>
        frac_tail K upd_same rfl (fun c H' s' => kN (e1 c) H' (s2.trans ((same_upd na).trans s'))) fun c H' s' ea => kS n d (e2 c) H' a (s2.trans ((same_upd na).trans s')) ea
      rcases is with _ | ⟨x0, _ | ⟨x1, _ | ⟨x2, r⟩⟩⟩
      · simp at hl12
      · cases x0 with
        | none => simp at ha
        | some n =>
          refine ⟨_, rfl, D, _, rfl, .inl (SqL.of hL), rfl, _, rfl, iteF (iteF ?_)⟩
          refine ⟨_, rfl, D, _, _, _, rfl, rfl, SqL.of hL, (rfl : atI ([some n].map vOpt) 0 = some (.int n)), _, rfl, D, _, rfl, .inl (SqL.of hL), rfl, _, rfl, iteF ⟨by show 2 ≤ sizeLine; decide, fun a na => ?_⟩⟩
          exact go n 1 a (.inr rfl) (fun c => c) (fun c => c) na
      · cases x0 with
        | none => simp at ha
        | some n =>
          cases x1 with
          | none => simp at ha
          | some d =>
            have i0 : atI ([some n, some d].map vOpt) 0 = some (.int n) := rfl
            have i1 : atI ([some n, some d].map vOpt) 1 = some (.int d) := rfl
            refine ⟨_, rfl, D, _, rfl, .inl (SqL.of hL), rfl, _, rfl, iteT ⟨_, rfl, D, _, _, _, rfl, rfl, SqL.of hL, i1, _, _, rfl, rfl, _, rfl, ?_⟩⟩
            refine ite2 (fun c => ?_) (fun c => ?_)
            · refine kN ?_ H1 s2
              show (if d < 2 then none else okFr n d) = none
              rw [if_pos (of_decide_eq_true c)]
            · have c2 : ¬ d < 2 := fun y => c (decide_eq_true y)
              have e : frOf [some n, some d] = okFr n d := if_neg c2
              refine ⟨_, rfl, D, _, _, _, rfl, rfl, SqL.of hL, i0, _, rfl, D, _, rfl, .inl (SqL.of hL), rfl, _, rfl, iteT ⟨_, rfl, D, _, _, _, rfl, rfl, SqL.of hL, i1, by show 2 ≤ sizeLine; decide, fun a na => ?_⟩⟩
              exact go n d a (.inr e) (fun q => e.trans q) (fun q => e.trans q) na
      · simp at hl12
end
end C94
end

section
set_option Elab.async false
set_option linter.all false
set_option maxRecDepth 100000
set_option maxHeartbeats 2000000
namespace C94
open PySem L2 PyProof.Rows TL
open SX (S)
/-- all but p stays -/
def But (p : Addr) (H H' : Hp) : Prop := ∀ b o, b ≠ p → H b = some o → H' b = some o
theorem But.refl (p : Addr) (H : Hp) : But p H H := fun _ _ _ h => h
theorem But.trans {p : Addr} {H H1 H2 : Hp} (a : But p H H1) (b : But p H1 H2) : But p H H2 := fun c o n h => b c o n (a c o n h)
theorem But.of {p : Addr} {H H' : Hp} (s : Same H H') : But p H H' := fun b o _ h => s b o h
/-- the fields of Words -/
def wf (l : Addr) (k : Nat) : List (Str × V) := [("words", .ref l), ("line", .int 0), ("many", .int (k : Nat))]
theorem wl_ : ¬ (("words" : Str) = "line") := by decide +kernel
theorem wm_ : ¬ (("words" : Str) = "many") := by decide +kernel
theorem lm_ : ¬ (("line" : Str) = "many") := by decide +kernel
theorem ml_ : ¬ (("many" : Str) = "line") := by decide +kernel
theorem mw_ : ¬ (("many" : Str) = "words") := by decide +kernel
theorem lw_ : ¬ (("line" : Str) = "words") := by decide +kernel
theorem lookC {α : Type} {x y : Str} {v : α} {r : List (Str × α)} (h : ¬ x = y) : List.lookup x ((y, v) :: r) = List.lookup x r := by
  have e : (x == y) = false := by simpa using h
  simp [List.lookup, e]
theorem lookH {α : Type} {x : Str} {v : α} {r : List (Str × α)} : List.lookup x ((x, v) :: r) = some v := by simp [List.lookup]
theorem wf_words (l : Addr) (k : Nat) : (wf l k).lookup ("words" : Str) = some (.ref l) := lookH
theorem wf_line (l : Addr) (k : Nat) : (wf l k).lookup ("line" : Str) = some (.int 0) := (lookC lw_).trans lookH
theorem wf_many (l : Addr) (k : Nat) : (wf l k).lookup ("many" : Str) = some (.int (k : Nat)) := (lookC mw_).trans ((lookC ml_).trans lookH)
theorem wf_no (l : Addr) (k : Nat) {m : Str} (h1 : ¬ m = "words") (h2 : ¬ m = "line") (h3 : ¬ m = "many") : (wf l k).lookup m = none := (lookC h1).trans ((lookC h2).trans ((lookC h3).trans rfl))
theorem putHere {f : Str} {v x : V} {r : List (Str × V)} : putF f v ((f, x) :: r) = (f, v) :: r := if_pos rfl
theorem putOn {f g : Str} {v x : V} {r : List (Str × V)} (h : ¬ g = f) : putF f v ((g, x) :: r) = (g, x) :: putF f v r := if_neg h
theorem wf_put (l : Addr) (k : Nat) (i : Int) (e : i = ((k + 1 : Nat) : Int)) : putF "many" (.int i) (wf l k) = wf l (k + 1) := by
  subst e
  unfold wf
  rw [putOn wm_, putOn lm_, putHere]
theorem wf_new (l : Addr) : putF "many" (.int 0) (putF "line" (.int 0) (putF "words" (.ref l) [])) = wf l 0 := by
  show putF "many" (.int 0) (putF "line" (.int 0) [("words", .ref l)]) = _
  rw [putOn wl_]
  show putF "many" (.int 0) [("words", .ref l), ("line", .int 0)] = _
  rw [putOn wm_, putOn lm_]
  rfl
/-- at p the words ws (in the list at l), k of them behind -/
structure WObj (C : Addr) (H : Hp) (p l : Addr) (k : Nat) (ws : List Str) : Prop where
  obj : ∃ dx, H p = some (.ins C dx (wf l k))
  lst : H l = some (.lst (ws.map V.str))
theorem WObj.same {C p l : Addr} {H H' : Hp} {k : Nat} {ws : List Str} (o : WObj C H p l k ws) (s : Same H H') : WObj C H' p l k ws := ⟨let ⟨dx, h⟩ := o.obj; ⟨dx, s _ _ h⟩, s _ _ o.lst⟩
theorem WObj.ne {C p l : Addr} {H : Hp} {k : Nat} {ws : List Str} (o : WObj C H p l k ws) : l ≠ p := fun z => by
  obtain ⟨dx, h⟩ := o.obj
  have q := o.lst
  rw [z, h] at q
  cases q
/-- the error that tells the k-th word; from H on all but p may not be other -/
def Bad (p CB : Addr) (H : Hp) (E : XK) (k : Nat) : Prop := ∀ H' d, But p H H' → H' d = some (.xd [("line", .int 0), ("word", .int (k : Nat))]) → E (.ref CB) (some d) H'
theorem Bad.later {p CB : Addr} {H H1 : Hp} {E : XK} {k : Nat} (b : Bad p CB H E k) (s : But p H H1) : Bad p CB H1 E k := fun H' d s' e => b H' d (s.trans s') e
/-- the next word, or None -/
def nextV (ws : List Str) (k : Nat) : V := match ws[k]? with
  | some w => .str w
  | none => .non
structure WTxt (K : PySem.W.Frag) (mg : Str → Option Value) (C : Addr) : Prop where
  cl : Cls K C
  nW : NoAttr K C "words"
  nL : NoAttr K C "line"
  nM : NoAttr K C "many"
  mgC : mg "Words" = some (.ref C)
section
variable {P : Program} {w : World} {K : PySem.W.Frag} {mg : Str → Option Value} {base : Heap} {C CB fB : Addr}
theorem passX {N : List Str} {qual : Str} {sc : Scope} {f : Addr} {cdv : Value} {A : Around} {outer : List Env} {s : Shared} {H : Hp} {E : XK} : Passes (L2.CX P w) (cxOf (L2.CX P w) P w K mg base N qual sc f cdv A outer s H E) E :=
  passes_call (takes_of rfl rfl rfl rfl) fun _ _ _ _ h => h
/-! ### __init__ -/
def spInit (C : Addr) : Sp := fun vs H Q _ => ∃ (p dx : Addr) (t : Str), vs = [.ref p, .str t, .int 0] ∧ t.length ≤ 1000000 ∧ H p = some (.ins C dx []) ∧ ∀ H' l, But p H H' → WObj C H' p l 0 (Txt.split t " ") → Q .non H'
theorem scI : FnScope ["self", "text", "line"] ["self", "text", "line"] (defScope sInit) := ⟨rfl, rfl, rfl, by decide +kernel, rfl, by decide +kernel, by decide +kernel⟩
theorem ok_init {f : Addr} {fd : FuncData} (F : Fun K "__init__" "Words.__init__" sInit f fd) (N : Names mg) (T : WTxt K mg C) : FnOk P w K mg base CX0 1 f fd ["self", "text", "line"] (spInit C) := by
  refine F.ok scI (fun vs H Q E h => ?_) (fun cdv A outer s H vs Q E hr h => ?_)
  · obtain ⟨p, dx, t, rfl, _⟩ := h
    rfl
  · obtain ⟨p, dx, t, rfl, ht, hp, k⟩ := h
    refine ⟨_, pss_cons (ps_fld (pv 0) (pe_ifExp (pt_val (pe_isT (K := K) (by rfl) N.isinstance (by rfl) N.str bo_str (by decide) (by decide) (pv 1))) (pe_split (pv 1) pe_str) (pe_lst pa_nil)) rfl)
      (pss_cons (ps_fld (pv 0) (pv 2) rfl) (pss_cons (ps_fld (pv 0) pe_int rfl) (pss_one (ps_if (pt_not (pt_val (pe_isT (K := K) (by rfl) N.isinstance (by rfl) N.str bo_str (by decide) (by decide) (pv 1)))) pss_dead pss_nil)))), ?_⟩
    refine ⟨_, rfl, _, _, _, _, _, rfl, .ty _, .base (.str _), kit_str_str, _, rfl, iteT ?_⟩
    refine ⟨_, rfl, ⟨_, rfl⟩, t, _, rfl, rfl, blank_l, Nat.le_trans (Nat.add_le_add_right ht 2) (by decide), fun l hl => ?_⟩
    have npl : p ≠ l := ne_of_none hp hl
    refine ⟨_, rfl, p, C, dx, [], rfl, (upd_ne npl).trans hp, T.cl, T.nW, (by show 0 < 1000; decide), ?_⟩
    refine ⟨_, rfl, _, rfl, p, C, dx, _, rfl, upd_same, T.cl, T.nL, (by show 1 < 1000; decide), ?_⟩
    refine ⟨_, rfl, p, C, dx, _, rfl, upd_same, T.cl, T.nM, (by show 2 < 1000; decide), ?_⟩
    refine ⟨_, rfl, _, _, _, _, _, rfl, .ty _, .base (.str _), kit_str_str, _, rfl, iteF ?_⟩
    rw [wf_new]
    refine k _ l (fun b o nb e => ?_) ⟨⟨dx, upd_same⟩, ?_⟩
    · rw [upd_ne nb, upd_ne nb, upd_ne nb, upd_ne (ne_of_none e hl)]
      exact e
    · rw [upd_ne (Ne.symm npl), upd_ne (Ne.symm npl), upd_ne (Ne.symm npl), upd_same]
/-! ### refuse -/
def spRefuse (C CB : Addr) : Sp := fun vs H _ E => ∃ (p l : Addr) (k : Nat) (ws : List Str), vs = [.ref p] ∧ WObj C H p l k ws ∧ Bad p CB H E k
theorem scR : FnScope ["self"] ["self"] (defScope sRefuse) := ⟨rfl, rfl, rfl, by decide +kernel, rfl, by decide +kernel, by decide +kernel⟩
theorem ok_refuse {f : Addr} {fd : FuncData} (F : Fun K "refuse" "Words.refuse" sRefuse f fd) (T : WTxt K mg C) (B : BadTxt P K mg CB fB) : FnOk P w K mg base (L2.CX P w) 1 f fd ["self"] (spRefuse C CB) := by
  refine F.okX scR (fun vs H Q E h => ?_) (fun cdv A outer s H vs Q E hr h => ?_)
  · obtain ⟨p, l, k, ws, rfl, _⟩ := h
    rfl
  · obtain ⟨p, l, k, ws, rfl, o, bad⟩ := h
    obtain ⟨dx, hp⟩ := o.obj
    refine ⟨_, pss_cons (ps_if (pt_cmp (pc_isN (pe_fld (pv 0) rfl))) pss_dead pss_nil) (pss_one (ps_raise rfl (takes_of rfl rfl rfl rfl) (pmk_bad B hr (by exact (pa_cons (pe_fld (pv 0) rfl) (pa_cons (pe_fld (pv 0) rfl) pa_nil))) (by rfl)))), ?_⟩
    refine ⟨_, rfl, p, C, dx, _, _, rfl, hp, T.cl, T.nL, wf_line _ _, false, rfl, iteF ?_⟩
    refine ⟨_, rfl, p, C, dx, _, _, rfl, hp, T.cl, T.nL, wf_line _ _, _, rfl, p, C, dx, _, _, rfl, hp, T.cl, T.nM, wf_many _ _, _, _, rfl, fun d hd => ?_⟩
    exact bad _ d (But.of (same_upd hd)) upd_same
/-! ### next -/
def spNext (C : Addr) : Sp := fun vs H Q _ => ∃ (p l : Addr) (k : Nat) (ws : List Str), vs = [.ref p] ∧ WObj C H p l k ws ∧ Q (nextV ws k) H
theorem scN : FnScope ["self"] ["self"] (defScope sNext) := ⟨rfl, rfl, rfl, by decide +kernel, rfl, by decide +kernel, by decide +kernel⟩
theorem ok_next {f : Addr} {fd : FuncData} (F : Fun K "next" "Words.next" sNext f fd) (N : Names mg) (T : WTxt K mg C) : FnOk P w K mg base CX0 1 f fd ["self"] (spNext C) := by
  refine F.ok scN (fun vs H Q E h => ?_) (fun cdv A outer s H vs Q E hr h => ?_)
  · obtain ⟨p, l, k, ws, rfl, _⟩ := h
    rfl
  · obtain ⟨p, l, k, ws, rfl, o, q⟩ := h
    obtain ⟨dx, hp⟩ := o.obj
    refine ⟨_, pss_one (ps_ret (pe_ifExp (pt_cmpR op_lt (pe_fld (pv 0) rfl) (pe_callB call_len_seq (by rfl) N.len bo_len (pa_cons (pe_fld (pv 0) rfl) pa_nil)) (nomark _)) (pe_ix ix_list (pe_fld (pv 0) rfl) (pe_fld (pv 0) rfl) (fun _ _ => rfl)) pe_non)), ?_⟩
    refine ⟨_, rfl, p, C, dx, _, _, rfl, hp, T.cl, T.nM, wf_many _ _, _, rfl, p, C, dx, _, _, rfl, hp, T.cl, T.nW, wf_words _ _, l, _, rfl, .inl (SqL.of o.lst), _, _, rfl, rfl, _, rfl, ?_⟩
    rw [List.length_map]
    unfold nextV at q
    refine ite2 (fun c => ?_) (fun c => ?_)
    · have c : k < ws.length := by
        have y := of_decide_eq_true c
        omega
      have e : ws[k]? = some ws[k] := List.getElem?_eq_getElem c
      rw [e] at q
      refine ⟨_, rfl, p, C, dx, _, _, rfl, hp, T.cl, T.nW, wf_words _ _, _, rfl, p, C, dx, _, _, rfl, hp, T.cl, T.nM, wf_many _ _, l, _, _, _, rfl, rfl, SqL.of o.lst, atI_nat (by rw [List.getElem?_map, e]; rfl), q⟩
    · have c : ¬ k < ws.length := fun y => c (decide_eq_true (by omega))
      have e : ws[k]? = none := List.getElem?_eq_none (by omega)
      rw [e] at q
      exact q
end
end C94
end

section
set_option Elab.async false
set_option linter.all false
set_option maxRecDepth 100000
set_option maxHeartbeats 2000000
/-! M94c: a text's words read one by one. -/
namespace C94
open PySem L2
abbrev Fr := Int × Int
/-- the index of the first word that cannot stand, or the fractions -/
abbrev Rd := Sum Nat (List Fr)
def andR (a : Rd) (b : Rd) : Rd := match a with
  | .inl j => .inl j
  | .inr fs => match b with
    | .inl j => .inl j
    | .inr gs => .inr (fs ++ gs)
/-- one want at the k-th word: a fraction, or that word -/
def oneW (ws : List Str) (k : Nat) : Option Str → Rd
  | none => match (ws[k]?).bind fracOf with
    | none => .inl k
    | some f => .inr [f]
  | some z => if ws[k]? = some z then .inr [] else .inl k
theorem one_yes {ws : List Str} {k : Nat} {z : Str} (h : ws[k]? = some z) : oneW ws k (some z) = .inr [] := if_pos h
theorem one_no {ws : List Str} {k : Nat} {z : Str} (h : ¬ ws[k]? = some z) : oneW ws k (some z) = .inl k := if_neg h
theorem one_end {ws : List Str} {k : Nat} (h : ws[k]? = none) : oneW ws k none = .inl k := by
  unfold oneW
  rw [h]
  rfl
theorem one_bad {ws : List Str} {k : Nat} {y : Str} (h : ws[k]? = some y) (h2 : fracOf y = none) : oneW ws k none = .inl k := by
  show (match (ws[k]?).bind fracOf with | none => Sum.inl k | some f => Sum.inr [f]) = _
  rw [h, Option.bind_some, h2]
theorem one_ok {ws : List Str} {k : Nat} {y : Str} {f : Fr} (h : ws[k]? = some y) (h2 : fracOf y = some f) : oneW ws k none = .inr [f] := by
  show (match (ws[k]?).bind fracOf with | none => Sum.inl k | some f => Sum.inr [f]) = _
  rw [h, Option.bind_some, h2]
def goW (ws : List Str) : Nat → List (Option Str) → Rd
  | _, [] => .inr []
  | k, v :: r => andR (oneW ws k v) (goW ws (k + 1) r)
theorem andR_nil (a : Rd) : andR a (.inr []) = a := by
  cases a with
  | inl j => rfl
  | inr fs => show Sum.inr (fs ++ []) = _; rw [List.append_nil]
theorem nil_andR (a : Rd) : andR (.inr []) a = a := by
  cases a with
  | inl j => rfl
  | inr fs => rfl
theorem andR_assoc (a b c : Rd) : andR (andR a b) c = andR a (andR b c) := by
  cases a with
  | inl j => rfl
  | inr fs =>
    cases b with
    | inl j => rfl
    | inr gs =>
      cases c with
      | inl j => rfl
      | inr hs => show Sum.inr (fs ++ gs ++ hs) = Sum.inr (fs ++ (gs ++ hs)); rw [List.append_assoc]
theorem goW_app (ws : List Str) : ∀ (a b : List (Option Str)) (k : Nat), goW ws k (a ++ b) = andR (goW ws k a) (goW ws (k + a.length) b)
  | [], b, k => (nil_andR _).symm
  | v :: a, b, k => by
    show andR (oneW ws k v) (goW ws (k + 1) (a ++ b)) = andR (andR (oneW ws k v) (goW ws (k + 1) a)) _
    rw [goW_app ws a b (k + 1), andR_assoc, List.length_cons, show k + 1 + a.length = k + (a.length + 1) by omega]
theorem goW_snoc (ws : List Str) (a : List (Option Str)) (v : Option Str) (k : Nat) : goW ws k (a ++ [v]) = andR (goW ws k a) (oneW ws (k + a.length) v) := by
  rw [goW_app]
  show andR _ (andR _ (.inr [])) = _
  rw [andR_nil]
/-- m fractions -/
def frW (m : Nat) : List (Option Str) := List.replicate m none
theorem frW_succ (m : Nat) : frW (m + 1) = frW m ++ [none] := List.replicate_succ'
theorem frW_len (m : Nat) : (frW m).length = m := List.length_replicate
/-- n + 1 parts of m fractions each, commas between -/
def ptW (m : Nat) : Nat → List (Option Str)
  | 0 => frW m
  | n + 1 => ptW m n ++ [some ("," : Str)] ++ frW m
theorem andR_inl {a : Rd} {j : Nat} (b : Rd) (h : a = .inl j) : andR a b = .inl j := by rw [h]; rfl
theorem andR_inr {a b : Rd} {fs gs : List Fr} (h : a = .inr fs) (h2 : b = .inr gs) : andR a b = .inr (fs ++ gs) := by rw [h, h2]; rfl
theorem andR_inr_inl {a b : Rd} {fs : List Fr} {j : Nat} (h : a = .inr fs) (h2 : b = .inl j) : andR a b = .inl j := by rw [h, h2]; rfl
/-- a reading that fails ahead fails -/
theorem goW_pre {ws : List Str} {a b : List (Option Str)} {k j : Nat} (h : goW ws k a = .inl j) : goW ws k (a ++ b) = .inl j := by
  rw [goW_app]
  exact andR_inl _ h
/-- where the wanted words are read, how far -/
theorem goW_pos {ws : List Str} : ∀ {a : List (Option Str)} {k j : Nat}, goW ws k a = .inl j → k ≤ j ∧ j < k + a.length
  | [], k, j, h => by cases h
  | v :: a, k, j, h => by
    have h : andR (oneW ws k v) (goW ws (k + 1) a) = .inl j := h
    cases e : oneW ws k v with
    | inl i =>
      rw [e] at h
      have : i = j := Sum.inl.inj h
      subst this
      have ei : i = k := by
        unfold oneW at e
        split at e
        · split at e
          · exact (Sum.inl.inj e).symm
          · cases e
        · split at e
          · cases e
          · exact (Sum.inl.inj e).symm
      subst ei
      simp
    | inr fs =>
      rw [e] at h
      cases e2 : goW ws (k + 1) a with
      | inl i =>
        rw [e2] at h
        have : i = j := Sum.inl.inj h
        subst this
        have q := goW_pos e2
        simp only [List.length_cons]
        omega
      | inr gs =>
        rw [e2] at h
        cases h
end C94
end

section
set_option Elab.async false
set_option linter.all false
set_option maxRecDepth 100000
set_option maxHeartbeats 2000000
namespace C94
open PySem L2 PyProof.Rows TL
open SX (S)
open S9
/-- the tuples stay -/
def TupK (H H' : Hp) : Prop := ∀ b xs, H b = some (.tup xs) → H' b = some (.tup xs)
theorem TupK.of {H H' : Hp} (s : Same H H') : TupK H H' := fun b xs e => s b _ e
theorem TupK.trans {H H1 H2 : Hp} (a : TupK H H1) (b : TupK H1 H2) : TupK H H2 := fun c o h => b c o (a c o h)
theorem But.tup {p : Addr} {H H' : Hp} (s : But p H H') (n : ∀ xs, H p ≠ some (.tup xs)) : TupK H H' := fun b xs e => s b _ (fun z => n xs (by rw [← z]; exact e)) e
/-- a fraction at a value -/
def FrAt (H : Hp) (v : V) (f : Fr) : Prop := ∃ a, v = .ref a ∧ H a = some (.tup [.int f.1, .int f.2])
def FrsAt (H : Hp) : List V → List Fr → Prop
  | [], [] => True
  | v :: vs, f :: fs => FrAt H v f ∧ FrsAt H vs fs
  | _, _ => False
theorem FrsAt.keep {H H' : Hp} (k : TupK H H') : ∀ {vs : List V} {fs : List Fr}, FrsAt H vs fs → FrsAt H' vs fs
  | [], [], _ => trivial
  | v :: vs, f :: fs, h => ⟨let ⟨a, e, z⟩ := h.1; ⟨a, e, k _ _ z⟩, FrsAt.keep k h.2⟩
  | [], f :: fs, h => h.elim
  | v :: vs, [], h => h.elim
theorem FrsAt.app {H : Hp} : ∀ {vs us : List V} {fs gs : List Fr}, FrsAt H vs fs → FrsAt H us gs → FrsAt H (vs ++ us) (fs ++ gs)
  | [], _, [], _, _, h => h
  | v :: vs, us, f :: fs, gs, h, h2 => ⟨h.1, FrsAt.app h.2 h2⟩
  | [], _, f :: fs, _, h, _ => h.elim
  | v :: vs, _, [], _, h, _ => h.elim
theorem FrsAt.len {H : Hp} : ∀ {vs : List V} {fs : List Fr}, FrsAt H vs fs → vs.length = fs.length
  | [], [], _ => rfl
  | v :: vs, f :: fs, h => congrArg (· + 1) (FrsAt.len h.2)
  | [], f :: fs, h => h.elim
  | v :: vs, [], h => h.elim
theorem WObj.notup {C p l : Addr} {H : Hp} {k : Nat} {ws : List Str} (o : WObj C H p l k ws) : ∀ xs, H p ≠ some (.tup xs) := fun xs z => by
  obtain ⟨dx, h⟩ := o.obj
  rw [h] at z
  cases z
/-- the words' turn: many one on -/
theorem WObj.step {C p l dx : Addr} {H : Hp} {k : Nat} {ws : List Str} (o : WObj C H p l k ws) : But p H (upd H p (.ins C dx (wf l (k + 1)))) ∧ WObj C (upd H p (.ins C dx (wf l (k + 1)))) p l (k + 1) ws :=
  ⟨fun b u n e => (upd_ne n).trans e, ⟨dx, upd_same⟩, (upd_ne o.ne).trans o.lst⟩
section
variable {P : Program} {w : World} {K : PySem.W.Frag} {mg : Str → Option Value} {base : Heap} {C CB fB : Addr}
/-! ### need -/
def spNeed (C CB : Addr) : Sp := fun vs H Q E => ∃ (p l : Addr) (k : Nat) (ws : List Str) (z : Str), vs = [.ref p, .str z] ∧ WObj C H p l k ws ∧ (∀ j, oneW ws k (some z) = .inl j → Bad p CB H E j) ∧
  (oneW ws k (some z) = .inr [] → ∀ H', But p H H' → WObj C H' p l (k + 1) ws → Q .non H')
theorem scD : FnScope ["self", "word"] ["self", "word"] (defScope sNeed) := ⟨rfl, rfl, rfl, by decide +kernel, rfl, by decide +kernel, by decide +kernel⟩
theorem next_ne (ws : List Str) (k : Nat) (z : Str) : scal (nextV ws k) (.str z) = true ∧ (nextV ws k = .str z ↔ ws[k]? = some z) := by
  unfold nextV
  cases e : ws[k]? with
  | none => exact ⟨rfl, by simp⟩
  | some y => exact ⟨rfl, by simp⟩
theorem ok_need {f fN fR : Addr} {fd fdN fdR : FuncData} (F : Fun K "need" "Words.need" sNeed f fd) (T : WTxt K mg C) (GN : FnOk P w K mg base CX0 1 fN fdN ["self"] (spNext C)) (mN : Meth K C "next" fN) (bN : Binds K fdN ["self"] [])
    (GR : FnOk P w K mg base (L2.CX P w) 1 fR fdR ["self"] (spRefuse C CB)) (mR : Meth K C "refuse" fR) (bR : Binds K fdR ["self"] []) : FnOk P w K mg base (L2.CX P w) 2 f fd ["self", "word"] (spNeed C CB) := by
  refine F.okX scD (fun vs H Q E h => ?_) (fun cdv A outer s H vs Q E hr h => ?_)
  · obtain ⟨p, l, k, ws, z, rfl, _⟩ := h
    rfl
  · obtain ⟨p, l, k, ws, z, rfl, o, bad, ok⟩ := h
    obtain ⟨dx, hp⟩ := o.obj
    have n1 : (wf l k).lookup ("next" : Str) = none := wf_no _ _ (by decide +kernel) (by decide +kernel) (by decide +kernel)
    have n2 : (wf l k).lookup ("refuse" : Str) = none := wf_no _ _ (by decide +kernel) (by decide +kernel) (by decide +kernel)
    refine ⟨_, pss_cons (ps_if (pt_cmpR op_ne (pe_meth0 (pv 0) T.cl mN GN hr bN .nil pass0) (pv 1) (nomark _)) (pss_one (ps_expr (pe_meth0 (pv 0) T.cl mR GR hr bR .nil passX))) pss_nil) (pss_one (ps_fldaug (pv 0) pe_int in_add)), ?_⟩
    obtain ⟨sc, eq⟩ := next_ne ws k z
    refine ⟨_, rfl, p, dx, _, rfl, hp, n1, p, l, k, ws, rfl, o, _, rfl, sc, _, rfl, ?_⟩
    by_cases c : ws[k]? = some z
    · rw [decide_eq_true (eq.mpr c)]
      refine iteF ⟨_, rfl, p, C, dx, _, _, rfl, hp, T.cl, T.nM, wf_many _ _, _, _, rfl, rfl, dx, _, hp, by show 3 < 1000; decide, ?_⟩
      rw [wf_put l k _ (by omega)]
      exact ok (one_yes c) _ o.step.1 o.step.2
    · rw [decide_eq_false (fun y => c (eq.mp y))]
      exact iteT ⟨_, rfl, p, dx, _, rfl, hp, n2, p, l, k, ws, rfl, o, bad k (one_no c)⟩
/-! ### fraction -/
def spFrac (C CB : Addr) : Sp := fun vs H Q E => ∃ (p l : Addr) (k : Nat) (ws : List Str), vs = [.ref p] ∧ WObj C H p l k ws ∧ (∀ y ∈ ws, y.length ≤ 1000000) ∧ (∀ j, oneW ws k none = .inl j → Bad p CB H E j) ∧
  ∀ fr, oneW ws k none = .inr [fr] → ∀ H' v, But p H H' → WObj C H' p l (k + 1) ws → FrAt H' v fr → Q v H'
theorem scF : FnScope ["self", "found"] ["self"] (defScope sFrac) := ⟨rfl, rfl, rfl, by decide +kernel, rfl, by decide +kernel, by decide +kernel⟩
theorem ok_frac {f fN fR fO : Addr} {fd fdN fdR fdO : FuncData} (F : Fun K "fraction" "Words.fraction" sFrac f fd) (T : WTxt K mg C) (GN : FnOk P w K mg base CX0 1 fN fdN ["self"] (spNext C)) (mN : Meth K C "next" fN) (bN : Binds K fdN ["self"] [])
    (GR : FnOk P w K mg base (L2.CX P w) 1 fR fdR ["self"] (spRefuse C CB)) (mR : Meth K C "refuse" fR) (bR : Binds K fdR ["self"] []) (GO : FnOk P w K mg base CX0 2 fO fdO ["word"] spFracOf) (gO : mg "fraction_of" = some (.ref fO)) (kO : PySem.W.keepIn K (.ref fO) = true) (bO : Binds K fdO ["word"] []) :
    FnOk P w K mg base (L2.CX P w) 3 f fd ["self"] (spFrac C CB) := by
  refine F.okX scF (fun vs H Q E h => ?_) (fun cdv A outer s H vs Q E hr h => ?_)
  · obtain ⟨p, l, k, ws, rfl, _⟩ := h
    rfl
  · obtain ⟨p, l, k, ws, rfl, o, hw, bad, ok⟩ := h
    have hr1 : Room 1 _ := hr.mono (by decide)
    obtain ⟨dx, hp⟩ := o.obj
    have n1 : (wf l k).lookup ("next" : Str) = none := wf_no _ _ (by decide +kernel) (by decide +kernel) (by decide +kernel)
    have n2 : (wf l k).lookup ("refuse" : Str) = none := wf_no _ _ (by decide +kernel) (by decide +kernel) (by decide +kernel)
    refine ⟨_, pss_cons (ps_set (i := 1) scF.nd rfl (Or.inl rfl) (pe_call GO hr rfl gO kO bO .nil pass0 (by exact (pa_cons (pe_meth0 (pv 0) T.cl mN GN hr1 bN .nil pass0) pa_nil))))
      (pss_cons (ps_if (pt_cmp (pc_isN (pv 1))) (pss_one (ps_expr (pe_meth0 (pv 0) T.cl mR GR hr1 bR .nil passX))) pss_nil)
      (pss_cons (ps_fldaug (pv 0) pe_int in_add) (pss_one (ps_ret (pv 1))))), ?_⟩
    refine ⟨_, rfl, p, dx, _, rfl, hp, n1, p, l, k, ws, rfl, o, nextV ws k, rfl, ?_⟩
    have no : ∀ H', Same H H' → oneW ws k none = .inl k → tSeq (tIfS (tB (tIsN (tVar 1))) (tDrop (tMeth C "refuse" (spRefuse C CB) [] E (tVar 0) tNil)) tNext) (tSeq (sFldAug K (tVar 0) (tC (.int 1)) rAdd "many") (tRet (tVar 1))) { nx := fun _ H' => Q .non H', rt := Q } [some (.ref p), some .non] H' := fun H' s' e =>
      ⟨_, rfl, true, rfl, iteT ⟨_, rfl, p, dx, _, rfl, s' _ _ hp, n2, p, l, k, ws, rfl, o.same s', (bad k e).later (But.of s')⟩⟩
    have yes : ∀ H' n d a, Same H H' → oneW ws k none = .inr [(n, d)] → H' a = some (.tup [.int n, .int d]) → tSeq (tIfS (tB (tIsN (tVar 1))) (tDrop (tMeth C "refuse" (spRefuse C CB) [] E (tVar 0) tNil)) tNext) (tSeq (sFldAug K (tVar 0) (tC (.int 1)) rAdd "many") (tRet (tVar 1))) { nx := fun _ H' => Q .non H', rt := Q } [some (.ref p), some (.ref a)] H' := fun H' n d a s' e ea => by
      have o' := o.same s'
      refine ⟨_, rfl, false, rfl, iteF ⟨_, rfl, p, C, dx, _, _, rfl, s' _ _ hp, T.cl, T.nM, wf_many _ _, _, _, rfl, rfl, dx, _, s' _ _ hp, by show 3 < 1000; decide, ?_⟩⟩
      rw [wf_put l k _ (by omega)]
      refine ⟨_, rfl, ok (n, d) e _ _ ((But.of s').trans o'.step.1) o'.step.2 ⟨a, rfl, ?_⟩⟩
      exact (upd_ne (fun z => o'.notup _ (by rw [← z]; exact ea))).trans ea
    unfold nextV
    cases e : ws[k]? with
    | none => exact .inl ⟨rfl, no H (Same.refl H) (one_end e)⟩
    | some y => exact .inr ⟨y, rfl, hw y (List.mem_of_getElem? e), fun q H' s' => no H' s' (one_bad e q), fun n d q H' a s' ea => yes H' n d a s' (one_ok e q) ea⟩
/-! ### need_end -/
def spEnd (C CB : Addr) : Sp := fun vs H Q E => ∃ (p l : Addr) (k : Nat) (ws : List Str), vs = [.ref p] ∧ WObj C H p l k ws ∧ (k < ws.length → Bad p CB H E k) ∧ (¬ k < ws.length → Q .non H)
theorem scE : FnScope ["self"] ["self"] (defScope sEnd) := ⟨rfl, rfl, rfl, by decide +kernel, rfl, by decide +kernel, by decide +kernel⟩
theorem ok_end {f fR : Addr} {fd fdR : FuncData} (F : Fun K "need_end" "Words.need_end" sEnd f fd) (N : Names mg) (T : WTxt K mg C) (GR : FnOk P w K mg base (L2.CX P w) 1 fR fdR ["self"] (spRefuse C CB)) (mR : Meth K C "refuse" fR) (bR : Binds K fdR ["self"] []) :
    FnOk P w K mg base (L2.CX P w) 2 f fd ["self"] (spEnd C CB) := by
  refine F.okX scE (fun vs H Q E h => ?_) (fun cdv A outer s H vs Q E hr h => ?_)
  · obtain ⟨p, l, k, ws, rfl, _⟩ := h
    rfl
  · obtain ⟨p, l, k, ws, rfl, o, bad, ok⟩ := h
    obtain ⟨dx, hp⟩ := o.obj
    have n2 : (wf l k).lookup ("refuse" : Str) = none := wf_no _ _ (by decide +kernel) (by decide +kernel) (by decide +kernel)
    refine ⟨_, pss_one (ps_if (pt_cmpR op_lt (pe_fld (pv 0) rfl) (pe_callB call_len_seq (by rfl) N.len bo_len (pa_cons (pe_fld (pv 0) rfl) pa_nil)) (nomark _)) (pss_one (ps_expr (pe_meth0 (pv 0) T.cl mR GR hr bR .nil passX))) pss_nil), ?_⟩
    refine ⟨_, rfl, p, C, dx, _, _, rfl, hp, T.cl, T.nM, wf_many _ _, _, rfl, p, C, dx, _, _, rfl, hp, T.cl, T.nW, wf_words _ _, l, _, rfl, .inl (SqL.of o.lst), _, _, rfl, rfl, _, rfl, ?_⟩
    rw [List.length_map]
    refine ite2 (fun c => ?_) (fun c => ?_)
    · have y := of_decide_eq_true c
      exact ⟨_, rfl, p, dx, _, rfl, hp, n2, p, l, k, ws, rfl, o, bad (by omega)⟩
    · exact ok fun y => c (decide_eq_true (by omega))
end
end C94
end

section
set_option Elab.async false
set_option linter.all false
set_option maxRecDepth 100000
set_option maxHeartbeats 2000000
namespace C94
open PySem L2 PyProof.Rows TL
open SX (S)
open S9
theorem frW_split {a b m : Nat} (h : a + b = m) : frW m = frW a ++ frW b := by
  subst h
  exact (List.replicate_append_replicate (n := a) (m := b)).symm
/-- n parts of m fractions each, commas between -/
def ptN (m : Nat) : Nat → List (Option Str)
  | 0 => []
  | 1 => frW m
  | n + 2 => ptN m (n + 1) ++ [some (",": Str)] ++ frW m
/-- tuples of fractions -/
def PtsAt (H : Hp) : List V → List (List Fr) → Prop
  | [], [] => True
  | v :: vs, f :: fs => (∃ a us, v = .ref a ∧ H a = some (.tup us) ∧ FrsAt H us f) ∧ PtsAt H vs fs
  | _, _ => False
theorem PtsAt.keep {H H' : Hp} (k : TupK H H') : ∀ {vs : List V} {fs : List (List Fr)}, PtsAt H vs fs → PtsAt H' vs fs
  | [], [], _ => trivial
  | v :: vs, f :: fs, h => ⟨let ⟨a, us, e, z, y⟩ := h.1; ⟨a, us, e, k _ _ z, y.keep k⟩, PtsAt.keep k h.2⟩
  | [], f :: fs, h => h.elim
  | v :: vs, [], h => h.elim
theorem PtsAt.app {H : Hp} : ∀ {vs us : List V} {fs gs : List (List Fr)}, PtsAt H vs fs → PtsAt H us gs → PtsAt H (vs ++ us) (fs ++ gs)
  | [], _, [], _, _, h => h
  | v :: vs, us, f :: fs, gs, h, h2 => ⟨h.1, PtsAt.app h.2 h2⟩
  | [], _, f :: fs, _, h, _ => h.elim
  | v :: vs, _, [], _, h, _ => h.elim
section
variable {P : Program} {w : World} {K : PySem.W.Frag} {mg : Str → Option Value} {base : Heap} {C CB fB : Addr}
/-! ### take_fractions -/
def spTake (C CB : Addr) : Sp := fun vs H Q E => ∃ (p l : Addr) (k m : Nat) (ws : List Str), vs = [.ref p, .int (m : Nat)] ∧ m ≤ 100 ∧ WObj C H p l k ws ∧ (∀ y ∈ ws, y.length ≤ 1000000) ∧ (∀ j, goW ws k (frW m) = .inl j → Bad p CB H E j) ∧
  ∀ fs, goW ws k (frW m) = .inr fs → ∀ H' t us, But p H H' → WObj C H' p l (k + m) ws → H' t = some (.tup us) → FrsAt H' us fs → Q (.ref t) H'
theorem scT : FnScope ["words", "many", "at"] ["words", "many"] (defScope sTake) := ⟨rfl, rfl, rfl, by decide +kernel, rfl, by decide +kernel, by decide +kernel⟩
theorem ok_take {f fF : Addr} {fd fdF : FuncData} (F : Fun K "take_fractions" "take_fractions" sTake f fd) (N : Names mg) (T : WTxt K mg C) (GF : FnOk P w K mg base (L2.CX P w) 3 fF fdF ["self"] (spFrac C CB)) (mF : Meth K C "fraction" fF) (bF : Binds K fdF ["self"] []) :
    FnOk P w K mg base (L2.CX P w) 4 f fd ["words", "many"] (spTake C CB) := by
  refine F.okX scT (fun vs H Q E h => ?_) (fun cdv A outer s H vs Q E hr h => ?_)
  · obtain ⟨p, l, k, m, ws, rfl, _⟩ := h
    rfl
  · obtain ⟨p, l, k, m, ws, rfl, hm, o, hw, bad, ok⟩ := h
    refine ⟨_, pss_one (ps_ret (pe_callTy call_tuple_of (by rfl) N.tuple bo_tuple (by exact (pa_cons (pe_lcX (own := [("at", 2)]) (g := gName 2) (tt := tYes) (te := tMeth C "fraction" (spFrac C CB) [] E (tVar 0) tNil) (EE := E) rfl rfl (takes_of rfl rfl rfl rfl) rfl scT.nd (pi_range1 rfl N.range (pa_cons (pv 1) pa_nil)) (blkOk_by (N := ["words", "many", "at"]) (sc := defScope sTake) (by decide +kernel)) (fun _ _ _ _ _ => pg_name (i := 2) scT.nd rfl (Or.inl rfl)) (fun _ _ _ _ _ => pts_nil)
      (fun _ _ _ _ _ xe hx => pe_meth0 (pv 0) T.cl mF GF hr bF .nil hx)) pa_nil)))), ?_⟩
    obtain ⟨dx0, hp0⟩ := o.obj
    have mt : ((m : Nat) : Int).toNat = m := Int.toNat_natCast m
    refine ⟨_, rfl, _, rfl, by omega, by omega, fun D hD => lc_it (σ := [some (.ref p), some (.int (m : Nat)), none]) walk_range (fun i H' => ∃ acc fs, acc.length = i ∧ goW ws k (frW i) = .inr fs ∧ But p H H' ∧ WObj C H' p l (k + i) ws ∧ H' D = some (.lst acc) ∧ FrsAt H' acc fs) ?_ (fun _ _ _ _ => trivial) (fun i x H1 H2 hi h1 hy => ?_) fun H1 h1 => ?_⟩
    · have npD : p ≠ D := ne_of_none hp0 hD
      refine ⟨[], [], rfl, rfl, But.of (same_upd hD), ?_, upd_same, trivial⟩
      exact o.same (same_upd hD)
    · obtain ⟨acc, fs, la, e, b, o1, hD1, fr⟩ := h1
      obtain ⟨rfl, hx⟩ := hy
      have hi' : i < m := by rw [mt] at hi; exact hi
      obtain ⟨dx, hp⟩ := o1.obj
      have n1 : (wf l (k + i)).lookup ("fraction" : Str) = none := wf_no _ _ (by decide +kernel) (by decide +kernel) (by decide +kernel)
      have nD : D ≠ p := ne_of hD1 hp (fun z => by cases z)
      refine ⟨rfl, _, rfl, p, dx, _, rfl, hp, n1, p, l, k + i, ws, rfl, o1, hw, fun j ej => ?_, fun f ef H4 v b4 o4 fv => ?_⟩
      · refine (bad j ?_).later b
        rw [frW_split (show (i + 1) + (m - (i + 1)) = m by omega)]
        refine goW_pre ?_
        rw [frW_succ, goW_snoc, frW_len]
        exact andR_inr_inl e ej
      · have d4 := b4 _ _ nD hD1
        have k4 := b4.tup o1.notup
        refine ⟨acc, d4, ?_, acc ++ [v], fs ++ [f], ?_, ?_, ?_, ?_, upd_same, ?_⟩
        · rw [la]
          exact Nat.lt_of_lt_of_le hi' (Nat.le_trans hm (by decide))
        · rw [List.length_append, la, List.length_singleton]
        · rw [frW_succ, goW_snoc, frW_len]
          exact andR_inr e ef
        · exact fun c u n ec => (upd_ne (ne_of_none ec hD)).trans (b4 c u n (b c u n ec))
        · exact ⟨let ⟨d2, h2⟩ := o4.obj; ⟨d2, (upd_ne (Ne.symm nD)).trans h2⟩, (upd_ne (ne_of_none o.lst hD)).trans o4.lst⟩
        · have kt : TupK H4 (upd H4 D (.lst (acc ++ [v]))) := fun c xs ec => (upd_ne (fun z => by
            rw [z, d4] at ec
            cases ec)).trans ec
          exact (FrsAt.app (fr.keep k4) (show FrsAt H4 [v] [f] from ⟨fv, trivial⟩)).keep kt
    · obtain ⟨acc, fs, la, e, b, o1, hD1, fr⟩ := h1
      rw [mt] at e o1
      refine ⟨D, acc, rfl, .inl ⟨SqL.of hD1, fun t ht => ?_⟩⟩
      have st := same_upd (o := .tup acc) ht
      exact ok fs e _ t acc (b.trans (But.of st)) (o1.same st) upd_same (fr.keep (TupK.of st))
/-! ### take_point -/
def spPoint (C CB : Addr) : Sp := fun vs H Q E => ∃ (p l : Addr) (k n m : Nat) (ws : List Str), vs = [.ref p, .int (n : Nat), .int (m : Nat)] ∧ n ≤ 3 ∧ m ≤ 2 ∧ WObj C H p l k ws ∧ (∀ y ∈ ws, y.length ≤ 1000000) ∧ (∀ j, goW ws k (ptN (1 + m) n) = .inl j → Bad p CB H E j) ∧
  ∀ fs, goW ws k (ptN (1 + m) n) = .inr fs → ∀ H' t us fss, But p H H' → WObj C H' p l (k + (ptN (1 + m) n).length) ws → H' t = some (.tup us) → PtsAt H' us fss → fss.flatten = fs → us.length = n → Q (.ref t) H'
theorem scP : FnScope ["words", "dimension", "sliders", "found", "axis"] ["words", "dimension", "sliders"] (defScope sPoint) := ⟨rfl, rfl, rfl, by decide +kernel, rfl, by decide +kernel, by decide +kernel⟩
theorem ptN_pre {m : Nat} : ∀ {n i : Nat}, i < n → ∃ r, ptN m n = ptN m (i + 1) ++ r
  | 0, _, h => absurd h (Nat.not_lt_zero _)
  | 1, i, h => ⟨[], by rw [show i = 0 by omega, List.append_nil]⟩
  | n + 2, i, h => by
    by_cases c : i = n + 1
    · exact ⟨[], by rw [c, List.append_nil]⟩
    · obtain ⟨r, e⟩ := ptN_pre (m := m) (n := n + 1) (i := i) (by omega)
      exact ⟨r ++ [some ("," : Str)] ++ frW m, by show ptN m (n + 1) ++ [some ("," : Str)] ++ frW m = _; rw [e]; simp [List.append_assoc]⟩
theorem goW_one (ws : List Str) (k : Nat) (v : Option Str) : goW ws k [v] = oneW ws k v := andR_nil _
theorem ok_point {f fT fD : Addr} {fd fdT fdD : FuncData} (F : Fun K "take_point" "take_point" sPoint f fd) (N : Names mg) (T : WTxt K mg C) (GT : FnOk P w K mg base (L2.CX P w) 4 fT fdT ["words", "many"] (spTake C CB)) (gT : mg "take_fractions" = some (.ref fT)) (kT : PySem.W.keepIn K (.ref fT) = true) (bT : Binds K fdT ["words", "many"] [])
    (GD : FnOk P w K mg base (L2.CX P w) 2 fD fdD ["self", "word"] (spNeed C CB)) (mD : Meth K C "need" fD) (bD : Binds K fdD ["self", "word"] []) : FnOk P w K mg base (L2.CX P w) 5 f fd ["words", "dimension", "sliders"] (spPoint C CB) := by
  refine F.okX scP (fun vs H Q E h => ?_) (fun cdv A outer s H vs Q E hr h => ?_)
  · obtain ⟨p, l, k, n, m, ws, rfl, _⟩ := h
    rfl
  · obtain ⟨p, l, k, n, m, ws, rfl, hn, hm, o, hw, bad, ok⟩ := h
    have hr2 : Room 2 _ := hr.mono (by decide)
    refine ⟨_, pss_cons (ps_set (i := 3) scP.nd rfl (Or.inl rfl) (pe_lst pa_nil))
      (pss_cons (ps_for (passes_of rfl) rfl (pi_range1 rfl N.range (pa_cons (pv 1) pa_nil)) (pg_name (i := 4) scP.nd rfl (Or.inl rfl))
        (pss_cons (ps_if (pt_cmpR op_gt (pv 4) pe_int (nomark _)) (pss_one (ps_expr (pe_meth (pv 0) T.cl mD GD hr2 bD .nil passX (pa_cons pe_str pa_nil)))) pss_nil)
        (pss_one (ps_expr (pe_bm PySem.F.plainAttrs_list PySem.F.slot_list_append PySem.F.type_list_append mt_append (pv 3) (pa_cons (pe_call GT hr rfl gT kT bT .nil passX (pa_cons (pv 0) (pa_cons (pe_op op_add pe_int (pv 2)) pa_nil))) pa_nil))))))
      (pss_one (ps_ret (pe_callTy call_tuple_of (by rfl) N.tuple bo_tuple (pa_cons (pv 3) pa_nil))))), ?_⟩
    obtain ⟨dx0, hp0⟩ := o.obj
    refine ⟨Nat.zero_le _, fun fl hfl => ?_⟩
    have nf : fl ≠ p := fun z => by
      rw [z, hp0] at hfl
      cases hfl
    refine ⟨_, rfl, _, rfl, by omega, by omega, for_range (n := ((n : Nat) : Int).toNat) (fun i σ H' => ∃ (x : Option V) (acc : List V) (fss : List (List Fr)), σ = [some (.ref p), some (.int (n : Nat)), some (.int (m : Nat)), some (.ref fl), x] ∧ acc.length = i ∧ goW ws k (ptN (1 + m) i) = .inr fss.flatten ∧
      But p H H' ∧ WObj C H' p l (k + (ptN (1 + m) i).length) ws ∧ H' fl = some (.lst acc) ∧ PtsAt H' acc fss) ?_ (fun i σ H1 hi h1 => ?_) fun σ H1 h1 => ?_⟩
    · exact ⟨none, [], [], rfl, rfl, rfl, But.of (same_upd hfl), o.same (same_upd hfl), upd_same, trivial⟩
    · obtain ⟨x, acc, fss, rfl, la, e, b, o1, hL, pts⟩ := h1
      have hi' : i < n := by rw [Int.toNat_natCast] at hi; exact hi
      obtain ⟨rest, erest⟩ := ptN_pre (m := 1 + m) hi'
      have tail : ∀ (pre : List (Option Str)) (H2 : Hp) (D : Ends), ptN (1 + m) (i + 1) = pre ++ frW (1 + m) → goW ws k pre = .inr fss.flatten → But p H H2 → WObj C H2 p l (k + pre.length) ws → H2 fl = some (.lst acc) → PtsAt H2 acc fss →
          (∀ H', (∃ (x : Option V) (acc : List V) (fss : List (List Fr)), ([some (.ref p), some (.int (n : Nat)), some (.int (m : Nat)), some (.ref fl), some (.int (0 + (i : Nat)))] : L2.St) = [some (.ref p), some (.int (n : Nat)), some (.int (m : Nat)), some (.ref fl), x] ∧ acc.length = i + 1 ∧ goW ws k (ptN (1 + m) (i + 1)) = .inr fss.flatten ∧
            But p H H' ∧ WObj C H' p l (k + (ptN (1 + m) (i + 1)).length) ws ∧ H' fl = some (.lst acc) ∧ PtsAt H' acc fss) → D.nx [some (.ref p), some (.int (n : Nat)), some (.int (m : Nat)), some (.ref fl), some (.int (0 + (i : Nat)))] H') →
          tDrop (tBM K "list" rAppend (tVar 3) (tCons (tCall (spTake C CB) [] E (tCons (tVar 0) (tCons (tOp (rI0 fun i j => V.int (i + j)) (tC (V.int 1)) (tVar 2)) tNil))) tNil)) D [some (.ref p), some (.int (n : Nat)), some (.int (m : Nat)), some (.ref fl), some (.int (0 + (i : Nat)))] H2 := by
        intro pre H2 D ep eg b2 o2 hL2 pts2 nx
        refine ⟨_, rfl, .inl ⟨rfl, _, SqL.of hL2⟩, _, rfl, _, rfl, _, _, rfl, rfl, p, l, k + pre.length, 1 + m, ws, congrArg (fun z => [V.ref p, V.int z]) (by omega), by omega, o2, hw, fun j ej => ?_, fun fs ef H4 t us b4 o4 ht ft => ?_⟩
        · refine (bad j ?_).later b2
          rw [erest, ep]
          refine goW_pre ?_
          rw [goW_app]
          exact andR_inr_inl eg ej
        · have hL4 := b4 _ _ nf hL2
          refine ⟨fl, acc, .ref t, rfl, rfl, hL4, ?_, nx _ ⟨_, acc ++ [.ref t], fss ++ [fs], rfl, ?_, ?_, ?_, ?_, upd_same, ?_⟩⟩
          · rw [la]
            exact Nat.lt_of_lt_of_le (Nat.lt_of_lt_of_le hi' hn) (by decide)
          · rw [List.length_append, la, List.length_singleton]
          · rw [ep, goW_app, List.flatten_append]
            refine (andR_inr eg ef).trans ?_
            simp
          · exact fun c u nc ec => (upd_ne (ne_of_none ec hfl)).trans (b4 c u nc (b2 c u nc ec))
          · rw [ep, List.length_append, frW_len, ← Nat.add_assoc]
            exact ⟨let ⟨d2, h2⟩ := o4.obj; ⟨d2, (upd_ne (Ne.symm nf)).trans h2⟩, (upd_ne (ne_of_none o.lst hfl)).trans o4.lst⟩
          · have kt : TupK H4 (upd H4 fl (.lst (acc ++ [.ref t]))) := fun c xs ec => (upd_ne (fun z => by
              rw [z, hL4] at ec
              cases ec)).trans ec
            exact (PtsAt.app (pts2.keep (b4.tup o2.notup)) (show PtsAt H4 [.ref t] [fs] from ⟨⟨t, us, rfl, ht, ft⟩, trivial⟩)).keep kt
      refine ⟨_, rfl, _, _, rfl, rfl, _, rfl, ?_⟩
      cases i with
      | zero =>
        refine ite2 (fun c => absurd (of_decide_eq_true c) (by decide)) fun _ => ?_
        exact tail [] H1 _ rfl e b o1 hL pts (fun _ z => z)
      | succ i =>
        refine ite2 (fun _ => ?_) fun c => absurd (decide_eq_true (by omega)) c
        obtain ⟨dx, hp⟩ := o1.obj
        have n1 : (wf l (k + (ptN (1 + m) (i + 1)).length)).lookup ("need" : Str) = none := wf_no _ _ (by decide +kernel) (by decide +kernel) (by decide +kernel)
        refine ⟨_, rfl, p, dx, _, rfl, hp, n1, p, l, _, ws, ",", rfl, o1, fun j ej => ?_, fun ek H4 b4 o4 => ?_⟩
        · refine (bad j ?_).later b
          rw [erest]
          show goW ws k (ptN (1 + m) (i + 1) ++ [some ("," : Str)] ++ frW (1 + m) ++ rest) = _
          refine goW_pre (goW_pre ?_)
          rw [goW_snoc]
          exact andR_inr_inl e ej
        · refine tail (ptN (1 + m) (i + 1) ++ [some ("," : Str)]) H4 _ rfl ?_ (b.trans b4) ?_ (b4 _ _ nf hL) (pts.keep (b4.tup o1.notup)) (fun _ z => z)
          · rw [goW_snoc]
            refine (andR_inr e ek).trans ?_
            rw [List.append_nil]
          · rw [List.length_append, List.length_singleton, ← Nat.add_assoc]
            exact o4
    · obtain ⟨x, acc, fss, rfl, la, e, b, o1, hL, pts⟩ := h1
      rw [Int.toNat_natCast] at e o1 la
      refine ⟨_, rfl, fl, acc, rfl, .inl ⟨SqL.of hL, fun t ht => ?_⟩⟩
      have st := same_upd (o := .tup acc) ht
      exact ok _ e _ t acc fss (b.trans (But.of st)) (o1.same st) upd_same (pts.keep (TupK.of st)) rfl la
end
end C94
end

section
set_option Elab.async false
set_option linter.all false
set_option maxRecDepth 100000
set_option maxHeartbeats 2000000
namespace C94
open PySem L2 PyProof.Rows TL
open SX (S)
open S9
/-- the wanted words of m values -/
def vlW (m : Nat) : List (Option Str) := (if m = 0 then [some ("." : Str)] else []) ++ frW m
/-- all of a text's words read -/
def fullW (ws : List Str) (wants : List (Option Str)) : Rd := andR (goW ws 0 wants) (if wants.length < ws.length then .inl wants.length else .inr [])
/-- the error that tells the j-th word; what stood stands -/
def BadS (CB : Addr) (H : Hp) (E : XK) (j : Nat) : Prop := ∀ H' d, Same H H' → H' d = some (.xd [("line", .int 0), ("word", .int (j : Nat))]) → E (.ref CB) (some d) H'
theorem BadS.later {CB : Addr} {H H1 : Hp} {E : XK} {k : Nat} (b : BadS CB H E k) (s : Same H H1) : BadS CB H1 E k := fun H' d s' e => b H' d (s.trans s') e
/-- beside an object that is new, all stays -/
theorem But.same {p : Addr} {H H1 H2 : Hp} (n : H p = none) (s : Same H H1) (b : But p H1 H2) : Same H H2 := fun c o e => b c o (ne_of_none e n) (s _ _ e)
section
variable {P : Program} {w : World} {K : PySem.W.Frag} {mg : Str → Option Value} {base : Heap} {C CB fB : Addr}
/-! ### take_values -/
def spValues (C CB : Addr) : Sp := fun vs H Q E => ∃ (p l : Addr) (k m : Nat) (ws : List Str), vs = [.ref p, .int (m : Nat)] ∧ m ≤ 2 ∧ WObj C H p l k ws ∧ (∀ y ∈ ws, y.length ≤ 1000000) ∧ (∀ j, goW ws k (vlW m) = .inl j → Bad p CB H E j) ∧
  ∀ fs, goW ws k (vlW m) = .inr fs → ∀ H' t us, But p H H' → WObj C H' p l (k + (vlW m).length) ws → H' t = some (.tup us) → FrsAt H' us fs → Q (.ref t) H'
theorem scV : FnScope ["words", "many"] ["words", "many"] (defScope sValues) := ⟨rfl, rfl, rfl, by decide +kernel, rfl, by decide +kernel, by decide +kernel⟩
theorem ok_values {f fT fD : Addr} {fd fdT fdD : FuncData} (F : Fun K "take_values" "take_values" sValues f fd) (N : Names mg) (T : WTxt K mg C) (GT : FnOk P w K mg base (L2.CX P w) 4 fT fdT ["words", "many"] (spTake C CB)) (gT : mg "take_fractions" = some (.ref fT)) (kT : PySem.W.keepIn K (.ref fT) = true) (bT : Binds K fdT ["words", "many"] [])
    (GD : FnOk P w K mg base (L2.CX P w) 2 fD fdD ["self", "word"] (spNeed C CB)) (mD : Meth K C "need" fD) (bD : Binds K fdD ["self", "word"] []) : FnOk P w K mg base (L2.CX P w) 5 f fd ["words", "many"] (spValues C CB) := by
  obtain ⟨t1, m1⟩ := N.nowhere
  refine F.okX scV (fun vs H Q E h => ?_) (fun cdv A outer s H vs Q E hr h => ?_)
  · obtain ⟨p, l, k, m, ws, rfl, _⟩ := h
    rfl
  · obtain ⟨p, l, k, m, ws, rfl, hm, o, hw, bad, ok⟩ := h
    have hr2 : Room 2 _ := hr.mono (by decide)
    refine ⟨_, pss_cons (ps_if (pt_cmpR op_eq (pv 1) pe_int (nomark _)) (pss_one (ps_expr (pe_meth (pv 0) T.cl mD GD hr2 bD .nil passX (pa_cons (pe_glob (v := .str ".") (by rfl) m1 ⟨_, rfl⟩) pa_nil)))) pss_nil)
      (pss_one (ps_ret (pe_call GT hr rfl gT kT bT .nil passX (pa_cons (pv 0) (pa_cons (pv 1) pa_nil))))), ?_⟩
    obtain ⟨dx, hp⟩ := o.obj
    have n1 : (wf l k).lookup ("need" : Str) = none := wf_no _ _ (by decide +kernel) (by decide +kernel) (by decide +kernel)
    refine ⟨_, rfl, rfl, _, rfl, ?_⟩
    by_cases hz : m = 0
    · subst hz
      refine ite2 (fun _ => ?_) fun c => absurd (decide_eq_true rfl) c
      refine ⟨_, rfl, p, dx, _, rfl, hp, n1, p, l, k, ws, ".", rfl, o, fun j ej => bad j (goW_pre (a := [some ("." : Str)]) (by rw [goW_one]; exact ej)), fun ek H4 b4 o4 => ?_⟩
      refine ⟨_, rfl, _, rfl, p, l, k + 1, 0, ws, rfl, by decide, o4, hw, fun j ej => ?_, fun fs ef H5 t us b5 o5 ht ft => ?_⟩
      · cases ej
      · refine ok fs ?_ H5 t us (b4.trans b5) o5 ht ft
        show goW ws k ([some ("." : Str)] ++ frW 0) = _
        rw [goW_app, goW_one, ek, nil_andR]
        exact ef
    · refine ite2 (fun c => ?_) fun _ => ?_
      · have q := of_decide_eq_true c
        exact absurd (by have := V.int.inj q; omega) hz
      · have e : vlW m = frW m := by
          unfold vlW
          rw [if_neg hz]
          rfl
        rw [e] at bad ok
        rw [frW_len] at ok
        exact ⟨_, rfl, _, rfl, p, l, k, m, ws, rfl, by omega, o, hw, bad, ok⟩
/-! ### the readers -/
def spReadV (CB : Addr) : Sp := fun vs H Q E => ∃ (t : Str) (m : Nat), vs = [.str t, .int (m : Nat)] ∧ m ≤ 2 ∧ t.length ≤ 1000000 ∧ (∀ j, fullW (Txt.split t " ") (vlW m) = .inl j → BadS CB H E j) ∧
  ∀ fs, fullW (Txt.split t " ") (vlW m) = .inr fs → ∀ H' a us, Same H H' → H' a = some (.tup us) → FrsAt H' us fs → Q (.ref a) H'
theorem scRV : FnScope ["text", "sliders", "words", "found"] ["text", "sliders"] (defScope sReadV) := ⟨rfl, rfl, rfl, by decide +kernel, rfl, by decide +kernel, by decide +kernel⟩
theorem ok_readV {f fN fI fV fE : Addr} {fd fdN fdI fdV fdE : FuncData} (F : Fun K "read_values" "read_values" sReadV f fd) (T : WTxt K mg C) (M : Mk K C fI) (GN : FnOk P w K mg base CX0 3 fN fdN ["value", "part", "least", "most"] spNeedNum) (gN : mg "need_number" = some (.ref fN)) (kN : PySem.W.keepIn K (.ref fN) = true) (bN : Binds K fdN ["value", "part", "least", "most"] [])
    (GI : FnOk P w K mg base CX0 1 fI fdI ["self", "text", "line"] (spInit C)) (bI : Binds K fdI ["self", "text", "line"] []) (GV : FnOk P w K mg base (L2.CX P w) 5 fV fdV ["words", "many"] (spValues C CB)) (gV : mg "take_values" = some (.ref fV)) (kV : PySem.W.keepIn K (.ref fV) = true) (bV : Binds K fdV ["words", "many"] [])
    (GE : FnOk P w K mg base (L2.CX P w) 2 fE fdE ["self"] (spEnd C CB)) (mE : Meth K C "need_end" fE) (bE : Binds K fdE ["self"] []) : FnOk P w K mg base (L2.CX P w) 6 f fd ["text", "sliders"] (spReadV CB) := by
  refine F.okX scRV (fun vs H Q E h => ?_) (fun cdv A outer s H vs Q E hr h => ?_)
  · obtain ⟨t, m, rfl, _⟩ := h
    rfl
  · obtain ⟨t, m, rfl, hm, ht, bad, ok⟩ := h
    have hr2 : Room 2 _ := hr.mono (by decide)
    have hr3 : Room 3 _ := hr.mono (by decide)
    refine ⟨_, pss_cons (ps_expr (pe_call GN hr3 rfl gN kN bN .nil pass0 (pa_cons (pv 1) (pa_cons pe_str (pa_cons pe_int (pa_cons pe_int pa_nil))))))
      (pss_cons (ps_set (i := 2) scRV.nd rfl (Or.inl rfl) (pe_make M GI hr2 rfl T.mgC bI .nil pass0 (pa_cons (pv 0) (pa_cons pe_int pa_nil))))
      (pss_cons (ps_set (i := 3) scRV.nd rfl (Or.inl rfl) (pe_call GV hr rfl gV kV bV .nil passX (pa_cons (pv 2) (pa_cons (pv 1) pa_nil))))
      (pss_cons (ps_expr (pe_meth0 (pv 2) T.cl mE GE hr2 bE .nil passX)) (pss_one (ps_ret (pv 3)))))), ?_⟩
    refine ⟨_, rfl, _, 0, 2, _, rfl, by omega, by omega, ?_⟩
    refine ⟨_, rfl, fun p dx np ndx ne => ?_⟩
    have s0 : Same H (upd (upd H dx (.own p)) p (.ins C dx [])) := same_upd' (same_upd ndx) np
    refine ⟨p, dx, t, rfl, ht, upd_same, fun H1 l b1 o1 => ⟨rfl, ?_⟩⟩
    have s1 : Same H H1 := But.same np s0 b1
    have hw : ∀ y ∈ Txt.split t " ", y.length ≤ 1000000 := fun y hy => Nat.le_trans (split_short blank_ne blank_k y hy) ht
    refine ⟨_, rfl, _, rfl, p, l, 0, m, _, rfl, hm, o1, hw, fun j ej H' d b d1 => bad j (andR_inl _ ej) H' d (But.same np s1 b) d1, fun fs ef H2 a us b2 o2 ha fa => ?_⟩
    obtain ⟨dx2, hp2⟩ := o2.obj
    have n1 : (wf l (0 + (vlW m).length)).lookup ("need_end" : Str) = none := wf_no _ _ (by decide +kernel) (by decide +kernel) (by decide +kernel)
    have s2 : Same H H2 := But.same np s1 b2
    rw [Nat.zero_add] at o2 hp2 n1
    refine ⟨_, rfl, p, dx2, _, rfl, hp2, n1, p, l, _, _, rfl, o2, fun c H' d b d1 => ?_, fun c => ?_⟩
    · exact bad _ (by unfold fullW; rw [ef, if_pos c]; rfl) H' d (But.same np s2 b) d1
    · refine ⟨_, rfl, ok fs (by unfold fullW; rw [ef, if_neg c]; exact andR_nil _) H2 a us s2 ha fa⟩
def spReadP (CB : Addr) : Sp := fun vs H Q E => ∃ (t : Str) (n m : Nat), vs = [.str t, .int (n : Nat), .int (m : Nat)] ∧ 1 ≤ n ∧ n ≤ 3 ∧ m ≤ 2 ∧ t.length ≤ 1000000 ∧ (∀ j, fullW (Txt.split t " ") (ptN (1 + m) n) = .inl j → BadS CB H E j) ∧
  ∀ fs, fullW (Txt.split t " ") (ptN (1 + m) n) = .inr fs → ∀ H' a us fss, Same H H' → H' a = some (.tup us) → PtsAt H' us fss → fss.flatten = fs → us.length = n → Q (.ref a) H'
theorem scRP : FnScope ["text", "dimension", "sliders", "words", "found"] ["text", "dimension", "sliders"] (defScope sReadP) := ⟨rfl, rfl, rfl, by decide +kernel, rfl, by decide +kernel, by decide +kernel⟩
theorem ok_readP {f fN fI fV fE : Addr} {fd fdN fdI fdV fdE : FuncData} (F : Fun K "read_point" "read_point" sReadP f fd) (T : WTxt K mg C) (M : Mk K C fI) (GN : FnOk P w K mg base CX0 3 fN fdN ["value", "part", "least", "most"] spNeedNum) (gN : mg "need_number" = some (.ref fN)) (kN : PySem.W.keepIn K (.ref fN) = true) (bN : Binds K fdN ["value", "part", "least", "most"] [])
    (GI : FnOk P w K mg base CX0 1 fI fdI ["self", "text", "line"] (spInit C)) (bI : Binds K fdI ["self", "text", "line"] []) (GV : FnOk P w K mg base (L2.CX P w) 5 fV fdV ["words", "dimension", "sliders"] (spPoint C CB)) (gV : mg "take_point" = some (.ref fV)) (kV : PySem.W.keepIn K (.ref fV) = true) (bV : Binds K fdV ["words", "dimension", "sliders"] [])
    (GE : FnOk P w K mg base (L2.CX P w) 2 fE fdE ["self"] (spEnd C CB)) (mE : Meth K C "need_end" fE) (bE : Binds K fdE ["self"] []) : FnOk P w K mg base (L2.CX P w) 6 f fd ["text", "dimension", "sliders"] (spReadP CB) := by
  refine F.okX scRP (fun vs H Q E h => ?_) (fun cdv A outer s H vs Q E hr h => ?_)
  · obtain ⟨t, n, m, rfl, _⟩ := h
    rfl
  · obtain ⟨t, n, m, rfl, hn1, hn, hm, ht, bad, ok⟩ := h
    have hr2 : Room 2 _ := hr.mono (by decide)
    have hr3 : Room 3 _ := hr.mono (by decide)
    refine ⟨_, pss_cons (ps_expr (pe_call GN hr3 rfl gN kN bN .nil pass0 (pa_cons (pv 1) (pa_cons pe_str (pa_cons pe_int (pa_cons pe_int pa_nil))))))
      (pss_cons (ps_expr (pe_call GN hr3 rfl gN kN bN .nil pass0 (pa_cons (pv 2) (pa_cons pe_str (pa_cons pe_int (pa_cons pe_int pa_nil))))))
      (pss_cons (ps_set (i := 3) scRP.nd rfl (Or.inl rfl) (pe_make M GI hr2 rfl T.mgC bI .nil pass0 (pa_cons (pv 0) (pa_cons pe_int pa_nil))))
      (pss_cons (ps_set (i := 4) scRP.nd rfl (Or.inl rfl) (pe_call GV hr rfl gV kV bV .nil passX (pa_cons (pv 3) (pa_cons (pv 1) (pa_cons (pv 2) pa_nil)))))
      (pss_cons (ps_expr (pe_meth0 (pv 3) T.cl mE GE hr2 bE .nil passX)) (pss_one (ps_ret (pv 4))))))), ?_⟩
    refine ⟨_, rfl, _, 1, 3, _, rfl, by omega, by omega, ?_⟩
    refine ⟨_, rfl, _, 0, 2, _, rfl, by omega, by omega, ?_⟩
    refine ⟨_, rfl, fun p dx np ndx ne => ?_⟩
    have s0 : Same H (upd (upd H dx (.own p)) p (.ins C dx [])) := same_upd' (same_upd ndx) np
    refine ⟨p, dx, t, rfl, ht, upd_same, fun H1 l b1 o1 => ⟨rfl, ?_⟩⟩
    have s1 : Same H H1 := But.same np s0 b1
    have hw : ∀ y ∈ Txt.split t " ", y.length ≤ 1000000 := fun y hy => Nat.le_trans (split_short blank_ne blank_k y hy) ht
    refine ⟨_, rfl, _, rfl, _, rfl, p, l, 0, n, m, _, rfl, hn, hm, o1, hw, fun j ej H' d b d1 => bad j (andR_inl _ ej) H' d (But.same np s1 b) d1, fun fs ef H2 a us fss b2 o2 ha fa ff lu => ?_⟩
    obtain ⟨dx2, hp2⟩ := o2.obj
    have n1 : (wf l (0 + (ptN (1 + m) n).length)).lookup ("need_end" : Str) = none := wf_no _ _ (by decide +kernel) (by decide +kernel) (by decide +kernel)
    have s2 : Same H H2 := But.same np s1 b2
    rw [Nat.zero_add] at o2 hp2 n1
    refine ⟨_, rfl, p, dx2, _, rfl, hp2, n1, p, l, _, _, rfl, o2, fun c H' d b d1 => ?_, fun c => ?_⟩
    · exact bad _ (by unfold fullW; rw [ef, if_pos c]; rfl) H' d (But.same np s2 b) d1
    · refine ⟨_, rfl, ok fs (by unfold fullW; rw [ef, if_neg c]; exact andR_nil _) H2 a us fss s2 ha fa ff lu⟩
end
end C94
end

section
set_option Elab.async false
set_option linter.all false
set_option maxRecDepth 100000
set_option maxHeartbeats 2000000
namespace C94
open PySem L2 PyProof.Rows TL
open SX (S)
open S9
theorem ints_lay : ∀ l : List Int, PyData.canLayAll0 (l.map PyData.int) = true
  | [] => rfl
  | i :: l => by simp [PyData.canLayAll0, PyData.canLay0, ints_lay l]
theorem ints_depth : ∀ l : List Int, PyData.depthAll (l.map PyData.int) = 0
  | [] => rfl
  | i :: l => by simp [PyData.depthAll, PyData.depth, ints_depth l]
theorem ints_shaped (l : List Int) : SeqAt.shaped (.list (l.map PyData.int)) = true := by
  unfold SeqAt.shaped
  simp [PyData.canLay0, ints_lay l, PyData.depth, ints_depth l]
theorem ints_dp {K : PySem.W.Frag} {H : Hp} : ∀ l : List Int, DpAll K H (l.map V.int) (l.map PyData.int)
  | [] => .nil
  | i :: l => .cons (.int i) (ints_dp l)
theorem eqv_nil (l : List PyData) : PyData.eqv (.list l) (.list []) = l.isEmpty := by
  cases l <;> simp [PyData.eqv, PyData.eqvAll]
/-- the pen at p: its cells, where it stands (n draws at most), what is left of a great cell -/
def PenAt (H : Hp) (p cl : Addr) (n : Nat) : Prop := ∃ (cells : List Int) (at_ rest : Int), H p = some (.lst [.ref cl, .int at_, .int rest]) ∧ H cl = some (.lst (cells.map V.int)) ∧ cells.length ≤ 63 ∧ 0 ≤ at_ ∧ at_ ≤ (n : Int) ∧ 0 ≤ rest
theorem PenAt.mono {H : Hp} {p cl : Addr} {n m : Nat} (h : PenAt H p cl n) (l : n ≤ m) : PenAt H p cl m := by
  obtain ⟨cells, a, r, h1, h2, h3, h4, h5, h6⟩ := h
  exact ⟨cells, a, r, h1, h2, h3, h4, by omega, h6⟩
theorem PenAt.same {H H' : Hp} {p cl : Addr} {n : Nat} (h : PenAt H p cl n) (s : Same H H') : PenAt H' p cl n := by
  obtain ⟨cells, a, r, h1, h2, h3⟩ := h
  exact ⟨cells, a, r, s _ _ h1, s _ _ h2, h3⟩
theorem PenAt.put {H : Hp} {p cl : Addr} {cells : List Int} {n : Nat} {a a' r r' : Int} (h1 : H p = some (.lst [.ref cl, .int a, .int r])) (h2 : H cl = some (.lst (cells.map V.int))) (h3 : cells.length ≤ 63) (h4 : 0 ≤ a') (h5 : a' ≤ (n : Int)) (h6 : 0 ≤ r') :
    But p H (upd H p (.lst [.ref cl, .int a', .int r'])) ∧ PenAt (upd H p (.lst [.ref cl, .int a', .int r'])) p cl n := by
  have ne : cl ≠ p := fun z => by
    rw [z, h1] at h2
    have q := HO.lst.inj (Option.some.inj h2)
    cases cells with
    | nil => cases q
    | cons c r => cases (List.cons.inj q).1
  exact ⟨fun b o n e => (upd_ne n).trans e, cells, a', r', upd_same, (upd_ne ne).trans h2, h3, h4, h5, h6⟩
section
variable {P : Program} {w : World} {K : PySem.W.Frag} {mg : Str → Option Value} {base : Heap}
/-! ### _law_pen -/
def spPen (K : PySem.W.Frag) : Sp := fun vs H Q _ => ∃ (a : Addr) (ns : List Int), vs = [.ref a] ∧ SqL K H a (ns.map V.int) ∧ ns.length ≤ 63 ∧ ∀ H' p cl, Same H H' → H p = none → PenAt H' p cl 0 → Q (.ref p) H'
theorem scPen : FnScope ["script", "cell"] ["script"] (defScope sPen) := ⟨rfl, rfl, rfl, by decide +kernel, rfl, by decide +kernel, by decide +kernel⟩
theorem ok_pen {f : Addr} {fd : FuncData} (F : Fun K "_law_pen" "_law_pen" sPen f fd) (N : Names mg) : FnOk P w K mg base CX0 1 f fd ["script"] (spPen K) := by
  refine F.ok scPen (fun vs H Q E h => ?_) (fun cdv A outer s H vs Q E hr h => ?_)
  · obtain ⟨a, ns, rfl, _⟩ := h
    rfl
  · obtain ⟨a, ns, rfl, hS, hl, k⟩ := h
    refine ⟨_, pss_one (ps_ret (pe_lst (pa_cons (pe_lc (own := [("cell", 1)]) (g := gName 1) (tt := tYes) rfl scPen.nd (pi_list (pe_slice sl_list (pv 0) po_none (po_some pe_int))) (blkOk_by (N := ["script", "cell"]) (sc := defScope sPen) (by decide +kernel)) (fun _ _ _ _ _ => pg_name (i := 1) scPen.nd rfl (Or.inl rfl)) (fun _ _ _ _ _ => pts_nil)
      (fun _ _ _ _ _ => pe_callTy call_int1 (by rfl) N.int bo_int (pa_cons (pv 1) pa_nil))) (pa_cons pe_int (pa_cons pe_int pa_nil))))), ?_⟩
    have eC : ∀ lo hi, cutV (ns.map V.int) lo hi = ((ns.drop (HT.sIx (ns.map V.int).length 0 lo)).take (HT.sIx (ns.map V.int).length (ns.map V.int).length hi - HT.sIx (ns.map V.int).length 0 lo)).map V.int := fun lo hi => by
      unfold cutV
      rw [List.map_take, List.map_drop]
    refine ⟨_, rfl, _, rfl, a, _, rfl, hS, fun p hp => ⟨p, rfl, ⟨_, SqL.of upd_same⟩, fun D hD => lc_mapS (xs := cutV (ns.map V.int) none (some 63)) (σ := [some (.ref a), none]) walk_list id hD ?_ (fun H1 s1 => SqL.of (s1 _ _ upd_same)) (fun i x H1 Qk hx s1 q => ?_) fun H1 s1 hL => ?_⟩⟩
    · refine Nat.le_trans (cutV_length _ _ _) ?_
      rw [List.length_map]
      exact Nat.le_trans hl (by decide)
    · obtain ⟨z, rfl⟩ : ∃ z : Int, x = V.int z := by
        have m := List.mem_of_getElem? hx
        rw [eC] at m
        obtain ⟨z, _, e⟩ := List.mem_map.mp m
        exact ⟨z, e.symm⟩
      exact ⟨rfl, _, rfl, .inl ⟨z, rfl, q _ (Same.refl _)⟩⟩
    · rw [List.map_id, eC] at hL
      have s2 : Same H H1 := (same_upd hp).trans s1
      refine ⟨by show 3 ≤ sizeLine; decide, fun q hq => k _ q D (s2.trans (same_upd hq)) (s2.free hq) ?_⟩
      refine ⟨_, 0, 0, upd_same, (upd_ne (ne_of_none hL hq)).trans hL, ?_, Int.le_refl _, Int.le_refl _, Int.le_refl _⟩
      rw [List.length_take, List.length_drop]
      omega
/-! ### _law_draw -/
def spDraw : Sp := fun vs H Q _ => ∃ (p cl : Addr) (m : Int) (n : Nat), vs = [.ref p, .int m] ∧ 0 < m ∧ m < 1000 ∧ n ≤ 10000 ∧ PenAt H p cl n ∧ ∀ (v : Int) (H' : Hp), 0 ≤ v → v < m → But p H H' → PenAt H' p cl (n + 1) → Q (.int v) H'
theorem scDraw : FnScope ["pen", "many", "rest", "at", "cell", "mixed"] ["pen", "many"] (defScope sDraw) := ⟨rfl, rfl, rfl, by decide +kernel, rfl, by decide +kernel, by decide +kernel⟩
theorem ok_draw {f : Addr} {fd : FuncData} (F : Fun K "_law_draw" "_law_draw" sDraw f fd) (N : Names mg) : FnOk P w K mg base CX0 1 f fd ["pen", "many"] spDraw := by
  refine F.ok scDraw (fun vs H Q E h => ?_) (fun cdv A outer s H vs Q E hr h => ?_)
  · obtain ⟨p, cl, m, n, rfl, _⟩ := h
    rfl
  · obtain ⟨p, cl, m, n, rfl, hm0, hm1, hn, hP, k⟩ := h
    have hu : ∀ {X : Cx}, X.A = A.deeper (envOfC "_law_draw" (defScope sDraw) s.heap.objs.size f cdv) → X.A.units + 64 < cLine := fun e => by
      rw [e]
      exact hr.units
    refine ⟨_, pss_cons (ps_if (pt_cmpR op_gt (pe_ix ix_list (pv 0) pe_int (fun _ _ => rfl)) pe_int (nomark _))
        (pss_cons (ps_set (i := 2) scDraw.nd rfl (Or.inl rfl) (pe_callTy call_int1 (by rfl) N.int bo_int (pa_cons (pe_ix ix_list (pv 0) pe_int (fun _ _ => rfl)) pa_nil)))
        (pss_cons (ps_asg (pe_op op_fdiv (pv 2) (pv 1)) (pg_sub (pv 0) pe_int set_list)) (pss_one (ps_ret (pe_op op_mod (pe_callTy call_int1 (by rfl) N.int bo_int (pa_cons (pv 2) pa_nil)) (pv 1)))))) pss_nil)
      (pss_cons (ps_set (i := 3) scDraw.nd rfl (Or.inl rfl) (pe_ix ix_list (pv 0) pe_int (fun _ _ => rfl)))
      (pss_cons (ps_asg (pe_op op_add (pv 3) pe_int) (pg_sub (pv 0) pe_int set_list))
      (pss_cons (ps_set (i := 4) scDraw.nd rfl (Or.inl rfl) (pe_op op_add (pe_op op_mul pe_int (pv 3)) pe_int))
      (pss_cons (ps_if (pt_cmpR (op_neD (hu rfl)) (pe_ix ix_list (pv 0) pe_int (fun _ _ => rfl)) (pe_lst pa_nil) (nomark _))
        (pss_one (ps_set (i := 4) scDraw.nd rfl (Or.inl rfl) (pe_ix ix_list (pe_ix ix_list (pv 0) pe_int (fun _ _ => rfl)) (pe_op op_mod (pe_callTy call_int1 (by rfl) N.int bo_int (pa_cons (pv 3) pa_nil)) (pe_callB call_len_seq (by rfl) N.len bo_len (pa_cons (pe_ix ix_list (pv 0) pe_int (fun _ _ => rfl)) pa_nil))) (fun _ _ => rfl)))) pss_nil)
      (pss_cons (ps_if (PW.pt (pw_and (pt_cmpR op_lt (pv 3) (pe_callB call_len_seq (by rfl) N.len bo_len (pa_cons (pe_ix ix_list (pv 0) pe_int (fun _ _ => rfl)) pa_nil)) (nomark _)) (pw_and1 (pt_cmpR op_ge (pe_callB call_abs (by rfl) N.abs bo_abs (pa_cons (pv 4) pa_nil)) (pe_op op_pow pe_int pe_int) (nomark _)))))
        (pss_cons (ps_set (i := 2) scDraw.nd rfl (Or.inl rfl) (pe_op op_add (pe_op op_mul pe_int (pe_op op_sub (pe_callB call_abs (by rfl) N.abs bo_abs (pa_cons (pv 4) pa_nil)) (pe_op op_pow pe_int pe_int))) (pe_callTy call_int1 (by rfl) N.int bo_int (pa_cons (pe_cmpR op_lt (pv 4) pe_int (nomark _)) pa_nil))))
        (pss_cons (ps_asg (pe_op op_fdiv (pe_callTy call_int1 (by rfl) N.int bo_int (pa_cons (pv 2) pa_nil)) (pv 1)) (pg_sub (pv 0) pe_int set_list)) (pss_one (ps_ret (pe_op op_mod (pe_callTy call_int1 (by rfl) N.int bo_int (pa_cons (pv 2) pa_nil)) (pv 1)))))) pss_nil)
      (pss_cons (ps_set (i := 5) scDraw.nd rfl (Or.inl rfl) (pe_op op_mod (pe_callTy call_int1 (by rfl) N.int bo_int (pa_cons (pe_op op_pow (pe_op op_add (pe_op op_add (pe_op op_mod (pe_callTy call_int1 (by rfl) N.int bo_int (pa_cons (pv 4) pa_nil)) pe_int) (pe_op op_mul pe_int (pv 3))) pe_int) pe_int) pa_nil)) pe_int))
      (pss_cons (ps_set (i := 5) scDraw.nd rfl (Or.inl rfl) (pe_op op_mod (pe_callTy call_int1 (by rfl) N.int bo_int (pa_cons (pe_op op_pow (pe_op op_add (pe_op op_add (pe_op op_mul (pv 5) (pe_op op_add (pe_op op_mul pe_int (pv 3)) pe_int)) (pe_op op_mul (pe_op op_mul pe_int (pv 3)) (pv 3))) pe_int) pe_int) pa_nil)) pe_int))
      (pss_one (ps_ret (pe_op op_mod (pe_callTy call_int1 (by rfl) N.int bo_int (pa_cons (pe_op op_fdiv (pv 5) pe_int) pa_nil)) (pv 1))))))))))), ?_⟩
    obtain ⟨cells, a, r, hp, hc, hcl, ha0, han, hr0⟩ := hP
    have ha : a ≤ 10000 := by omega
    have i0 : ∀ x y : Int, atI [V.ref cl, .int x, .int y] 0 = some (V.ref cl) := fun _ _ => rfl
    have i1 : atI [V.ref cl, .int a, .int r] 1 = some (V.int a) := rfl
    have i2 : atI [V.ref cl, .int a, .int r] 2 = some (V.int r) := rfl
    have md : ∀ x : Int, 0 ≤ x % m ∧ x % m < m := fun x => ⟨Int.emod_nonneg _ (by omega), Int.emod_lt_of_pos _ hm0⟩
    have dv : ∀ x : Int, 0 ≤ x → 0 ≤ x / m := fun x h => Int.ediv_nonneg h (by omega)
    refine ⟨_, rfl, p, _, _, _, rfl, rfl, SqL.of hp, i2, _, _, rfl, rfl, _, rfl, ?_⟩
    refine ite2 (fun c => ?_) (fun c => ?_)
    · refine ⟨_, rfl, p, _, _, _, rfl, rfl, SqL.of hp, i2, .inl ⟨r, rfl, ?_⟩⟩
      refine ⟨_, rfl, _, rfl, _, _, rfl, rfl, ⟨hm0, by omega⟩, _, rfl, p, _, _, 2, rfl, rfl, hp, rfl, ?_⟩
      refine ⟨_, rfl, .inl ⟨r, rfl, _, rfl, _, _, rfl, rfl, hm0, ?_⟩⟩
      have q := PenAt.put (n := n) (a' := a) (r' := r / m) hp hc hcl ha0 han (dv r hr0)
      exact k _ _ (md r).1 (md r).2 q.1 (q.2.mono (Nat.le_succ _))
    refine ⟨_, rfl, p, _, _, _, rfl, rfl, SqL.of hp, i1, ?_⟩
    refine ⟨_, rfl, _, _, rfl, rfl, _, rfl, p, _, _, 1, rfl, rfl, hp, rfl, ?_⟩
    have q1 := PenAt.put (n := n + 1) (a' := a + 1) (r' := r) hp hc hcl (by omega) (by omega) hr0
    have h1p : upd H p (.lst [.ref cl, .int (a + 1), .int r]) p = some (.lst [.ref cl, .int (a + 1), .int r]) := upd_same
    have nec : cl ≠ p := fun z => by
      rw [z, hp] at hc
      have q := HO.lst.inj (Option.some.inj hc)
      cases cells with
      | nil => cases q
      | cons c r => cases (List.cons.inj q).1
    have h1c : upd H p (.lst [.ref cl, .int (a + 1), .int r]) cl = some (.lst (cells.map V.int)) := (upd_ne nec).trans hc
    show (tSeq _ _) _ _ (upd H p (.lst [.ref cl, .int (a + 1), .int r]))
    generalize upd H p (.lst [.ref cl, .int (a + 1), .int r]) = H1 at q1 h1p h1c ⊢
    refine ⟨_, rfl, _, _, rfl, rfl, .inl ⟨by decide, by decide⟩, _, _, rfl, rfl, ?_⟩
    refine ⟨_, rfl, p, _, _, _, rfl, rfl, SqL.of h1p, i0 _ _, Nat.zero_le _, fun e he => ⟨_, _, .lst (SqL.of ((same_upd he) _ _ h1c)) (ints_dp cells), .lst (SqL.of upd_same) .nil, ints_shaped cells, ints_shaped [], _, rfl, ?_⟩⟩
    rw [eqv_nil]
    have h2p := (same_upd (o := .lst []) he) _ _ h1p
    have h2c := (same_upd (o := .lst []) he) _ _ h1c
    have q2 : But p H (upd H1 e (.lst [])) := fun b u nb eb => same_upd he _ _ (q1.1 b u nb eb)
    have q3 : PenAt (upd H1 e (.lst [])) p cl (n + 1) := q1.2.same (same_upd he)
    generalize upd H1 e (.lst []) = H2 at h2p h2c q2 q3 ⊢
    have key : ∀ (R : L2.St → Hp → Prop) (rt : VK), (∀ c : Int, R [some (.ref p), some (.int m), none, some (.int a), some (.int c), none] H2) → if (!(cells.map PyData.int).isEmpty) = true then
        tAsg (tOp (rIxL K) (tOp (rIxL K) (tVar 0) (tC (.int 0))) (tOp (rI (fun x j => 0 < j) fun i j => V.int (i % j)) (tCB (fun xs H Q => (∃ i, xs = [V.int i] ∧ Q (V.int i) H) ∨ ∃ k, xs = [V.bl k] ∧ Q (V.int (if k = true then 1 else 0)) H) (tCons (tVar 3) tNil))
          (tCB (fun xs H Q => ∃ p ys, xs = [V.ref p] ∧ (SqL K H p ys ∨ SqT K H p ys) ∧ Q (V.int ys.length) H) (tCons (tOp (rIxL K) (tVar 0) (tC (.int 0))) tNil)))) (gName 4) { nx := R, rt := rt } [some (.ref p), some (.int m), none, some (.int a), some (.int (71233 * a + 9173)), none] H2
        else tNext { nx := R, rt := rt } [some (.ref p), some (.int m), none, some (.int a), some (.int (71233 * a + 9173)), none] H2 := fun R rt hR => by
      refine ite2 (fun c => ?_) (fun _ => hR _)
      have hpos : 0 < cells.length := by
        cases cells with
        | nil => cases c
        | cons x y => simp
      obtain ⟨z, hz⟩ : ∃ z, (cells.map V.int)[(a % (cells.length : Int)).toNat]? = some (V.int z) := by
        have l1 := Int.emod_nonneg a (show (cells.length : Int) ≠ 0 by omega)
        have l2 := Int.emod_lt_of_pos a (show (0 : Int) < cells.length by omega)
        have l3 : (a % (cells.length : Int)).toNat < cells.length := by omega
        exact ⟨cells[(a % (cells.length : Int)).toNat], by rw [List.getElem?_map, List.getElem?_eq_getElem l3]; rfl⟩
      have hz2 := atI_nat hz
      rw [Int.toNat_of_nonneg (Int.emod_nonneg a (show (cells.length : Int) ≠ 0 by omega))] at hz2
      refine ⟨_, rfl, p, _, _, _, rfl, rfl, SqL.of h2p, i0 _ _, _, rfl, .inl ⟨a, rfl, _, rfl, p, _, _, _, rfl, rfl, SqL.of h2p, i0 _ _, cl, _, rfl, .inl (SqL.of h2c), _, _, rfl, rfl, ?_, cl, _, _, _, rfl, rfl, SqL.of h2c, ?_, hR z⟩⟩
      · rw [List.length_map]
        omega
      · rw [List.length_map]
        exact hz2
    refine key _ _ fun c => ?_
    have b2 : ∀ (r' : Int), 0 ≤ r' → But p H (upd H2 p (.lst [.ref cl, .int (a + 1), .int r'])) ∧ PenAt (upd H2 p (.lst [.ref cl, .int (a + 1), .int r'])) p cl (n + 1) := fun r' h => by
      have q := PenAt.put (n := n + 1) (a' := a + 1) (r' := r') h2p h2c hcl (by omega) (by omega) h
      exact ⟨q2.trans q.1, q.2⟩
    have c0 : 0 ≤ c % 2147483579 ∧ c % 2147483579 < 2147483579 := ⟨Int.emod_nonneg _ (by decide), Int.emod_lt_of_pos _ (by decide)⟩
    refine ⟨_, rfl, _, rfl, p, _, _, _, rfl, rfl, SqL.of h2p, i0 _ _, cl, _, rfl, .inl (SqL.of h2c), _, _, rfl, rfl, _, rfl, ?_⟩
    refine ite2 (fun _ => ⟨_, rfl, c, rfl, _, _, rfl, rfl, ⟨by decide, by decide, by decide⟩, _, _, rfl, rfl, _, rfl, ite2 (fun d => ?big) (fun d => ?mix1)⟩) (fun _ => ?mix2)
    case big =>
      refine ⟨_, rfl, c, rfl, _, _, rfl, rfl, ⟨by decide, by decide, by decide⟩, _, _, rfl, rfl, _, _, rfl, rfl, .inl ⟨by decide, by decide⟩, _, rfl, _, _, rfl, rfl, .inr ⟨_, rfl, _, _, rfl, rfl, ?_⟩⟩
      have d1 := of_decide_eq_true d
      have z0 : 0 ≤ 2 * ((if c < 0 then -c else c) - 10 ^ (18 : Int).toNat) + (if decide (c < 0) = true then 1 else 0) := by
        have e : (0 : Int) ≤ (if decide (c < 0) = true then 1 else 0) := by split <;> decide
        omega
      refine ⟨_, rfl, .inl ⟨_, rfl, _, rfl, _, _, rfl, rfl, ⟨hm0, by omega⟩, _, rfl, p, _, _, 2, rfl, rfl, h2p, rfl, ?_⟩⟩
      refine ⟨_, rfl, .inl ⟨_, rfl, _, rfl, _, _, rfl, rfl, hm0, ?_⟩⟩
      have q := b2 _ (dv _ z0)
      exact k _ _ (md _).1 (md _).2 q.1 q.2
    all_goals
      refine ⟨_, rfl, .inl ⟨c, rfl, _, _, rfl, rfl, (by show (0 : Int) < 2147483579; decide), _, rfl, _, _, rfl, rfl, .inl ⟨by decide, by decide⟩, _, _, rfl, rfl, _, _, rfl, rfl, _, _, rfl, rfl, ⟨by decide, by decide, by omega⟩, .inl ⟨_, rfl, _, _, rfl, rfl, (by show (0 : Int) < 2147483587; decide), ?_⟩⟩⟩
      have M0 : 0 ≤ (c % 2147483579 + 38047 * a + 9173) ^ (5 : Int).toNat % 2147483587 ∧ (c % 2147483579 + 38047 * a + 9173) ^ (5 : Int).toNat % 2147483587 < 2147483587 := ⟨Int.emod_nonneg _ (by decide), Int.emod_lt_of_pos _ (by decide)⟩
      have mm : 0 ≤ (c % 2147483579 + 38047 * a + 9173) ^ (5 : Int).toNat % 2147483587 * (2 * a + 9173) ∧ (c % 2147483579 + 38047 * a + 9173) ^ (5 : Int).toNat % 2147483587 * (2 * a + 9173) ≤ 2147483587 * 29173 := ⟨Int.mul_nonneg M0.1 (by omega), Int.mul_le_mul (by omega) (by omega) (by omega) (by decide)⟩
      have aa : 0 ≤ 38047 * a * a ∧ 38047 * a * a ≤ 380470000 * 10000 := ⟨Int.mul_nonneg (by omega) ha0, Int.mul_le_mul (by omega) ha ha0 (by decide)⟩
      refine ⟨_, rfl, _, rfl, _, _, rfl, rfl, .inl ⟨by decide, by decide⟩, _, _, rfl, rfl, _, _, rfl, rfl, .inl ⟨by omega, by omega⟩, _, rfl, _, _, rfl, rfl, .inl ⟨by decide, by decide⟩, _, rfl, _, _, rfl, rfl, .inl ⟨by omega, by omega⟩, _, _, rfl, rfl, _, _, rfl, rfl, _, _, rfl, rfl, ⟨by decide, by decide, by omega⟩, .inl ⟨_, rfl, _, _, rfl, rfl, (by show (0 : Int) < 2147483563; decide), ?_⟩⟩
      refine ⟨_, rfl, _, _, rfl, rfl, ⟨by decide, by decide⟩, .inl ⟨_, rfl, _, rfl, _, _, rfl, rfl, hm0, ?_⟩⟩
      exact k _ _ (md _).1 (md _).2 q2 q3
end
end C94
end

section
set_option Elab.async false
set_option linter.all false
set_option maxRecDepth 100000
set_option maxHeartbeats 2000000
namespace C94
open PySem L2 PyProof.Rows TL
open SX (S)
open S9
/-- ** of a greater base -/
def CPowW (i j : Int) : Prop := 0 ≤ j ∧ (Builtin.Int.intBits i : Int) * j ≤ 2 ^ 27
theorem op_powW {X : Cx} : OpR X (binaryOp .Pow) (rI CPowW fun i j => .int (i ^ j.toNat)) := opI fun i j _ _ _ _ _ hc q => pow_int hc.1 hc.2 q
/-- a comprehension with a test: the items that pass, each its value, beside them new objects alone -/
theorem lc_filS {J : It} {G : Hp → Prop} {xs : List V} (w : Walk J xs.length G (YAt xs)) {g : TG} {tt : TT} {te : TE} {vs : List Nat} {σ : L2.St} {H1 : Hp} {D : Addr} {Qd : Hp → Prop} (p : V → Bool) (f : V → V) (sx : V → L2.St) (nD : H1 D = none) (hz : xs.length ≤ sizeLine) (hG : ∀ H, Same H1 H → G H)
    (hs : ∀ (i : Nat) (x : V) (H : Hp) (Z : L2.St → Bool → Hp → Prop), xs[i]? = some x → Same H1 H → (∀ H4, Same H H4 → Z (sx x) (p x) H4) → g x (wipe σ vs) H fun σ2 H2 => wipe σ2 vs = wipe σ vs ∧ tt σ2 H2 (Z σ2))
    (he : ∀ (i : Nat) (x : V) (H : Hp) (Qk : VK), xs[i]? = some x → Same H1 H → (∀ H4, Same H H4 → Qk (f x) H4) → te (sx x) H Qk) (hd : ∀ H, Same H1 H → H D = some (.lst ((xs.filter p).map f)) → Qd H) :
    ∃ W : Nat → Nat → Hp → Prop, (∃ m, W 0 m (upd H1 D (.lst []))) ∧ ∀ i m H, W i m H →
      (J.stop i H ∧ Qd H) ∨ (J.go i H ∧ ∃ Nx : Hp → Prop, (∀ H', Nx H' → ∃ m', m' < m ∧ W (i + 1) m' H') ∧ ∀ x H', J.yld i H x H' → g x (wipe σ vs) H' fun σ2 H2 => wipe σ2 vs = wipe σ vs ∧ tt σ2 H2 fun b H3 =>
        if b = true then te σ2 H3 fun y H4 => ∃ acc, H4 D = some (.lst acc) ∧ acc.length < sizeLine ∧ Nx (upd H4 D (.lst (acc ++ [y]))) else Nx H3) := by
  refine lc_it (n := xs.length) (Y := YAt xs) w (fun i H => Same H1 H ∧ H D = some (.lst (((xs.take i).filter p).map f))) ⟨same_upd nD, by rw [upd_same]; rfl⟩ (fun i H _ q => hG H q.1) (fun i x H H' hi ⟨a, q⟩ y => ?_) (fun H q => hd H q.1 (by have z := q.2; rw [List.take_length] at z; exact z))
  obtain ⟨rfl, hx⟩ := y
  refine hs i x _ _ hx a fun H3 s3 => ?_
  have e : (xs.take (i + 1)).filter p = (xs.take i).filter p ++ (if p x = true then [x] else []) := by
    rw [List.take_add_one, hx, List.filter_append]
    congr 1
    show [x].filter p = _
    cases h : p x <;> simp [h]
  cases h : p x with
  | false =>
    rw [h] at e
    refine iteF ⟨a.trans s3, ?_⟩
    rw [e]
    simp only [Bool.false_eq_true, if_false, List.append_nil]
    exact s3 _ _ q
  | true =>
    rw [h] at e
    refine iteT (he i x H3 _ hx (a.trans s3) fun H4 s4 => ?_)
    have q4 := s4 _ _ (s3 _ _ q)
    refine ⟨_, q4, ?_, same_upd' ((a.trans s3).trans s4) nD, ?_⟩
    · rw [List.length_map]
      refine Nat.lt_of_le_of_lt (List.length_filter_le _ _) ?_
      rw [List.length_take]
      omega
    · rw [upd_same, e, List.map_append]
      rfl
section
variable {P : Program} {w : World} {K : PySem.W.Frag} {mg : Str → Option Value} {base : Heap}
/-! ### _law_pick -/
def spPick : Sp := fun vs H Q _ => ∃ (p cl l : Addr) (xs : List V) (n : Nat), vs = [.ref p, .ref l] ∧ H l = some (.lst xs) ∧ l ≠ p ∧ xs ≠ [] ∧ xs.length < 1000 ∧ n ≤ 10000 ∧ PenAt H p cl n ∧ ∀ (v : V) (H' : Hp), v ∈ xs → But p H H' → PenAt H' p cl (n + 1) → Q v H'
theorem scPick : FnScope ["pen", "some"] ["pen", "some"] (defScope sPick) := ⟨rfl, rfl, rfl, by decide +kernel, rfl, by decide +kernel, by decide +kernel⟩
theorem ok_pick {f fD : Addr} {fd fdD : FuncData} (F : Fun K "_law_pick" "_law_pick" sPick f fd) (N : Names mg) (GD : FnOk P w K mg base CX0 1 fD fdD ["pen", "many"] spDraw) (gD : mg "_law_draw" = some (.ref fD)) (kD : PySem.W.keepIn K (.ref fD) = true) (bD : Binds K fdD ["pen", "many"] []) : FnOk P w K mg base CX0 2 f fd ["pen", "some"] spPick := by
  refine F.ok scPick (fun vs H Q E h => ?_) (fun cdv A outer s H vs Q E hr h => ?_)
  · obtain ⟨p, cl, l, xs, n, rfl, _⟩ := h
    rfl
  · obtain ⟨p, cl, l, xs, n, rfl, hl, ne, hne, h1, hn, hP, k⟩ := h
    refine ⟨_, pss_one (ps_ret (pe_ix ix_list (pv 1) (pe_call GD hr rfl gD kD bD .nil pass0 (pa_cons (pv 0) (pa_cons (pe_callB call_len_seq (by rfl) N.len bo_len (pa_cons (pv 1) pa_nil)) pa_nil))) (fun _ _ => rfl))), ?_⟩
    have hpos : 0 < xs.length := List.length_pos_iff.mpr hne
    refine ⟨_, rfl, _, rfl, _, rfl, l, _, rfl, .inl (SqL.of hl), p, cl, _, n, rfl, by omega, by omega, hn, hP, fun v H' v0 v1 b q => ?_⟩
    have lt : v.toNat < xs.length := by omega
    have e := atI_nat (List.getElem?_eq_getElem lt)
    rw [Int.toNat_of_nonneg v0] at e
    exact ⟨l, _, _, _, rfl, rfl, SqL.of (b _ _ ne hl), e, k _ _ (List.getElem_mem lt) b q⟩
/-! ### _law_gcd -/
def spGcd : Sp := fun vs H Q _ => ∃ (l : Addr) (a b : Int), vs = [.ref l] ∧ H l = some (.lst [.int a, .int b]) ∧ Q (.int ((Nat.gcd a.natAbs b.natAbs : Nat) : Int)) H
theorem scGcd : FnScope ["numbers", "found", "number", "one", "other"] ["numbers"] (defScope sGcd) := ⟨rfl, rfl, rfl, by decide +kernel, rfl, by decide +kernel, by decide +kernel⟩
def muGcd : L2.St → Hp → Nat := fun σ _ => match σ[4]? with
  | some (some (V.int y)) => y.natAbs
  | _ => 0
def gcdTo : List Int → Nat := fun l => l.foldl (fun g x => Nat.gcd g x.natAbs) 0
theorem ok_gcd {f : Addr} {fd : FuncData} (F : Fun K "_law_gcd" "_law_gcd" sGcd f fd) (N : Names mg) : FnOk P w K mg base CX0 1 f fd ["numbers"] spGcd := by
  refine F.ok scGcd (fun vs H Q E h => ?_) (fun cdv A outer s H vs Q E hr h => ?_)
  · obtain ⟨l, a, b, rfl, _⟩ := h
    rfl
  · obtain ⟨l, a, b, rfl, hl, k⟩ := h
    refine ⟨_, pss_cons (ps_set (i := 1) scGcd.nd rfl (Or.inl rfl) pe_int)
      (pss_cons (ps_for PassesOwn.never rfl (pi_list (pv 0)) (pg_name (i := 2) scGcd.nd rfl (Or.inl rfl))
        (pss_cons (ps_par (i := 3) (j := 4) rfl scGcd.nd rfl rfl (by decide) rfl rfl (pa_cons (pe_callTy call_int1 (by rfl) N.int bo_int (pa_cons (pv 1) pa_nil)) (pa_cons (pe_callB call_abs (by rfl) N.abs bo_abs (pa_cons (pv 2) pa_nil)) pa_nil)) (by rfl))
        (pss_cons (ps_while PassesOwn.never (pt_cmpR op_ne (pv 4) pe_int (nomark _))
          (pss_one (ps_par (i := 3) (j := 4) rfl scGcd.nd rfl rfl (by decide) rfl rfl (pa_cons (pe_callTy call_int1 (by rfl) N.int bo_int (pa_cons (pv 4) pa_nil)) (pa_cons (pe_op op_mod (pe_callTy call_int1 (by rfl) N.int bo_int (pa_cons (pv 3) pa_nil)) (pe_callTy call_int1 (by rfl) N.int bo_int (pa_cons (pv 4) pa_nil))) pa_nil)) (by rfl))))
        (pss_one (ps_set (i := 1) scGcd.nd rfl (Or.inl rfl) (pv 3))))))
      (pss_one (ps_ret (pv 1)))), ?_⟩
    refine ⟨_, rfl, l, rfl, ⟨_, SqL.of hl⟩, for_list (K := K) (a := l) (xs := [V.int a, V.int b]) (fun i σ H' => H' = H ∧ ∃ n o t, σ = [some (.ref l), some (.int ((gcdTo ([a, b].take i) : Nat) : Int)), n, o, t]) ⟨rfl, none, none, none, rfl⟩ (fun i σ H' _ h => by rw [h.1]; exact SqL.of hl) ?_ ?_⟩
    · rintro i y σ H' hi ⟨rfl, n, o, t, rfl⟩
      obtain ⟨x, hx, rfl⟩ : ∃ x : Int, [a, b][i]? = some x ∧ y = V.int x := by
        have e : ([a, b].map V.int)[i]? = some y := hi
        rw [List.getElem?_map] at e
        cases q : [a, b][i]? with
        | none => rw [q] at e; cases e
        | some x => rw [q] at e; exact ⟨x, rfl, (Option.some.inj e).symm⟩
      have step : gcdTo ([a, b].take (i + 1)) = Nat.gcd (gcdTo ([a, b].take i)) x.natAbs := by
        unfold gcdTo
        rw [List.take_add_one, hx, List.foldl_append]
        rfl
      refine ⟨_, rfl, .inl ⟨_, rfl, _, rfl, _, rfl, _, _, rfl, ?_⟩⟩
      have en : (if x < 0 then -x else x) = (x.natAbs : Int) := by omega
      rw [en]
      generalize gcdTo ([a, b].take i) = g at step
      refine while_by (fun σ H1 => H1 = H' ∧ ∃ u v : Nat, σ = [some (.ref l), some (.int (g : Int)), some (.int x), some (.int (u : Int)), some (.int (v : Int))] ∧ Nat.gcd u v = Nat.gcd g x.natAbs) muGcd ⟨rfl, g, x.natAbs, rfl, rfl⟩ ?_ (fun σ H Q Q' m ⟨v, h1, h2, k, e, q⟩ => ⟨v, h1, h2, k, e, m _ _ q⟩)
      rintro σ H1 ⟨rfl, u, v, rfl, e⟩
      refine ⟨_, rfl, rfl, _, rfl, ?_⟩
      by_cases hv : v = 0
      · subst hv
        refine iteNS rfl ⟨_, rfl, rfl, some (.int x), some (.int u), some (.int (0 : Nat)), ?_⟩
        rw [step, ← e, Nat.gcd_zero_right]
        rfl
      · have nv : decide (V.int (v : Int) = V.int 0) = false := decide_eq_false (fun q => hv (by have := V.int.inj q; omega))
        rw [nv]
        have vp : (0 : Int) < (v : Int) := by omega
        refine iteT ⟨_, rfl, .inl ⟨_, rfl, _, rfl, .inl ⟨_, rfl, _, rfl, .inl ⟨_, rfl, _, _, rfl, rfl, vp, _, _, rfl, ⟨rfl, v, u % v, ?_, ?_⟩, ?_⟩⟩⟩⟩
        · show [_, _, _, _, some (V.int ((u : Int) % (v : Int)))] = _
          rw [← Int.natCast_emod]
        · rw [← e, Nat.gcd_comm u v, Nat.gcd_rec v u, Nat.gcd_comm]
        · show ((u : Int) % (v : Int)).natAbs < (v : Int).natAbs
          rw [← Int.natCast_emod]
          exact Nat.mod_lt _ (by omega)
    · rintro σ H' ⟨rfl, n, o, t, rfl⟩
      refine ⟨_, rfl, ?_⟩
      have e : gcdTo ([a, b].take [V.int a, V.int b].length) = Nat.gcd a.natAbs b.natAbs := by
        show Nat.gcd (Nat.gcd 0 a.natAbs) b.natAbs = _
        rw [Nat.gcd_zero_left]
      rw [e]
      exact k
end
end C94
end

section
set_option Elab.async false
set_option linter.all false
set_option maxRecDepth 100000
set_option maxHeartbeats 2000000
namespace C94
open PySem L2 PyProof.Rows TL
open SX (S)
open S9
theorem s_m0 : ("-0" : Str) = S [45, 48] := by decide +kernel
theorem s_0 : ("0" : Str) = S [48] := by decide +kernel
theorem str_eq {a b : Sgs} : (V.str (S a) = V.str (S b)) ↔ a = b := ⟨fun h => SX.S_inj (V.str.inj h), fun h => by rw [h]⟩
/-- a sign that is no digit -/
def noDig : V → Bool
  | .str z => !(decide (48 ≤ z.cps.toList.headD 0) && decide (z.cps.toList.headD 0 ≤ 57))
  | _ => false
theorem noDig_all (l : Sgs) : (((l.map sgV).filter noDig).map id).isEmpty = allDig l := by
  rw [List.map_id]
  induction l with
  | nil => rfl
  | cons c r ih =>
    have e : noDig (sgV c) = !(decide (48 ≤ c) && decide (c ≤ 57)) := rfl
    have a : allDig (c :: r) = ((decide (48 ≤ c) && decide (c ≤ 57)) && allDig r) := rfl
    rw [a, List.map_cons, List.filter_cons, e]
    cases h : (decide (48 ≤ c) && decide (c ≤ 57)) with
    | true => simpa using ih
    | false => simp
section
variable {P : Program} {w : World} {K : PySem.W.Frag} {mg : Str → Option Value} {base : Heap}
/-! ### _law_is_whole -/
def spWhole : Sp := fun vs H Q _ => ∃ l : Sgs, vs = [.str (S l)] ∧ l.length ≤ 1000000 ∧ ∀ H', Same H H' → Q (.bl (wholeL l)) H'
theorem scWhole : FnScope ["word", "digits", "sign"] ["word"] (defScope sWhole) := ⟨rfl, rfl, rfl, by decide +kernel, rfl, by decide +kernel, by decide +kernel⟩
theorem ok_whole {f : Addr} {fd : FuncData} (F : Fun K "_law_is_whole" "_law_is_whole" sWhole f fd) : FnOk P w K mg base CX0 1 f fd ["word"] spWhole := by
  refine F.ok scWhole (fun vs H Q E h => ?_) (fun cdv A outer s H vs Q E hr h => ?_)
  · obtain ⟨l, rfl, _⟩ := h
    rfl
  · obtain ⟨l, rfl, hl, k⟩ := h
    have hu : ∀ {X : Cx}, X.A = A.deeper (envOfC "_law_is_whole" (defScope sWhole) s.heap.objs.size f cdv) → X.A.units + 64 < cLine := fun e => by
      rw [e]
      exact hr.units
    refine ⟨_, pss_cons (ps_set (i := 1) scWhole.nd rfl (Or.inl rfl) (pe_ifExp (pt_cmpR op_eq (pe_slice C8.sl_txt (pv 0) po_none (po_some pe_int)) pe_str (nomark _)) (pe_slice C8.sl_txt (pv 0) (po_some pe_int) po_none) (pv 0)))
      (pss_cons (ps_if (PW.pt (pw_or (pt_cmpR op_eq (pv 1) pe_str (nomark _)) (pw_or1 (pt_cmpR (op_neNil (hu rfl)) (pe_lc (own := [("sign", 2)]) (g := gName 2) rfl scWhole.nd (pi_str (pv 1)) (blkOk_by (N := ["word", "digits", "sign"]) (sc := defScope sWhole) (by decide +kernel)) (fun _ _ _ _ _ => pg_name (i := 2) scWhole.nd rfl (Or.inl rfl))
          (fun _ _ _ _ _ => pts_one (pt_cmpR op_notIn_sign (pv 2) pe_str rfl)) (fun _ _ _ _ _ => pv 2)) (pe_lst pa_nil) (nomark _))))) (pss_one (ps_ret pe_bl)) pss_nil)
      (pss_one (ps_ret (pe_and (pe_cmpR op_ne (pv 0) pe_str (nomark _)) (pe_one (pe_or (pe_cmpR op_ne (pe_ix ix_str (pv 1) pe_int (fun _ _ => rfl)) pe_str (nomark _)) (pe_one (pe_cmpR op_eq (pv 1) pe_str (nomark _))))))))), ?_⟩
    have z0 : (S l).length = l.length := SX.S_len l
    have zs : (S l).length ≤ sizeLine := by rw [z0]; exact Nat.le_trans hl (by decide)
    have dl : (digL l).length ≤ l.length := by
      unfold digL
      split
      · simp
      · exact Nat.le_refl _
    refine ⟨_, rfl, _, rfl, _, rfl, zs, rfl, _, rfl, ?_⟩
    rw [SX.slice_to (by decide), s_minus]
    have dig : ∀ (Qk : VK), Qk (.str (S (digL l))) H → if decide (V.str (S (l.take (1 : Int).toNat)) = V.str (S [45])) = true then tSl C8.rSlX (tVar 0) (tPart (tC (V.int 1))) tNoPart (start ["word", "digits", "sign"] [V.str (S l)]) H Qk else tVar 0 (start ["word", "digits", "sign"] [V.str (S l)]) H Qk := fun Qk q => by
      by_cases hm : l.head? = some 45
      · obtain ⟨r, rfl⟩ := digL_neg hm
        refine ite2 (fun _ => ?_) (fun z => absurd (decide_eq_true rfl) z)
        refine ⟨_, rfl, _, rfl, _, rfl, zs, ?_⟩
        rw [SX.slice_from (by decide)]
        exact q
      · refine ite2 (fun z => ?_) (fun _ => ?_)
        · have z := str_eq.mp (of_decide_eq_true z)
          cases l with
          | nil => cases z
          | cons c r => exact absurd (congrArg List.head? z) hm
        · refine ⟨_, rfl, ?_⟩
          rw [digL_pos hm] at q
          exact q
    refine dig _ ?_
    have kk : ∀ H', Same H H' → Q (.bl (allDig (digL l) && headOk (digL l) && decide (l ≠ [45, 48]))) H' := k
    refine ⟨_, rfl, rfl, _, rfl, ?_⟩
    rw [s_empty]
    by_cases hd : digL l = []
    · refine ite2 (fun _ => iteT ?_) fun z => absurd (decide_eq_true (str_eq.mpr hd)) z
      have q := kk H (Same.refl H)
      rw [hd] at q
      exact q
    refine ite2 (fun z => absurd (str_eq.mp (of_decide_eq_true z)) hd) fun _ => ?_
    refine ⟨_, rfl, _, rfl, fun D hD => lc_filS (xs := (digL l).map sgV) (σ := [some (V.str (S l)), some (V.str (S (digL l))), none]) (walk_sgs _) noDig id (fun x => [some (V.str (S l)), some (V.str (S (digL l))), some x]) hD ?_ (fun _ _ => trivial) (fun i x H1 Z hx s1 q => ?_) (fun i x H1 Qk hx s1 q => ?_) fun H1 s1 hL => ?_⟩
    · rw [List.length_map]
      exact Nat.le_trans dl (Nat.le_trans hl (by decide))
    · obtain ⟨y, rfl⟩ : ∃ y, x = sgV y := by
        obtain ⟨y, _, e⟩ := List.mem_map.mp (List.mem_of_getElem? hx)
        exact ⟨y, e.symm⟩
      refine ⟨rfl, _, rfl, y, _, rfl, rfl, _, rfl, ?_⟩
      rw [in_digits]
      exact q _ (Same.refl _)
    · exact ⟨_, rfl, q _ (Same.refl _)⟩
    refine ⟨Nat.zero_le _, fun e he => ⟨D, e, _, rfl, rfl, SqL.of ((same_upd he) _ _ hL), SqL.of upd_same, _, rfl, ?_⟩⟩
    rw [noDig_all]
    have s2 : Same H (upd H1 e (.lst [])) := s1.trans (same_upd he)
    cases hA : allDig (digL l) with
    | false =>
      have q := kk _ s2
      rw [hA] at q
      exact iteT q
    | true =>
      have q := kk _ s2
      rw [hA, Bool.true_and] at q
      refine iteF ⟨_, rfl, rfl, _, rfl, ?_⟩
      rw [s_m0]
      by_cases hm : l = [45, 48]
      · rw [decide_eq_false (fun y : l ≠ [45, 48] => y hm), Bool.and_false] at q
        rw [decide_eq_true (str_eq.mpr hm)]
        exact iteF q
      · rw [decide_eq_true hm, Bool.and_true] at q
        rw [decide_eq_false (fun y => hm (str_eq.mp y))]
        obtain ⟨c, r, er⟩ : ∃ c r, digL l = c :: r := by
          cases e : digL l with
          | nil => exact absurd e hd
          | cons c r => exact ⟨c, r, rfl⟩
        have dz : (S (digL l)).length ≤ sizeLine := by rw [SX.S_len]; exact Nat.le_trans dl (Nat.le_trans hl (by decide))
        refine iteT ⟨_, rfl, _, _, c, rfl, rfl, dz, atI_nat (j := 0) (by show (digL l)[0]? = _; rw [er]; rfl), rfl, _, rfl, ?_⟩
        rw [s_0]
        have e1 : (V.str ⟨#[c]⟩ = V.str (S [48])) ↔ c = 48 := ⟨fun h => (List.cons.inj (SX.S_inj (a := [c]) (V.str.inj h))).1, fun h => by rw [h]⟩
        by_cases hc : c = 48
        · rw [decide_eq_true (e1.mpr hc)]
          refine iteF ⟨_, rfl, rfl, ?_⟩
          have e2 : headOk (digL l) = decide (V.str (S (digL l)) = V.str (S [48])) := by
            rw [er, hc]
            cases r with
            | nil => rw [decide_eq_true rfl]; rfl
            | cons x y =>
              rw [decide_eq_false (fun z => by have := str_eq.mp z; cases this)]
              rfl
          rw [← e2]
          exact q
        · rw [decide_eq_false (fun y => hc (e1.mp y))]
          refine iteT ?_
          have e2 : headOk (digL l) = true := by
            rw [er]
            unfold headOk
            split
            · rename_i z; cases z
            · rfl
            · rename_i z
              cases z
              exact decide_eq_true hc
          rw [e2] at q
          exact q
end
end C94
end

section
set_option Elab.async false
set_option linter.all false
set_option maxRecDepth 100000
set_option maxHeartbeats 2000000
namespace C94
open PySem L2 PyProof.Rows TL
open SX (S)
open S9
/-- a part that is no whole number, or too long -/
def badP : V → Bool
  | .str z => !(wholeL (tl z)) || decide (402 < z.length)
  | _ => false
theorem badP_none (z : Str) : badP (.str z) = (intOfL (tl z)).isNone := by
  show (!(wholeL (tl z)) || decide (402 < z.length)) = _
  unfold intOfL
  rw [len_tl]
  cases h : wholeL (tl z) with
  | false => rw [if_neg (fun y => by cases y.2)]; rfl
  | true =>
    by_cases c : (tl z).length ≤ 402
    · rw [if_pos ⟨c, rfl⟩, decide_eq_false (by omega)]
      rfl
    · rw [if_neg (fun y => c y.1), decide_eq_true (by omega)]
      rfl
theorem badP_all (l : List Str) : (((l.map V.str).filter badP).map id).isEmpty = !((l.map fun p => intOfL (tl p)).any Option.isNone) := by
  rw [List.map_id]
  induction l with
  | nil => rfl
  | cons z r ih =>
    rw [List.map_cons, List.map_cons, List.filter_cons, List.any_cons, badP_none]
    cases h : (intOfL (tl z)).isNone with
    | true => simp
    | false => simpa using ih
/-- a part that is a whole number, read -/
theorem part_int {z : Str} {i : Int} (h : intOfL (tl z) = some i) : intText? z = some i ∧ z.length ≤ 640 := by
  unfold intOfL at h
  split at h
  · rename_i c
    have w := c.2
    unfold wholeL at w
    simp only [Bool.and_eq_true] at w
    have ne : digL (tl z) ≠ [] := fun y => by
      rw [y] at w
      cases w.1.2
    have hl : z.length ≤ 402 := by rw [len_tl]; exact c.1
    refine ⟨?_, by omega⟩
    rw [int_val (allDig_iff.mp w.1.1) ne (by omega)]
    exact h
  · cases h
section
variable {P : Program} {w : World} {K : PySem.W.Frag} {mg : Str → Option Value} {base : Heap}
def spLFrac : Sp := fun vs H Q _ => ∃ z : Str, vs = [.str z] ∧ z.length ≤ 1000000 ∧ (fracOf z = none → ∀ H', Same H H' → Q .non H') ∧ ∀ n d, fracOf z = some (n, d) → ∀ H' a, Same H H' → H' a = some (.tup [.int n, .int d]) → Q (.ref a) H'
theorem scLFrac : FnScope ["word", "parts", "most", "top", "bottom", "part"] ["word"] (defScope sLFrac) := ⟨rfl, rfl, rfl, by decide +kernel, rfl, by decide +kernel, by decide +kernel⟩
/-- what comes behind top's and bottom's making -/
def tLTail (K : PySem.W.Frag) : TS := tSeq (tIfS (tOr (tTest (tOp (rI0 fun i j => V.bl (decide (i < j))) (tVar 4) (tC (.int 1)))) (tOr (tAnd (tTest (tOp rEq (tCB (fun xs H Q => ∃ p ys, xs = [V.ref p] ∧ (SqL K H p ys ∨ SqT K H p ys) ∧ Q (V.int ys.length) H) (tCons (tVar 1) tNil)) (tC (.int 2)))) (tTest (tOp (rI0 fun i j => V.bl (decide (i < j))) (tVar 4) (tC (.int 2)))))
    (tOr (tTest (tOp rNe (tCall spGcd [] E0 (tCons (tLst (tCons (tVar 3) (tCons (tVar 4) tNil))) tNil)) (tC (.int 1)))) (tOr (tTest (tOp (rI0 fun i j => V.bl (decide (j < i))) (tCB (fun xs H Q => ∃ i, xs = [V.int i] ∧ Q (V.int (if i < 0 then -i else i)) H) (tCons (tVar 3) tNil)) (tVar 2)))
      (tTest (tOp (rI0 fun i j => V.bl (decide (j < i))) (tVar 4) (tVar 2))))))) (tRet (tC .non)) tNext) (tRet (tTup (tCons (tVar 3) (tCons (tVar 4) tNil))))
theorem lfrac_tail (K : PySem.W.Frag) {z : Str} {p : Addr} {zs : List Str} {n d : Int} {H : Hp} {x : Option V} {Q : VK} {nx : L2.St → Hp → Prop} (hp : H p = some (.lst (zs.map V.str))) (kN : (d < 1 ∨ (zs.length = 2 ∧ d < 2) ∨ okFr n d = none) → ∀ H', Same H H' → Q .non H')
    (kS : ¬ (zs.length = 2 ∧ d < 2) → okFr n d = some (n, d) → ∀ H' a, Same H H' → H' a = some (.tup [.int n, .int d]) → Q (.ref a) H') : tLTail K { nx := nx, rt := Q } [some (.str z), some (.ref p), some (.int ((10 ^ 50) ^ 8)), some (.int n), some (.int d), x] H := by
  refine ⟨_, rfl, _, _, rfl, rfl, _, rfl, ite2 (fun c => iteT (kN (.inl (of_decide_eq_true c)) H (Same.refl H))) fun c => ?_⟩
  have c1 : ¬ d < 1 := fun y => c (decide_eq_true y)
  refine ⟨_, rfl, p, _, rfl, .inl (SqL.of hp), rfl, _, rfl, ?_⟩
  have e2 : decide (V.int (((zs.map V.str).length : Nat) : Int) = V.int 2) = decide (zs.length = 2) := by
    rw [List.length_map, Bool.eq_iff_iff]
    simp only [decide_eq_true_eq, V.int.injEq]
    omega
  rw [e2]
  have rest : ¬ (zs.length = 2 ∧ d < 2) → (tOr (tTest (tOp rNe (tCall spGcd [] E0 (tCons (tLst (tCons (tVar 3) (tCons (tVar 4) tNil))) tNil)) (tC (.int 1)))) (tOr (tTest (tOp (rI0 fun i j => V.bl (decide (j < i))) (tCB (fun xs H Q => ∃ i, xs = [V.int i] ∧ Q (V.int (if i < 0 then -i else i)) H) (tCons (tVar 3) tNil)) (tVar 2)))
      (tTest (tOp (rI0 fun i j => V.bl (decide (j < i))) (tVar 4) (tVar 2))))) [some (.str z), some (.ref p), some (.int ((10 ^ 50) ^ 8)), some (.int n), some (.int d), x] H fun b H1 => if b = true then tRet (tC .non) { nx := tRet (tTup (tCons (tVar 3) (tCons (tVar 4) tNil))) { nx := nx, rt := Q }, rt := Q } [some (.str z), some (.ref p), some (.int ((10 ^ 50) ^ 8)), some (.int n), some (.int d), x] H1
      else tNext { nx := tRet (tTup (tCons (tVar 3) (tCons (tVar 4) tNil))) { nx := nx, rt := Q }, rt := Q } [some (.str z), some (.ref p), some (.int ((10 ^ 50) ^ 8)), some (.int n), some (.int d), x] H1 := fun h2 => by
    unfold okFr MP fracB at kN kS
    refine ⟨_, rfl, _, rfl, by show 2 ≤ sizeLine; decide, fun l hl => ⟨l, n, d, rfl, upd_same, rfl, _, rfl, ?_⟩⟩
    have s1 := same_upd (o := .lst [.int n, .int d]) hl
    generalize upd H l (.lst [.int n, .int d]) = H1 at s1 ⊢
    by_cases hg : Nat.gcd n.natAbs d.natAbs = 1
    · have e3 : decide (V.int ((Nat.gcd n.natAbs d.natAbs : Nat) : Int) = V.int 1) = true := decide_eq_true (by rw [hg]; rfl)
      rw [e3]
      refine iteF ⟨_, rfl, n, rfl, _, rfl, _, _, rfl, rfl, _, rfl, ?_⟩
      have en : (if n < 0 then -n else n) = (n.natAbs : Int) := by omega
      rw [en]
      refine ite2 (fun c => ?_) (fun c => ?_)
      · have c := of_decide_eq_true c
        exact iteT (kN (.inr (.inr (if_neg fun y => absurd y.2.1 (Int.not_le.mpr c)))) H1 s1)
      · have c : ¬ ((10 ^ 50) ^ 8 : Int) < (n.natAbs : Int) := fun y => c (decide_eq_true y)
        refine ⟨_, rfl, _, rfl, _, _, rfl, rfl, _, rfl, ?_⟩
        refine ite2 (fun c2 => ?_) (fun c2 => ?_)
        · have c2 := of_decide_eq_true c2
          exact kN (.inr (.inr (if_neg fun y => absurd y.2.2 (Int.not_le.mpr c2)))) H1 s1
        · have c2 : ¬ ((10 ^ 50) ^ 8 : Int) < d := fun y => c2 (decide_eq_true y)
          refine ⟨_, rfl, _, rfl, by show 2 ≤ sizeLine; decide, fun a ha => kS h2 (if_pos ⟨?_, Int.not_lt.mp c, Int.not_lt.mp c2⟩) _ a (s1.trans (same_upd ha)) upd_same⟩
          exact Bool.and_eq_true_iff.mpr ⟨decide_eq_true (by omega), decide_eq_true hg⟩
    · have e3 : decide (V.int ((Nat.gcd n.natAbs d.natAbs : Nat) : Int) = V.int 1) = false := decide_eq_false fun y => hg (by have := V.int.inj y; omega)
      rw [e3]
      refine iteT (iteT (kN (.inr (.inr (if_neg fun y => ?_))) H1 s1))
      have y1 := y.1
      rw [decide_eq_false hg, Bool.and_false] at y1
      cases y1
  by_cases h2 : zs.length = 2
  · rw [decide_eq_true h2]
    refine iteT ⟨_, rfl, _, _, rfl, rfl, _, rfl, ?_⟩
    refine ite2 (fun c => ?_) (fun c => ?_)
    · exact iteT (kN (.inr (.inl ⟨h2, of_decide_eq_true c⟩)) H (Same.refl H))
    · exact rest fun y => c (decide_eq_true y.2)
  · rw [decide_eq_false h2]
    exact iteF (iteF (rest fun y => h2 y.1))
theorem ok_lfrac {f fW fG : Addr} {fd fdW fdG : FuncData} (F : Fun K "_law_fraction_of" "_law_fraction_of" sLFrac f fd) (N : Names mg) (GW : FnOk P w K mg base CX0 1 fW fdW ["word"] spWhole) (gW : mg "_law_is_whole" = some (.ref fW)) (kW : PySem.W.keepIn K (.ref fW) = true) (bW : Binds K fdW ["word"] [])
    (GG : FnOk P w K mg base CX0 1 fG fdG ["numbers"] spGcd) (gG : mg "_law_gcd" = some (.ref fG)) (kG : PySem.W.keepIn K (.ref fG) = true) (bG : Binds K fdG ["numbers"] []) : FnOk P w K mg base CX0 2 f fd ["word"] spLFrac := by
  refine F.ok scLFrac (fun vs H Q E h => ?_) (fun cdv A outer s H vs Q E hr h => ?_)
  · obtain ⟨z, rfl, _⟩ := h
    rfl
  · obtain ⟨z, rfl, hz, kN, kS⟩ := h
    have hu : ∀ {X : Cx}, X.A = A.deeper (envOfC "_law_fraction_of" (defScope sLFrac) s.heap.objs.size f cdv) → X.A.units + 64 < cLine := fun e => by
      rw [e]
      exact hr.units
    refine ⟨_, pss_cons (ps_par (i := 1) (j := 2) rfl scLFrac.nd rfl rfl (by decide) rfl rfl (pa_cons (pe_split (pv 0) pe_str) (pa_cons (pe_op op_powW (pe_op op_powW pe_int pe_int) pe_int) pa_nil)) (by rfl))
      (pss_cons (ps_if (PW.pt (pw_or (pt_cmpR op_gt (pe_callB call_len_seq (by rfl) N.len bo_len (pa_cons (pv 1) pa_nil)) pe_int (nomark _)) (pw_or1 (pt_cmpR (op_neNil (hu rfl)) (pe_lc (own := [("part", 5)]) (g := gName 5) rfl scLFrac.nd (pi_list (pv 1)) (blkOk_by (N := ["word", "parts", "most", "top", "bottom", "part"]) (sc := defScope sLFrac) (by decide +kernel)) (fun _ _ _ _ _ => pg_name (i := 5) scLFrac.nd rfl (Or.inl rfl))
          (fun _ _ _ _ _ => pts_one (PW.pt (pw_or (pt_not (pt_val (pe_call GW hr rfl gW kW bW .nil pass0 (pa_cons (pv 5) pa_nil)))) (pw_or1 (pt_cmpR op_gt (pe_callB call_len_str (by rfl) N.len bo_len (pa_cons (pv 5) pa_nil)) pe_int (nomark _)))))) (fun _ _ _ _ _ => pv 5)) (pe_lst pa_nil) (nomark _))))) (pss_one (ps_ret pe_non)) pss_nil)
      (pss_cons (ps_par (i := 3) (j := 4) rfl scLFrac.nd rfl rfl (by decide) rfl rfl (pa_cons (pe_callTy call_int_str (by rfl) N.int bo_int (pa_cons (pe_ix ix_list (pv 1) pe_int (fun _ _ => rfl)) pa_nil)) (pa_cons (pe_ifExp (pt_cmpR op_eq (pe_callB call_len_seq (by rfl) N.len bo_len (pa_cons (pv 1) pa_nil)) pe_int (nomark _)) (pe_callTy call_int_str (by rfl) N.int bo_int (pa_cons (pe_ix ix_list (pv 1) pe_int (fun _ _ => rfl)) pa_nil)) pe_int) pa_nil)) (by rfl))
      (pss_cons (ps_if (PW.pt (pw_or (pt_cmpR op_lt (pv 4) pe_int (nomark _)) (pw_or (PW.pt (pw_and (pt_cmpR op_eq (pe_callB call_len_seq (by rfl) N.len bo_len (pa_cons (pv 1) pa_nil)) pe_int (nomark _)) (pw_and1 (pt_cmpR op_lt (pv 4) pe_int (nomark _)))))
          (pw_or (pt_cmpR op_ne (pe_call GG hr rfl gG kG bG .nil pass0 (pa_cons (pe_lst (pa_cons (pv 3) (pa_cons (pv 4) pa_nil))) pa_nil)) pe_int (nomark _)) (pw_or (pt_cmpR op_gt (pe_callB call_abs (by rfl) N.abs bo_abs (pa_cons (pv 3) pa_nil)) (pv 2) (nomark _)) (pw_or1 (pt_cmpR op_gt (pv 4) (pv 2) (nomark _)))))))) (pss_one (ps_ret pe_non)) pss_nil)
      (pss_one (ps_ret (pe_tup (pa_cons (pv 3) (pa_cons (pv 4) pa_nil)))))))), ?_⟩
    have hlen := split_len (x := z) slash_ne slash_k
    have hsh := split_short (x := z) slash_ne slash_k
    have hcl := split_count_le (x := z) slash_ne slash_k
    have hne := split_ne (x := z) slash_ne slash_k
    refine ⟨_, rfl, ⟨_, rfl⟩, z, _, rfl, rfl, slash_l, Nat.le_trans (Nat.add_le_add_right hz 2) (by decide), fun p hp => ⟨_, _, rfl, rfl, ⟨by decide, by decide +kernel⟩, _, _, rfl, rfl, ⟨by decide, by decide +kernel⟩, _, _, rfl, ?_⟩⟩
    have s0 := same_upd (o := .lst ((Txt.split z "/").map V.str)) hp
    have hP : upd H p (.lst ((Txt.split z "/").map V.str)) p = some (.lst ((Txt.split z "/").map V.str)) := upd_same
    show (tSeq _ _) _ _ (upd H p (.lst ((Txt.split z "/").map V.str)))
    generalize upd H p (.lst ((Txt.split z "/").map V.str)) = H0 at s0 hP ⊢
    refine ⟨_, rfl, p, _, rfl, .inl (SqL.of hP), _, _, rfl, rfl, _, rfl, ?_⟩
    rw [List.length_map]
    refine ite2 (fun c => ?_) (fun c => ?_)
    · have c := of_decide_eq_true c
      exact iteT (kN (fr_long (by rw [List.length_map]; omega)) H0 s0)
    have c : ¬ ((2 : Int) < ((Txt.split z "/").length : Nat)) := fun y => c (decide_eq_true y)
    have hpos : 0 < (Txt.split z "/").length := List.length_pos_iff.mpr hne
    unfold fracOf at kN kS
    refine ⟨_, rfl, p, rfl, ⟨_, SqL.of hP⟩, fun D hD => lc_filS (xs := (Txt.split z "/").map V.str) (σ := [some (V.str z), some (V.ref p), some (V.int ((10 ^ 50) ^ 8)), none, none, none]) walk_list badP id (fun x => [some (V.str z), some (V.ref p), some (V.int ((10 ^ 50) ^ 8)), none, none, some x]) hD ?_ (fun H1 s1 => SqL.of (s1 _ _ hP)) (fun i x H1 Z hx s1 q => ?_) (fun i x H1 Qk hx s1 q => ?_) fun H1 s1 hL => ?_⟩
    · rw [List.length_map]
      exact Nat.le_trans hcl (Nat.le_trans (Nat.add_le_add_right hz 1) (by decide))
    · obtain ⟨y, hy, rfl⟩ : ∃ y, y ∈ Txt.split z "/" ∧ x = V.str y := by
        obtain ⟨y, hy, e⟩ := List.mem_map.mp (List.mem_of_getElem? hx)
        exact ⟨y, hy, e.symm⟩
      have ly := hsh y hy
      refine ⟨rfl, _, rfl, tl y, congrArg (fun u => [V.str u]) (SX.S_tl y).symm, by rw [← len_tl]; omega, fun H' s' => ⟨_, rfl, ?_⟩⟩
      have e : badP (.str y) = (!(wholeL (tl y)) || decide (402 < y.length)) := rfl
      rw [e] at q
      cases hw : wholeL (tl y) with
      | false =>
        rw [hw] at q
        exact iteT (q H' s')
      | true =>
        rw [hw] at q
        refine iteF ⟨_, rfl, y, rfl, Nat.le_trans ly (Nat.le_trans hz (by decide)), _, _, rfl, rfl, _, rfl, ?_⟩
        have e4 : decide ((402 : Int) < ((y.length : Nat) : Int)) = decide (402 < y.length) := by
          rw [Bool.eq_iff_iff]
          simp only [decide_eq_true_eq]
          omega
        rw [e4]
        exact q H' s'
    · exact ⟨_, rfl, q _ (Same.refl _)⟩
    refine ⟨Nat.zero_le _, fun e he => ⟨D, e, _, rfl, rfl, SqL.of ((same_upd he) _ _ hL), SqL.of upd_same, _, rfl, ?_⟩⟩
    rw [badP_all, Bool.not_not]
    have s2 : Same H0 (upd H1 e (.lst [])) := s1.trans (same_upd he)
    generalize upd H1 e (.lst []) = H2 at s2 ⊢
    have hP2 := s2 _ _ hP
    cases ha : ((Txt.split z "/").map fun p => intOfL (tl p)).any Option.isNone with
    | true => exact iteT (kN (fr_none ha) H2 (s0.trans s2))
    | false =>
      refine iteF ?_
      generalize hzs : Txt.split z "/" = zs at hP2 kN kS ha hpos c ⊢
      rcases zs with _ | ⟨y0, _ | ⟨y1, _ | ⟨y2, r⟩⟩⟩
      · exact absurd hpos (Nat.lt_irrefl 0)
      · cases h0 : intOfL (tl y0) with
        | none => simp [h0] at ha
        | some n =>
          obtain ⟨t0, l0⟩ := part_int h0
          have e : frOf ([y0].map fun p => intOfL (tl p)) = okFr n 1 := by simp only [List.map_cons, List.map_nil, h0, frOf]
          rw [e] at kN kS
          refine ⟨_, rfl, p, _, _, _, rfl, rfl, SqL.of hP2, (rfl : atI ([y0].map V.str) 0 = some (V.str y0)), y0, n, rfl, t0, l0, _, rfl, p, _, rfl, .inl (SqL.of hP2), rfl, _, rfl, iteF ⟨_, _, rfl, ?_⟩⟩
          refine lfrac_tail K (zs := [y0]) hP2 (fun h H' s' => kN ?_ H' (s0.trans (s2.trans s'))) fun _ h H' a s' ea => kS n 1 h H' a (s0.trans (s2.trans s')) ea
          rcases h with h | h | h
          · exact absurd h (by decide)
          · exact absurd h.1 (by simp)
          · exact h
      · cases h0 : intOfL (tl y0) with
        | none => simp [h0] at ha
        | some n =>
          cases h1 : intOfL (tl y1) with
          | none => simp [h0, h1] at ha
          | some d =>
            obtain ⟨t0, l0⟩ := part_int h0
            obtain ⟨t1, l1⟩ := part_int h1
            have e : frOf ([y0, y1].map fun p => intOfL (tl p)) = if d < 2 then none else okFr n d := by simp only [List.map_cons, List.map_nil, h0, h1, frOf]
            rw [e] at kN kS
            refine ⟨_, rfl, p, _, _, _, rfl, rfl, SqL.of hP2, (rfl : atI ([y0, y1].map V.str) 0 = some (V.str y0)), y0, n, rfl, t0, l0, _, rfl, p, _, rfl, .inl (SqL.of hP2), rfl, _, rfl, iteT ⟨_, rfl, p, _, _, _, rfl, rfl, SqL.of hP2, (rfl : atI ([y0, y1].map V.str) 1 = some (V.str y1)), y1, d, rfl, t1, l1, _, _, rfl, ?_⟩⟩
            refine lfrac_tail K (zs := [y0, y1]) hP2 (fun h H' s' => kN ?_ H' (s0.trans (s2.trans s'))) fun h2 h H' a s' ea => kS n d ?_ H' a (s0.trans (s2.trans s')) ea
            · by_cases c2 : d < 2
              · exact if_pos c2
              · rw [if_neg c2]
                rcases h with h | h | h
                · omega
                · exact absurd h.2 c2
                · exact h
            · rw [if_neg (fun y => h2 ⟨rfl, y⟩)]
              exact h
      · exact absurd (by simp only [List.length_cons]; omega) c
end
end C94
end

section
set_option Elab.async false
set_option linter.all false
set_option maxRecDepth 100000
set_option maxHeartbeats 2000000
namespace C94
open PySem L2 PyProof.Rows TL
open SX (S)
open S9
def wantV : Option Str → V
  | none => .non
  | some z => .str z
theorem goW_at {ws : List Str} {wants : List (Option Str)} {i j : Nat} {fs : List Fr} {v : Option Str} (h : goW ws 0 (wants.take i) = .inr fs) (hv : wants[i]? = some v) (e : oneW ws i v = .inl j) : goW ws 0 wants = .inl j := by
  have li : i < wants.length := (List.getElem?_eq_some_iff.mp hv).1
  have q : goW ws 0 (wants.take (i + 1)) = .inl j := by
    rw [List.take_add_one, hv]
    show goW ws 0 (wants.take i ++ [v]) = _
    rw [goW_snoc, List.length_take, Nat.min_eq_left (Nat.le_of_lt li), Nat.zero_add]
    exact andR_inr_inl h e
  rw [← List.take_append_drop (i + 1) wants]
  exact goW_pre q
theorem goW_next {ws : List Str} {wants : List (Option Str)} {i : Nat} {fs gs : List Fr} {v : Option Str} (h : goW ws 0 (wants.take i) = .inr fs) (hv : wants[i]? = some v) (e : oneW ws i v = .inr gs) : goW ws 0 (wants.take (i + 1)) = .inr (fs ++ gs) := by
  have li : i < wants.length := (List.getElem?_eq_some_iff.mp hv).1
  rw [List.take_add_one, hv]
  show goW ws 0 (wants.take i ++ [v]) = _
  rw [goW_snoc, List.length_take, Nat.min_eq_left (Nat.le_of_lt li), Nat.zero_add]
  exact andR_inr h e
/-- what a turn of the loop does behind one's making -/
def tDTail : TS := tSeq (tIfS (tB (tIsN (tVar 5))) (tRet (tTup (tCons (tC (.str "text")) (tCons (tC (.int 0)) (tCons (tVar 3) tNil))))) tNext) (tAsg (tOp rCat (tVar 2) (tIf (tB (tIsN (tVar 4))) (tLst (tCons (tVar 5) tNil)) (tLst tNil))) (gName 2))
theorem due_bad {a0 a1 a2 : Option V} {a4 : Option V} {i : Nat} {H : Hp} {D : Ends} (h : ∀ t, H t = none → D.rt (.ref t) (upd H t (.tup [.str "text", .int 0, .int (i : Nat)]))) : tDTail D [a0, a1, a2, some (.int (i : Nat)), a4, some .non] H :=
  ⟨_, rfl, true, rfl, iteT ⟨_, rfl, by show 3 ≤ sizeLine; decide, h⟩⟩
theorem due_ok {a0 a1 : Option V} {fl : Addr} {us : List V} {v : Option Str} {x : V} {i : Nat} {H : Hp} {D : Ends} (hx : x ≠ .non) (hL : H fl = some (.lst us)) (hl : us.length ≤ 100)
    (h : ∀ b t, H b = none → upd H b (.lst (if v = none then [x] else [])) t = none → D.nx [a0, a1, some (.ref t), some (.int (i : Nat)), some (wantV v), some x] (upd (upd H b (.lst (if v = none then [x] else []))) t (.lst (us ++ (if v = none then [x] else []))))) : tDTail D [a0, a1, some (.ref fl), some (.int (i : Nat)), some (wantV v), some x] H := by
  refine ⟨_, rfl, false, ?_, iteF ⟨_, rfl, _, rfl, _, rfl, ?_⟩⟩
  · rw [decide_eq_false hx]
  · cases v with
    | none =>
      refine iteT ⟨_, rfl, by show 1 ≤ sizeLine; decide, fun b hb => ⟨fl, b, us, [x], rfl, rfl, ?_, upd_same, ?_, fun t htt => h b t hb htt⟩⟩
      · exact (same_upd hb) _ _ hL
      · exact Nat.le_trans (Nat.add_le_add_right hl 1) (by decide)
    | some z =>
      refine iteF ⟨Nat.zero_le _, fun b hb => ⟨fl, b, us, [], rfl, rfl, ?_, upd_same, ?_, fun t htt => h b t hb htt⟩⟩
      · exact (same_upd hb) _ _ hL
      · exact Nat.le_trans (Nat.add_le_add_right hl 0) (by decide)
section
variable {P : Program} {w : World} {K : PySem.W.Frag} {mg : Str → Option Value} {base : Heap}
def spDue : Sp := fun vs H Q _ => ∃ (wl tl_ : Addr) (ws : List Str) (wants : List (Option Str)), vs = [.ref wl, .ref tl_] ∧ H wl = some (.lst (ws.map V.str)) ∧ H tl_ = some (.lst (wants.map wantV)) ∧ (∀ y ∈ ws, y.length ≤ 1000000) ∧ wants.length ≤ 100 ∧
  (∀ j, fullW ws wants = .inl j → ∀ H' a, Same H H' → H' a = some (.tup [.str "text", .int 0, .int (j : Nat)]) → Q (.ref a) H') ∧ ∀ fs, fullW ws wants = .inr fs → ∀ H' a us, Same H H' → H a = none → H' a = some (.lst us) → FrsAt H' us fs → Q (.ref a) H'
theorem scDue : FnScope ["words", "wanted", "found", "at", "want", "one"] ["words", "wanted"] (defScope sDue) := ⟨rfl, rfl, rfl, by decide +kernel, rfl, by decide +kernel, by decide +kernel⟩
theorem ok_due {f fF : Addr} {fd fdF : FuncData} (F : Fun K "_law_due" "_law_due" sDue f fd) (N : Names mg) (GF : FnOk P w K mg base CX0 2 fF fdF ["word"] spLFrac) (gF : mg "_law_fraction_of" = some (.ref fF)) (kF : PySem.W.keepIn K (.ref fF) = true) (bF : Binds K fdF ["word"] []) : FnOk P w K mg base CX0 3 f fd ["words", "wanted"] spDue := by
  refine F.ok scDue (fun vs H Q E h => ?_) (fun cdv A outer s H vs Q E hr h => ?_)
  · obtain ⟨wl, tl_, ws, wants, rfl, _⟩ := h
    rfl
  · obtain ⟨wl, tl_, ws, wants, rfl, hW, hT, hw, ht, kN, kS⟩ := h
    refine ⟨_, pss_cons (ps_set (i := 2) scDue.nd rfl (Or.inl rfl) (pe_lst pa_nil))
      (pss_cons (ps_for PassesOwn.never rfl (pi_enum (by rfl) N.enumerate (pa_cons (pv 1) pa_nil)) (pg_tup rfl (pgs_cons (pg_name (i := 3) scDue.nd rfl (Or.inl rfl)) (pgs_cons (pg_name (i := 4) scDue.nd rfl (Or.inl rfl)) pgs_nil)))
        (pss_cons (ps_set (i := 5) scDue.nd rfl (Or.inl rfl) (pe_ifExp (pt_cmpR op_ge (pv 3) (pe_callB call_len_seq (by rfl) N.len bo_len (pa_cons (pv 0) pa_nil)) (nomark _)) pe_non
            (pe_ifExp (pt_cmp (pc_isN (pv 4))) (pe_call GF hr rfl gF kF bF .nil pass0 (pa_cons (pe_ix ix_list (pv 0) (pv 3) (fun _ _ => rfl)) pa_nil)) (pe_ifExp (pt_cmpR op_eq (pe_ix ix_list (pv 0) (pv 3) (fun _ _ => rfl)) (pv 4) (nomark _)) (pv 4) pe_non))))
        (pss_cons (ps_if (pt_cmp (pc_isN (pv 5))) (pss_one (ps_ret (pe_tup (pa_cons pe_str (pa_cons pe_int (pa_cons (pv 3) pa_nil)))))) pss_nil)
        (pss_one (ps_set (i := 2) scDue.nd rfl (Or.inl rfl) (pe_op op_cat (pv 2) (pe_ifExp (pt_cmp (pc_isN (pv 4))) (pe_lst (pa_cons (pv 5) pa_nil)) (pe_lst pa_nil))))))))
      (pss_one (ps_ret (pe_ifExp (pt_cmpR op_gt (pe_callB call_len_seq (by rfl) N.len bo_len (pa_cons (pv 0) pa_nil)) (pe_callB call_len_seq (by rfl) N.len bo_len (pa_cons (pv 1) pa_nil)) (nomark _)) (pe_tup (pa_cons pe_str (pa_cons pe_int (pa_cons (pe_callB call_len_seq (by rfl) N.len bo_len (pa_cons (pv 1) pa_nil)) pa_nil)))) (pv 2))))), ?_⟩
    refine ⟨Nat.zero_le _, fun fl0 hfl0 => ?_⟩
    refine ⟨_, rfl, tl_, _, rfl, SqL.of ((same_upd hfl0) _ _ hT), for_it (n := (wants.map wantV).length) walk_enum (fun i σ H' => ∃ (fl : Addr) (us : List V) (fs : List Fr) (x3 x4 x5 : Option V), σ = [some (.ref wl), some (.ref tl_), some (.ref fl), x3, x4, x5] ∧ goW ws 0 (wants.take i) = .inr fs ∧ Same H H' ∧ H fl = none ∧ H' fl = some (.lst us) ∧ FrsAt H' us fs ∧ us.length ≤ i)
      ⟨fl0, [], [], none, none, none, rfl, rfl, same_upd hfl0, hfl0, upd_same, trivial, Nat.le_refl _⟩ (fun i σ H' _ ⟨_, _, _, _, _, _, _, _, s', _⟩ => SqL.of (s' _ _ hT)) (fun i x σ H1 H2 hi h1 hy => ?_) (fun σ H1 h1 => ?_)⟩
    · obtain ⟨fl, us, fs, x3, x4, x5, rfl, eg, s1, nfl, hL, fr, hl⟩ := h1
      obtain ⟨T, x, y, rfl, hTn, rfl, ex, ey⟩ := hy
      have ex : V.int (i : Nat) = x := Option.some.inj ex
      subst ex
      obtain ⟨v, hv, rfl⟩ : ∃ v, wants[i]? = some v ∧ y = wantV v := by
        have ey : (wants.map wantV)[i]? = some y := ey
        rw [List.getElem?_map] at ey
        cases q : wants[i]? with
        | none => rw [q] at ey; cases ey
        | some v => rw [q] at ey; exact ⟨v, rfl, (Option.some.inj ey).symm⟩
      have hi : i < wants.length := (List.getElem?_eq_some_iff.mp hv).1
      have s2 : Same H1 (upd H1 T (.tup [.int (i : Nat), wantV v])) := same_upd hTn
      refine ⟨T, _, rfl, SqT.of upd_same, rfl, ?_⟩
      generalize upd H1 T (.tup [.int (i : Nat), wantV v]) = H2 at s2 ⊢
      have s3 := s1.trans s2
      have hL2 := s2 _ _ hL
      have hW2 := s3 _ _ hW
      refine ⟨_, _, rfl, _, _, rfl, rfl, ?_⟩
      have bad : ∀ (H' : Hp), Same H H' → oneW ws i v = .inl i → ∀ (D : Ends), D.rt = Q → tDTail D [some (.ref wl), some (.ref tl_), some (.ref fl), some (.int (i : Nat)), some (wantV v), some .non] H' := fun H' s' e D eD => due_bad fun t hn => by
        rw [eD]
        exact kN i (andR_inl _ (goW_at eg hv e)) _ t (s'.trans (same_upd hn)) upd_same
      have good : ∀ (H' : Hp) (x : V) (gs : List Fr), Same H2 H' → x ≠ .non → oneW ws i v = .inr gs → FrsAt H' (if v = none then [x] else []) gs → ∀ (D : Ends), (∀ σ H', (∃ (fl : Addr) (us : List V) (fs : List Fr) (x3 x4 x5 : Option V), σ = [some (.ref wl), some (.ref tl_), some (.ref fl), x3, x4, x5] ∧ goW ws 0 (wants.take (i + 1)) = .inr fs ∧ Same H H' ∧ H fl = none ∧ H' fl = some (.lst us) ∧ FrsAt H' us fs ∧ us.length ≤ i + 1) → D.nx σ H') →
          tDTail D [some (.ref wl), some (.ref tl_), some (.ref fl), some (.int (i : Nat)), some (wantV v), some x] H' := fun H' x gs s' nx e f D kD => due_ok nx (s' _ _ hL2) (by omega) fun b t hb htn => by
        have sb := same_upd (o := .lst (if v = none then [x] else [])) hb
        have st := sb.trans (same_upd (o := .lst (us ++ (if v = none then [x] else []))) htn)
        have sH := s3.trans s'
        refine kD _ _ ⟨t, us ++ (if v = none then [x] else []), fs ++ gs, _, _, _, rfl, goW_next eg hv e, sH.trans st, sH.free (sb.free htn), upd_same, ?_, ?_⟩
        · exact (FrsAt.app (fr.keep (TupK.of (s2.trans s'))) f).keep (TupK.of st)
        · rw [List.length_append]
          have : (if v = none then [x] else []).length ≤ 1 := by split <;> simp
          omega
      refine ⟨_, rfl, _, rfl, wl, _, rfl, .inl (SqL.of hW2), _, _, rfl, rfl, _, rfl, ?_⟩
      rw [List.length_map]
      by_cases hge : ws.length ≤ i
      · have en : ws[i]? = none := List.getElem?_eq_none hge
        have e1 : oneW ws i v = .inl i := by
          cases v with
          | none => exact one_end en
          | some z => exact one_no (by rw [en]; simp)
        refine ite2 (fun _ => ?_) fun c => absurd (decide_eq_true (by omega)) c
        exact bad H2 s3 e1 _ rfl
      have hlt : i < ws.length := by omega
      have es : ws[i]? = some ws[i] := List.getElem?_eq_getElem hlt
      have ei : atI (ws.map V.str) (i : Nat) = some (V.str ws[i]) := atI_nat (by rw [List.getElem?_map, es]; rfl)
      refine ite2 (fun c => absurd (of_decide_eq_true c) (by omega)) fun _ => ?_
      cases v with
      | none =>
        refine ⟨_, rfl, true, rfl, iteT ?_⟩
        refine ⟨_, rfl, _, rfl, wl, _, _, _, rfl, rfl, SqL.of hW2, ei, ws[i], rfl, hw _ (List.getElem_mem hlt), fun q H' s' => ?_, fun n d q H' a s' ea => ?_⟩
        · exact bad H' (s3.trans s') (one_bad es q) _ rfl
        · exact good H' (.ref a) [(n, d)] s' (fun z => by cases z) (one_ok es q) ⟨⟨a, rfl, ea⟩, trivial⟩ _ (fun _ _ z => z)
      | some z =>
        refine ⟨_, rfl, false, rfl, iteF ?_⟩
        refine ⟨_, rfl, _, rfl, wl, _, _, _, rfl, rfl, SqL.of hW2, ei, _, rfl, rfl, _, rfl, ?_⟩
        by_cases hz : ws[i] = z
        · refine ite2 (fun _ => ⟨_, rfl, ?_⟩) fun c => absurd (decide_eq_true (congrArg V.str hz)) c
          exact good H2 (.str z) [] (Same.refl _) (fun y => by cases y) (one_yes (by rw [es, hz])) trivial _ (fun _ _ y => y)
        · refine ite2 (fun c => absurd (V.str.inj (of_decide_eq_true c)) hz) fun _ => ?_
          exact bad H2 s3 (one_no (by rw [es]; exact fun y => hz (Option.some.inj y))) _ rfl
    · obtain ⟨fl, us, fs, x3, x4, x5, rfl, eg, s1, nfl, hL, fr, hl⟩ := h1
      rw [List.length_map, List.take_length] at eg
      refine ⟨_, rfl, wl, _, rfl, .inl (SqL.of (s1 _ _ hW)), _, rfl, tl_, _, rfl, .inl (SqL.of (s1 _ _ hT)), _, _, rfl, rfl, _, rfl, ?_⟩
      rw [List.length_map, List.length_map]
      by_cases c : wants.length < ws.length
      · refine ite2 (fun _ => ?_) fun y => absurd (decide_eq_true (by omega)) y
        refine ⟨_, rfl, tl_, _, rfl, .inl (SqL.of (s1 _ _ hT)), by show 3 ≤ sizeLine; decide, fun t htn => ?_⟩
        rw [List.length_map]
        exact kN _ (by unfold fullW; rw [eg, if_pos c]; rfl) _ t (s1.trans (same_upd htn)) upd_same
      · refine ite2 (fun y => absurd (of_decide_eq_true y) (by omega)) fun _ => ?_
        exact ⟨_, rfl, kS fs (by unfold fullW; rw [eg, if_neg c]; exact andR_nil _) H1 fl us s1 nfl hL fr⟩
end
end C94
end

section
set_option Elab.async false
set_option linter.all false
set_option maxRecDepth 100000
set_option maxHeartbeats 2000000
namespace C94
open PySem L2 PyProof.Rows TL LamX
open SX (S)
open S9
/-- what heard makes of what it got: an error told, or a list of what came -/
def TTh (CB : Addr) : (XK → Hp → VK → Prop) → Hp → VK → Prop := fun tl H Q => ∀ (H1 : Hp) (E : XK) (Qv : VK), Same H H1 →
  (∀ (dd : Addr) (l y : V) (H' : Hp), (∀ a H2, Same H' H2 → H2 a = some (.tup [.str "text", l, y]) → Q (.ref a) H2) → H' dd = some (.xd [("line", l), ("word", y)]) → E (.ref CB) (some dd) H') →
  (∀ (v : V) (H' : Hp), (∀ a H2, Same H' H2 → H2 a = some (.lst [v]) → Q (.ref a) H2) → Qv v H') → tl E H1 Qv
/-- what the written part says of the errors' classes -/
structure HTxt (K : PySem.W.Frag) (mg : Str → Option Value) (CC CT CB : Addr) : Prop where
  mgC : mg "CutError" = some (.ref CC)
  mgT : mg "TooMany" = some (.ref CT)
  mgB : mg "BadText" = some (.ref CB)
  hit : PySem.W.exmOne K (.ref CB) (.ref CC) = some true
  noT : PySem.W.kitOne K (.ref CB) (.ref CT) = some false
  yesB : PySem.W.kitOne K (.ref CB) (.ref CB) = some true
  xk : XkC K CB
  xf : XfC K CB
  nL : PySem.W.findIn K (.ref CB) "line" = some none
  nW : PySem.W.findIn K (.ref CB) "word" = some none
theorem scH : FnScope ["ask", "caught", "found", "error", "some"] ["ask"] (defScope sHeard) := ⟨rfl, rfl, rfl, by decide +kernel, rfl, by decide +kernel, by decide +kernel⟩
theorem xd_line (l y : V) : List.lookup ("line" : Str) [(("line" : Str), l), ("word", y)] = some l := lookH
theorem xd_word (l y : V) : List.lookup ("word" : Str) [(("line" : Str), l), ("word", y)] = some y := (lookC lw).trans lookH
theorem heard_gives {X : Cx} {g CC CT CB : Addr} {cdg : Value} {q : Str} (N : Names X.mg) (T : HTxt X.K X.mg CC CT CB) : GivesAt X ["ask", "caught", "found", "error", "some"] "_law_h_heard" (defScope sHeard) g cdg (defBody sHeard) "ask" q (TTh CB) := by
  intro f c' s H Q tl act hc h
  refine ⟨_, pss_cons (ps_asg (pe_tup (pa_cons pe_non (pa_cons pe_non pa_nil))) (pg_tup rfl (pgs_cons (pg_name (i := 1) scH.nd rfl (Or.inl rfl)) (pgs_cons (pg_name (i := 2) scH.nd rfl (Or.inl rfl)) pgs_nil))))
    (pss_cons (ps_try_keep (i := 3) (c := .ref CC) (tb := fun W D σ H => σ[0]? = some (some (.ref f)) ∧ H c' = some (CodeO c' q) ∧ ∃ E : XK, (∀ cls d H', E cls d H' → W cls d σ H') ∧ tl E H (fun v H' => D.nx (σ.set 2 (some v)) H'))
      (ts := fun _ _ _ => tAsg (tVar 3) (gName 1)) rfl rfl rfl scH.nd rfl rfl ⟨rfl, by decide, .inl T.mgC⟩ (fun W pn xe tk _ => ?_) (fun a oe cls d pn _ _ => pss_one (ps_set (i := 1) scH.nd rfl (Or.inl rfl) (pv 3))))
    (pss_cons (ps_if (pt_cmp (pc_isN (pv 1))) (pss_one (ps_ret (pe_lst (pa_cons (pv 2) pa_nil)))) pss_nil)
    (pss_cons (ps_if (pt_val (pe_callB (call_isK T.xk) (by rfl) N.isinstance bo_isi (pa_cons (pv 1) (pa_cons (pe_glob (v := .ref CT) (by rfl) T.mgT rfl) pa_nil)))) pss_dead pss_nil)
    (pss_cons (ps_if (pt_val (pe_callB (call_isK T.xk) (by rfl) N.isinstance bo_isi (pa_cons (pv 1) (pa_cons (pe_glob (v := .ref CB) (by rfl) T.mgB rfl) pa_nil)))) (pss_one (ps_ret (pe_tup (pa_cons pe_str (pa_cons (pe_xk T.xf T.nL (pv 1)) (pa_cons (pe_xk T.xf T.nW (pv 1)) pa_nil)))))) pss_nil)
    pss_dead)))), ?_⟩
  · refine ⟨fun pins s' σ H' D I h' => ?_⟩
    have hp := act W pn xe
    have hq := fun p1 p2 => pss_one (ps_set (X := ((cxOf C8.CX0 X.prog X.w X.K X.mg X.base ["ask", "caught", "found", "error", "some"] "_law_h_heard" (defScope sHeard) g cdg X.A X.stack s H C8.E0).tr pn xe)) (pos := ⟨197, 8, 197, 21⟩) (pos' := ⟨197, 8, 197, 13⟩) (i := 2) (x := "found") scH.nd rfl (Or.inl rfl) (hp p1 p2 tk))
    exact (hq _ _).run pins s' σ H' D I h'
  · refine ⟨by show 2 ≤ sizeLine; decide, fun p hp => ⟨p, _, rfl, SqT.of upd_same, rfl, _, _, rfl, _, _, rfl, rfl, ?_⟩⟩
    refine ⟨rfl, (upd_ne (ne_of_none hc hp)).trans hc, _, fun cls d H' e => e, h _ _ _ (same_upd hp) (fun dd l y H' k hd => ?_) fun v H' k => ?_⟩
    · refine ⟨T.hit, fun a ha => ⟨_, rfl, fun ha' => ?_⟩⟩
      have sa : Same H' (upd H' a (ExK (.ref CB) (some dd) a)) := same_upd ha
      have ea : upd H' a (ExK (.ref CB) (some dd) a) a = some (ExK (.ref CB) (some dd) a) := upd_same
      have ed := sa _ _ hd
      refine ⟨_, rfl, false, rfl, iteF ?_⟩
      refine ⟨_, rfl, a, dd, _, _, _, false, rfl, ea, ed, fun u ru => ru, T.noT, _, rfl, iteF ?_⟩
      refine ⟨_, rfl, a, dd, _, _, _, true, rfl, ea, ed, fun u ru => ru, T.yesB, _, rfl, iteT ?_⟩
      refine ⟨_, rfl, a, dd, _, _, rfl, ea, ed, xd_line _ _, _, rfl, a, dd, _, _, rfl, ea, ed, xd_word _ _, by show 3 ≤ sizeLine; decide, fun t ht => ?_⟩
      exact k t _ (sa.trans (same_upd ht)) upd_same
    · refine ⟨_, rfl, true, rfl, iteT ⟨_, rfl, by show 1 ≤ sizeLine; decide, fun a ha => k a _ (same_upd ha) upd_same⟩⟩
end C94
end

section
set_option Elab.async false
set_option linter.all false
set_option maxRecDepth 100000
set_option maxHeartbeats 2000000
namespace C94
open PySem L2 PyProof.Rows TL LamX NdefX
open SX (S)
open S9
/-! ### the two lambdas that are kept -/
abbrev lamPA : Arguments := { posonlyargs := [], args := [{ arg := "text", annotation := none, pos := ⟨241, 32, 241, 36⟩ }], vararg := none, kwonlyargs := [], kw_defaults := [], kwarg := none, defaults := [] }
abbrev lamPB : Expr := .Call (.Name "read_point" ⟨241, 38, 241, 48⟩) [.Name "text" ⟨241, 49, 241, 53⟩, .Name "many" ⟨241, 55, 241, 59⟩, .Name "sliders" ⟨241, 61, 241, 68⟩] [] ⟨241, 38, 241, 69⟩
abbrev lamPS : Scope := { kind := .function, names := [("text", .local), ("many", .free), ("sliders", .free), ("read_point", .globalImplicit)], isGenerator := false, isCoroutine := false, more := [] }
abbrev lamVA : Arguments := { posonlyargs := [], args := [{ arg := "text", annotation := none, pos := ⟨241, 124, 241, 128⟩ }, { arg := "a1", annotation := none, pos := ⟨241, 130, 241, 132⟩ }], vararg := none, kwonlyargs := [], kw_defaults := [], kwarg := none, defaults := [.Constant (.int 0) 0 ⟨241, 133, 241, 134⟩] }
abbrev lamVB : Expr := .Call (.Name "read_values" ⟨241, 136, 241, 147⟩) [.Name "text" ⟨241, 148, 241, 152⟩, .Name "sliders" ⟨241, 154, 241, 161⟩] [] ⟨241, 136, 241, 162⟩
abbrev lamVS : Scope := { kind := .function, names := [("text", .local), ("a1", .local), ("sliders", .free), ("read_values", .globalImplicit)], isGenerator := false, isCoroutine := false, more := [] }
section
variable {P : Program} {w : World} {K : PySem.W.Frag} {mg : Str → Option Value} {base : Heap} {CB : Addr}
def spLamP (CB : Addr) (ws : List (Option V)) : Sp := fun vs H Q E => ∃ (t : Str) (n m : Nat), ws = [some (.int (n : Nat)), some (.int (m : Nat))] ∧ vs = [.str t] ∧ spReadP CB [.str t, .int (n : Nat), .int (m : Nat)] H Q E
def spLamV (CB : Addr) (ws : List (Option V)) : Sp := fun vs H Q E => ∃ (t : Str) (m : Nat), ws = [some (.int (m : Nat))] ∧ vs = [.str t] ∧ spReadV CB [.str t, .int (m : Nat)] H Q E
theorem nsP : NScope ["text", "many", "sliders"] ["text"] ["many", "sliders"] lamPS := nscope_by (by decide +kernel)
theorem nsV : NScope ["text", "a1", "sliders"] ["text", "a1"] ["sliders"] lamVS := nscope_by (by decide +kernel)
theorem lok_P {f fR c : Addr} {fdR : FuncData} {q : Str} {cl : List (Str × Addr)} (GR : FnOk P w K mg base (L2.CX P w) 6 fR fdR ["text", "dimension", "sliders"] (spReadP CB)) (gR : mg "read_point" = some (.ref fR)) (kR : PySem.W.keepIn K (.ref fR) = true) (bR : Binds K fdR ["text", "dimension", "sliders"] []) :
    LOk P w K mg base (L2.CX P w) 7 f ⟨q, lamPA, lamPB, lamPS, cl, c, .none⟩ 1 [] ["many", "sliders"] (spLamP CB) := by
  refine lok_of (N := ["text", "many", "sliders"]) (ps := ["text"]) nsP (lbinds0 fun doc pm ctv us hl => match us, hl with | [_], _ => rfl) rfl (fun ws vs H Q E h => ?_) fun A outer s H vs ws Q E hr hl h => ?_
  · obtain ⟨t, n, m, _, rfl, _⟩ := h
    rfl
  · obtain ⟨t, n, m, rfl, rfl, h⟩ := h
    refine ⟨_, pe_call GR hr rfl gR kR bR .nil (passes_call (takes_of rfl rfl rfl rfl) fun _ _ _ _ h => h) (pa_cons (pv 0) (pa_cons (pv 1) (pa_cons (pv 2) pa_nil))), ?_⟩
    exact ⟨_, rfl, _, rfl, _, rfl, h⟩
theorem lok_V {f fR c T : Addr} {fdR : FuncData} {q : Str} {cl : List (Str × Addr)} (GR : FnOk P w K mg base (L2.CX P w) 6 fR fdR ["text", "sliders"] (spReadV CB)) (gR : mg "read_values" = some (.ref fR)) (kR : PySem.W.keepIn K (.ref fR) = true) (bR : Binds K fdR ["text", "sliders"] []) :
    LOk P w K mg base (L2.CX P w) 7 f ⟨q, lamVA, lamVB, lamVS, cl, c, .ref T⟩ 1 [.int 0] ["sliders"] (spLamV CB) := by
  refine lok_of (N := ["text", "a1", "sliders"]) (ps := ["text", "a1"]) nsV (lbinds1 rfl fun doc pm ctv us its h1 h2 => match us, its, h1, h2 with | [_], [_], _, _ => ⟨_, rfl, rfl⟩) rfl (fun ws vs H Q E h => ?_) fun A outer s H vs ws Q E hr hl h => ?_
  · obtain ⟨t, m, _, rfl, _⟩ := h
    rfl
  · obtain ⟨t, m, rfl, rfl, h⟩ := h
    refine ⟨_, pe_call GR hr rfl gR kR bR .nil (passes_call (takes_of rfl rfl rfl rfl) fun _ _ _ _ h => h) (pa_cons (pv 0) (pa_cons (pv 2) pa_nil)), ?_⟩
    exact ⟨_, rfl, _, rfl, h⟩
end
/-! ### what stays while the law goes on -/
def PenForm (o : HO) : Prop := ∃ c a r, o = .lst [.ref c, .int a, .int r]
/-- all but pens and tables stays -/
def Keep (H H' : Hp) : Prop := ∀ b o, ¬ PenForm o → (∀ ps, o ≠ .tbl ps) → H b = some o → H' b = some o
theorem Keep.refl (H : Hp) : Keep H H := fun _ _ _ _ h => h
theorem Keep.trans {H H1 H2 : Hp} (a : Keep H H1) (b : Keep H1 H2) : Keep H H2 := fun c o n t h => b c o n t (a c o n t h)
theorem Keep.of {H H' : Hp} (s : Same H H') : Keep H H' := fun b o _ _ h => s b o h
theorem Keep.ext {H H' : Hp} (s : ExtN H H') : Keep H H' := fun b o _ t h => s b o h t
theorem PenAt.form {H : Hp} {p cl : Addr} {n : Nat} (h : PenAt H p cl n) : ∃ o, H p = some o ∧ PenForm o := by
  obtain ⟨cells, a, r, h1, _⟩ := h
  exact ⟨_, h1, cl, a, r, rfl⟩
theorem Keep.draw {H H' : Hp} {p cl : Addr} {n : Nat} (h : PenAt H p cl n) (b : But p H H') : Keep H H' := fun c o nf _ e => b c o (fun z => by
  obtain ⟨o', e', f⟩ := h.form
  rw [z, e'] at e
  cases e
  exact nf f) e
theorem Keep.tup {H H' : Hp} (k : Keep H H') : TupK H H' := fun b xs e => k b _ (fun ⟨_, _, _, z⟩ => by cases z) (fun ps z => by cases z) e
theorem noPen_strs (l : List Str) : ¬ PenForm (.lst (l.map V.str)) := fun ⟨c, a, r, z⟩ => by
  have z := HO.lst.inj z
  cases l with
  | nil => cases z
  | cons x y => cases (List.cons.inj z).1
theorem noPen_wants (l : List (Option Str)) : ¬ PenForm (.lst (l.map wantV)) := fun ⟨c, a, r, z⟩ => by
  have z := HO.lst.inj z
  cases l with
  | nil => cases z
  | cons x y =>
    have q := (List.cons.inj z).1
    cases x <;> cases q
theorem Keep.strs {H H' : Hp} (k : Keep H H') {b : Addr} {l : List Str} (e : H b = some (.lst (l.map V.str))) : H' b = some (.lst (l.map V.str)) := k _ _ (noPen_strs l) (fun ps z => by cases z) e
theorem Keep.wants {H H' : Hp} (k : Keep H H') {b : Addr} {l : List (Option Str)} (e : H b = some (.lst (l.map wantV))) : H' b = some (.lst (l.map wantV)) := k _ _ (noPen_wants l) (fun ps z => by cases z) e
theorem Keep.refs {H H' : Hp} (k : Keep H H') {b x y : Addr} (e : H b = some (.lst [.ref x, .ref y])) : H' b = some (.lst [.ref x, .ref y]) := k _ _ (fun ⟨c, a, r, z⟩ => by cases HO.lst.inj z) (fun ps z => by cases z) e
theorem Keep.lam {H H' : Hp} (k : Keep H H') {f : Addr} {F : LF} (e : H f = some (LamO f F)) : H' f = some (LamO f F) := k _ _ (fun ⟨c, a, r, z⟩ => by unfold LamO at z; cases z) (fun ps => lamO_ne ps) e
theorem Keep.code {H H' : Hp} (k : Keep H H') {c : Addr} {q : Str} (e : H c = some (CodeO c q)) : H' c = some (CodeO c q) := k _ _ (fun ⟨c, a, r, z⟩ => by unfold CodeO at z; cases z) (fun ps => codeO_ne ps) e
theorem Keep.dv {H H' : Hp} (k : Keep H H') {dv : Value} {ds : List V} (e : DvO dv ds H) : DvO dv ds H' := e.elim .inl fun ⟨T, h1, h2⟩ => .inr ⟨T, h1, k.tup _ _ h2⟩
theorem tabs_but {T : List (Addr × Str)} {H H' : Hp} {p cl : Addr} {n : Nat} (h : PenAt H p cl n) (b : But p H H') (t : Tabs T H) : Tabs T H' := by
  obtain ⟨o, e, c, a, r, rfl⟩ := h.form
  intro q hq
  obtain ⟨ps, h1, h2, h3⟩ := t q hq
  refine ⟨ps, b _ _ (fun z => by rw [z, e] at h1; cases h1) h1, h2, fun pos cv hcv => ?_⟩
  obtain ⟨c, e1, e2⟩ := h3 pos cv hcv
  exact ⟨c, e1, b _ _ (fun z => by rw [z, e] at e2; unfold CodeO at e2; cases e2) e2⟩
theorem PenAt.ext {H H' : Hp} {p cl : Addr} {n : Nat} (h : PenAt H p cl n) (s : ExtN H H') : PenAt H' p cl n := by
  obtain ⟨cells, a, r, h1, h2, h3⟩ := h
  exact ⟨cells, a, r, s _ _ h1 (fun ps z => by cases z), s _ _ h2 (fun ps z => by cases z), h3⟩
/-- the law's own: the pen, its two lists of words, the tables of its code -/
structure LB (T : List (Addr × Str)) (pen cl wr fi : Addr) (wrL fiL : List Str) (H : Hp) (n : Nat) : Prop where
  pen : PenAt H pen cl n
  wr : H wr = some (.lst (wrL.map V.str))
  fi : H fi = some (.lst (fiL.map V.str))
  tabs : Tabs T H
section
variable {T : List (Addr × Str)} {pen cl wr fi : Addr} {wrL fiL : List Str} {H H' : Hp} {n m : Nat}
theorem LB.mono (l : LB T pen cl wr fi wrL fiL H n) (h : n ≤ m) : LB T pen cl wr fi wrL fiL H m := ⟨l.pen.mono h, l.wr, l.fi, l.tabs⟩
theorem LB.same (l : LB T pen cl wr fi wrL fiL H n) (s : Same H H') : LB T pen cl wr fi wrL fiL H' n := ⟨l.pen.same s, s _ _ l.wr, s _ _ l.fi, l.tabs.ext s⟩
theorem LB.draw (l : LB T pen cl wr fi wrL fiL H n) (b : But pen H H') (p : PenAt H' pen cl m) : LB T pen cl wr fi wrL fiL H' m := ⟨p, (Keep.draw l.pen b).strs l.wr, (Keep.draw l.pen b).strs l.fi, tabs_but l.pen b l.tabs⟩
theorem LB.ext (l : LB T pen cl wr fi wrL fiL H n) (s : ExtN H H') (t : Tabs T H') : LB T pen cl wr fi wrL fiL H' n := ⟨l.pen.ext s, (Keep.ext s).strs l.wr, (Keep.ext s).strs l.fi, t⟩
theorem LB.fi_ne (l : LB T pen cl wr fi wrL fiL H n) : fi ≠ pen := fun z => by
  obtain ⟨o, e, f⟩ := l.pen.form
  have q := l.fi
  rw [z, e] at q
  cases q
  exact noPen_strs _ f
theorem LB.wr_ne (l : LB T pen cl wr fi wrL fiL H n) : wr ≠ pen := fun z => by
  obtain ⟨o, e, f⟩ := l.pen.form
  have q := l.wr
  rw [z, e] at q
  cases q
  exact noPen_strs _ f
end
end C94
end

section
set_option Elab.async false
set_option linter.all false
set_option maxRecDepth 100000
set_option maxHeartbeats 2000000
namespace C94
open PySem L2 PyProof.Rows TL LamX NdefX
open SX (S)
open S9
/-! ### the law's text -/
def forBody : Stmt → List Stmt
  | .For _ _ b _ _ => b
  | _ => []
abbrev bTurn : List Stmt := forBody ((defBody sLaw).getD 4 (.Pass ⟨0, 0, 0, 0⟩))
abbrev bAxis : List Stmt := forBody (bTurn.getD 2 (.Pass ⟨0, 0, 0, 0⟩))
abbrev bAsk : List Stmt := forBody (bTurn.getD 4 (.Pass ⟨0, 0, 0, 0⟩))
abbrev bAt : List Stmt := forBody (bAsk.getD 4 (.Pass ⟨0, 0, 0, 0⟩))
abbrev bOne : List Stmt := forBody (bAt.getD 2 (.Pass ⟨0, 0, 0, 0⟩))
abbrev NL : List Str := ["script", "pen", "wrong", "fine", "turn", "many", "sliders", "wanted", "axis", "asks", "wants", "ask", "words", "told", "due", "at", "odd", "some", "one", "want"]
theorem scL : FnScope NL ["script"] (defScope sLaw) := ⟨rfl, rfl, rfl, by decide +kernel, rfl, by decide +kernel, by decide +kernel⟩
abbrev qL : Str := ("law" : Str) ++ ".<locals>." ++ "<lambda>"
/-- a def's promise with what its callers want to know of it -/
structure DefOk (P : Program) (w : World) (K : PySem.W.Frag) (mg : Str → Option Value) (base : Heap) (CX : CXT) (k : Nat) (x : Str) (ps : List Str) (sp : Sp) where
  f : Addr
  fd : FuncData
  ok : FnOk P w K mg base CX k f fd ps sp
  mg_ : mg x = some (.ref f)
  kp : PySem.W.keepIn K (.ref f) = true
  b : Binds K fd ps []
structure LD (P : Program) (w : World) (K : PySem.W.Frag) (mg : Str → Option Value) (base : Heap) (cL tP : Addr) where
  N : Names mg
  pen : DefOk P w K mg base CX0 1 "_law_pen" ["script"] (spPen K)
  draw : DefOk P w K mg base CX0 1 "_law_draw" ["pen", "many"] spDraw
  pick : DefOk P w K mg base CX0 2 "_law_pick" ["pen", "some"] spPick
  due : DefOk P w K mg base CX0 3 "_law_due" ["words", "wanted"] spDue
  CC : Addr
  CT : Addr
  CB : Addr
  rp : DefOk P w K mg base (L2.CX P w) 6 "read_point" ["text", "dimension", "sliders"] (spReadP CB)
  rv : DefOk P w K mg base (L2.CX P w) 6 "read_values" ["text", "sliders"] (spReadV CB)
  fH : Addr
  fdH : FuncData
  H_ : Fun K "_law_h_heard" "_law_h_heard" sHeard fH fdH
  mgH : mg "_law_h_heard" = some (.ref fH)
  bH : Binds K fdH ["ask"] []
  T : HTxt K mg CC CT CB
  TB : TabB base mg cL tP
/-- the law's context -/
abbrev XL (P : Program) (w : World) (K : PySem.W.Frag) (mg : Str → Option Value) (base : Heap) (f cL : Addr) (A : Around) (outer : List Env) (s : Shared) (H0 : Hp) (E0 : XK) : Cx := (cxOf CX0 P w K mg base NL "law" (defScope sLaw) f (.ref cL) A outer s H0 E0).nox
/-! ### what one call of heard brings -/
def ShapeAt (kd : Bool) (H : Hp) (v : V) (fs : List Fr) : Prop := ∃ a us, v = .ref a ∧ H a = some (.tup us) ∧ if kd = true then ∃ fss, PtsAt H us fss ∧ fss.flatten = fs else FrsAt H us fs
theorem ShapeAt.keep {kd : Bool} {H H' : Hp} {v : V} {fs : List Fr} (k : TupK H H') (h : ShapeAt kd H v fs) : ShapeAt kd H' v fs := by
  obtain ⟨a, us, e, h1, h2⟩ := h
  refine ⟨a, us, e, k _ _ h1, ?_⟩
  cases kd with
  | true => exact iteT (let ⟨fss, x, y⟩ := (show ∃ fss, PtsAt H us fss ∧ fss.flatten = fs from h2); ⟨fss, x.keep k, y⟩)
  | false => exact iteF (FrsAt.keep k (show FrsAt H us fs from h2))
/-- ask, at fA: read as the words wants tell -/
def AskAt (X : Cx) (CB : Addr) (H : Hp) (fA : Addr) (n m : Nat) (wants : List (Option Str)) (kd : Bool) : Prop :=
  ∃ (F : LF) (k : Nat) (ds : List V) (fr : List Str) (js : List Nat) (sp : List (Option V) → Sp), H fA = some (LamO fA F) ∧ H F.c = some (CodeO F.c F.qual) ∧ DvO F.dv ds H ∧ OwnCaps X F.cl fr js ∧ LOk X.prog X.w X.K X.mg X.base (L2.CX X.prog X.w) 7 fA F k ds fr sp ∧
    ∀ (σ : L2.St) (t : Str) (H1 : Hp) (Q : VK) (E : XK), σ[5]? = some (some (.int (n : Nat))) → σ[6]? = some (some (.int (m : Nat))) → t.length ≤ 1000000 → (∀ j, fullW (Txt.split t " ") wants = .inl j → BadS CB H1 E j) →
      (∀ fs, fullW (Txt.split t " ") wants = .inr fs → ∀ H' v, Same H1 H' → ShapeAt kd H' v fs → Q v H') → sp (js.map (slotAt σ)) [.str t] H1 Q E
theorem AskAt.keep {X : Cx} {CB : Addr} {H H' : Hp} {fA : Addr} {n m : Nat} {wants : List (Option Str)} {kd : Bool} (a : AskAt X CB H fA n m wants kd) (k : Keep H H') : AskAt X CB H' fA n m wants kd := by
  obtain ⟨F, n', ds, fr, js, sp, h1, h2, h3, r⟩ := a
  exact ⟨F, n', ds, fr, js, sp, k.lam h1, k.code h2, k.dv h3, r⟩
/-- a lambda made, then new objects alone -/
def LStep (T : List (Addr × Str)) (H H2 : Hp) : Prop := ∃ H1, ExtN H H1 ∧ Tabs T H1 ∧ Same H1 H2
theorem LStep.keep {T : List (Addr × Str)} {H H2 : Hp} (l : LStep T H H2) : Keep H H2 := let ⟨_, a, _, c⟩ := l; (Keep.ext a).trans (Keep.of c)
theorem LStep.same {T : List (Addr × Str)} {H H2 H3 : Hp} (l : LStep T H H2) (s : Same H2 H3) : LStep T H H3 := let ⟨h, a, b, c⟩ := l; ⟨h, a, b, c.trans s⟩
theorem LStep.tabs {T : List (Addr × Str)} {H H2 : Hp} (l : LStep T H H2) : Tabs T H2 := let ⟨_, _, b, c⟩ := l; b.ext c
theorem LB.step {T : List (Addr × Str)} {pen cl wr fi : Addr} {wrL fiL : List Str} {H H' : Hp} {n : Nat} (l : LB T pen cl wr fi wrL fiL H n) (s : LStep T H H') : LB T pen cl wr fi wrL fiL H' n := let ⟨_, a, b, c⟩ := s; (l.ext a b).same c
/-- words that are told in a text -/
def OkW (os : List Str) : Prop := os.length ≤ 50 ∧ ∀ y ∈ os, y.length ≤ 1000
theorem sum_le {os : List Str} (h : ∀ y ∈ os, y.length ≤ 1000) : (os.map (·.length)).sum ≤ os.length * 1000 := by
  induction os with
  | nil => simp
  | cons a r ih =>
    have h1 := h a List.mem_cons_self
    have h2 := ih fun y hy => h y (List.mem_cons_of_mem _ hy)
    simp only [List.map_cons, List.sum_cons, List.length_cons]
    omega
theorem blank1 : (" " : Str).length = 1 := by decide +kernel
theorem OkW.size {os : List Str} (h : OkW os) : (os.map (·.length)).sum + os.length * (" " : Str).length ≤ 16777216 := by
  have a := sum_le h.2
  have b := h.1
  rw [blank1]
  omega
theorem OkW.text {os : List Str} (h : OkW os) : (Txt.join " " os).length ≤ 1000000 := by
  have a := sum_le h.2
  have b := h.1
  rw [TL.join_eq]
  have c := StrLaws.join_length_le " " os
  rw [blank1] at c
  omega
/-- the reading of ' '.join(x) -/
abbrev tJ (K : PySem.W.Frag) (i : Nat) : TE := tM1 (fun x xs H Q => ∃ a p, ∃ ys : List Str, x = .str a ∧ xs = [.ref p] ∧ (SqL K H p (ys.map V.str) ∨ SqT K H p (ys.map V.str)) ∧ (ys.map (·.length)).sum + ys.length * a.length ≤ 16777216 ∧ Q (.str (Txt.join a ys)) H) (tC (.str " ")) (tVar i)
theorem join_read {K : PySem.W.Frag} {σ : L2.St} {H : Hp} {i : Nat} {lo : Addr} {os : List Str} {Q : VK} (hσ : σ[i]? = some (some (.ref lo))) (hL : H lo = some (.lst (os.map V.str))) (hw : OkW os) (q : Q (.str (Txt.join " " os)) H) : tJ K i σ H Q :=
  ⟨⟨_, rfl⟩, _, hσ, " ", lo, os, rfl, rfl, .inl (SqL.of hL), hw.size, q⟩
section
variable {P : Program} {w : World} {K : PySem.W.Frag} {mg : Str → Option Value} {base : Heap} {f cL tP : Addr} {A : Around} {outer : List Env} {s : Shared} {H0 : Hp} {E0 : XK}
/-- the reading of heard(lambda: ask(' '.join(x))), x in slot i -/
abbrev tHeard (X : Cx) (T : List (Addr × Str)) (CB : Addr) (i : Nat) : TE := tLamC T (TTh CB) fun σ0 E => tCallL X (L2.CX X.prog X.w) (OwnCaps X) σ0 11 7 E (tCons (tJ X.K i) tNil)
theorem heard_read {X : Cx} {T : List (Addr × Str)} {CB : Addr} {i : Nat} {σ : L2.St} {H : Hp} {Q : VK} {fA lo : Addr} {n m : Nat} {wants : List (Option Str)} {kd : Bool} {os : List Str} (ht : Tabs T H) (ha : AskAt X CB H fA n m wants kd) (h5 : σ[5]? = some (some (.int (n : Nat)))) (h6 : σ[6]? = some (some (.int (m : Nat)))) (h11 : σ[11]? = some (some (.ref fA)))
    (hi : σ[i]? = some (some (.ref lo))) (hL : H lo = some (.lst (os.map V.str))) (hw : OkW os) (bad : ∀ j, fullW (Txt.split (Txt.join " " os) " ") wants = .inl j → ∀ a H2, LStep T H H2 → H2 a = some (.tup [.str "text", .int 0, .int (j : Nat)]) → Q (.ref a) H2)
    (ok : ∀ fs, fullW (Txt.split (Txt.join " " os) " ") wants = .inr fs → ∀ a v H2, LStep T H H2 → H2 a = some (.lst [v]) → ShapeAt kd H2 v fs → Q (.ref a) H2) : tHeard X T CB i σ H Q := by
  refine ⟨ht, fun H1 eN t1 H1' E Qv s' hE hQ => ?_⟩
  obtain ⟨F, k, ds, fr, js, sp, a1, a2, a3, a4, a5, a6⟩ := ha
  have kk : Keep H H1' := (Keep.ext eN).trans (Keep.of s')
  refine ⟨fA, F, k, ds, fr, js, sp, h11, kk.lam a1, a4, a5, ?_⟩
  unfold tCons tNil
  refine join_read (K := X.K) hi (kk.strs hL) hw ?_
  refine ⟨kk.lam a1, kk.code a2, kk.dv a3, a6 σ _ _ _ _ h5 h6 hw.text (fun j ej H' d s2 ed => ?_) fun fs ef H' v s2 sh => ?_⟩
  · exact hE d _ _ H' (fun a H2 s3 ea => bad j ej a H2 ⟨H1, eN, t1, (s'.trans s2).trans s3⟩ ea) ed
  · exact hQ v H' fun a H2 s3 ea => ok fs ef a v H2 ⟨H1, eN, t1, (s'.trans s2).trans s3⟩ ea (sh.keep (TupK.of s3))
end
end C94
end

section
set_option Elab.async false
set_option linter.all false
set_option maxRecDepth 100000
set_option maxHeartbeats 4000000
namespace C94
open PySem L2 PyProof.Rows TL LamX NdefX
open SX (S)
open S9
abbrev TL_ (tP : Addr) : List (Addr × Str) := [(tP, qL)]
section
variable {P : Program} {w : World} {K : PySem.W.Frag} {mg : Str → Option Value} {base : Heap} {f cL tP : Addr} {A : Around} {outer : List Env} {s : Shared} {H0 : Hp} {E0 : XK}
theorem pe_heard {x : Str} {i : Nat} {scope : Scope} {fH CC CT CB : Addr} {fdH : FuncData} {p pos lpos b1 b2 b3 b4 b5 b6 : Pos} (N : Names mg) (FH : Fun K "_law_h_heard" "_law_h_heard" sHeard fH fdH) (mgH : mg "_law_h_heard" = some (.ref fH)) (bH : Binds K fdH ["ask"] []) (T : HTxt K mg CC CT CB) (TB : TabB base mg cL tP)
    (hr : Room 9 (XL P w K mg base f cL A outer s H0 E0).A) (hsc : lamSB (defScope sLaw) scope = true) (hva : scope.names.lookup ("ask" : Str) = some .free) (hvx : scope.names.lookup x = some .free) (hx : NL[i]? = some x) (d1 : (x == ("__debug__" : Str)) = false) (d2 : (x == ("__classdict__" : Str)) = false) (hln : (b3.endLine == b5.line) = true) :
    PE (XL P w K mg base f cL A outer s H0 E0) (.Call (.Name "_law_h_heard" p) [.Lambda { posonlyargs := [], args := [], vararg := none, kwonlyargs := [], kw_defaults := [], kwarg := none, defaults := [] } (.Call (.Name "ask" b1) [.Call (.Attribute (.Constant (.str " ") 0 b2) "join" b3) [.Name x b4] [] b5] [] b6) scope lpos] [] pos)
      (tHeard (XL P w K mg base f cL A outer s H0 E0) (TL_ tP) CB i) := by
  obtain ⟨oc, od, kV, doc, pm, an, cdv, ct, osl, rfl, lk, hcd⟩ := FH.ex
  refine pe_lamcallC (k := 7) (a := "ask") (Ng := ["ask", "caught", "found", "error", "some"]) rfl rfl mgH FH.kp lk hcd bH scH rfl (.inl rfl) (heard_gives N T) TB rfl (List.mem_singleton.mpr rfl) (fun q hq _ => by rw [List.mem_singleton.mp hq]; rfl) hr (lamS_by hsc) rfl (fun _ _ _ _ _ => rfl)
    (fun σ A' outer' s' H' E f' c' hr' hC => ?_)
  exact pe_callL hC rfl hr' (Nat.le_refl _) (passes_call (takes_of rfl rfl rfl rfl) fun _ _ _ _ h => h) rfl (.inr (.inr hva)) (pa_cons (pe_join pe_str (pe_var hx (.inr (.inr hvx)) d1 d2) (by rfl) (by rfl) hln) pa_nil)
end
end C94
end

section
set_option Elab.async false
set_option linter.all false
set_option maxRecDepth 100000
set_option maxHeartbeats 4000000
namespace C94
open PySem L2 PyProof.Rows TL LamX NdefX
open SX (S)
open S9
/-- what a block is known to do, told once -/
theorem pss_of {X : Cx} {b : List Stmt} {t u : TS} (h : PSs X b t) (k : ∀ D σ H, u D σ H → t D σ H) : PSs X b u := ⟨fun pins s σ H D I hu => h.run pins s σ H D I (k D σ H hu)⟩
theorem ps_of {X : Cx} {b : Stmt} {t u : TS} (h : PS X b t) (k : ∀ D σ H, u D σ H → t D σ H) : PS X b u := ⟨fun pins s σ H D I hu => h.run pins s σ H D I (k D σ H hu)⟩
theorem two_shaped (j : Nat) : SeqAt.shaped (.tuple [.str "text", .int 0, .int (j : Nat)]) = true := by
  unfold SeqAt.shaped
  simp [PyData.canLay0, PyData.canLayAll0, PyData.depth, PyData.depthAll]
  decide +kernel
theorem two_eqv (j : Nat) : PyData.eqv (.tuple [.str "text", .int 0, .int (j : Nat)]) (.tuple [.str "text", .int 0, .int (j : Nat)]) = true := by
  simp [PyData.eqv, PyData.eqvAll]
theorem txt_dp {K : PySem.W.Frag} {H : Hp} (j : Nat) : DpAll K H [.str "text", .int 0, .int (j : Nat)] [.str "text", .int 0, .int (j : Nat)] := .cons (.str _) (.cons (.int _) (.cons (.int _) .nil))
/-- one text asked and told, as the law tells it -/
abbrev uOne (X : Cx) (T : List (Addr × Str)) (CB : Addr) : TS := fun D σ H => ∃ (n m : Nat) (fA wl lo : Addr) (wants : List (Option Str)) (kd : Bool) (os : List Str),
  σ[5]? = some (some (.int (n : Nat))) ∧ σ[6]? = some (some (.int (m : Nat))) ∧ σ[10]? = some (some (.ref wl)) ∧ σ[11]? = some (some (.ref fA)) ∧ σ[18]? = some (some (.ref lo)) ∧ H wl = some (.lst (wants.map wantV)) ∧ H lo = some (.lst (os.map V.str)) ∧ OkW os ∧ wants.length ≤ 100 ∧ AskAt X CB H fA n m wants kd ∧ Tabs T H ∧ 19 ≤ σ.length ∧
  ∀ a b H', LStep T H H' → D.nx ((σ.set 13 (some a)).set 14 (some b)) H'
section
variable {P : Program} {w : World} {K : PySem.W.Frag} {mg : Str → Option Value} {base : Heap} {f cL tP : Addr} {A : Around} {outer : List Env} {s : Shared} {H0 : Hp} {E0 : XK}
theorem blk_one (L : LD P w K mg base cL tP) (hr : Room 9 (XL P w K mg base f cL A outer s H0 E0).A) : PSs (XL P w K mg base f cL A outer s H0 E0) bOne (uOne (XL P w K mg base f cL A outer s H0 E0) (TL_ tP) L.CB) := by
  have N := L.N
  have hu : (XL P w K mg base f cL A outer s H0 E0).A.units + 64 < cLine := hr.units
  refine pss_of (pss_cons (ps_par (i := 13) (j := 14) rfl scL.nd rfl rfl (by decide) rfl rfl (pa_cons (pe_heard (i := 18) N L.H_ L.mgH L.bH L.T L.TB hr (by decide +kernel) rfl rfl rfl (by decide +kernel) (by decide +kernel) rfl)
      (pa_cons (pe_call L.due.ok (hr.mono (by decide)) rfl L.due.mg_ L.due.kp L.due.b .nil pass0 (pa_cons (pe_split (pe_join pe_str (pv 18) (by rfl) (by rfl) rfl) pe_str) (pa_cons (pv 10) pa_nil))) pa_nil)) (by rfl))
    (pss_one (ps_if (PW.pt (pw_or (pt_cmpR op_ne (pe_isT (K := K) (by rfl) N.isinstance (by rfl) N.list bo_list (by decide) (by decide) (pv 14)) (pe_isT (K := K) (by rfl) N.isinstance (by rfl) N.list bo_list (by decide) (by decide) (pv 13)) (nomark _))
        (pw_or1 (PW.pt (pw_and (pt_not (pt_val (pe_isT (K := K) (by rfl) N.isinstance (by rfl) N.list bo_list (by decide) (by decide) (pv 14)))) (pw_and1 (pt_cmpR (op_neD hu) (pv 13) (pv 14) (nomark _)))))))) pss_dead pss_nil))) ?_
  rintro D σ H ⟨n, m, fA, wl, lo, wants, kd, os, h5, h6, h10, h11, h18, hwl, hlo, ok, hwn, ha, ht, hlen, k⟩
  obtain ⟨t, et⟩ : ∃ t, Txt.join " " os = t := ⟨_, rfl⟩
  have hjoin : ∀ (H' : Hp) (Q : VK), Keep H H' → Q (.str t) H' → tJ K 18 σ H' Q := fun H' Q kk q => join_read (K := K) h18 (kk.strs hlo) ok (by rw [et]; exact q)
  have tl1 : t.length ≤ 1000000 := et ▸ ok.text
  have hw : ∀ y ∈ Txt.split t " ", y.length ≤ 1000000 := fun y hy => Nat.le_trans (split_short blank_ne blank_k y hy) tl1
  have dueR : ∀ (H1 : Hp) (Q : List V → Hp → Prop), LStep (TL_ tP) H H1 → (∀ j, fullW (Txt.split t " ") wants = .inl j → ∀ a H2, Same H1 H2 → H2 a = some (.tup [.str "text", .int 0, .int (j : Nat)]) → Q [.ref a] H2) → (∀ fs, fullW (Txt.split t " ") wants = .inr fs → ∀ a us H2, Same H1 H2 → H2 a = some (.lst us) → Q [.ref a] H2) →
      (tCons (tCall spDue [] L2.E0 (tCons (tM1 (fun x xs H Q => ∃ a b, x = V.str a ∧ xs = [V.str b] ∧ (b.length == 0) = false ∧ a.length + 2 ≤ sizeLine ∧ rNewStrs (Txt.split a b) H Q) (tJ K 18) (tC (V.str " "))) (tCons (tVar 10) tNil))) tNil) σ H1 Q := by
    intro H1 Q l kb ko
    simp only [tCons, tNil, tCall]
    unfold tM1
    refine hjoin H1 _ l.keep ?_
    refine ⟨⟨_, rfl⟩, t, _, rfl, rfl, blank_l, Nat.le_trans (Nat.add_le_add_right tl1 2) (by decide), fun p hp => ?_⟩
    have s0 := same_upd (o := .lst ((Txt.split t " ").map V.str)) hp
    refine ⟨_, h10, p, wl, _, wants, rfl, upd_same, s0 _ _ (l.keep.wants hwl), hw, hwn, fun j ej H' a s' ea => ?_, fun fs ef H' a us s' na ea fr => ?_⟩
    · exact kb j ej a H' (s0.trans s') ea
    · exact ko fs ef a us H' (s0.trans s') ea
  have fin : ∀ (a b : V) (H' : Hp), LStep (TL_ tP) H H' → tNext D ((σ.set 13 (some a)).set 14 (some b)) H' := k
  have e14 : ∀ a b : V, ((σ.set 13 (some a)).set 14 (some b))[14]? = some (some b) := fun a b => List.getElem?_set_self (by rw [List.length_set]; omega)
  have e13 : ∀ a b : V, ((σ.set 13 (some a)).set 14 (some b))[13]? = some (some a) := fun a b => (List.getElem?_set_ne (by decide)).trans (List.getElem?_set_self (by omega))
  refine heard_read (i := 18) ht ha h5 h6 h11 h18 hlo ok (fun j ej a H1 l1 ea => ?_) (fun fs ef a v H1 l1 ea sh => ?_)
  · rw [et] at ej
    refine dueR H1 _ l1 (fun j2 ej2 b H2 s2 eb => ?_) fun fs ef => (by rw [ej] at ef; cases ef)
    have ej2 : j2 = j := by rw [ej] at ej2; exact (Sum.inl.inj ej2).symm
    subst ej2
    have ea := s2 _ _ ea
    refine ⟨_, _, rfl, ?_⟩
    refine ⟨_, e14 _ _, _, _, _, _, _, rfl, .ty _, .base (.tup eb), kit_tup_list, _, e13 _ _, _, _, _, _, _, rfl, .ty _, .base (.tup ea), kit_tup_list, rfl, _, rfl, iteF ?_⟩
    refine ⟨_, e14 _ _, _, _, _, _, _, rfl, .ty _, .base (.tup eb), kit_tup_list, false, rfl, iteT ?_⟩
    refine ⟨_, e13 _ _, _, e14 _ _, _, _, .tup (SqT.of ea) (txt_dp j2), .tup (SqT.of eb) (txt_dp j2), two_shaped j2, two_shaped j2, _, rfl, ?_⟩
    rw [two_eqv]
    exact iteF (k _ _ _ (l1.same s2))
  · rw [et] at ef
    refine dueR H1 _ l1 (fun j2 ej2 => (by rw [ef] at ej2; cases ej2)) fun fs ef b us H2 s2 eb => ?_
    have ea := s2 _ _ ea
    refine ⟨_, _, rfl, ?_⟩
    refine ⟨_, e14 _ _, _, _, _, _, _, rfl, .ty _, .base (.lst eb), kit_list_list, _, e13 _ _, _, _, _, _, _, rfl, .ty _, .base (.lst ea), kit_list_list, rfl, _, rfl, iteF ?_⟩
    refine ⟨_, e14 _ _, _, _, _, _, _, rfl, .ty _, .base (.lst eb), kit_list_list, true, rfl, iteF ?_⟩
    exact k _ _ _ (l1.same s2)
end
end C94
end

section
set_option Elab.async false
set_option linter.all false
set_option maxRecDepth 100000
set_option maxHeartbeats 4000000
namespace C94
open PySem L2 PyProof.Rows TL LamX NdefX
open SX (S)
open S9
/-! ### frames -/
/-- only the slots is were written -/
def Frm (is : List Nat) (σ σ' : L2.St) : Prop := σ'.length = σ.length ∧ ∀ i, i ∉ is → σ'[i]? = σ[i]?
theorem Frm.refl {is : List Nat} (σ : L2.St) : Frm is σ σ := ⟨rfl, fun _ _ => rfl⟩
theorem Frm.trans {is : List Nat} {σ σ' σ'' : L2.St} (a : Frm is σ σ') (b : Frm is σ' σ'') : Frm is σ σ'' := ⟨b.1.trans a.1, fun i h => (b.2 i h).trans (a.2 i h)⟩
theorem Frm.mono {is js : List Nat} {σ σ' : L2.St} (a : Frm is σ σ') (h : ∀ i, i ∈ is → i ∈ js) : Frm js σ σ' := ⟨a.1, fun i n => a.2 i fun m => n (h i m)⟩
theorem Frm.set {is : List Nat} {σ σ' : L2.St} (a : Frm is σ σ') (i : Nat) (v : Option V) (h : i ∈ is) : Frm is σ (σ'.set i v) := ⟨by rw [List.length_set]; exact a.1, fun j n => (List.getElem?_set_ne fun e : i = j => n (by rw [← e]; exact h)).trans (a.2 j n)⟩
theorem Frm.at {is : List Nat} {σ σ' : L2.St} (a : Frm is σ σ') {i : Nat} {v : Option (Option V)} (e : σ[i]? = v) (n : i ∉ is) : σ'[i]? = v := (a.2 i n).trans e
theorem at_set {σ : L2.St} {i : Nat} {v : Option V} (h : i < σ.length) : (σ.set i v)[i]? = some v := List.getElem?_set_self h
theorem at_set' {σ : L2.St} {i j : Nat} {v : Option V} {u : Option (Option V)} (e : σ[i]? = u) (h : j ≠ i) : (σ.set j v)[i]? = u := (List.getElem?_set_ne h).trans e
/-- a list to pick from -/
def OkL (l : List Str) : Prop := l ≠ [] ∧ l.length < 1000 ∧ ∀ y ∈ l, y.length ≤ 1000
/-- what a turn is about -/
structure LP where
  pen : Addr
  cl : Addr
  wr : Addr
  fi : Addr
  wrL : List Str
  fiL : List Str
  n : Nat
  m : Nat
/-- what one of its two askings is about -/
structure AP where
  wl : Addr
  fA : Addr
  wo : Addr
  wants : List (Option Str)
  kd : Bool
  ws : List Str
structure TurnAt (T : List (Addr × Str)) (p : LP) (σ : L2.St) (H : Hp) (k : Nat) : Prop where
  s1 : σ[1]? = some (some (.ref p.pen))
  s2 : σ[2]? = some (some (.ref p.wr))
  s3 : σ[3]? = some (some (.ref p.fi))
  s5 : σ[5]? = some (some (.int (p.n : Nat)))
  s6 : σ[6]? = some (some (.int (p.m : Nat)))
  lb : LB T p.pen p.cl p.wr p.fi p.wrL p.fiL H k
  ow : OkL p.wrL
  of : OkL p.fiL
  len : σ.length = 20
structure OneAt (X : Cx) (T : List (Addr × Str)) (CB : Addr) (p : LP) (q : AP) (σ : L2.St) (H : Hp) (k : Nat) : Prop where
  t : TurnAt T p σ H k
  s10 : σ[10]? = some (some (.ref q.wl))
  s11 : σ[11]? = some (some (.ref q.fA))
  s12 : σ[12]? = some (some (.ref q.wo))
  hwl : H q.wl = some (.lst (q.wants.map wantV))
  hwo : H q.wo = some (.lst (q.ws.map V.str))
  ha : AskAt X CB H q.fA p.n p.m q.wants q.kd
  lw : q.wants.length ≤ 12
  lo : q.ws.length ≤ 12
  lo' : ∀ y ∈ q.ws, y.length ≤ 1000
theorem TurnAt.move {T : List (Addr × Str)} {p : LP} {σ σ' : L2.St} {H H' : Hp} {k k' : Nat} {is : List Nat} (o : TurnAt T p σ H k) (f : Frm is σ σ') (hi : (is.all fun i => decide (i ∉ [1, 2, 3, 5, 6])) = true) (lb : LB T p.pen p.cl p.wr p.fi p.wrL p.fiL H' k') : TurnAt T p σ' H' k' := by
  have h : ∀ i, i ∈ [1, 2, 3, 5, 6] → i ∉ is := fun i hi' hm => of_decide_eq_true (List.all_eq_true.mp hi i hm) hi'
  exact ⟨f.at o.s1 (h 1 (by decide)), f.at o.s2 (h 2 (by decide)), f.at o.s3 (h 3 (by decide)), f.at o.s5 (h 5 (by decide)), f.at o.s6 (h 6 (by decide)), lb, o.ow, o.of, f.1.trans o.len⟩
theorem OneAt.move {X : Cx} {T : List (Addr × Str)} {CB : Addr} {p : LP} {q : AP} {σ σ' : L2.St} {H H' : Hp} {k k' : Nat} {is : List Nat} (o : OneAt X T CB p q σ H k) (f : Frm is σ σ') (hi : (is.all fun i => decide (i ∉ [1, 2, 3, 5, 6, 10, 11, 12])) = true) (kk : Keep H H') (lb : LB T p.pen p.cl p.wr p.fi p.wrL p.fiL H' k') : OneAt X T CB p q σ' H' k' := by
  have h : ∀ i, i ∈ [1, 2, 3, 5, 6, 10, 11, 12] → i ∉ is := fun i hi' hm => of_decide_eq_true (List.all_eq_true.mp hi i hm) hi'
  refine ⟨o.t.move f (List.all_eq_true.mpr fun i hm => decide_eq_true fun z => h i (List.Subset.trans (l₂ := [1, 2, 3, 5, 6]) (fun _ x => x) (by decide) z) hm) lb, f.at o.s10 (h 10 (by decide)), f.at o.s11 (h 11 (by decide)), f.at o.s12 (h 12 (by decide)), kk.wants o.hwl, kk.strs o.hwo, o.ha.keep kk, o.lw, o.lo, o.lo'⟩
theorem Keep.five {H H' : Hp} (k : Keep H H') {a x y : Addr} {xs : List V} (e : H a = some (.lst (.ref x :: .ref y :: xs))) : H' a = some (.lst (.ref x :: .ref y :: xs)) := k _ _ (fun ⟨c, a, r, z⟩ => by have := (List.cons.inj (List.cons.inj (HO.lst.inj z)).2).1; cases this) (fun ps z => by cases z) e
/-! ### lists of words that are made on the way -/
/-- te makes a list of c words at most -/
def RL (te : TE) (σ : L2.St) (I J : Hp → Prop) (c : Nat) : Prop := ∀ H1 Q, I H1 → (∀ (a : Addr) (os : List Str) (H2 : Hp), Keep H1 H2 → J H2 → H2 a = some (.lst (os.map V.str)) → os.length ≤ c → (∀ y ∈ os, y.length ≤ 1000) → Q (.ref a) H2) → te σ H1 Q
theorem RL.cat {ta tb : TE} {σ : L2.St} {I J L : Hp → Prop} {c d : Nat} (a : RL ta σ I J c) (b : RL tb σ J L d) (st : ∀ H H', Same H H' → L H → L H') (hc : c + d ≤ 50) : RL (tOp rCat ta tb) σ I L (c + d) := by
  intro H1 Q i k
  refine a H1 _ i fun x os H2 k2 j ex lx wx => b H2 _ j fun y us H3 k3 l ey ly wy => ?_
  refine ⟨x, y, _, _, rfl, rfl, k3.strs ex, ey, ?_, fun p hp => ?_⟩
  · rw [List.length_map, List.length_map]
    exact Nat.le_trans (Nat.add_le_add lx ly) (Nat.le_trans hc (by decide))
  · have s := same_upd (o := .lst (os.map V.str ++ us.map V.str)) hp
    refine k p (os ++ us) _ ((k2.trans k3).trans (Keep.of s)) (st _ _ s l) ?_ ?_ fun z hz => ?_
    · rw [upd_same, List.map_append]
    · rw [List.length_append]
      omega
    · rcases List.mem_append.mp hz with h | h
      · exact wx z h
      · exact wy z h
theorem cut_strs (ws : List Str) (lo hi : Option Int) : ∃ os : List Str, cutV (ws.map V.str) lo hi = os.map V.str ∧ os.length ≤ ws.length ∧ ∀ y ∈ os, y ∈ ws := by
  refine ⟨(ws.drop (HT.sIx (ws.map V.str).length 0 lo)).take (HT.sIx (ws.map V.str).length (ws.map V.str).length hi - HT.sIx (ws.map V.str).length 0 lo), ?_, ?_, fun y hy => List.mem_of_mem_drop (List.mem_of_mem_take hy)⟩
  · unfold cutV
    rw [List.map_take, List.map_drop]
  · rw [List.length_take, List.length_drop]
    omega
section
variable {X : Cx} {T : List (Addr × Str)} {CB : Addr} {p : LP} {q : AP} {K : PySem.W.Frag} {σ : L2.St}
/-- a piece of the words -/
theorem rl_cut {I : Hp → Prop} {tl th : TO} {lo hi : Option Int} (s12 : σ[12]? = some (some (.ref q.wo))) (hw : ∀ H, I H → H q.wo = some (.lst (q.ws.map V.str))) (st : ∀ H H', Same H H' → I H → I H') (lq : q.ws.length ≤ 12) (lo' : ∀ y ∈ q.ws, y.length ≤ 1000)
    (hl : ∀ H (Q : Option Int → Hp → Prop), Q lo H → tl σ H Q) (hh : ∀ H (Q : Option Int → Hp → Prop), Q hi H → th σ H Q) : RL (L2.tSl (rSlL K) (tVar 12) tl th) σ I I 12 := by
  intro H1 Q i k
  refine ⟨_, s12, hl _ _ (hh _ _ ⟨_, _, rfl, SqL.of (hw _ i), fun a ha => ?_⟩)⟩
  obtain ⟨os, e, l1, l2⟩ := cut_strs q.ws lo hi
  have s := same_upd (o := .lst (cutV (q.ws.map V.str) lo hi)) ha
  exact k a os _ (Keep.of s) (st _ _ s i) (by rw [upd_same, e]) (Nat.le_trans l1 lq) fun y hy => lo' y (l2 y hy)
/-- [x], x a word -/
theorem rl_one {I J : Hp → Prop} {te : TE} (h : ∀ H1 Q, I H1 → (∀ (y : Str) H2, Keep H1 H2 → J H2 → y.length ≤ 1000 → Q (.str y) H2) → te σ H1 Q) (st : ∀ H H', Same H H' → J H → J H') : RL (tLst (tCons te tNil)) σ I J 1 := by
  intro H1 Q i k
  refine h H1 _ i fun y H2 k2 j ly => ⟨by show 1 ≤ sizeLine; decide, fun a ha => ?_⟩
  have s := same_upd (o := .lst [V.str y]) ha
  exact k a [y] _ (k2.trans (Keep.of s)) (st _ _ s j) (by rw [upd_same]; rfl) (Nat.le_refl 1) fun z hz => by rw [List.mem_singleton.mp hz]; exact ly
end
end C94
end

section
set_option Elab.async false
set_option linter.all false
set_option maxRecDepth 100000
set_option maxHeartbeats 4000000
namespace C94
open PySem L2 PyProof.Rows TL LamX NdefX
open SX (S)
open S9
abbrev uAt (X : Cx) (T : List (Addr × Str)) (CB : Addr) : TS := fun D σ H => ∃ (p : LP) (q : AP) (k i : Nat), OneAt X T CB p q σ H k ∧ k ≤ 9000 ∧ σ[15]? = some (some (.int (i : Nat))) ∧
  ∀ σ' H', Frm [13, 14, 16, 17, 18] σ σ' → Keep H H' → LB T p.pen p.cl p.wr p.fi p.wrL p.fiL H' (k + 2) → D.nx σ' H'
theorem rl_cons {te : TE} {tr : TA} {σ : L2.St} {I J : Hp → Prop} {c : Nat} {H1 : Hp} {Q : List V → Hp → Prop} (h : RL te σ I J c) (i : I H1) (k : ∀ (a : Addr) (os : List Str) (H2 : Hp), Keep H1 H2 → J H2 → H2 a = some (.lst (os.map V.str)) → os.length ≤ c → (∀ y ∈ os, y.length ≤ 1000) → tr σ H2 fun xs H3 => Q (.ref a :: xs) H3) : tCons te tr σ H1 Q := h H1 _ i k
theorem name_nx {i : Nat} {v : V} {σ : L2.St} {H : Hp} {Q : L2.St → Hp → Prop} (h : Q (σ.set i (some v)) H) : gName i v σ H Q := h
theorem seq_asg {te : TE} {g : TG} {r : TS} {D : Ends} {σ : L2.St} {H : Hp} (h : te σ H fun v H1 => g v σ H1 (r D)) : tSeq (tAsg te g) r D σ H := h
section
variable {P : Program} {w : World} {K : PySem.W.Frag} {mg : Str → Option Value} {base : Heap} {f cL tP : Addr} {A : Around} {outer : List Env} {s : Shared} {H0 : Hp} {E0 : XK}
theorem blk_at (L : LD P w K mg base cL tP) (hr : Room 9 (XL P w K mg base f cL A outer s H0 E0).A) : PSs (XL P w K mg base f cL A outer s H0 E0) bAt (uAt (XL P w K mg base f cL A outer s H0 E0) (TL_ tP) L.CB) := by
  have N := L.N
  refine pss_of (pss_cons (ps_set (i := 16) scL.nd rfl (Or.inl rfl) (pe_call L.pick.ok (hr.mono (by decide)) rfl L.pick.mg_ L.pick.kp L.pick.b .nil pass0 (pa_cons (pv 1) (pa_cons (pv 2) pa_nil))))
    (pss_cons (ps_set (i := 17) scL.nd rfl (Or.inl rfl) (pe_lst (pa_cons (pe_op op_cat (pe_op op_cat (pe_slice sl_list (pv 12) po_none (po_some (pv 15))) (pe_lst (pa_cons (pv 16) pa_nil))) (pe_slice sl_list (pv 12) (po_some (pe_op op_add (pv 15) pe_int)) po_none))
        (pa_cons (pe_op op_cat (pe_op op_cat (pe_slice sl_list (pv 12) po_none (po_some (pv 15))) (pe_lst (pa_cons (pv 16) pa_nil))) (pe_slice sl_list (pv 12) (po_some (pv 15)) po_none))
        (pa_cons (pe_slice sl_list (pv 12) po_none (po_some (pv 15)))
        (pa_cons (pe_op op_cat (pe_slice sl_list (pv 12) po_none (po_some (pv 15))) (pe_slice sl_list (pv 12) (po_some (pe_op op_add (pv 15) pe_int)) po_none))
        (pa_cons (pe_op op_cat (pe_op op_cat (pe_slice sl_list (pv 12) po_none (po_some (pv 15))) (pe_lst (pa_cons (pe_call L.pick.ok (hr.mono (by decide)) rfl L.pick.mg_ L.pick.kp L.pick.b .nil pass0 (pa_cons (pv 1) (pa_cons (pv 3) pa_nil))) pa_nil))) (pe_slice sl_list (pv 12) (po_some (pv 15)) po_none)) pa_nil)))))))
    (pss_one (ps_for PassesOwn.never rfl (pi_list (pv 17)) (pg_name (i := 18) scL.nd rfl (Or.inr rfl)) (blk_one L hr))))) ?_
  rintro D σ H ⟨p, q, k, i, o, hk, h15, kk⟩
  refine ⟨_, o.t.s1, _, o.t.s2, p.pen, p.cl, p.wr, _, k, rfl, o.t.lb.wr, o.t.lb.wr_ne, fun z => o.t.ow.1 (List.map_eq_nil_iff.mp z), by rw [List.length_map]; exact o.t.ow.2.1, by omega, o.t.lb.pen, fun v H1 hv b1 pe1 => ?_⟩
  obtain ⟨odd, hodd, rfl⟩ := List.mem_map.mp hv
  have K1 : Keep H H1 := Keep.draw o.t.lb.pen b1
  have L1 := o.t.lb.draw b1 pe1
  have f1 : Frm [13, 14, 16, 17, 18] σ (σ.set 16 (some (V.str odd))) := (Frm.refl σ).set 16 _ (by decide)
  have o1 := o.move f1 (by decide) K1 L1
  have h16 : (σ.set 16 (some (V.str odd)))[16]? = some (some (V.str odd)) := at_set (by rw [o.t.len]; decide)
  have h15 := f1.at h15 (by decide)
  refine name_nx ?_
  dsimp only
  generalize σ.set 16 (some (V.str odd)) = σ1 at f1 o1 h16 h15 ⊢
  have st1 : ∀ Ha Hb, Same Ha Hb → (Keep H Ha ∧ LB (TL_ tP) p.pen p.cl p.wr p.fi p.wrL p.fiL Ha (k + 1)) → (Keep H Hb ∧ LB (TL_ tP) p.pen p.cl p.wr p.fi p.wrL p.fiL Hb (k + 1)) := fun Ha Hb s h => ⟨h.1.trans (Keep.of s), h.2.same s⟩
  have st2 : ∀ Ha Hb, Same Ha Hb → (Keep H Ha ∧ LB (TL_ tP) p.pen p.cl p.wr p.fi p.wrL p.fiL Ha (k + 2)) → (Keep H Hb ∧ LB (TL_ tP) p.pen p.cl p.wr p.fi p.wrL p.fiL Hb (k + 2)) := fun Ha Hb s h => ⟨h.1.trans (Keep.of s), h.2.same s⟩
  have one1 : RL (tLst (tCons (tVar 16) tNil)) σ1 (fun Ha => Keep H Ha ∧ LB (TL_ tP) p.pen p.cl p.wr p.fi p.wrL p.fiL Ha (k + 1)) (fun Ha => Keep H Ha ∧ LB (TL_ tP) p.pen p.cl p.wr p.fi p.wrL p.fiL Ha (k + 1)) 1 :=
    rl_one (fun Ha Q i k => ⟨_, h16, k odd Ha (Keep.refl _) i (o.t.ow.2.2 _ hodd)⟩) st1
  have one2 : RL (tLst (tCons (tCall spPick [] L2.E0 (tCons (tVar 1) (tCons (tVar 3) tNil))) tNil)) σ1 (fun Ha => Keep H Ha ∧ LB (TL_ tP) p.pen p.cl p.wr p.fi p.wrL p.fiL Ha (k + 1)) (fun Ha => Keep H Ha ∧ LB (TL_ tP) p.pen p.cl p.wr p.fi p.wrL p.fiL Ha (k + 2)) 1 :=
    rl_one (fun Ha Q i kq => ⟨_, o1.t.s1, _, o1.t.s3, p.pen, p.cl, p.fi, _, k + 1, rfl, i.2.fi, i.2.fi_ne, fun z => o.t.of.1 (List.map_eq_nil_iff.mp z), by rw [List.length_map]; exact o.t.of.2.1, by omega, i.2.pen, fun v H2 hv b2 pe2 => by
      obtain ⟨y, hy, rfl⟩ := List.mem_map.mp hv
      exact kq y H2 (Keep.draw i.2.pen b2) ⟨i.1.trans (Keep.draw i.2.pen b2), i.2.draw b2 pe2⟩ (o.t.of.2.2 _ hy)⟩) st2
  have low : ∀ H (Q : Option Int → Hp → Prop), Q none H → tNoPart σ1 H Q := fun H Q q => q
  have mid : ∀ H (Q : Option Int → Hp → Prop), Q (some (i : Int)) H → (tPart (tVar 15)) σ1 H Q := fun H Q q => ⟨_, h15, _, rfl, q⟩
  have mid1 : ∀ H (Q : Option Int → Hp → Prop), Q (some ((i : Int) + 1)) H → (tPart (tOp (rI0 fun i j => V.int (i + j)) (tVar 15) (tC (V.int 1)))) σ1 H Q := fun H Q q => ⟨_, h15, _, _, rfl, rfl, _, rfl, q⟩
  have cutA : ∀ {tl th : TO} {lo hi : Option Int}, (∀ H (Q : Option Int → Hp → Prop), Q lo H → tl σ1 H Q) → (∀ H (Q : Option Int → Hp → Prop), Q hi H → th σ1 H Q) → RL (L2.tSl (rSlL K) (tVar 12) tl th) σ1 (fun Ha => Keep H Ha ∧ LB (TL_ tP) p.pen p.cl p.wr p.fi p.wrL p.fiL Ha (k + 1)) (fun Ha => Keep H Ha ∧ LB (TL_ tP) p.pen p.cl p.wr p.fi p.wrL p.fiL Ha (k + 1)) 12 :=
    fun a b => rl_cut (q := q) o1.s12 (fun Ha i => i.1.strs o.hwo) st1 o.lo o.lo' a b
  have cutB : ∀ {tl th : TO} {lo hi : Option Int}, (∀ H (Q : Option Int → Hp → Prop), Q lo H → tl σ1 H Q) → (∀ H (Q : Option Int → Hp → Prop), Q hi H → th σ1 H Q) → RL (L2.tSl (rSlL K) (tVar 12) tl th) σ1 (fun Ha => Keep H Ha ∧ LB (TL_ tP) p.pen p.cl p.wr p.fi p.wrL p.fiL Ha (k + 2)) (fun Ha => Keep H Ha ∧ LB (TL_ tP) p.pen p.cl p.wr p.fi p.wrL p.fiL Ha (k + 2)) 12 :=
    fun a b => rl_cut (q := q) o1.s12 (fun Ha i => i.1.strs o.hwo) st2 o.lo o.lo' a b
  refine seq_asg ?_
  refine rl_cons (((cutA low mid).cat one1 st1 (by decide)).cat (cutA mid1 low) st1 (by decide)) ⟨K1, L1⟩ fun a1 os1 Ha ka ia e1 l1 w1 => ?_
  refine rl_cons (((cutA low mid).cat one1 st1 (by decide)).cat (cutA mid low) st1 (by decide)) ia fun a2 os2 Hb kb ib e2 l2 w2 => ?_
  refine rl_cons (cutA low mid) ib fun a3 os3 Hc kc ic e3 l3 w3 => ?_
  refine rl_cons ((cutA low mid).cat (cutA mid1 low) st1 (by decide)) ic fun a4 os4 Hd kd id e4 l4 w4 => ?_
  refine rl_cons (((cutA low mid).cat one2 st2 (by decide)).cat (cutB mid low) st2 (by decide)) id fun a5 os5 He ke ie e5 l5 w5 => ?_
  refine ⟨by show 5 ≤ sizeLine; decide, fun a17 n17 => ?_⟩
  have s17 := same_upd (o := .lst [.ref a1, .ref a2, .ref a3, .ref a4, .ref a5]) n17
  have e17 : upd He a17 (.lst [.ref a1, .ref a2, .ref a3, .ref a4, .ref a5]) a17 = some (.lst [.ref a1, .ref a2, .ref a3, .ref a4, .ref a5]) := upd_same
  refine name_nx ?_
  show tFor _ _ _ _ _ (upd He a17 (.lst [.ref a1, .ref a2, .ref a3, .ref a4, .ref a5]))
  generalize upd He a17 (.lst [.ref a1, .ref a2, .ref a3, .ref a4, .ref a5]) = H6 at s17 e17 ⊢
  have K6 := Keep.of s17
  have all : ∀ x ∈ [V.ref a1, .ref a2, .ref a3, .ref a4, .ref a5], ∃ (l : Addr) (os : List Str), x = .ref l ∧ H6 l = some (.lst (os.map V.str)) ∧ OkW os := by
    intro x hx
    simp only [List.mem_cons, List.mem_nil_iff, or_false] at hx
    rcases hx with rfl | rfl | rfl | rfl | rfl
    · exact ⟨a1, os1, rfl, ((((kb.trans kc).trans kd).trans ke).trans K6).strs e1, by omega, w1⟩
    · exact ⟨a2, os2, rfl, (((kc.trans kd).trans ke).trans K6).strs e2, by omega, w2⟩
    · exact ⟨a3, os3, rfl, ((kd.trans ke).trans K6).strs e3, by omega, w3⟩
    · exact ⟨a4, os4, rfl, (ke.trans K6).strs e4, by omega, w4⟩
    · exact ⟨a5, os5, rfl, K6.strs e5, by omega, w5⟩
  have i6 := st2 _ _ s17 ie
  have f2 : Frm [13, 14, 16, 17, 18] σ (σ1.set 17 (some (V.ref a17))) := f1.set 17 _ (by decide)
  refine ⟨_, at_set (by rw [o1.t.len]; decide), a17, rfl, ⟨_, SqL.of e17⟩, for_list (K := K) (a := a17) (xs := [V.ref a1, .ref a2, .ref a3, .ref a4, .ref a5]) (fun i σ' H' => Frm [13, 14, 16, 17, 18] σ σ' ∧ Keep H6 H' ∧ LB (TL_ tP) p.pen p.cl p.wr p.fi p.wrL p.fiL H' (k + 2)) ⟨f2, Keep.refl _, i6.2⟩ (fun j σ' H' _ h => SqL.of (h.2.1.five e17)) (fun j x σ' H' hx h => ?_) fun σ' H' h => kk σ' H' h.1 (i6.1.trans h.2.1) h.2.2⟩
  obtain ⟨lo, os, rfl, hlo, okw⟩ := all x (List.mem_of_getElem? hx)
  obtain ⟨f3, k3, b3⟩ := h
  have f4 := f3.set 18 (some (V.ref lo)) (by decide)
  have o3 := o.move f4 (by decide) (i6.1.trans k3) b3
  refine name_nx ⟨p.n, p.m, q.fA, q.wl, lo, q.wants, q.kd, os, o3.t.s5, o3.t.s6, o3.s10, o3.s11, at_set (by rw [f3.1, o.t.len]; decide), o3.hwl, k3.strs hlo, okw, Nat.le_trans o.lw (by decide), o3.ha, b3.tabs, by rw [o3.t.len]; decide, fun a b H'' ls => ?_⟩
  exact ⟨(f4.set 13 _ (by decide)).set 14 _ (by decide), k3.trans ls.keep, b3.step ls⟩
end
end C94
end

section
set_option Elab.async false
set_option linter.all false
set_option maxRecDepth 100000
set_option maxHeartbeats 4000000
namespace C94
open PySem L2 PyProof.Rows TL LamX NdefX
open SX (S)
open S9
/-! ### fine words -/
def GoodF (y : Str) : Prop := (∃ n d, fracOf y = some (n, d)) ∧ y.length ≤ 1000 ∧ 32 ∉ tl y
def GoodW (wants : List (Option Str)) : Prop := ∀ z, some z ∈ wants → z.length ≤ 1000 ∧ 32 ∉ tl z
/-- the word y stands where v is wanted -/
def Mt (v : Option Str) (y : Str) : Prop := (v = none → GoodF y) ∧ ∀ z, v = some z → y = z
def WM (ws : List Str) (wants : List (Option Str)) : Prop := ws.length = wants.length ∧ ∀ (i : Nat) (v : Option Str), wants[i]? = some v → ∃ y : Str, ws[i]? = some y ∧ Mt v y
theorem WM.snoc {ws : List Str} {wants : List (Option Str)} {v : Option Str} {y : Str} (h : WM ws wants) (m : Mt v y) : WM (ws ++ [y]) (wants ++ [v]) := by
  refine ⟨by rw [List.length_append, List.length_append, h.1]; rfl, fun i u e => ?_⟩
  by_cases hi : i < wants.length
  · rw [List.getElem?_append_left hi] at e
    obtain ⟨z, ez, mz⟩ := h.2 i u e
    exact ⟨z, (List.getElem?_append_left (by rw [h.1]; exact hi)).trans ez, mz⟩
  · rw [List.getElem?_append_right (by omega)] at e
    have hz : i - wants.length = 0 := by
      have := (List.getElem?_eq_some_iff.mp e).1
      simp only [List.length_cons, List.length_nil] at this
      omega
    rw [hz] at e
    cases Option.some.inj e
    refine ⟨y, ?_, m⟩
    rw [List.getElem?_append_right (by rw [h.1]; omega), h.1, hz]
    rfl
theorem WM.mem {ws : List Str} {wants : List (Option Str)} (h : WM ws wants) (g : GoodW wants) : ∀ y ∈ ws, y.length ≤ 1000 ∧ 32 ∉ tl y := by
  intro y hy
  obtain ⟨i, hi, e⟩ := List.getElem_of_mem hy
  have hw : i < wants.length := by rw [← h.1]; exact hi
  obtain ⟨z, ez, m⟩ := h.2 i wants[i] (List.getElem?_eq_getElem hw)
  rw [List.getElem?_eq_getElem hi] at ez
  have ez := Option.some.inj ez
  rw [e] at ez
  subst ez
  cases ev : wants[i] with
  | none => exact (m.1 ev).2
  | some v =>
    have := m.2 v ev
    subst this
    exact g y (by rw [← ev]; exact List.getElem_mem hw)
theorem WM.full {ws : List Str} {wants : List (Option Str)} (h : WM ws wants) : ∃ fs, fullW ws wants = .inr fs := by
  have go : ∀ i, i ≤ wants.length → ∃ fs, goW ws 0 (wants.take i) = .inr fs := by
    intro i
    induction i with
    | zero => exact fun _ => ⟨[], rfl⟩
    | succ i ih =>
      intro hi
      obtain ⟨fs, e⟩ := ih (by omega)
      have hv : wants[i]? = some wants[i] := List.getElem?_eq_getElem (by omega)
      obtain ⟨y, ey, m⟩ := h.2 i _ hv
      cases ev : wants[i] with
      | none =>
        obtain ⟨⟨n, d, ef⟩, _⟩ := m.1 ev
        rw [ev] at hv
        exact ⟨_, goW_next e hv (one_ok ey ef)⟩
      | some z =>
        have := m.2 z ev
        subst this
        rw [ev] at hv
        exact ⟨_, goW_next e hv (one_yes ey)⟩
  obtain ⟨fs, e⟩ := go wants.length (Nat.le_refl _)
  rw [List.take_length] at e
  refine ⟨fs ++ [], ?_⟩
  unfold fullW
  rw [if_neg (by rw [h.1]; omega), e]
  rfl
theorem Keep.new {H H' : Hp} {D : Addr} {o : HO} (k : Keep H H') (n : H D = none) : Keep H (upd H' D o) := fun b u f t e => (upd_ne (ne_of_none e n)).trans (k b u f t e)
theorem LB.put {T : List (Addr × Str)} {pen cl wr fi : Addr} {wrL fiL : List Str} {H1 H : Hp} {n m : Nat} {D : Addr} {xs ys : List V} (a : LB T pen cl wr fi wrL fiL H1 n) (nD : H1 D = none) (b : LB T pen cl wr fi wrL fiL H m) (eD : H D = some (.lst xs)) : LB T pen cl wr fi wrL fiL (upd H D (.lst ys)) m := by
  obtain ⟨c0, a0, r0, p1, p2, _⟩ := a.pen
  obtain ⟨c1, a1, r1, q1, q2, q3⟩ := b.pen
  refine ⟨⟨c1, a1, r1, (upd_ne (ne_of_none p1 nD)).trans q1, (upd_ne (ne_of_none p2 nD)).trans q2, q3⟩, (upd_ne (ne_of_none a.wr nD)).trans b.wr, (upd_ne (ne_of_none a.fi nD)).trans b.fi, fun q hq => ?_⟩
  obtain ⟨ps, h1, h2, h3⟩ := b.tabs q hq
  refine ⟨ps, (upd_ne fun z => by rw [z, eD] at h1; cases h1).trans h1, h2, fun pos cv hcv => ?_⟩
  obtain ⟨c, e1, e2⟩ := h3 pos cv hcv
  exact ⟨c, e1, (upd_ne fun z => by rw [z, eD] at e2; unfold CodeO at e2; cases e2).trans e2⟩
theorem yes_of {σ : L2.St} {H : Hp} {Q : Bool → Hp → Prop} (h : Q true H) : tYes σ H Q := h
/-- an element of the new list of words -/
abbrev tWord : TE := tIf (tB (tIsN (tVar 19))) (tCall spPick [] L2.E0 (tCons (tVar 1) (tCons (tVar 3) tNil))) (tVar 19)
abbrev tWords (K : PySem.W.Frag) : TE := tLc (iList K (tVar 10)) (gName 19) tYes tWord [19]
section
variable {T : List (Addr × Str)} {K : PySem.W.Frag}
theorem words_read {p : LP} {wl : Addr} {wants : List (Option Str)} {σ : L2.St} {H : Hp} {k : Nat} {Q : VK} (o : TurnAt T p σ H k) (s10 : σ[10]? = some (some (.ref wl))) (hwl : H wl = some (.lst (wants.map wantV))) (lw : wants.length ≤ 12) (gw : GoodW wants) (gf : ∀ y ∈ p.fiL, GoodF y) (hk : k ≤ 9000)
    (q : ∀ a ws H', Keep H H' → LB T p.pen p.cl p.wr p.fi p.wrL p.fiL H' (k + wants.length) → H' a = some (.lst (ws.map V.str)) → WM ws wants → Q (.ref a) H') : tWords K σ H Q := by
  have G : ∀ H', Keep H H' → SqL K H' wl (wants.map wantV) := fun H' kk => SqL.of (kk.wants hwl)
  refine ⟨_, s10, wl, rfl, ⟨_, SqL.of hwl⟩, fun D nD => lc_it (n := (wants.map wantV).length) (Y := YAt (wants.map wantV)) walk_list
    (fun i H' => ∃ ws : List Str, Keep H H' ∧ LB T p.pen p.cl p.wr p.fi p.wrL p.fiL H' (k + i) ∧ H' D = some (.lst (ws.map V.str)) ∧ WM ws (wants.take i))
    ⟨[], Keep.of (same_upd nD), o.lb.same (same_upd nD), upd_same, rfl, fun i v e => by cases e⟩ (fun i H' _ h => let ⟨_, kk, _⟩ := h; G H' kk) (fun i x H1 H2 hi h y => ?_) fun H' h => ?_⟩
  · obtain ⟨ws, k1, b1, e1, m1⟩ := h
    obtain ⟨rfl, hx⟩ := y
    rw [List.length_map] at hi
    obtain ⟨v, hv, rfl⟩ : ∃ v, wants[i]? = some v ∧ x = wantV v := by
      rw [List.getElem?_map] at hx
      cases e : wants[i]? with
      | none => rw [e] at hx; cases hx
      | some v => rw [e] at hx; exact ⟨v, rfl, (Option.some.inj hx).symm⟩
    have lws : ws.length ≤ 12 := by
      rw [m1.1, List.length_take]
      omega
    have st : wants.take (i + 1) = wants.take i ++ [v] := by
      rw [List.take_add_one, hv]
      rfl
    have e19 : ((wipe σ [19]).set 19 (some (wantV v)))[19]? = some (some (wantV v)) := at_set (by rw [wipe_length, o.len]; decide)
    have f2 : Frm [19] σ ((wipe σ [19]).set 19 (some (wantV v))) := ((Frm.refl σ).set 19 none (by decide)).set 19 _ (by decide)
    refine name_nx ⟨?_, ?_⟩
    · show ((σ.set 19 none).set 19 _).set 19 none = σ.set 19 none
      rw [List.set_set, List.set_set]
    refine yes_of ?_
    rw [if_pos rfl]
    generalize (wipe σ [19]).set 19 (some (wantV v)) = σ2 at e19 f2
    have o2 := o.move f2 (by decide) b1
    have add : ∀ (y : Str) (H4 : Hp), Keep H H4 → LB T p.pen p.cl p.wr p.fi p.wrL p.fiL H4 (k + (i + 1)) → H4 D = some (.lst (ws.map V.str)) → Mt v y → ∃ acc, H4 D = some (.lst acc) ∧ acc.length < sizeLine ∧ ∃ us : List Str, Keep H (upd H4 D (.lst (acc ++ [V.str y]))) ∧ LB T p.pen p.cl p.wr p.fi p.wrL p.fiL (upd H4 D (.lst (acc ++ [V.str y]))) (k + (i + 1)) ∧ upd H4 D (.lst (acc ++ [V.str y])) D = some (.lst (us.map V.str)) ∧ WM us (wants.take (i + 1)) := by
      intro y H4 k4 b4 e4 m4
      refine ⟨_, e4, ?_, ws ++ [y], k4.new nD, LB.put o.lb nD b4 e4, ?_, ?_⟩
      · rw [List.length_map]
        exact Nat.lt_of_le_of_lt lws (by decide)
      · rw [upd_same, List.map_append]
        rfl
      · rw [st]
        exact m1.snoc m4
    cases v with
    | none =>
      refine ⟨_, e19, true, rfl, iteT ⟨_, o2.s1, _, o2.s3, p.pen, p.cl, p.fi, _, k + i, rfl, b1.fi, b1.fi_ne, fun z => o.of.1 (List.map_eq_nil_iff.mp z), by rw [List.length_map]; exact o.of.2.1, by omega, b1.pen, fun x H4 hx b4 pe4 => ?_⟩⟩
      obtain ⟨y, hy, rfl⟩ := List.mem_map.mp hx
      have k4 := Keep.draw b1.pen b4
      exact add y H4 (k1.trans k4) (b1.draw b4 pe4) (k4.strs e1) ⟨fun _ => gf y hy, fun z e => by cases e⟩
    | some z =>
      refine ⟨_, e19, false, rfl, iteF ⟨_, e19, add z H2 k1 (b1.mono (by omega)) e1 ⟨fun e => (by cases e), fun u e => Option.some.inj e⟩⟩⟩
  · obtain ⟨ws, k1, b1, e1, m1⟩ := h
    rw [List.length_map] at b1 m1
    rw [List.take_length] at m1
    exact q D ws H' k1 b1 e1 m1
end
end C94
end

section
set_option Elab.async false
set_option linter.all false
set_option maxRecDepth 100000
set_option maxHeartbeats 4000000
namespace C94
open PySem L2 PyProof.Rows TL LamX NdefX
open SX (S)
open S9
/-- a if c else b, as a test -/
def tIfT (t u v : TT) : TT := fun σ H Q => t σ H fun c H1 => if c = true then u σ H1 Q else v σ H1 Q
theorem pt_ifE {X : Cx} {c a b : Expr} {t u v : TT} {pos : Pos} (hc : PT X c t) (ha : PT X a u) (hb : PT X b v) : PT X (.IfExp c a b pos) (tIfT t u v) := by
  refine ⟨fun pins s σ H Q I h => ?_⟩
  refine isTrue_IfExp (thn (hc.run pins s σ H _ I h) fun d s1 ⟨H1, I1, q1⟩ => ?_)
  cases d with
  | true => exact ha.run pins s1 σ H1 Q I1 q1
  | false => exact hb.run pins s1 σ H1 Q I1 q1
/-! ### fractions as data -/
abbrev frD (f : Fr) : PyData := .tuple [.int f.1, .int f.2]
theorem FrsAt.dp {K : PySem.W.Frag} {H : Hp} : ∀ {us : List V} {fs : List Fr}, FrsAt H us fs → DpAll K H us (fs.map frD)
  | [], [], _ => .nil
  | v :: vs, f :: fs, h => by
    obtain ⟨⟨a, rfl, e⟩, h2⟩ := h
    exact .cons (.tup (SqT.of e) (.cons (.int _) (.cons (.int _) .nil))) (FrsAt.dp h2)
  | [], f :: fs, h => h.elim
  | v :: vs, [], h => h.elim
theorem fr_lay : ∀ fs : List Fr, PyData.canLayAll0 (fs.map frD) = true
  | [] => rfl
  | f :: fs => by
    rw [List.map_cons]
    simp only [PyData.canLayAll0, PyData.canLay0, fr_lay fs, Bool.and_true]
theorem fr_depth : ∀ fs : List Fr, PyData.depthAll (fs.map frD) ≤ 1
  | [] => by decide
  | f :: fs => by
    rw [List.map_cons]
    have := fr_depth fs
    simp only [PyData.depthAll, PyData.depth]
    omega
theorem fr_shaped (fs : List Fr) : SeqAt.shaped (.tuple (fs.map frD)) = true := by
  have := fr_depth fs
  refine Bool.and_eq_true_iff.mpr ⟨?_, decide_eq_true ?_⟩
  · simp only [PyData.canLay0, fr_lay fs]
  · simp only [PyData.depth]
    omega
theorem fr_eqv : ∀ fs : List Fr, PyData.eqvAll (fs.map frD) (fs.map frD) = true
  | [] => rfl
  | f :: fs => by
    rw [List.map_cons]
    simp only [PyData.eqvAll, PyData.eqv, fr_eqv fs, beq_self_eq_true, Bool.and_true]
theorem fr_eqv1 (fs : List Fr) : PyData.eqv (.tuple (fs.map frD)) (.tuple (fs.map frD)) = true := by
  simp only [PyData.eqv, fr_eqv fs]
theorem PtsAt.ts {H : Hp} : ∀ {us : List V} {fss : List (List Fr)}, PtsAt H us fss → ∃ ts : List (Addr × List V), us = ts.map (fun p => V.ref p.1) ∧ (∀ p ∈ ts, H p.1 = some (.tup p.2)) ∧ FrsAt H (ts.flatMap (·.2)) fss.flatten
  | [], [], _ => ⟨[], rfl, (fun p hp => by cases hp), trivial⟩
  | v :: vs, f :: fss, h => by
    obtain ⟨⟨a, us, rfl, e, fr⟩, h2⟩ := h
    obtain ⟨ts, rfl, h3, h4⟩ := PtsAt.ts h2
    refine ⟨(a, us) :: ts, rfl, fun p hp => ?_, ?_⟩
    · rcases List.mem_cons.mp hp with rfl | hp
      · exact e
      · exact h3 p hp
    · rw [List.flatMap_cons, List.flatten_cons]
      exact FrsAt.app fr h4
  | [], f :: fs, h => h.elim
  | v :: vs, [], h => h.elim
theorem goW_len {ws : List Str} : ∀ {wants : List (Option Str)} {k : Nat} {fs : List Fr}, goW ws k wants = .inr fs → fs.length ≤ wants.length := by
  intro wants
  induction wants with
  | nil =>
    intro k fs h
    cases h
    exact Nat.le_refl _
  | cons v r ih =>
    intro k fs h
    have h : andR (oneW ws k v) (goW ws (k + 1) r) = .inr fs := h
    cases e : oneW ws k v with
    | inl i =>
      rw [e] at h
      cases h
    | inr gs =>
      rw [e] at h
      cases e2 : goW ws (k + 1) r with
      | inl i =>
        rw [e2] at h
        cases h
      | inr hs =>
        rw [e2] at h
        have h : gs ++ hs = fs := Sum.inr.inj h
        subst h
        have l1 : gs.length ≤ 1 := by
          unfold oneW at e
          split at e
          · split at e
            · cases e
            · cases Sum.inr.inj e
              exact Nat.le_refl _
          · split at e
            · cases Sum.inr.inj e
              exact Nat.zero_le _
            · cases e
        have l2 := ih e2
        rw [List.length_append, List.length_cons]
        omega
theorem full_len {ws : List Str} {wants : List (Option Str)} {fs : List Fr} (h : fullW ws wants = .inr fs) : fs.length ≤ wants.length := by
  unfold fullW at h
  cases e : goW ws 0 wants with
  | inl j =>
    rw [e] at h
    cases h
  | inr gs =>
    rw [e] at h
    have l := goW_len e
    split at h
    · cases h
    · have h : gs ++ [] = fs := Sum.inr.inj h
      rw [← h, List.append_nil]
      exact l
theorem split_words {ws : List Str} (hne : ws ≠ []) (h : ∀ y ∈ ws, y.length ≤ 1000 ∧ 32 ∉ tl y) : Txt.split (Txt.join " " ws) " " = ws := TL.split_join (s := 32) (S := []) (by decide +kernel) blank_k hne fun p hp => (h p hp).2
def wantD : Option Str → PyData
  | none => .none
  | some z => .str z
theorem want_dp {K : PySem.W.Frag} {H : Hp} : ∀ l : List (Option Str), DpAll K H (l.map wantV) (l.map wantD)
  | [] => .nil
  | none :: l => .cons .non (want_dp l)
  | some z :: l => .cons (.str z) (want_dp l)
theorem sqt_same {K : PySem.W.Frag} {H H' : Hp} {a : Addr} {xs : List V} (h : SqT K H a xs) (s : Same H H') : SqT K H' a xs := h.elim (fun h => .inl (h.elim (fun h => .inl (s _ _ h)) fun ⟨o, h⟩ => .inr ⟨o, s _ _ h⟩)) .inr
theorem seq_if {c : TT} {u r : TS} {D : Ends} {σ : L2.St} {H : Hp} (h1 : ∀ Hf, Same H Hf → r D σ Hf) (h2 : ∀ Q : Bool → Hp → Prop, (∀ Hf, Same H Hf → Q false Hf) → c σ H Q) : tSeq (tIfS c u tNext) r D σ H := h2 _ fun Hf s => iteF (h1 Hf s)
/-- which of the two askings it is -/
def KdOk (kd : Bool) (m : Nat) (wants : List (Option Str)) : Prop := if kd = true then wants.length ≠ m ∧ ∃ r, wants = none :: r else wants.length = m ∨ wants = [some ("." : Str)]
def WantsOk (l : List (Option Str)) : Prop := l.length ≤ 12 ∧ l ≠ [] ∧ GoodW l ∧ SeqAt.shaped (.list (l.map wantD)) = true
abbrev uAsk (X : Cx) (T : List (Addr × Str)) (CB : Addr) : TS := fun D σ H => ∃ (p : LP) (wl fA : Addr) (wants : List (Option Str)) (kd : Bool) (k : Nat), TurnAt T p σ H k ∧ σ[10]? = some (some (.ref wl)) ∧ σ[11]? = some (some (.ref fA)) ∧ H wl = some (.lst (wants.map wantV)) ∧ AskAt X CB H fA p.n p.m wants kd ∧ WantsOk wants ∧ KdOk kd p.m wants ∧ (∀ y ∈ p.fiL, GoodF y) ∧ k ≤ 8000 ∧
  ∀ σ' H', Frm [12, 13, 14, 15, 16, 17, 18] σ σ' → Keep H H' → LB T p.pen p.cl p.wr p.fi p.wrL p.fiL H' (k + 40) → D.nx σ' H'
section
variable {P : Program} {w : World} {K : PySem.W.Frag} {mg : Str → Option Value} {base : Heap} {f cL tP : Addr} {A : Around} {outer : List Env} {s : Shared} {H0 : Hp} {E0 : XK}
theorem blk_ask (L : LD P w K mg base cL tP) (hr : Room 9 (XL P w K mg base f cL A outer s H0 E0).A) : PSs (XL P w K mg base f cL A outer s H0 E0) bAsk (uAsk (XL P w K mg base f cL A outer s H0 E0) (TL_ tP) L.CB) := by
  have N := L.N
  have hu : (XL P w K mg base f cL A outer s H0 E0).A.units + 64 < cLine := hr.units
  refine pss_of (pss_cons (ps_set (i := 12) scL.nd rfl (Or.inr rfl) (pe_lc (own := [("want", 19)]) (g := gName 19) (tt := tYes) (te := tWord) rfl scL.nd (pi_list (pv 10)) (blkOk_by (N := NL) (sc := defScope sLaw) (by decide +kernel)) (fun _ _ _ _ _ => pg_name (i := 19) scL.nd rfl (Or.inl rfl)) (fun _ _ _ _ _ => pts_nil)
      (fun _ _ _ _ _ => pe_ifExp (pt_cmp (pc_isN (pv 19))) (pe_call L.pick.ok (hr.mono (by decide)) rfl L.pick.mg_ L.pick.kp L.pick.b .nil pass0 (pa_cons (pv 1) (pa_cons (pv 3) pa_nil))) (pv 19))))
    (pss_cons (ps_set (i := 13) scL.nd rfl (Or.inl rfl) (pe_heard (i := 12) N L.H_ L.mgH L.bH L.T L.TB hr (by decide +kernel) rfl rfl rfl (by decide +kernel) (by decide +kernel) rfl))
    (pss_cons (ps_set (i := 14) scL.nd rfl (Or.inl rfl) (pe_call L.due.ok (hr.mono (by decide)) rfl L.due.mg_ L.due.kp L.due.b .nil pass0 (pa_cons (pv 12) (pa_cons (pv 10) pa_nil))))
    (pss_cons (ps_if (PW.pt (pw_or (pt_not (pt_val (pe_isT (K := K) (by rfl) N.isinstance (by rfl) N.list bo_list (by decide) (by decide) (pv 13)))) (pw_or (pt_not (pt_val (pe_isT (K := K) (by rfl) N.isinstance (by rfl) N.list bo_list (by decide) (by decide) (pv 14))))
        (pw_or1 (pt_ifE (PW.pt (pw_or (pt_cmpR op_eq (pe_callB call_len_seq (by rfl) N.len bo_len (pa_cons (pv 10) pa_nil)) (pv 6) (nomark _)) (pw_or1 (pt_cmpR (op_eqD hu) (pv 10) (pe_lst (pa_cons pe_str pa_nil)) (nomark _)))))
          (pt_cmpR (op_neD hu) (pe_ix ix_list (pv 13) pe_int (fun _ _ => rfl)) (pe_tupleOf (by rfl) N.tuple (pv 14)) (nomark _))
          (pt_cmpR (op_neD hu) (pe_callB (cr_sumT rfl) (by rfl) N.sum bo_sum (pa_cons (pe_ix ix_list (pv 13) pe_int (fun _ _ => rfl)) (pa_cons (pe_tup pa_nil) pa_nil))) (pe_tupleOf (by rfl) N.tuple (pv 14)) (nomark _))))))) pss_dead pss_nil)
    (pss_one (ps_for PassesOwn.never rfl (pi_range1 rfl N.range (pa_cons (pe_op op_add (pe_callB call_len_seq (by rfl) N.len bo_len (pa_cons (pv 12) pa_nil)) pe_int) pa_nil)) (pg_name (i := 15) scL.nd rfl (Or.inl rfl)) (blk_at L hr))))))) ?_
  rintro D σ H ⟨p, wl, fA, wants, kd, k, o, s10, s11, hwl, ha, wok, kok, gf, hk, kk⟩
  obtain ⟨lw, hne, gw, shw⟩ := wok
  refine seq_asg ?_
  refine words_read (K := K) o s10 hwl lw gw gf (by omega) fun wo ws H1 k1 b1 e1 m1 => ?_
  have f1 : Frm [12, 13, 14, 15, 16, 17, 18] σ (σ.set 12 (some (V.ref wo))) := (Frm.refl σ).set 12 _ (by decide)
  have h12 : (σ.set 12 (some (V.ref wo)))[12]? = some (some (V.ref wo)) := at_set (by rw [o.len]; decide)
  refine name_nx ?_
  generalize σ.set 12 (some (V.ref wo)) = σ1 at f1 h12 ⊢
  have lws : ws.length ≤ 12 := by rw [m1.1]; exact lw
  have good := m1.mem gw
  have okw : OkW ws := ⟨Nat.le_trans lws (by decide), fun y hy => (good y hy).1⟩
  have wne : ws ≠ [] := fun z => hne (List.length_eq_zero_iff.mp (by rw [← m1.1, z]; rfl))
  have sp := split_words wne good
  obtain ⟨fs, hfs⟩ := m1.full
  have lfs := full_len hfs
  have o1 := o.move f1 (by decide) b1
  have ha1 := ha.keep k1
  refine seq_asg ?_
  refine heard_read (i := 12) b1.tabs ha1 o1.s5 o1.s6 (f1.at s11 (by decide)) h12 e1 okw (fun j ej => by rw [sp, hfs] at ej; cases ej) fun fs' ef a v H2 l2 ea sh => ?_
  rw [sp, hfs] at ef
  have ef := Sum.inr.inj ef
  subst ef
  have f2 : Frm [12, 13, 14, 15, 16, 17, 18] σ (σ1.set 13 (some (V.ref a))) := f1.set 13 _ (by decide)
  have h12 : (σ1.set 13 (some (V.ref a)))[12]? = some (some (V.ref wo)) := at_set' h12 (by decide)
  have h13 : (σ1.set 13 (some (V.ref a)))[13]? = some (some (V.ref a)) := at_set (by rw [o1.len]; decide)
  have b2 := b1.step l2
  have k2 := k1.trans l2.keep
  refine name_nx ?_
  generalize σ1.set 13 (some (V.ref a)) = σ2 at f2 h12 h13 ⊢
  have o2 := o.move f2 (by decide) b2
  refine seq_asg ?_
  refine ⟨_, h12, _, f2.at s10 (by decide), wo, wl, ws, wants, rfl, l2.keep.strs e1, k2.wants hwl, fun y hy => Nat.le_trans (good y hy).1 (by decide), Nat.le_trans lw (by decide), fun j ej => (by rw [hfs] at ej; cases ej), fun fs' ef H3 b us s3 nb eb fr => ?_⟩
  rw [hfs] at ef
  have ef := Sum.inr.inj ef
  subst ef
  have f3 : Frm [12, 13, 14, 15, 16, 17, 18] σ (σ2.set 14 (some (V.ref b))) := f2.set 14 _ (by decide)
  have h12 : (σ2.set 14 (some (V.ref b)))[12]? = some (some (V.ref wo)) := at_set' h12 (by decide)
  have h13 : (σ2.set 14 (some (V.ref b)))[13]? = some (some (V.ref a)) := at_set' h13 (by decide)
  have h14 : (σ2.set 14 (some (V.ref b)))[14]? = some (some (V.ref b)) := at_set (by rw [o2.len]; decide)
  have b3 := b2.same s3
  have k3 := k2.trans (Keep.of s3)
  have ea3 := s3 _ _ ea
  have sh3 := sh.keep (TupK.of s3)
  have ewo3 := (Keep.of s3).strs (l2.keep.strs e1)
  have hwl3 := k3.wants hwl
  refine name_nx ?_
  generalize σ2.set 14 (some (V.ref b)) = σ3 at f3 h12 h13 h14 ⊢
  have o3 := o.move f3 (by decide) b3
  have h10 := f3.at s10 (by decide)
  refine seq_if (fun Hf sf => ?_) fun Q q => ?_
  · have bf := b3.same sf
    have kf := k3.trans (Keep.of sf)
    refine ⟨_, h12, wo, _, rfl, .inl (SqL.of ((Keep.of sf).strs ewo3)), _, _, rfl, rfl, _, rfl, ?_, ?_, for_range (n := ((((ws.map V.str).length : Nat) : Int) + 1).toNat) (fun i σ' H' => Frm [13, 14, 15, 16, 17, 18] σ3 σ' ∧ Keep Hf H' ∧ LB (TL_ tP) p.pen p.cl p.wr p.fi p.wrL p.fiL H' (k + wants.length + 2 * i)) ⟨Frm.refl _, Keep.refl _, bf⟩ (fun i σ' H' hi h => ?_) fun σ' H' h => ?_⟩
    · rw [List.length_map]
      omega
    · rw [List.length_map]
      omega
    · obtain ⟨g1, g2, g3⟩ := h
      rw [List.length_map] at hi
      have g4 := g1.set 15 (some (V.int (0 + (i : Nat)))) (by decide)
      have o4 := o3.move g4 (by decide) g3
      refine name_nx ⟨p, ⟨wl, fA, wo, wants, kd, ws⟩, k + wants.length + 2 * i, i, ⟨o4, g4.at h10 (by decide), g4.at (f3.at s11 (by decide)) (by decide), g4.at h12 (by decide), (kf.trans g2).wants hwl, g2.strs ((Keep.of sf).strs ewo3), ha.keep (kf.trans g2), lw, lws, fun y hy => (good y hy).1⟩, by omega, ?_, fun σ'' H'' g5 k5 b5 => ?_⟩
      · rw [at_set (by rw [g1.1, o3.len]; decide), Int.zero_add]
      · exact ⟨g4.trans (g5.mono (by decide)), g2.trans k5, b5.mono (by omega)⟩
    · obtain ⟨g1, g2, g3⟩ := h
      rw [List.length_map] at g3
      exact kk σ' H' (f3.trans (g1.mono (by decide))) (kf.trans g2) (g3.mono (by omega))
  have tail : ∀ (H4 : Hp) (r : Addr) (xs : List V), Same H3 H4 → (∀ H5, Same H4 H5 → SqT K H5 r xs) → FrsAt H4 xs fs → (tThen (tVar 14) (kTup K)) σ3 H4 (fun y H5 => rNeD K (.ref r) y H5 (fun v H6 => ∃ c, v = .bl c ∧ Q c H6)) := fun H4 r xs s4 hq fx => by
    refine ⟨_, h14, .inl ⟨b, us, rfl, SqL.of (s4 _ _ eb), fun y hy => ?_⟩⟩
    have s5 := same_upd (o := .tup us) hy
    refine ⟨_, _, .tup (hq _ s5) (FrsAt.dp (fx.keep (TupK.of s5))), .tup (SqT.of upd_same) (FrsAt.dp (fr.keep (TupK.of (s4.trans s5)))), fr_shaped fs, fr_shaped fs, _, rfl, ?_⟩
    rw [fr_eqv1]
    exact q _ (s4.trans s5)
  refine ⟨_, h13, _, _, _, _, _, rfl, .ty _, .base (.lst ea3), kit_list_list, true, rfl, iteF ?_⟩
  refine ⟨_, h14, _, _, _, _, _, rfl, .ty _, .base (.lst eb), kit_list_list, true, rfl, iteF ?_⟩
  refine ⟨_, h10, wl, _, rfl, .inl (SqL.of hwl3), _, o3.s6, rfl, _, rfl, ?_⟩
  have a0 : atI [v] 0 = some v := rfl
  cases kd with
  | false =>
    obtain ⟨va, vus, rfl, hva, vfr⟩ := sh3
    have vfr : FrsAt H3 vus fs := vfr
    have one : ∀ H4, Same H3 H4 → (tTest (tOp (rNeD K) (tOp (rIxL K) (tVar 13) (tC (.int 0))) (tThen (tVar 14) (kTup K)))) σ3 H4 Q := fun H4 s4 => ⟨_, h13, a, _, _, _, rfl, rfl, SqL.of (s4 _ _ ea3), a0, tail H4 va vus s4 (fun H5 s5 => SqT.of (s5 _ _ (s4 _ _ hva))) (vfr.keep (TupK.of s4))⟩
    refine ite2 (fun _ => iteT (one H3 (Same.refl _))) fun c => ?_
    have kok : wants.length = p.m ∨ wants = [some ("." : Str)] := kok
    have e : wants = [some ("." : Str)] := kok.resolve_left fun z => c (decide_eq_true (by rw [List.length_map, z]))
    refine ⟨_, h10, by show 1 ≤ sizeLine; decide, fun d hd => ⟨_, _, .lst (SqL.of (same_upd hd _ _ hwl3)) (want_dp wants), .lst (SqL.of upd_same) (.cons (.str _) .nil), shw, by decide +kernel, _, rfl, ?_⟩⟩
    have ev : PyData.eqv (.list (wants.map wantD)) (.list [.str "."]) = true := by
      rw [e]
      decide +kernel
    rw [ev]
    exact iteT (one _ (same_upd hd))
  | true =>
    obtain ⟨va, vus, rfl, hva, vpt⟩ := sh3
    obtain ⟨fss, vpt, hfl⟩ : ∃ fss, PtsAt H3 vus fss ∧ fss.flatten = fs := vpt
    obtain ⟨kn, rw_, er⟩ : wants.length ≠ p.m ∧ ∃ r, wants = none :: r := kok
    obtain ⟨ts, rfl, hts, fts⟩ := vpt.ts
    rw [hfl] at fts
    refine ite2 (fun c => ?_) fun _ => ?_
    · have c := of_decide_eq_true c
      rw [List.length_map] at c
      exact absurd (by have := V.int.inj c; omega) kn
    refine ⟨_, h10, by show 1 ≤ sizeLine; decide, fun d hd => ⟨_, _, .lst (SqL.of (same_upd hd _ _ hwl3)) (want_dp wants), .lst (SqL.of upd_same) (.cons (.str _) .nil), shw, by decide +kernel, _, rfl, ?_⟩⟩
    have ev : PyData.eqv (.list (wants.map wantD)) (.list [.str "."]) = false := by
      rw [er]
      rfl
    rw [ev]
    refine iteF ?_
    have sd := same_upd (o := .lst [.str "."]) hd
    refine ⟨_, h13, a, _, _, _, rfl, rfl, SqL.of (sd _ _ ea3), a0, Nat.zero_le _, fun e0 he0 => ?_⟩
    have se := sd.trans (same_upd (o := .tup []) he0)
    refine ⟨va, e0, ts, rfl, SqT.of (se _ _ hva), SqT.of upd_same, fun p hp => SqT.of (se _ _ (hts p hp)), ?_, fun r _ hr => ?_, fun r hr => ?_⟩
    · rw [fts.len]
      exact Nat.le_trans (Nat.le_trans lfs lw) (by decide)
    · exact tail _ r _ se (fun H5 s5 => sqt_same hr s5) (fts.keep (TupK.of se))
    · have s6 := se.trans (same_upd (o := .tup (ts.flatMap (·.2))) hr)
      exact tail _ r _ s6 (fun H5 s5 => SqT.of (s5 _ _ upd_same)) (fts.keep (TupK.of s6))
end
end C94
end

section
set_option Elab.async false
set_option linter.all false
set_option maxRecDepth 100000
set_option maxHeartbeats 4000000
namespace C94
open PySem L2 PyProof.Rows TL LamX NdefX
open SX (S)
open S9
theorem rep_non (n : Nat) : (List.replicate n [V.non]).flatten = (frW n).map wantV := by
  unfold frW
  induction n with
  | zero => rfl
  | succ n ih =>
    rw [List.replicate_succ, List.replicate_succ, List.flatten_cons, ih, List.map_cons]
    rfl
theorem rep_read {σ : L2.St} {H : Hp} {te : TE} {j : Nat} {Q : VK} (hte : ∀ (H' : Hp) (Q' : VK), Q' (.int (j : Nat)) H' → te σ H' Q') (hj : j ≤ 100) (k : ∀ a H', Same H H' → H a = none → H' a = some (.lst ((frW j).map wantV)) → Q (.ref a) H') : tOp rRep (tLst (tCons (tC .non) tNil)) te σ H Q := by
  refine ⟨by show 1 ≤ sizeLine; decide, fun c hc => hte _ _ ⟨c, _, [V.non], rfl, rfl, upd_same, by omega, by omega, ?_, fun p hp => ?_⟩⟩
  · rw [Int.toNat_natCast]
    show 1 * j ≤ sizeLine
    rw [Nat.one_mul]
    exact Nat.le_trans hj (by decide)
  · have s1 := same_upd (o := .lst [V.non]) hc
    have s2 := s1.trans (same_upd (o := .lst ((List.replicate ((j : Nat) : Int).toNat [V.non]).flatten)) hp)
    refine k p _ s2 (s1.free hp) ?_
    rw [upd_same, Int.toNat_natCast, rep_non]
theorem ptN_len (M : Nat) : ∀ n, (ptN M (n + 1)).length = n * (M + 1) + M
  | 0 => by
    show (frW M).length = _
    rw [frW_len]
    omega
  | n + 1 => by
    show (ptN M (n + 1) ++ [some ("," : Str)] ++ frW M).length = _
    rw [List.length_append, List.length_append, ptN_len M n, frW_len, List.length_singleton, Nat.succ_mul]
    omega
/-- the wanted words, told by a test -/
def wantsB (l : List (Option Str)) : Bool := decide (l.length ≤ 12) && !l.isEmpty && (l.all fun v => match v with | none => true | some z => decide (z.length ≤ 1000) && !(tl z).contains 32) && SeqAt.shaped (.list (l.map wantD))
theorem wants_of {l : List (Option Str)} (h : wantsB l = true) : WantsOk l := by
  unfold wantsB at h
  simp only [Bool.and_eq_true, decide_eq_true_eq] at h
  obtain ⟨⟨⟨h1, h2⟩, h3⟩, h4⟩ := h
  refine ⟨h1, (fun z => by rw [z] at h2; cases h2), (fun z hz => ?_), h4⟩
  have q := List.all_eq_true.mp h3 _ hz
  simp only [Bool.and_eq_true, decide_eq_true_eq] at q
  refine ⟨q.1, fun m => ?_⟩
  have := List.contains_iff_mem.mpr m
  rw [this] at q
  exact absurd q.2 (by decide)
theorem pt_wants : ∀ n < 4, ∀ m < 3, 0 < n → wantsB (ptN (1 + m) n) = true := by decide +kernel
theorem vl_wants : ∀ m < 3, wantsB (vlW m) = true := by decide +kernel
theorem pt_kd {n m : Nat} : KdOk true m (ptN (1 + m) (n + 1)) := by
  refine iteT ⟨?_, ?_⟩
  · rw [ptN_len]
    omega
  · have hd : ∀ n, ∃ r, ptN (1 + m) (n + 1) = none :: r := fun n => by
      induction n with
      | zero => exact ⟨frW m, by show frW (1 + m) = _; rw [Nat.add_comm]; rfl⟩
      | succ n ih =>
        obtain ⟨r, e⟩ := ih
        exact ⟨r ++ [some ("," : Str)] ++ frW (1 + m), by show ptN (1 + m) (n + 1) ++ [some ("," : Str)] ++ frW (1 + m) = _; rw [e]; rfl⟩
    exact hd n
theorem vl_kd {m : Nat} : KdOk false m (vlW m) := by
  refine iteF ?_
  unfold vlW
  by_cases h : m = 0
  · subst h
    exact .inr rfl
  · rw [if_neg h]
    exact .inl (frW_len m)
/-- what a turn of the law wants -/
abbrev uTurn (X : Cx) (T : List (Addr × Str)) : TS := fun D σ H => ∃ (pen cl wr fi : Addr) (wrL fiL : List Str) (k : Nat), σ[1]? = some (some (.ref pen)) ∧ σ[2]? = some (some (.ref wr)) ∧ σ[3]? = some (some (.ref fi)) ∧ LB T pen cl wr fi wrL fiL H k ∧ OkL wrL ∧ OkL fiL ∧ (∀ y ∈ fiL, GoodF y) ∧ σ.length = 20 ∧ k ≤ 7000 ∧
  ∀ σ' H', Frm [5, 6, 7, 8, 9, 10, 11, 12, 13, 14, 15, 16, 17, 18] σ σ' → LB T pen cl wr fi wrL fiL H' (k + 100) → D.nx σ' H'
section
variable {P : Program} {w : World} {K : PySem.W.Frag} {mg : Str → Option Value} {base : Heap} {f cL tP : Addr} {A : Around} {outer : List Env} {s : Shared} {H0 : Hp} {E0 : XK}
theorem freeP : ∀ y ∈ lamPS.names, y.2 = .free → (defScope sLaw).names.lookup y.1 = some .cell ∨ (defScope sLaw).names.lookup y.1 = some .free := by decide +kernel
theorem freeV : ∀ y ∈ lamVS.names, y.2 = .free → (defScope sLaw).names.lookup y.1 = some .cell ∨ (defScope sLaw).names.lookup y.1 = some .free := by decide +kernel
theorem slot_eq {σ : L2.St} {i : Nat} {v : Option V} (h : σ[i]? = some v) : NdefX.slotAt σ i = v := by
  unfold NdefX.slotAt
  rw [h]
theorem ask_P (L : LD P w K mg base cL tP) {H : Hp} {fP cP : Addr} {n m : Nat} (h1 : 1 ≤ n) (h3 : n ≤ 3) (hm : m ≤ 2) (hf : H fP = some (LamO fP (lfOf (XL P w K mg base f cL A outer s H0 E0) lamPA lamPB lamPS cP .none))) (hc : H cP = some (CodeO cP qL)) :
    AskAt (XL P w K mg base f cL A outer s H0 E0) L.CB H fP n m (ptN (1 + m) n) true := by
  refine ⟨_, 1, [], ["many", "sliders"], [5, 6], spLamP L.CB, hf, hc, .inl ⟨rfl, rfl⟩, fun ok => Caps.made ok freeP (by decide +kernel) rfl, lok_P L.rp.ok L.rp.mg_ L.rp.kp L.rp.b, fun σ t H1 Q E h5 h6 ht bad ok => ?_⟩
  refine ⟨t, n, m, ?_, rfl, t, n, m, rfl, h1, h3, hm, ht, bad, fun fs ef H' a us fss s' e pts efl _ => ok fs ef H' (.ref a) s' ⟨a, us, rfl, e, iteT ⟨fss, pts, efl⟩⟩⟩
  show [NdefX.slotAt σ 5, NdefX.slotAt σ 6] = _
  rw [slot_eq h5, slot_eq h6]
theorem ask_V (L : LD P w K mg base cL tP) {H : Hp} {fV cV T : Addr} {n m : Nat} (hm : m ≤ 2) (hf : H fV = some (LamO fV (lfOf (XL P w K mg base f cL A outer s H0 E0) lamVA lamVB lamVS cV (.ref T)))) (hc : H cV = some (CodeO cV qL)) (hT : H T = some (.tup [.int 0])) :
    AskAt (XL P w K mg base f cL A outer s H0 E0) L.CB H fV n m (vlW m) false := by
  refine ⟨_, 1, [.int 0], ["sliders"], [6], spLamV L.CB, hf, hc, .inr ⟨T, rfl, hT⟩, fun ok => Caps.made ok freeV (by decide +kernel) rfl, lok_V L.rv.ok L.rv.mg_ L.rv.kp L.rv.b, fun σ t H1 Q E h5 h6 ht bad ok => ?_⟩
  refine ⟨t, m, ?_, rfl, t, m, rfl, hm, ht, bad, fun fs ef H' a us s' e fr => ok fs ef H' (.ref a) s' ⟨a, us, rfl, e, iteF fr⟩⟩
  show [NdefX.slotAt σ 6] = _
  rw [slot_eq h6]
theorem blk_turn (L : LD P w K mg base cL tP) (hr : Room 9 (XL P w K mg base f cL A outer s H0 E0).A) : PSs (XL P w K mg base f cL A outer s H0 E0) bTurn (uTurn (XL P w K mg base f cL A outer s H0 E0) (TL_ tP)) := by
  have N := L.N
  refine pss_of (pss_cons (ps_asg (pe_tup (pa_cons (pe_op op_add pe_int (pe_call L.draw.ok (hr.mono (by decide)) rfl L.draw.mg_ L.draw.kp L.draw.b .nil pass0 (pa_cons (pv 1) (pa_cons pe_int pa_nil)))) (pa_cons (pe_call L.draw.ok (hr.mono (by decide)) rfl L.draw.mg_ L.draw.kp L.draw.b .nil pass0 (pa_cons (pv 1) (pa_cons pe_int pa_nil))) pa_nil)))
      (pg_tup rfl (pgs_cons (pg_name (i := 5) scL.nd rfl (Or.inr rfl)) (pgs_cons (pg_name (i := 6) scL.nd rfl (Or.inr rfl)) pgs_nil))))
    (pss_cons (ps_set (i := 7) scL.nd rfl (Or.inl rfl) (pe_op op_rep (pe_lst (pa_cons pe_non pa_nil)) (pe_op op_add pe_int (pv 6))))
    (pss_cons (ps_for PassesOwn.never rfl (pi_range1 rfl N.range (pa_cons (pe_op op_sub (pv 5) pe_int) pa_nil)) (pg_name (i := 8) scL.nd rfl (Or.inl rfl))
      (pss_one (ps_set (i := 7) scL.nd rfl (Or.inl rfl) (pe_op op_cat (pe_op op_cat (pv 7) (pe_lst (pa_cons pe_str pa_nil))) (pe_op op_rep (pe_lst (pa_cons pe_non pa_nil)) (pe_op op_add pe_int (pv 6)))))))
    (pss_cons (ps_set (i := 9) scL.nd rfl (Or.inl rfl) (pe_lst (pa_cons (pe_tup (pa_cons (pv 7) (pa_cons (pe_lam0 (T := TL_ tP) L.TB rfl (List.mem_singleton.mpr rfl) (fun q hq _ => by rw [List.mem_singleton.mp hq]; rfl) freeP rfl) pa_nil)))
        (pa_cons (pe_tup (pa_cons (pe_ifExp (pt_cmpR op_gt (pv 6) pe_int (nomark _)) (pe_op op_rep (pe_lst (pa_cons pe_non pa_nil)) (pv 6)) (pe_lst (pa_cons pe_str pa_nil))) (pa_cons (pe_lam1 (T := TL_ tP) L.TB rfl (List.mem_singleton.mpr rfl) (fun q hq _ => by rw [List.mem_singleton.mp hq]; rfl) freeV rfl rfl pe_int) pa_nil))) pa_nil))))
    (pss_one (ps_for PassesOwn.never rfl (pi_list (pv 9)) (pg_tup rfl (pgs_cons (pg_name (i := 10) scL.nd rfl (Or.inl rfl)) (pgs_cons (pg_name (i := 11) scL.nd rfl (Or.inr rfl)) pgs_nil))) (blk_ask L hr))))))) ?_
  rintro D σ H ⟨pen, cl, wr, fi, wrL, fiL, k, s1, s2, s3, lb, ow, of, gf, len, hk, kk⟩
  refine seq_asg ?_
  refine ⟨_, s1, pen, cl, 3, k, rfl, by decide, by decide, by omega, lb.pen, fun v1 H1 v10 v13 b1 p1 => ?_⟩
  have lb1 := lb.draw b1 p1
  refine ⟨_, _, rfl, rfl, _, s1, pen, cl, 3, k + 1, rfl, by decide, by decide, by omega, lb1.pen, fun v2 H2 v20 v23 b2 p2 => ?_⟩
  have lb2 := lb1.draw b2 p2
  obtain ⟨n, rfl⟩ : ∃ n : Nat, v1 = n := ⟨v1.toNat, by omega⟩
  obtain ⟨m, rfl⟩ : ∃ m : Nat, v2 = m := ⟨v2.toNat, by omega⟩
  have hn : n < 3 := by omega
  have hm : m < 3 := by omega
  refine ⟨by show 2 ≤ sizeLine; decide, fun t0 ht0 => ⟨t0, _, rfl, SqT.of upd_same, rfl, _, _, rfl, _, _, rfl, rfl, ?_⟩⟩
  have st0 := same_upd (o := .tup [V.int (1 + (n : Int)), .int (m : Int)]) ht0
  have lb3 := lb2.same st0
  have et0 : ((1 + (n : Int)) : Int) = ((1 + n : Nat) : Int) := by omega
  have f1 : Frm [5, 6, 7, 8, 9, 10, 11, 12, 13, 14, 15, 16, 17, 18] σ ((σ.set 5 (some (V.int (1 + (n : Int))))).set 6 (some (V.int (m : Int)))) := ((Frm.refl σ).set 5 _ (by decide)).set 6 _ (by decide)
  have h5 : ((σ.set 5 (some (V.int (1 + (n : Int))))).set 6 (some (V.int (m : Int))))[5]? = some (some (.int ((1 + n : Nat) : Int))) := (at_set' (at_set (by omega)) (by decide)).trans (by rw [et0])
  have h6 : ((σ.set 5 (some (V.int (1 + (n : Int))))).set 6 (some (V.int (m : Int))))[6]? = some (some (.int (m : Nat))) := at_set (by rw [List.length_set]; omega)
  generalize (σ.set 5 (some (V.int (1 + (n : Int))))).set 6 (some (V.int (m : Int))) = σ1 at f1 h5 h6 ⊢
  generalize upd H2 t0 (.tup [V.int (1 + (n : Int)), .int (m : Int)]) = H3 at lb3 ⊢
  have l1 : σ1.length = 20 := f1.1.trans len
  have t1 : TurnAt (TL_ tP) ⟨pen, cl, wr, fi, wrL, fiL, 1 + n, m⟩ σ1 H3 (k + 1 + 1) := ⟨f1.at s1 (by decide), f1.at s2 (by decide), f1.at s3 (by decide), h5, h6, lb3, ow, of, l1⟩
  have m1 : ∀ (σ' : L2.St), σ'[6]? = some (some (.int (m : Nat))) → ∀ (H' : Hp) (Q' : VK), Q' (.int ((1 + m : Nat) : Int)) H' → (tOp (rI0 fun i j => V.int (i + j)) (tC (V.int 1)) (tVar 6)) σ' H' Q' := fun σ' e H' Q' q => ⟨_, e, _, _, rfl, rfl, by
    have : ((1 : Int) + (m : Nat)) = ((1 + m : Nat) : Int) := by omega
    show Q' (V.int ((1 : Int) + (m : Nat))) H'
    rw [this]
    exact q⟩
  refine seq_asg ?_
  refine rep_read (m1 σ1 h6) (by omega) fun a0 H4 s4 na0 ea0 => name_nx ?_
  have h7 : (σ1.set 7 (some (.ref a0)))[7]? = some (some (.ref a0)) := at_set (by omega)
  have f2 : Frm [7, 8] σ1 (σ1.set 7 (some (.ref a0))) := (Frm.refl σ1).set 7 _ (by decide)
  generalize σ1.set 7 (some (.ref a0)) = σ2 at h7 f2 ⊢
  refine ⟨_, f2.at h5 (by decide), _, _, rfl, rfl, _, rfl, by omega, by omega, for_range (n := (((1 + n : Nat) : Int) - 1).toNat) (fun i σ' H' => Frm [7, 8] σ1 σ' ∧ Same H3 H' ∧ ∃ a, σ'[7]? = some (some (.ref a)) ∧ H' a = some (.lst ((ptN (1 + m) (i + 1)).map wantV))) ⟨f2, s4, a0, h7, ea0⟩ (fun i σ' H' hi h => ?_) fun σ3 H5 h => ?_⟩
  · obtain ⟨g1, g2, a, g3, g4⟩ := h
    have g5 := g1.set 8 (some (V.int (0 + (i : Nat)))) (by decide)
    have g6 : (σ'.set 8 (some (V.int (0 + (i : Nat)))))[7]? = some (some (.ref a)) := at_set' g3 (by decide)
    refine name_nx ?_
    generalize σ'.set 8 (some (V.int (0 + (i : Nat)))) = σ'' at g5 g6 ⊢
    have len1 := ptN_len (1 + m) i
    have hi2 : i < n := by omega
    have lm : i * (1 + m + 1) ≤ 2 * 4 := Nat.mul_le_mul (by omega) (by omega)
    refine ⟨_, g6, by show 1 ≤ sizeLine; decide, fun c hc => ⟨a, c, _, _, rfl, rfl, same_upd hc _ _ g4, upd_same, ?_, fun p hp => ?_⟩⟩
    · rw [List.length_map, len1]
      exact Nat.le_trans (show _ + 1 ≤ 20 by omega) (by decide)
    have sc := same_upd (o := .lst [V.str ","]) hc
    have sp := sc.trans (same_upd (o := .lst ((ptN (1 + m) (i + 1)).map wantV ++ [V.str ","])) hp)
    refine rep_read (m1 σ'' (g5.at h6 (by decide))) (by omega) fun b H6 s6 nb eb => ⟨p, b, _, _, rfl, rfl, s6 _ _ upd_same, eb, ?_, fun q hq => ?_⟩
    · rw [List.length_append, List.length_map, List.length_map, len1, frW_len]
      exact Nat.le_trans (show _ + 1 + _ ≤ 40 by omega) (by decide)
    · refine name_nx ⟨g5.set 7 _ (by decide), g2.trans ((sp.trans s6).trans (same_upd hq)), q, at_set (by rw [g5.1]; omega), ?_⟩
      rw [upd_same]
      show _ = some (HO.lst ((ptN (1 + m) (i + 1) ++ [some ("," : Str)] ++ frW (1 + m)).map wantV))
      rw [List.map_append, List.map_append]
      rfl
  obtain ⟨g1, g2, a, g3, g4⟩ := h
  have hn1 : (((1 + n : Nat) : Int) - 1).toNat = n := by omega
  rw [hn1] at g4
  have lb5 := lb3.same g2
  have f3 := f1.trans (g1.mono (by decide))
  have h6 := g1.at h6 (by decide)
  have h5 := g1.at h5 (by decide)
  dsimp only
  refine seq_asg ?_
  refine ⟨_, g3, lb5.tabs, fun fP cP H6 MP => ⟨by show 2 ≤ sizeLine; decide, fun tp htp => ?_⟩⟩
  have kP : Keep H5 (upd H6 tp (.tup [.ref a, .ref fP])) := (Keep.ext MP.ext).trans (Keep.of (same_upd htp))
  have lb6 := (lb5.ext MP.ext MP.tabs).same (same_upd (o := .tup [.ref a, .ref fP]) htp)
  have etp : upd H6 tp (.tup [.ref a, .ref fP]) tp = some (.tup [.ref a, .ref fP]) := upd_same
  have ewp := kP.wants g4
  have eP := (Keep.of (same_upd (o := .tup [.ref a, .ref fP]) htp)).lam MP.at_
  have eC := (Keep.of (same_upd (o := .tup [.ref a, .ref fP]) htp)).code MP.co
  generalize upd H6 tp (.tup [.ref a, .ref fP]) = H7 at kP lb6 etp ewp eP eC ⊢
  have vl : ∀ (Q : VK), (∀ wv H8, Same H7 H8 → H8 wv = some (.lst ((vlW m).map wantV)) → Q (.ref wv) H8) → (tIf (tTest (tOp (rI0 fun i j => V.bl (decide (j < i))) (tVar 6) (tC (.int 0)))) (tOp rRep (tLst (tCons (tC .non) tNil)) (tVar 6)) (tLst (tCons (tC (.str ".")) tNil))) σ3 H7 Q := fun Q q => by
    refine ⟨_, h6, _, _, rfl, rfl, _, rfl, ite2 (fun c => ?_) fun c => ?_⟩
    · have c := of_decide_eq_true c
      refine rep_read (fun H' Q' z => ⟨_, h6, z⟩) (by omega) fun b H8 s8 _ eb => q b H8 s8 ?_
      rw [eb]
      unfold vlW
      rw [if_neg (by omega)]
      rfl
    · have c : m = 0 := by
        have : ¬ ((0 : Int) < (m : Int)) := fun z => c (decide_eq_true z)
        omega
      subst c
      exact ⟨by show 1 ≤ sizeLine; decide, fun b hb => q b _ (same_upd hb) upd_same⟩
  refine vl _ fun wv H8 s8 ewv => ?_
  have lb8 := lb6.same s8
  refine ⟨lb8.tabs, fun tD fV cV H9 ntD MV => ⟨by show 2 ≤ sizeLine; decide, fun tv htv => ⟨by show 2 ≤ sizeLine; decide, fun l hl => ?_⟩⟩⟩
  have sD := same_upd (o := .tup [.int 0]) ntD
  have sv := same_upd (o := .tup [.ref wv, .ref fV]) htv
  have sl := same_upd (o := .lst [.ref tp, .ref tv]) hl
  have kv := (Keep.of sv).trans (Keep.of sl)
  have k9 := ((Keep.of sD).trans (Keep.ext MV.ext)).trans kv
  have k7 := (Keep.of s8).trans k9
  have lbX := (((lb8.same sD).ext MV.ext MV.tabs).same sv).same sl
  have el : upd (upd H9 tv (.tup [.ref wv, .ref fV])) l (.lst [.ref tp, .ref tv]) l = some (.lst [.ref tp, .ref tv]) := upd_same
  have etp := k7.tup _ _ etp
  have etv := sl _ _ (show upd H9 tv (.tup [.ref wv, .ref fV]) tv = some (.tup [.ref wv, .ref fV]) from upd_same)
  have ewp := k7.wants ewp
  have ewv := k9.wants ewv
  have askP := ask_P (n := n + 1) (m := m) L (by omega) (by omega) (by omega) (k7.lam eP) (k7.code eC)
  have askV := ask_V (n := 1 + n) (m := m) L (by omega) (kv.lam MV.at_) (kv.code MV.co) (kv.tup _ _ ((Keep.ext MV.ext).tup _ _ upd_same))
  refine name_nx ?_
  generalize upd (upd H9 tv (.tup [.ref wv, .ref fV])) l (.lst [.ref tp, .ref tv]) = HX at lbX el etp etv ewp ewv askP askV ⊢
  have h9 : (σ3.set 9 (some (.ref l)))[9]? = some (some (.ref l)) := at_set (by rw [f3.1]; omega)
  have f4 := f3.set 9 (some (.ref l)) (by decide)
  have s5' : (σ3.set 9 (some (.ref l)))[5]? = some (some (.int ((1 + n : Nat) : Int))) := at_set' h5 (by decide)
  have s6' : (σ3.set 9 (some (.ref l)))[6]? = some (some (.int (m : Nat))) := at_set' h6 (by decide)
  generalize σ3.set 9 (some (.ref l)) = σ4 at h9 f4 s5' s6' ⊢
  have all : ∀ x ∈ [V.ref tp, .ref tv], ∃ (t wl fA : Addr) (wants : List (Option Str)) (kd : Bool), x = .ref t ∧ HX t = some (.tup [.ref wl, .ref fA]) ∧ HX wl = some (.lst (wants.map wantV)) ∧ AskAt (XL P w K mg base f cL A outer s H0 E0) L.CB HX fA (1 + n) m wants kd ∧ WantsOk wants ∧ KdOk kd m wants := by
    intro x hx
    rw [Nat.add_comm 1 n]
    simp only [List.mem_cons, List.mem_nil_iff, or_false] at hx
    rcases hx with rfl | rfl
    · exact ⟨tp, a, fP, _, true, rfl, etp, ewp, askP, wants_of (pt_wants (n + 1) (by omega) m hm (by omega)), pt_kd⟩
    · exact ⟨tv, wv, fV, _, false, rfl, etv, ewv, Nat.add_comm 1 n ▸ askV, wants_of (vl_wants m hm), vl_kd⟩
  refine ⟨_, h9, l, rfl, ⟨_, SqL.of el⟩, for_list (K := K) (a := l) (xs := [V.ref tp, .ref tv]) (fun i σ' H' => Frm [10, 11, 12, 13, 14, 15, 16, 17, 18] σ4 σ' ∧ Keep HX H' ∧ LB (TL_ tP) pen cl wr fi wrL fiL H' (k + 1 + 1 + 40 * i)) ⟨Frm.refl _, Keep.refl _, lbX⟩ (fun i σ' H' _ h => SqL.of (h.2.1.refs el)) (fun i x σ' H' hx h => ?_) fun σ' H' h => ?_⟩
  · obtain ⟨r1, r2, r3⟩ := h
    obtain ⟨t, wl, fA, wants, kd, rfl, q1, q2, q3, q4, q5⟩ := all x (List.mem_of_getElem? hx)
    have r4 := (r1.set 10 (some (.ref wl)) (by decide)).set 11 (some (.ref fA)) (by decide)
    have e10 : ((σ'.set 10 (some (.ref wl))).set 11 (some (.ref fA)))[10]? = some (some (.ref wl)) := at_set' (at_set (by rw [r1.1, f4.1]; omega)) (by decide)
    have e11 : ((σ'.set 10 (some (.ref wl))).set 11 (some (.ref fA)))[11]? = some (some (.ref fA)) := at_set (by rw [List.length_set, r1.1, f4.1]; omega)
    refine ⟨t, _, rfl, SqT.of (r2.tup _ _ q1), rfl, _, _, rfl, _, _, rfl, rfl, ?_⟩
    generalize (σ'.set 10 (some (.ref wl))).set 11 (some (.ref fA)) = σ5 at r4 e10 e11 ⊢
    have hi : i < 2 := (List.getElem?_eq_some_iff.mp hx).1
    refine ⟨⟨pen, cl, wr, fi, wrL, fiL, 1 + n, m⟩, wl, fA, wants, kd, k + 1 + 1 + 40 * i, ⟨r4.at (f4.at s1 (by decide)) (by decide), r4.at (f4.at s2 (by decide)) (by decide), r4.at (f4.at s3 (by decide)) (by decide), r4.at s5' (by decide), r4.at s6' (by decide), r3, ow, of, by rw [r4.1, f4.1, len]⟩, e10, e11, r2.wants q2, q3.keep r2, q4, q5, gf, by omega, fun σ'' H'' r5 k5 b5 => ?_⟩
    exact ⟨r4.trans (r5.mono (by decide)), r2.trans k5, b5.mono (by omega)⟩
  · obtain ⟨r1, r2, r3⟩ := h
    have r3 : LB (TL_ tP) pen cl wr fi wrL fiL H' (k + 1 + 1 + 40 * 2) := r3
    exact kk σ' H' (f4.trans (r1.mono (by decide))) (r3.mono (by omega))
end
end C94
end

section
set_option Elab.async false
set_option linter.all false
set_option maxRecDepth 100000
set_option maxHeartbeats 4000000
namespace C94
open PySem L2 PyProof.Rows TL LamX NdefX
open SX (S)
open S9
/-- a text, some times over -/
theorem op_repS {X : Cx} : OpR X (binaryOp .Mult) (fun x y H Q => ∃ i n, x = .str i ∧ y = .int n ∧ MulOk i n ∧ Q (.str (Txt.mul i n)) H) := by
  intro pins s σ H x y v u Q I rx ry h
  obtain ⟨i, n, rfl, rfl, hz, q⟩ := h
  obtain ⟨t, rfl⟩ := rx
  obtain ⟨t', rfl⟩ := ry
  exact SB.mul hz fun t' tk => ⟨.str (Txt.mul i n), H, I.tok _, ⟨_, rfl⟩, q⟩
abbrev WL0 : List Str := ["", "-0", "00", "01", "-01", "+1", "1/1", "2/4", "0/2", "-2/4", "1/-2", "1/0", "1//2", "/2", "1/", "-", "--1", "1.5", "x", ",", ".", "1/02"]
abbrev WL1 : List Str := [Txt.mul "9" 401, ("1/" : Str) ++ Txt.mul "9" 401, Txt.mul "9" 500, "\n", "1\n"]
abbrev WL : List Str := WL0 ++ WL1
abbrev FL : List Str := ["0", "-1", "7/3", "-5/2", ("1" : Str) ++ Txt.mul "0" 400, ("-1" : Str) ++ Txt.mul "0" 400, ("1/1" : Str) ++ Txt.mul "0" 400, "999999", "-999999/1000000"]
def fracL (l : List Nat) : Option (Int × Int) := frOf ((spl [47] 0 [] l).map intOfL)
theorem slash_tl : tl ("/" : Str) = [47] := by decide +kernel
theorem fracOf_L (z : Str) : fracOf z = fracL (tl z) := by
  have e := split_spl z "/" slash_ne (kind_ok slash_k)
  rw [slash_tl] at e
  unfold fracOf fracL
  rw [← e, List.map_map]
  rfl
theorem foldl_toList : ∀ (l : List (Array Nat)) (acc : Array Nat), (l.foldl (· ++ ·) acc).toList = acc.toList ++ (l.map Array.toList).flatten
  | [], acc => by simp
  | a :: l, acc => by
    rw [List.foldl_cons, foldl_toList l (acc ++ a), List.map_cons, List.flatten_cons, Array.toList_append, List.append_assoc]
theorem tl_mul {x : Str} {n : Int} (h1 : 2 ≤ n) (h2 : x.length ≠ 0) : tl (Txt.mul x n) = (List.replicate n.toNat (tl x)).flatten := by
  unfold Txt.mul
  rw [if_neg (by omega), if_neg (by simp; omega)]
  show ((List.replicate n.toNat x.cps).foldl (· ++ ·) #[]).toList = _
  rw [foldl_toList, List.map_replicate]
  rfl
theorem l9 : ("9" : Str).length ≠ 0 := by decide +kernel
theorem l0 : ("0" : Str).length ≠ 0 := by decide +kernel
theorem ok_WL : OkL WL := by
  refine ⟨(fun z => by cases z), by decide, fun y hy => ?_⟩
  rcases List.mem_append.mp hy with h | h
  · exact of_decide_eq_true (List.all_eq_true.mp (by decide +kernel : (WL0.all fun y => decide (y.length ≤ 1000)) = true) y h)
  · simp only [List.mem_cons, List.mem_nil_iff, or_false] at h
    rw [len_tl]
    rcases h with rfl | rfl | rfl | rfl | rfl
    · rw [tl_mul (by decide) l9]
      decide +kernel
    · rw [tl_append, tl_mul (by decide) l9]
      decide +kernel
    · rw [tl_mul (by decide) l9]
      decide +kernel
    · decide +kernel
    · decide +kernel
def goodL (l : List Nat) : Bool := (fracL l).isSome && decide (l.length ≤ 1000) && !l.contains 32
theorem good_of {y : Str} (h : goodL (tl y) = true) : GoodF y := by
  unfold goodL at h
  simp only [Bool.and_eq_true, decide_eq_true_eq] at h
  obtain ⟨⟨h1, h2⟩, h3⟩ := h
  refine ⟨?_, ?_, fun m => ?_⟩
  · obtain ⟨⟨n, d⟩, e⟩ := Option.isSome_iff_exists.mp h1
    exact ⟨n, d, by rw [fracOf_L, e]⟩
  · rw [len_tl]
    exact h2
  · rw [List.contains_iff_mem.mpr m] at h3
    exact absurd h3 (by decide)
theorem good_FL : ∀ y ∈ FL, GoodF y := fun y hy => by
  refine good_of ?_
  simp only [List.mem_cons, List.mem_nil_iff, or_false] at hy
  rcases hy with rfl | rfl | rfl | rfl | rfl | rfl | rfl | rfl | rfl
  · decide +kernel
  · decide +kernel
  · decide +kernel
  · decide +kernel
  · rw [tl_append, tl_mul (by decide) l0]
    decide +kernel
  · rw [tl_append, tl_mul (by decide) l0]
    decide +kernel
  · rw [tl_append, tl_mul (by decide) l0]
    decide +kernel
  · decide +kernel
  · decide +kernel
theorem ok_FL : OkL FL := ⟨(fun z => by cases z), by decide, fun y hy => (good_FL y hy).2.1⟩
end C94
end

section
set_option Elab.async false
set_option linter.all false
set_option maxRecDepth 100000
set_option maxHeartbeats 4000000
namespace C94
open PySem L2 PyProof.Rows TL LamX NdefX
open SX (S)
open S9
theorem passR {P : Program} {w : World} {X : Cx} : Passes (L2.CX P w) X L2.E0 := fun _ _ _ _ _ _ _ h => by
  obtain ⟨a, B, H', cls, d, _, _, _, _, _, _, _, z⟩ := h
  exact z.elim
theorem mul9 : MulOk "9" 401 := by
  unfold MulOk
  decide +kernel
theorem mul9b : MulOk "9" 500 := by
  unfold MulOk
  decide +kernel
theorem mul0 : MulOk "0" 400 := by
  unfold MulOk
  decide +kernel
theorem len9 : (Txt.mul "9" 401).length = 401 := by
  rw [len_tl, tl_mul (by decide) l9]
  decide +kernel
theorem len0 : (Txt.mul "0" 400).length = 400 := by
  rw [len_tl, tl_mul (by decide) l0]
  decide +kernel
theorem full_P : fullW (Txt.split "0" " ") (ptN (1 + 0) 1) = .inr [(0, 1)] := by decide +kernel
theorem full_V : fullW (Txt.split "-1/2 0" " ") (vlW 2) = .inr [(-1, 2), (0, 1)] := by decide +kernel
theorem PtsAt.one {H : Hp} {us : List V} {fss : List (List Fr)} (h : PtsAt H us fss) (l : us.length = 1) : ∃ a vs, us = [.ref a] ∧ H a = some (.tup vs) ∧ FrsAt H vs fss.flatten := by
  match us, fss, h, l with
  | [v], [f], h, _ =>
    obtain ⟨⟨a, vs, rfl, e, fr⟩, _⟩ := h
    exact ⟨a, vs, rfl, e, by rw [List.flatten_cons, List.flatten_nil, List.append_nil]; exact fr⟩
section
variable {P : Program} {w : World} {K : PySem.W.Frag} {mg : Str → Option Value} {base : Heap} {f cL tP : Addr}
def spLaw (K : PySem.W.Frag) (tP : Addr) : Sp := fun vs H Q _ => ∃ (a : Addr) (ns : List Int), vs = [.ref a] ∧ SqL K H a (ns.map V.int) ∧ ns.length ≤ 63 ∧ Tabs (TL_ tP) H ∧ ∀ H', Q (.bl true) H'
theorem walk_law {A : Around} {outer : List Env} {s : Shared} {H : Hp} {E : XK} (L : LD P w K mg base cL tP) (hr : Room 9 (A.deeper (envOfC "law" (defScope sLaw) s.heap.objs.size f (.ref cL)))) {a : Addr} {ns : List Int} (hS : SqL K H a (ns.map V.int)) (hl : ns.length ≤ 63) (ht : Tabs (TL_ tP) H) {Q : VK} (q : ∀ H', Q (.bl true) H') :
    ∃ t, PSs (XL P w K mg base f cL A outer s H E) (defBody sLaw) t ∧ t { nx := fun _ H' => Q .non H', rt := Q } (start NL [.ref a]) H := by
  have N := L.N
  have hr : Room 9 (XL P w K mg base f cL A outer s H E).A := hr
  have hu : (XL P w K mg base f cL A outer s H E).A.units + 64 < cLine := hr.units
  refine ⟨_, pss_cons (ps_set (i := 1) scL.nd rfl (Or.inr rfl) (pe_call L.pen.ok (hr.mono (by decide)) rfl L.pen.mg_ L.pen.kp L.pen.b .nil pass0 (pa_cons (pv 0) pa_nil)))
    (pss_cons (ps_set (i := 2) scL.nd rfl (Or.inl rfl) (pe_lst (pa_cons pe_str (pa_cons pe_str (pa_cons pe_str (pa_cons pe_str (pa_cons pe_str (pa_cons pe_str (pa_cons pe_str (pa_cons pe_str (pa_cons pe_str (pa_cons pe_str (pa_cons pe_str (pa_cons pe_str (pa_cons pe_str (pa_cons pe_str (pa_cons pe_str (pa_cons pe_str (pa_cons pe_str (pa_cons pe_str (pa_cons pe_str (pa_cons pe_str (pa_cons pe_str (pa_cons pe_str pa_nil))))))))))))))))))))))))
    (pss_cons (ps_set (i := 2) scL.nd rfl (Or.inl rfl) (pe_op op_cat (pv 2) (pe_lst (pa_cons (pe_op op_repS pe_str pe_int) (pa_cons (pe_op op_add_str pe_str (pe_op op_repS pe_str pe_int)) (pa_cons (pe_op op_repS pe_str pe_int) (pa_cons pe_str (pa_cons pe_str pa_nil))))))))
    (pss_cons (ps_set (i := 3) scL.nd rfl (Or.inr rfl) (pe_lst (pa_cons pe_str (pa_cons pe_str (pa_cons pe_str (pa_cons pe_str (pa_cons (pe_op op_add_str pe_str (pe_op op_repS pe_str pe_int)) (pa_cons (pe_op op_add_str pe_str (pe_op op_repS pe_str pe_int)) (pa_cons (pe_op op_add_str pe_str (pe_op op_repS pe_str pe_int)) (pa_cons pe_str (pa_cons pe_str pa_nil)))))))))))
    (pss_cons (ps_for PassesOwn.never rfl (pi_range1 rfl N.range (pa_cons pe_int pa_nil)) (pg_name (i := 4) scL.nd rfl (Or.inl rfl)) (blk_turn L hr))
    (pss_one (ps_ret (pe_and (pe_cmpR (op_eqD hu) (pe_call L.rp.ok (hr.mono (by decide)) rfl L.rp.mg_ L.rp.kp L.rp.b .nil (passR (X := XL P w K mg base f cL A outer s H E)) (pa_cons pe_str (pa_cons pe_int (pa_cons pe_int pa_nil)))) (pe_tup (pa_cons (pe_tup (pa_cons (pe_tup (pa_cons pe_int (pa_cons pe_int pa_nil))) pa_nil)) pa_nil)) (nomark _))
      (pe_one (pe_cmpR (op_eqD hu) (pe_call L.rv.ok (hr.mono (by decide)) rfl L.rv.mg_ L.rv.kp L.rv.b .nil (passR (X := XL P w K mg base f cL A outer s H E)) (pa_cons pe_str (pa_cons pe_int pa_nil))) (pe_tup (pa_cons (pe_tup (pa_cons (pe_un un_neg pe_int) (pa_cons pe_int pa_nil))) (pa_cons (pe_tup (pa_cons pe_int (pa_cons pe_int pa_nil))) pa_nil))) (nomark _)))))))))), ?_⟩
  refine seq_asg ?_
  refine ⟨_, rfl, a, ns, rfl, hS, hl, fun H1 pen cl h1 npen hpen => name_nx ?_⟩
  have t1 := ht.ext h1
  refine seq_asg ?_
  refine ⟨by show 22 ≤ sizeLine; decide, fun w0 hw0 => name_nx ?_⟩
  have h2 := same_upd (o := .lst (WL0.map V.str)) hw0
  have e2 : upd H1 w0 (.lst (WL0.map V.str)) w0 = some (.lst (WL0.map V.str)) := upd_same
  refine seq_asg ?_
  refine ⟨_, rfl, "9", 401, rfl, rfl, mul9, "9", 401, rfl, rfl, mul9, "1/", _, rfl, rfl, ?_, "9", 500, rfl, rfl, mul9b, by show 5 ≤ sizeLine; decide, fun w1 hw1 => ⟨w0, w1, WL0.map V.str, WL1.map V.str, rfl, rfl, ?_, upd_same, by show 27 ≤ sizeLine; decide, fun wr hwr => name_nx ?_⟩⟩
  · rw [len9]
    decide +kernel
  · exact same_upd hw1 _ _ e2
  have h3 := ((h2.trans (same_upd (o := .lst (WL1.map V.str)) hw1)).trans (same_upd (o := .lst (WL0.map V.str ++ WL1.map V.str)) hwr))
  have e3 : upd (upd (upd H1 w0 (.lst (WL0.map V.str))) w1 (.lst (WL1.map V.str))) wr (.lst (WL0.map V.str ++ WL1.map V.str)) wr = some (.lst (WL.map V.str)) := upd_same
  refine seq_asg ?_
  show (tLst _) _ (upd (upd (upd H1 w0 (.lst (WL0.map V.str))) w1 (.lst (WL1.map V.str))) wr (.lst (WL0.map V.str ++ WL1.map V.str))) _
  generalize upd (upd (upd H1 w0 (.lst (WL0.map V.str))) w1 (.lst (WL1.map V.str))) wr (.lst (WL0.map V.str ++ WL1.map V.str)) = H3 at h3 e3 ⊢
  have sz : ∀ x : Str, x.length ≤ 10 → x.length + (Txt.mul "0" 400).length ≤ sizeLine := fun x hx => by
    rw [len0]
    exact Nat.le_trans (Nat.add_le_add_right hx 400) (by decide)
  refine ⟨"0", 400, rfl, rfl, mul0, "1", _, rfl, rfl, sz _ (by decide +kernel), "0", 400, rfl, rfl, mul0, "-1", _, rfl, rfl, sz _ (by decide +kernel), "0", 400, rfl, rfl, mul0, "1/1", _, rfl, rfl, sz _ (by decide +kernel), by show 9 ≤ sizeLine; decide, fun fi hfi => name_nx ?_⟩
  have h4 := same_upd (o := .lst (FL.map V.str)) hfi
  have e4 : upd H3 fi (.lst (FL.map V.str)) fi = some (.lst (FL.map V.str)) := upd_same
  have e3 := h4 _ _ e3
  have s1 : ((((L2.start NL [V.ref a]).set 1 (some (V.ref pen))).set 2 (some (V.ref w0))).set 2 (some (V.ref wr))).set 3 (some (V.ref fi)) = [some (V.ref a), some (V.ref pen), some (V.ref wr), some (V.ref fi), none, none, none, none, none, none, none, none, none, none, none, none, none, none, none, none] := rfl
  show (tSeq _ _) _ (((((L2.start NL [V.ref a]).set 1 (some (V.ref pen))).set 2 (some (V.ref w0))).set 2 (some (V.ref wr))).set 3 (some (V.ref fi))) (upd H3 fi (.lst (FL.map V.str)))
  rw [s1]
  have h5 := (h1.trans h3).trans h4
  have t5 := ht.ext h5
  have p5 := hpen.same (h3.trans h4)
  generalize upd H3 fi (.lst (FL.map V.str)) = H5 at h4 e4 e3 h5 t5 p5 ⊢
  have lb : LB (TL_ tP) pen cl wr fi WL FL H5 0 := ⟨p5, e3, e4, t5⟩
  refine ⟨3, rfl, by decide, by decide, for_range (n := (3 : Int).toNat) (fun i σ' H' => Frm [4, 5, 6, 7, 8, 9, 10, 11, 12, 13, 14, 15, 16, 17, 18] [some (V.ref a), some (V.ref pen), some (V.ref wr), some (V.ref fi), none, none, none, none, none, none, none, none, none, none, none, none, none, none, none, none] σ' ∧ LB (TL_ tP) pen cl wr fi WL FL H' (100 * i)) ⟨Frm.refl _, lb⟩ (fun i σ' H' hi h => ?_) fun σ' H' h => ?_⟩
  · obtain ⟨g1, g2⟩ := h
    have g3 := g1.set 4 (some (V.int (0 + (i : Nat)))) (by decide)
    have hi : i < 3 := hi
    refine name_nx ⟨pen, cl, wr, fi, WL, FL, 100 * i, g3.at rfl (by decide), g3.at rfl (by decide), g3.at rfl (by decide), g2, ok_WL, ok_FL, good_FL, g3.1, by omega, fun σ'' H'' g4 b4 => ⟨g3.trans (g4.mono (by decide)), b4.mono (by omega)⟩⟩
  refine ⟨"0", 1, 0, rfl, by decide, by decide, by decide, by decide +kernel, (fun j ej => by rw [full_P] at ej; cases ej), fun fs ef H2 b us fss s2 eb pts efl lu => ?_⟩
  rw [full_P] at ef
  have ef := Sum.inr.inj ef
  subst ef
  obtain ⟨c, vs, rfl, ec, fr⟩ := pts.one lu
  rw [efl] at fr
  refine ⟨by show 2 ≤ sizeLine; decide, fun q1 n1 => ⟨by show 1 ≤ sizeLine; decide, fun q2 n2 => ⟨by show 1 ≤ sizeLine; decide, fun q3 n3 => ?_⟩⟩⟩
  have d1 := same_upd (o := .tup [V.int 0, .int 1]) n1
  have d2 := same_upd (o := .tup [V.ref q1]) n2
  have d3 := same_upd (o := .tup [V.ref q2]) n3
  have d := (d1.trans d2).trans d3
  refine ⟨.tuple [.tuple ([((0, 1) : Fr)].map frD)], .tuple [.tuple [.tuple [.int 0, .int 1]]], .tup (SqT.of (d _ _ eb)) (.cons (.tup (SqT.of (d _ _ ec)) (fr.keep (TupK.of d)).dp) .nil), .tup (SqT.of upd_same) (.cons (.tup (SqT.of (d3 _ _ upd_same)) (.cons (.tup (SqT.of (d3 _ _ (d2 _ _ upd_same))) (.cons (.int 0) (.cons (.int 1) .nil))) .nil)) .nil), by decide +kernel, by decide +kernel, true, ?_, iteT ?_⟩
  · rw [show PyData.eqv (.tuple [.tuple ([((0, 1) : Fr)].map frD)]) (.tuple [.tuple [.tuple [.int 0, .int 1]]]) = true from by decide +kernel]
  refine ⟨"-1/2 0", 2, rfl, by decide, by decide +kernel, (fun j ej => by rw [full_V] at ej; cases ej), fun fs ef H6 b us s6 eb fr => ?_⟩
  rw [full_V] at ef
  have ef := Sum.inr.inj ef
  subst ef
  refine ⟨1, rfl, by show 2 ≤ sizeLine; decide, fun q4 n4 => ⟨by show 2 ≤ sizeLine; decide, fun q5 n5 => ⟨by show 2 ≤ sizeLine; decide, fun q6 n6 => ?_⟩⟩⟩
  have d4 := same_upd (o := .tup [V.int (-1), .int 2]) n4
  have d5 := same_upd (o := .tup [V.int 0, .int 1]) n5
  have d6 := same_upd (o := .tup [V.ref q4, .ref q5]) n6
  have d := (d4.trans d5).trans d6
  refine ⟨.tuple ([((-1, 2) : Fr), (0, 1)].map frD), .tuple [.tuple [.int (-1), .int 2], .tuple [.int 0, .int 1]], .tup (SqT.of (d _ _ eb)) (fr.keep (TupK.of d)).dp, .tup (SqT.of upd_same) (.cons (.tup (SqT.of (d6 _ _ (d5 _ _ upd_same))) (.cons (.int _) (.cons (.int 2) .nil))) (.cons (.tup (SqT.of (d6 _ _ upd_same)) (.cons (.int 0) (.cons (.int 1) .nil))) .nil)), by decide +kernel, by decide +kernel, ?_⟩
  rw [show PyData.eqv (.tuple ([((-1, 2) : Fr), (0, 1)].map frD)) (.tuple [.tuple [.int (-1), .int 2], .tuple [.int 0, .int 1]]) = true from by decide +kernel]
  exact q _
theorem ok_law {oc : Value} {od an : Option Addr} {osl : Array (Option Value)} {dV kV doc pm ct : Value} (L : LD P w K mg base cL tP)
    (lk : K.lookup f = some ⟨oc, od, .func (PySem.W.fnOf "law" "law" (defArgs sLaw) (defBody sLaw) (defScope sLaw) dV kV doc pm an (.ref cL) ct), osl⟩) (hcd : PySem.W.codeIn K (.ref cL) "law" = true) :
    FnOk P w K mg base CX0 10 f (PySem.W.fnOf "law" "law" (defArgs sLaw) (defBody sLaw) (defScope sLaw) dV kV doc pm an (.ref cL) ct) ["script"] (spLaw K tP) := by
  refine fn_of lk hcd scL (fun vs H Q E h => ?_) fun A outer s H vs Q E hr h => ?_
  · obtain ⟨a, ns, rfl, _⟩ := h
    rfl
  · obtain ⟨a, ns, rfl, hS, hl, ht, q⟩ := h
    obtain ⟨t, h1, h2⟩ := walk_law L hr hS hl ht q
    exact ⟨t, h1.nox, h2⟩
end
end C94
end

section
set_option Elab.async false
set_option linter.all false
set_option maxRecDepth 100000
set_option maxHeartbeats 4000000
namespace C94
open PySem L2 PyProof.Rows TL LamX NdefX
open SX (S)
open S9
theorem kit_cls_ {K : PySem.W.Frag} {C D : Addr} {b : Bool} (hd : PySem.W.hasDictIn K C = true) (ht : PySem.W.typeIn K (.ref C) = some (.type "type")) (s : PySem.W.subIn K (.ref D) (.ref C) = some b) (hb : D ≠ C ∨ b = true := by first | exact .inr rfl | assumption) : PySem.W.kitOne K (.ref D) (.ref C) = some b := by
  obtain ⟨cd, hc, _⟩ := PySem.W.any_some hd
  have e2 : ((PySem.W.clsIn K C).isSome && PySem.W.typeIn K (.ref C) == some (.type "type")) = true := by rw [hc, ht] <;> rfl
  unfold PySem.W.kitOne
  by_cases h : (Value.ref D == Value.ref C) = true
  · rw [if_pos h]
    rcases hb with z | z
    · exact absurd (Value.ref.inj (eq_of_beq h)) z
    · rw [z]
  · rw [if_neg h]
    show (if ((PySem.W.clsIn K C).isSome && PySem.W.typeIn K (.ref C) == some (.type "type")) = true then PySem.W.subIn K (.ref D) (.ref C) else none) = some b
    rw [if_pos e2]
    exact s
theorem kit_self {K : PySem.W.Frag} {D : Addr} : PySem.W.kitOne K (.ref D) (.ref D) = some true := by
  unfold PySem.W.kitOne
  rw [if_pos (beq_self_eq_true _)]
theorem all_mk {l : PySem.W.OpenLaw} {w : World} {K : PySem.W.Frag} {h : Heap} {mg : Str → Option Value} {fa : Addr} (X : K.In h) (G : h.Ns mainGlobals mg) (hfa : mg "law" = some (.ref fa)) (part : ∃ t, mg "MOST_PART" = some (.int ((10 ^ 50) ^ 8) t))
    {C : Addr}
    {CB : Addr}
    {CC : Addr}
    {CT : Addr}
    {f_isFrac : Addr} {od_isFrac an_isFrac : Option Addr} {sl_isFrac : Array (Option Value)} {oc_isFrac kV_isFrac dc_isFrac pm_isFrac cd_isFrac ct_isFrac : Value}
    {f_isInt : Addr} {od_isInt an_isInt : Option Addr} {sl_isInt : Array (Option Value)} {oc_isInt kV_isInt dc_isInt pm_isInt cd_isInt ct_isInt : Value}
    {f_within : Addr} {od_within an_within : Option Addr} {sl_within : Array (Option Value)} {oc_within kV_within dc_within pm_within cd_within ct_within : Value}
    {f_needNum : Addr} {od_needNum an_needNum : Option Addr} {sl_needNum : Array (Option Value)} {oc_needNum kV_needNum dc_needNum pm_needNum cd_needNum ct_needNum : Value}
    {f_intOf : Addr} {od_intOf an_intOf : Option Addr} {sl_intOf : Array (Option Value)} {oc_intOf kV_intOf dc_intOf pm_intOf cd_intOf ct_intOf : Value}
    {f_fracOf : Addr} {od_fracOf an_fracOf : Option Addr} {sl_fracOf : Array (Option Value)} {oc_fracOf kV_fracOf dc_fracOf pm_fracOf cd_fracOf ct_fracOf : Value}
    {f_take : Addr} {od_take an_take : Option Addr} {sl_take : Array (Option Value)} {oc_take kV_take dc_take pm_take cd_take ct_take : Value}
    {f_point : Addr} {od_point an_point : Option Addr} {sl_point : Array (Option Value)} {oc_point kV_point dc_point pm_point cd_point ct_point : Value}
    {f_values : Addr} {od_values an_values : Option Addr} {sl_values : Array (Option Value)} {oc_values kV_values dc_values pm_values cd_values ct_values : Value}
    {f_readV : Addr} {od_readV an_readV : Option Addr} {sl_readV : Array (Option Value)} {oc_readV kV_readV dc_readV pm_readV cd_readV ct_readV : Value}
    {f_readP : Addr} {od_readP an_readP : Option Addr} {sl_readP : Array (Option Value)} {oc_readP kV_readP dc_readP pm_readP cd_readP ct_readP : Value}
    {f_pen : Addr} {od_pen an_pen : Option Addr} {sl_pen : Array (Option Value)} {oc_pen kV_pen dc_pen pm_pen cd_pen ct_pen : Value}
    {f_draw : Addr} {od_draw an_draw : Option Addr} {sl_draw : Array (Option Value)} {oc_draw kV_draw dc_draw pm_draw cd_draw ct_draw : Value}
    {f_pick : Addr} {od_pick an_pick : Option Addr} {sl_pick : Array (Option Value)} {oc_pick kV_pick dc_pick pm_pick cd_pick ct_pick : Value}
    {f_gcd : Addr} {od_gcd an_gcd : Option Addr} {sl_gcd : Array (Option Value)} {oc_gcd kV_gcd dc_gcd pm_gcd cd_gcd ct_gcd : Value}
    {f_heard : Addr} {od_heard an_heard : Option Addr} {sl_heard : Array (Option Value)} {oc_heard kV_heard dc_heard pm_heard cd_heard ct_heard : Value}
    {f_whole : Addr} {od_whole an_whole : Option Addr} {sl_whole : Array (Option Value)} {oc_whole kV_whole dc_whole pm_whole cd_whole ct_whole : Value}
    {f_lfrac : Addr} {od_lfrac an_lfrac : Option Addr} {sl_lfrac : Array (Option Value)} {oc_lfrac kV_lfrac dc_lfrac pm_lfrac cd_lfrac ct_lfrac : Value}
    {f_due : Addr} {od_due an_due : Option Addr} {sl_due : Array (Option Value)} {oc_due kV_due dc_due pm_due cd_due ct_due : Value}
    {f_init : Addr} {od_init an_init : Option Addr} {sl_init : Array (Option Value)} {oc_init kV_init dc_init pm_init cd_init ct_init : Value}
    {f_refuse : Addr} {od_refuse an_refuse : Option Addr} {sl_refuse : Array (Option Value)} {oc_refuse kV_refuse dc_refuse pm_refuse cd_refuse ct_refuse : Value}
    {f_next : Addr} {od_next an_next : Option Addr} {sl_next : Array (Option Value)} {oc_next kV_next dc_next pm_next cd_next ct_next : Value}
    {f_need : Addr} {od_need an_need : Option Addr} {sl_need : Array (Option Value)} {oc_need kV_need dc_need pm_need cd_need ct_need : Value}
    {f_frac : Addr} {od_frac an_frac : Option Addr} {sl_frac : Array (Option Value)} {oc_frac kV_frac dc_frac pm_frac cd_frac ct_frac : Value}
    {f_end : Addr} {od_end an_end : Option Addr} {sl_end : Array (Option Value)} {oc_end kV_end dc_end pm_end cd_end ct_end : Value}
    {f_law cL tP : Addr} {od_law an_law odc : Option Addr} {sl_law slc : Array (Option Value)} {oc_law kV_law dc_law pm_law ct_law occ : Value} {vsc : Array Value}
    {fB : Addr}
    {tS tD tN : Tok}
    (a_C : PySem.W.nsIn K mainGlobals "Words" = some (some (.ref C)))
    (a_CB : PySem.W.nsIn K mainGlobals "BadText" = some (some (.ref CB)))
    (a_CC : PySem.W.nsIn K mainGlobals "CutError" = some (some (.ref CC)))
    (a_CT : PySem.W.nsIn K mainGlobals "TooMany" = some (some (.ref CT)))
    (a_isFrac : PySem.W.nsIn K mainGlobals "is_frac" = some (some (.ref f_isFrac)))
    (l_isFrac : K.lookup f_isFrac = some ⟨oc_isFrac, od_isFrac, .func (PySem.W.fnOf "is_frac" "is_frac" (defArgs sIsFrac) (defBody sIsFrac) (defScope sIsFrac) .none kV_isFrac dc_isFrac pm_isFrac an_isFrac cd_isFrac ct_isFrac), sl_isFrac⟩)
    (c_isFrac : PySem.W.codeIn K cd_isFrac "is_frac" = true)
    (k_isFrac : PySem.W.keepIn K (.ref f_isFrac) = true)
    (a_isInt : PySem.W.nsIn K mainGlobals "is_integer" = some (some (.ref f_isInt)))
    (l_isInt : K.lookup f_isInt = some ⟨oc_isInt, od_isInt, .func (PySem.W.fnOf "is_integer" "is_integer" (defArgs sIsInt) (defBody sIsInt) (defScope sIsInt) .none kV_isInt dc_isInt pm_isInt an_isInt cd_isInt ct_isInt), sl_isInt⟩)
    (c_isInt : PySem.W.codeIn K cd_isInt "is_integer" = true)
    (k_isInt : PySem.W.keepIn K (.ref f_isInt) = true)
    (a_within : PySem.W.nsIn K mainGlobals "is_within" = some (some (.ref f_within)))
    (l_within : K.lookup f_within = some ⟨oc_within, od_within, .func (PySem.W.fnOf "is_within" "is_within" (defArgs sWithin) (defBody sWithin) (defScope sWithin) .none kV_within dc_within pm_within an_within cd_within ct_within), sl_within⟩)
    (c_within : PySem.W.codeIn K cd_within "is_within" = true)
    (k_within : PySem.W.keepIn K (.ref f_within) = true)
    (a_needNum : PySem.W.nsIn K mainGlobals "need_number" = some (some (.ref f_needNum)))
    (l_needNum : K.lookup f_needNum = some ⟨oc_needNum, od_needNum, .func (PySem.W.fnOf "need_number" "need_number" (defArgs sNeedNum) (defBody sNeedNum) (defScope sNeedNum) .none kV_needNum dc_needNum pm_needNum an_needNum cd_needNum ct_needNum), sl_needNum⟩)
    (c_needNum : PySem.W.codeIn K cd_needNum "need_number" = true)
    (k_needNum : PySem.W.keepIn K (.ref f_needNum) = true)
    (a_intOf : PySem.W.nsIn K mainGlobals "integer_of" = some (some (.ref f_intOf)))
    (l_intOf : K.lookup f_intOf = some ⟨oc_intOf, od_intOf, .func (PySem.W.fnOf "integer_of" "integer_of" (defArgs sIntOf) (defBody sIntOf) (defScope sIntOf) .none kV_intOf dc_intOf pm_intOf an_intOf cd_intOf ct_intOf), sl_intOf⟩)
    (c_intOf : PySem.W.codeIn K cd_intOf "integer_of" = true)
    (k_intOf : PySem.W.keepIn K (.ref f_intOf) = true)
    (a_fracOf : PySem.W.nsIn K mainGlobals "fraction_of" = some (some (.ref f_fracOf)))
    (l_fracOf : K.lookup f_fracOf = some ⟨oc_fracOf, od_fracOf, .func (PySem.W.fnOf "fraction_of" "fraction_of" (defArgs sFracOf) (defBody sFracOf) (defScope sFracOf) .none kV_fracOf dc_fracOf pm_fracOf an_fracOf cd_fracOf ct_fracOf), sl_fracOf⟩)
    (c_fracOf : PySem.W.codeIn K cd_fracOf "fraction_of" = true)
    (k_fracOf : PySem.W.keepIn K (.ref f_fracOf) = true)
    (a_take : PySem.W.nsIn K mainGlobals "take_fractions" = some (some (.ref f_take)))
    (l_take : K.lookup f_take = some ⟨oc_take, od_take, .func (PySem.W.fnOf "take_fractions" "take_fractions" (defArgs sTake) (defBody sTake) (defScope sTake) .none kV_take dc_take pm_take an_take cd_take ct_take), sl_take⟩)
    (c_take : PySem.W.codeIn K cd_take "take_fractions" = true)
    (k_take : PySem.W.keepIn K (.ref f_take) = true)
    (a_point : PySem.W.nsIn K mainGlobals "take_point" = some (some (.ref f_point)))
    (l_point : K.lookup f_point = some ⟨oc_point, od_point, .func (PySem.W.fnOf "take_point" "take_point" (defArgs sPoint) (defBody sPoint) (defScope sPoint) .none kV_point dc_point pm_point an_point cd_point ct_point), sl_point⟩)
    (c_point : PySem.W.codeIn K cd_point "take_point" = true)
    (k_point : PySem.W.keepIn K (.ref f_point) = true)
    (a_values : PySem.W.nsIn K mainGlobals "take_values" = some (some (.ref f_values)))
    (l_values : K.lookup f_values = some ⟨oc_values, od_values, .func (PySem.W.fnOf "take_values" "take_values" (defArgs sValues) (defBody sValues) (defScope sValues) .none kV_values dc_values pm_values an_values cd_values ct_values), sl_values⟩)
    (c_values : PySem.W.codeIn K cd_values "take_values" = true)
    (k_values : PySem.W.keepIn K (.ref f_values) = true)
    (a_readV : PySem.W.nsIn K mainGlobals "read_values" = some (some (.ref f_readV)))
    (l_readV : K.lookup f_readV = some ⟨oc_readV, od_readV, .func (PySem.W.fnOf "read_values" "read_values" (defArgs sReadV) (defBody sReadV) (defScope sReadV) .none kV_readV dc_readV pm_readV an_readV cd_readV ct_readV), sl_readV⟩)
    (c_readV : PySem.W.codeIn K cd_readV "read_values" = true)
    (k_readV : PySem.W.keepIn K (.ref f_readV) = true)
    (a_readP : PySem.W.nsIn K mainGlobals "read_point" = some (some (.ref f_readP)))
    (l_readP : K.lookup f_readP = some ⟨oc_readP, od_readP, .func (PySem.W.fnOf "read_point" "read_point" (defArgs sReadP) (defBody sReadP) (defScope sReadP) .none kV_readP dc_readP pm_readP an_readP cd_readP ct_readP), sl_readP⟩)
    (c_readP : PySem.W.codeIn K cd_readP "read_point" = true)
    (k_readP : PySem.W.keepIn K (.ref f_readP) = true)
    (a_pen : PySem.W.nsIn K mainGlobals "_law_pen" = some (some (.ref f_pen)))
    (l_pen : K.lookup f_pen = some ⟨oc_pen, od_pen, .func (PySem.W.fnOf "_law_pen" "_law_pen" (defArgs sPen) (defBody sPen) (defScope sPen) .none kV_pen dc_pen pm_pen an_pen cd_pen ct_pen), sl_pen⟩)
    (c_pen : PySem.W.codeIn K cd_pen "_law_pen" = true)
    (k_pen : PySem.W.keepIn K (.ref f_pen) = true)
    (a_draw : PySem.W.nsIn K mainGlobals "_law_draw" = some (some (.ref f_draw)))
    (l_draw : K.lookup f_draw = some ⟨oc_draw, od_draw, .func (PySem.W.fnOf "_law_draw" "_law_draw" (defArgs sDraw) (defBody sDraw) (defScope sDraw) .none kV_draw dc_draw pm_draw an_draw cd_draw ct_draw), sl_draw⟩)
    (c_draw : PySem.W.codeIn K cd_draw "_law_draw" = true)
    (k_draw : PySem.W.keepIn K (.ref f_draw) = true)
    (a_pick : PySem.W.nsIn K mainGlobals "_law_pick" = some (some (.ref f_pick)))
    (l_pick : K.lookup f_pick = some ⟨oc_pick, od_pick, .func (PySem.W.fnOf "_law_pick" "_law_pick" (defArgs sPick) (defBody sPick) (defScope sPick) .none kV_pick dc_pick pm_pick an_pick cd_pick ct_pick), sl_pick⟩)
    (c_pick : PySem.W.codeIn K cd_pick "_law_pick" = true)
    (k_pick : PySem.W.keepIn K (.ref f_pick) = true)
    (a_gcd : PySem.W.nsIn K mainGlobals "_law_gcd" = some (some (.ref f_gcd)))
    (l_gcd : K.lookup f_gcd = some ⟨oc_gcd, od_gcd, .func (PySem.W.fnOf "_law_gcd" "_law_gcd" (defArgs sGcd) (defBody sGcd) (defScope sGcd) .none kV_gcd dc_gcd pm_gcd an_gcd cd_gcd ct_gcd), sl_gcd⟩)
    (c_gcd : PySem.W.codeIn K cd_gcd "_law_gcd" = true)
    (k_gcd : PySem.W.keepIn K (.ref f_gcd) = true)
    (a_heard : PySem.W.nsIn K mainGlobals "_law_h_heard" = some (some (.ref f_heard)))
    (l_heard : K.lookup f_heard = some ⟨oc_heard, od_heard, .func (PySem.W.fnOf "_law_h_heard" "_law_h_heard" (defArgs sHeard) (defBody sHeard) (defScope sHeard) .none kV_heard dc_heard pm_heard an_heard cd_heard ct_heard), sl_heard⟩)
    (c_heard : PySem.W.codeIn K cd_heard "_law_h_heard" = true)
    (k_heard : PySem.W.keepIn K (.ref f_heard) = true)
    (a_whole : PySem.W.nsIn K mainGlobals "_law_is_whole" = some (some (.ref f_whole)))
    (l_whole : K.lookup f_whole = some ⟨oc_whole, od_whole, .func (PySem.W.fnOf "_law_is_whole" "_law_is_whole" (defArgs sWhole) (defBody sWhole) (defScope sWhole) .none kV_whole dc_whole pm_whole an_whole cd_whole ct_whole), sl_whole⟩)
    (c_whole : PySem.W.codeIn K cd_whole "_law_is_whole" = true)
    (k_whole : PySem.W.keepIn K (.ref f_whole) = true)
    (a_lfrac : PySem.W.nsIn K mainGlobals "_law_fraction_of" = some (some (.ref f_lfrac)))
    (l_lfrac : K.lookup f_lfrac = some ⟨oc_lfrac, od_lfrac, .func (PySem.W.fnOf "_law_fraction_of" "_law_fraction_of" (defArgs sLFrac) (defBody sLFrac) (defScope sLFrac) .none kV_lfrac dc_lfrac pm_lfrac an_lfrac cd_lfrac ct_lfrac), sl_lfrac⟩)
    (c_lfrac : PySem.W.codeIn K cd_lfrac "_law_fraction_of" = true)
    (k_lfrac : PySem.W.keepIn K (.ref f_lfrac) = true)
    (a_due : PySem.W.nsIn K mainGlobals "_law_due" = some (some (.ref f_due)))
    (l_due : K.lookup f_due = some ⟨oc_due, od_due, .func (PySem.W.fnOf "_law_due" "_law_due" (defArgs sDue) (defBody sDue) (defScope sDue) .none kV_due dc_due pm_due an_due cd_due ct_due), sl_due⟩)
    (c_due : PySem.W.codeIn K cd_due "_law_due" = true)
    (k_due : PySem.W.keepIn K (.ref f_due) = true)
    (a_init : PySem.W.findIn K (.ref C) "__init__" = some (some (.ref f_init)))
    (i_init : PySem.W.isFn K (.ref f_init) = true)
    (l_init : K.lookup f_init = some ⟨oc_init, od_init, .func (PySem.W.fnOf "__init__" "Words.__init__" (defArgs sInit) (defBody sInit) (defScope sInit) .none kV_init dc_init pm_init an_init cd_init ct_init), sl_init⟩)
    (c_init : PySem.W.codeIn K cd_init "Words.__init__" = true)
    (k_init : PySem.W.keepIn K (.ref f_init) = true)
    (a_refuse : PySem.W.findIn K (.ref C) "refuse" = some (some (.ref f_refuse)))
    (i_refuse : PySem.W.isFn K (.ref f_refuse) = true)
    (l_refuse : K.lookup f_refuse = some ⟨oc_refuse, od_refuse, .func (PySem.W.fnOf "refuse" "Words.refuse" (defArgs sRefuse) (defBody sRefuse) (defScope sRefuse) .none kV_refuse dc_refuse pm_refuse an_refuse cd_refuse ct_refuse), sl_refuse⟩)
    (c_refuse : PySem.W.codeIn K cd_refuse "Words.refuse" = true)
    (k_refuse : PySem.W.keepIn K (.ref f_refuse) = true)
    (a_next : PySem.W.findIn K (.ref C) "next" = some (some (.ref f_next)))
    (i_next : PySem.W.isFn K (.ref f_next) = true)
    (l_next : K.lookup f_next = some ⟨oc_next, od_next, .func (PySem.W.fnOf "next" "Words.next" (defArgs sNext) (defBody sNext) (defScope sNext) .none kV_next dc_next pm_next an_next cd_next ct_next), sl_next⟩)
    (c_next : PySem.W.codeIn K cd_next "Words.next" = true)
    (k_next : PySem.W.keepIn K (.ref f_next) = true)
    (a_need : PySem.W.findIn K (.ref C) "need" = some (some (.ref f_need)))
    (i_need : PySem.W.isFn K (.ref f_need) = true)
    (l_need : K.lookup f_need = some ⟨oc_need, od_need, .func (PySem.W.fnOf "need" "Words.need" (defArgs sNeed) (defBody sNeed) (defScope sNeed) .none kV_need dc_need pm_need an_need cd_need ct_need), sl_need⟩)
    (c_need : PySem.W.codeIn K cd_need "Words.need" = true)
    (k_need : PySem.W.keepIn K (.ref f_need) = true)
    (a_frac : PySem.W.findIn K (.ref C) "fraction" = some (some (.ref f_frac)))
    (i_frac : PySem.W.isFn K (.ref f_frac) = true)
    (l_frac : K.lookup f_frac = some ⟨oc_frac, od_frac, .func (PySem.W.fnOf "fraction" "Words.fraction" (defArgs sFrac) (defBody sFrac) (defScope sFrac) .none kV_frac dc_frac pm_frac an_frac cd_frac ct_frac), sl_frac⟩)
    (c_frac : PySem.W.codeIn K cd_frac "Words.fraction" = true)
    (k_frac : PySem.W.keepIn K (.ref f_frac) = true)
    (a_end : PySem.W.findIn K (.ref C) "need_end" = some (some (.ref f_end)))
    (i_end : PySem.W.isFn K (.ref f_end) = true)
    (l_end : K.lookup f_end = some ⟨oc_end, od_end, .func (PySem.W.fnOf "need_end" "Words.need_end" (defArgs sEnd) (defBody sEnd) (defScope sEnd) .none kV_end dc_end pm_end an_end cd_end ct_end), sl_end⟩)
    (c_end : PySem.W.codeIn K cd_end "Words.need_end" = true)
    (k_end : PySem.W.keepIn K (.ref f_end) = true)
    (a_law : PySem.W.nsIn K mainGlobals "law" = some (some (.ref f_law)))
    (l_law : K.lookup f_law = some ⟨oc_law, od_law, .func (PySem.W.fnOf "law" "law" (defArgs sLaw) (defBody sLaw) (defScope sLaw) .none kV_law dc_law pm_law an_law (.ref cL) ct_law), sl_law⟩)
    (c_law : PySem.W.codeIn K (.ref cL) "law" = true)
    (lc_law : K.lookup cL = some ⟨occ, odc, .fields vsc, slc⟩)
    (pg : PySem.W.plainGet K C Str.empty = true)
    (hd : PySem.W.hasDictIn K C = true)
    (po : PySem.W.plainOver K C = true)
    (sa : PySem.W.findIn K (.ref C) "__setattr__" = some (some (.builtin "object.__setattr__")))
    (mk : PySem.W.makesIn K C = true)
    (kC : PySem.W.keepIn K (.ref C) = true)
    (n_words : PySem.W.findIn K (.ref C) "words" = some none)
    (n_line : PySem.W.findIn K (.ref C) "line" = some none)
    (n_many : PySem.W.findIn K (.ref C) "many" = some none)
    (z_isinstance : PySem.W.nsIn K mainGlobals "isinstance" = some none)
    (z_len : PySem.W.nsIn K mainGlobals "len" = some none)
    (z_list : PySem.W.nsIn K mainGlobals "list" = some none)
    (z_tuple : PySem.W.nsIn K mainGlobals "tuple" = some none)
    (z_all : PySem.W.nsIn K mainGlobals "all" = some none)
    (z_int : PySem.W.nsIn K mainGlobals "int" = some none)
    (z_bool : PySem.W.nsIn K mainGlobals "bool" = some none)
    (z_str : PySem.W.nsIn K mainGlobals "str" = some none)
    (z_abs : PySem.W.nsIn K mainGlobals "abs" = some none)
    (z_range : PySem.W.nsIn K mainGlobals "range" = some none)
    (z_enumerate : PySem.W.nsIn K mainGlobals "enumerate" = some none)
    (z_sum : PySem.W.nsIn K mainGlobals "sum" = some none)
    (z_super : PySem.W.nsIn K mainGlobals "super" = some none)
    (v_gcd : PySem.W.nsIn K mainGlobals "gcd" = some (some (.builtin "math.gcd")))
    (v_signs : PySem.W.nsIn K mainGlobals "MOST_SIGNS" = some (some (.int 402 tS)))
    (v_digits : PySem.W.nsIn K mainGlobals "DIGITS" = some (some (.str "0123456789" tD)))
    (v_nowhere : PySem.W.nsIn K mainGlobals "NOWHERE" = some (some (.str "." tN)))
    (kB : PySem.W.keepIn K (.ref CB) = true)
    (eB : PySem.W.subIn K (.ref CB) (.type "BaseException") = some true)
    (tB : PySem.W.typeIn K (.ref CB) = some (.type "type"))
    (nBL : PySem.W.findIn K (.ref CB) "line" = some none)
    (nBW : PySem.W.findIn K (.ref CB) "word" = some none)
    (bsa : PySem.W.findIn K (.ref CB) "__setattr__" = some (some (.builtin "object.__setattr__")))
    (bga : PySem.W.findIn K (.ref CB) "__getattribute__" = some (some (.builtin "BaseException.__getattribute__")))
    (bgg : PySem.W.findIn K (.ref CB) "__getattr__" = some none)
    (bca : PySem.W.findIn K (.ref CB) "__class__" = some (some (.builtin "object.__class__")))
    (bnn : PySem.W.specialIn K (.builtin "object.__class__") "__get__" = some (some (.builtin "getset_descriptor.__get__")))
    (btk : PySem.W.takesIn K (.builtin "object.__class__") = some true)
    (bmr : PySem.W.mroIn K CB (.type "object") = some true)
    (bhd : PySem.W.hasDictIn K CB = true)
    (eC : PySem.W.subIn K (.ref CC) (.type "BaseException") = some true)
    (hC : PySem.W.hasDictIn K CC = true)
    (tC_ : PySem.W.typeIn K (.ref CC) = some (.type "type"))
    (sBC : PySem.W.subIn K (.ref CB) (.ref CC) = some true)
    (hT : PySem.W.hasDictIn K CT = true)
    (tT : PySem.W.typeIn K (.ref CT) = some (.type "type"))
    (sBT : PySem.W.subIn K (.ref CB) (.ref CT) = some false)
    (xI : PySem.W.findIn K (.ref CB) "__init__" = some (some (.ref fB)))
    (xT : PySem.W.typeIn K (.ref fB) = some (.type "function"))
    (xTP : PySem.W.nsIn K cStatics "thirdparty.any" = some none)
    (xC : ∃ nm q N bs bm sn sub ab col dd k0 k1 k2 k3 k5, K.lookup CB = some (excClassObj nm q CB N bs bm true sn sub ab col dd k0 k1 k2 k3 k5 "ValueError.__new__") ∧ PySem.HandSPX.refsVE bm = true)
    (xU : PySem.W.ks_superIn K CB CB "__init__" = some (some (.builtin "ValueError.__init__")))
    (xS : (l.prog.main.scope.names.lookup ("super" : Str)).isSome = false)
    (xF : ∃ (oc : Value) (od : Option Addr) (kV doc pm : Value) (an : Option Addr) (cda : Addr) (ct : Value) (osl : Array (Option Value)) (cc : Addr) (cl : Value) (cld : Option Addr) (csl : Array (Option Value)) (ccl : Value) (cdd : Option Addr) (vs : Array Value) (ccs : Array (Option Value)) (fl : Str) (tf : Tok), K.lookup fB = some ⟨oc, od, .func (PySem.W.ksFn "__init__" "BadText.__init__" (defArgs sBadText) (defBody sBadText) (defScope sBadText) .none kV doc pm an (.ref cda) ct cc), osl⟩ ∧ PySem.W.codeIn K (.ref cda) "BadText.__init__" = true ∧ K.lookup cc = some ⟨cl, cld, .cell (some (.ref CB)), csl⟩ ∧ K.lookup cda = some ⟨ccl, cdd, .fields vs, ccs⟩ ∧ vs[2]? = some (.str fl tf) ∧ ((l.prog.main.file : Str) == fl) = true)
    (tab : h.get? tP = some { cls := .none, data := .fields #[] })
    (noT : K.lookup tP = none)
    (cH : PySem.W.codeHdIn K cL tP = true)
    (vT : vsc[11]? = some (.ref tP))
    (neT : CB ≠ CT)
    : LawAtS l w K CX0 10 63 "script" mg fa h := by
  have e := hfa.symm.trans (PySem.W.mg_of X G a_law)
  cases e
  have N : Names mg := ⟨PySem.W.mg_none_of X G z_isinstance, PySem.W.mg_none_of X G z_len, PySem.W.mg_none_of X G z_list, PySem.W.mg_none_of X G z_tuple, PySem.W.mg_none_of X G z_all, PySem.W.mg_none_of X G z_int, PySem.W.mg_none_of X G z_bool, PySem.W.mg_none_of X G z_str, PySem.W.mg_none_of X G z_abs, PySem.W.mg_none_of X G z_range, PySem.W.mg_none_of X G z_enumerate, PySem.W.mg_none_of X G z_sum, PySem.W.mg_of X G v_gcd, ⟨_, PySem.W.mg_of X G v_signs⟩, part, ⟨_, PySem.W.mg_of X G v_digits⟩, ⟨_, PySem.W.mg_of X G v_nowhere⟩⟩
  have T : WTxt K mg C := ⟨⟨pg, hd, po, sa⟩, n_words, n_line, n_many, PySem.W.mg_of X G a_C⟩
  have B : BadTxt l.prog K mg CB fB := ⟨⟨xC, bsa, xI, xT, xU, xTP, z_super, xS, xF⟩, PySem.W.mg_of X G a_CB, kB, eB, tB, nBL, nBW, PySem.W.mg_none_of X G z_super⟩
  have HT_ : HTxt K mg CC CT CB := ⟨PySem.W.mg_of X G a_CC, PySem.W.mg_of X G a_CT, PySem.W.mg_of X G a_CB, PySem.W.exm_ref eC hC tC_ sBC, kit_cls_ hT tT sBT (.inl neT), kit_self, ⟨by obtain ⟨cd, q, _⟩ := PySem.W.any_some bhd; rw [q]; rfl, bga, bgg, eB, bca, bnn, btk, bmr⟩, ⟨bga, bgg, eB, bhd⟩, nBL, nBW⟩
  have F_isFrac : Fun K "is_frac" "is_frac" sIsFrac f_isFrac _ := fun_mk (st := sIsFrac) l_isFrac c_isFrac k_isFrac
  have b_isFrac := F_isFrac.binds (ps := ["value"]) fun _ _ _ _ _ _ us hl => match us, hl with | [_], _ => rfl
  have F_isInt : Fun K "is_integer" "is_integer" sIsInt f_isInt _ := fun_mk (st := sIsInt) l_isInt c_isInt k_isInt
  have b_isInt := F_isInt.binds (ps := ["value"]) fun _ _ _ _ _ _ us hl => match us, hl with | [_], _ => rfl
  have F_within : Fun K "is_within" "is_within" sWithin f_within _ := fun_mk (st := sWithin) l_within c_within k_within
  have b_within := F_within.binds (ps := ["value", "least", "most"]) fun _ _ _ _ _ _ us hl => match us, hl with | [_, _, _], _ => rfl
  have F_needNum : Fun K "need_number" "need_number" sNeedNum f_needNum _ := fun_mk (st := sNeedNum) l_needNum c_needNum k_needNum
  have b_needNum := F_needNum.binds (ps := ["value", "part", "least", "most"]) fun _ _ _ _ _ _ us hl => match us, hl with | [_, _, _, _], _ => rfl
  have F_intOf : Fun K "integer_of" "integer_of" sIntOf f_intOf _ := fun_mk (st := sIntOf) l_intOf c_intOf k_intOf
  have b_intOf := F_intOf.binds (ps := ["word"]) fun _ _ _ _ _ _ us hl => match us, hl with | [_], _ => rfl
  have F_fracOf : Fun K "fraction_of" "fraction_of" sFracOf f_fracOf _ := fun_mk (st := sFracOf) l_fracOf c_fracOf k_fracOf
  have b_fracOf := F_fracOf.binds (ps := ["word"]) fun _ _ _ _ _ _ us hl => match us, hl with | [_], _ => rfl
  have F_take : Fun K "take_fractions" "take_fractions" sTake f_take _ := fun_mk (st := sTake) l_take c_take k_take
  have b_take := F_take.binds (ps := ["words", "many"]) fun _ _ _ _ _ _ us hl => match us, hl with | [_, _], _ => rfl
  have F_point : Fun K "take_point" "take_point" sPoint f_point _ := fun_mk (st := sPoint) l_point c_point k_point
  have b_point := F_point.binds (ps := ["words", "dimension", "sliders"]) fun _ _ _ _ _ _ us hl => match us, hl with | [_, _, _], _ => rfl
  have F_values : Fun K "take_values" "take_values" sValues f_values _ := fun_mk (st := sValues) l_values c_values k_values
  have b_values := F_values.binds (ps := ["words", "many"]) fun _ _ _ _ _ _ us hl => match us, hl with | [_, _], _ => rfl
  have F_readV : Fun K "read_values" "read_values" sReadV f_readV _ := fun_mk (st := sReadV) l_readV c_readV k_readV
  have b_readV := F_readV.binds (ps := ["text", "sliders"]) fun _ _ _ _ _ _ us hl => match us, hl with | [_, _], _ => rfl
  have F_readP : Fun K "read_point" "read_point" sReadP f_readP _ := fun_mk (st := sReadP) l_readP c_readP k_readP
  have b_readP := F_readP.binds (ps := ["text", "dimension", "sliders"]) fun _ _ _ _ _ _ us hl => match us, hl with | [_, _, _], _ => rfl
  have F_pen : Fun K "_law_pen" "_law_pen" sPen f_pen _ := fun_mk (st := sPen) l_pen c_pen k_pen
  have b_pen := F_pen.binds (ps := ["script"]) fun _ _ _ _ _ _ us hl => match us, hl with | [_], _ => rfl
  have F_draw : Fun K "_law_draw" "_law_draw" sDraw f_draw _ := fun_mk (st := sDraw) l_draw c_draw k_draw
  have b_draw := F_draw.binds (ps := ["pen", "many"]) fun _ _ _ _ _ _ us hl => match us, hl with | [_, _], _ => rfl
  have F_pick : Fun K "_law_pick" "_law_pick" sPick f_pick _ := fun_mk (st := sPick) l_pick c_pick k_pick
  have b_pick := F_pick.binds (ps := ["pen", "some"]) fun _ _ _ _ _ _ us hl => match us, hl with | [_, _], _ => rfl
  have F_gcd : Fun K "_law_gcd" "_law_gcd" sGcd f_gcd _ := fun_mk (st := sGcd) l_gcd c_gcd k_gcd
  have b_gcd := F_gcd.binds (ps := ["numbers"]) fun _ _ _ _ _ _ us hl => match us, hl with | [_], _ => rfl
  have F_heard : Fun K "_law_h_heard" "_law_h_heard" sHeard f_heard _ := fun_mk (st := sHeard) l_heard c_heard k_heard
  have b_heard := F_heard.binds (ps := ["ask"]) fun _ _ _ _ _ _ us hl => match us, hl with | [_], _ => rfl
  have F_whole : Fun K "_law_is_whole" "_law_is_whole" sWhole f_whole _ := fun_mk (st := sWhole) l_whole c_whole k_whole
  have b_whole := F_whole.binds (ps := ["word"]) fun _ _ _ _ _ _ us hl => match us, hl with | [_], _ => rfl
  have F_lfrac : Fun K "_law_fraction_of" "_law_fraction_of" sLFrac f_lfrac _ := fun_mk (st := sLFrac) l_lfrac c_lfrac k_lfrac
  have b_lfrac := F_lfrac.binds (ps := ["word"]) fun _ _ _ _ _ _ us hl => match us, hl with | [_], _ => rfl
  have F_due : Fun K "_law_due" "_law_due" sDue f_due _ := fun_mk (st := sDue) l_due c_due k_due
  have b_due := F_due.binds (ps := ["words", "wanted"]) fun _ _ _ _ _ _ us hl => match us, hl with | [_, _], _ => rfl
  have F_init : Fun K "__init__" "Words.__init__" sInit f_init _ := fun_mk (st := sInit) l_init c_init k_init
  have b_init := F_init.binds (ps := ["self", "text", "line"]) fun _ _ _ _ _ _ us hl => match us, hl with | [_, _, _], _ => rfl
  have F_refuse : Fun K "refuse" "Words.refuse" sRefuse f_refuse _ := fun_mk (st := sRefuse) l_refuse c_refuse k_refuse
  have b_refuse := F_refuse.binds (ps := ["self"]) fun _ _ _ _ _ _ us hl => match us, hl with | [_], _ => rfl
  have F_next : Fun K "next" "Words.next" sNext f_next _ := fun_mk (st := sNext) l_next c_next k_next
  have b_next := F_next.binds (ps := ["self"]) fun _ _ _ _ _ _ us hl => match us, hl with | [_], _ => rfl
  have F_need : Fun K "need" "Words.need" sNeed f_need _ := fun_mk (st := sNeed) l_need c_need k_need
  have b_need := F_need.binds (ps := ["self", "word"]) fun _ _ _ _ _ _ us hl => match us, hl with | [_, _], _ => rfl
  have F_frac : Fun K "fraction" "Words.fraction" sFrac f_frac _ := fun_mk (st := sFrac) l_frac c_frac k_frac
  have b_frac := F_frac.binds (ps := ["self"]) fun _ _ _ _ _ _ us hl => match us, hl with | [_], _ => rfl
  have F_end : Fun K "need_end" "Words.need_end" sEnd f_end _ := fun_mk (st := sEnd) l_end c_end k_end
  have b_end := F_end.binds (ps := ["self"]) fun _ _ _ _ _ _ us hl => match us, hl with | [_], _ => rfl
  have g_isFrac := PySem.W.mg_of X G a_isFrac
  have g_isInt := PySem.W.mg_of X G a_isInt
  have g_within := PySem.W.mg_of X G a_within
  have g_needNum := PySem.W.mg_of X G a_needNum
  have g_intOf := PySem.W.mg_of X G a_intOf
  have g_fracOf := PySem.W.mg_of X G a_fracOf
  have g_take := PySem.W.mg_of X G a_take
  have g_point := PySem.W.mg_of X G a_point
  have g_values := PySem.W.mg_of X G a_values
  have g_readV := PySem.W.mg_of X G a_readV
  have g_readP := PySem.W.mg_of X G a_readP
  have g_pen := PySem.W.mg_of X G a_pen
  have g_draw := PySem.W.mg_of X G a_draw
  have g_pick := PySem.W.mg_of X G a_pick
  have g_gcd := PySem.W.mg_of X G a_gcd
  have g_heard := PySem.W.mg_of X G a_heard
  have g_whole := PySem.W.mg_of X G a_whole
  have g_lfrac := PySem.W.mg_of X G a_lfrac
  have g_due := PySem.W.mg_of X G a_due
  have m_init : Meth K C "__init__" f_init := ⟨a_init, i_init, k_init⟩
  have m_refuse : Meth K C "refuse" f_refuse := ⟨a_refuse, i_refuse, k_refuse⟩
  have m_next : Meth K C "next" f_next := ⟨a_next, i_next, k_next⟩
  have m_need : Meth K C "need" f_need := ⟨a_need, i_need, k_need⟩
  have m_frac : Meth K C "fraction" f_frac := ⟨a_frac, i_frac, k_frac⟩
  have m_end : Meth K C "need_end" f_end := ⟨a_end, i_end, k_end⟩
  have M : Mk K C f_init := ⟨mk, a_init, i_init, kC⟩
  have LDof : ∀ base : Heap, TabB base mg cL tP → LD l.prog w K mg base cL tP := fun base TB => by
    have o_isInt := ok_isInt (P := l.prog) (w := w) (base := base) F_isInt N
    have o_within := ok_within F_within o_isInt g_isInt k_isInt b_isInt
    have o_needNum := ok_needNum F_needNum o_within g_within k_within b_within
    have o_isFrac := ok_isFrac (P := l.prog) (w := w) (base := base) F_isFrac N
    have o_intOf := ok_intOf (P := l.prog) (w := w) (base := base) F_intOf N
    have o_fracOf := ok_fracOf F_fracOf N o_intOf g_intOf k_intOf b_intOf o_isFrac g_isFrac k_isFrac b_isFrac
    have o_init := ok_init (P := l.prog) (w := w) (base := base) F_init N T
    have o_refuse := ok_refuse (P := l.prog) (w := w) (base := base) F_refuse T B
    have o_next := ok_next (P := l.prog) (w := w) (base := base) F_next N T
    have o_need := ok_need F_need T o_next m_next b_next o_refuse m_refuse b_refuse
    have o_frac := ok_frac F_frac T o_next m_next b_next o_refuse m_refuse b_refuse o_fracOf g_fracOf k_fracOf b_fracOf
    have o_end := ok_end F_end N T o_refuse m_refuse b_refuse
    have o_take := ok_take F_take N T o_frac m_frac b_frac
    have o_point := ok_point F_point N T o_take g_take k_take b_take o_need m_need b_need
    have o_values := ok_values F_values N T o_take g_take k_take b_take o_need m_need b_need
    have o_readV := ok_readV F_readV T M o_needNum g_needNum k_needNum b_needNum o_init b_init o_values g_values k_values b_values o_end m_end b_end
    have o_readP := ok_readP F_readP T M o_needNum g_needNum k_needNum b_needNum o_init b_init o_point g_point k_point b_point o_end m_end b_end
    have o_pen := ok_pen (P := l.prog) (w := w) (base := base) F_pen N
    have o_draw := ok_draw (P := l.prog) (w := w) (base := base) F_draw N
    have o_pick := ok_pick F_pick N o_draw g_draw k_draw b_draw
    have o_gcd := ok_gcd (P := l.prog) (w := w) (base := base) F_gcd N
    have o_whole := ok_whole (P := l.prog) (w := w) (mg := mg) (base := base) F_whole
    have o_lfrac := ok_lfrac F_lfrac N o_whole g_whole k_whole b_whole o_gcd g_gcd k_gcd b_gcd
    have o_due := ok_due F_due N o_lfrac g_lfrac k_lfrac b_lfrac
    exact ⟨N, ⟨_, _, o_pen, g_pen, k_pen, b_pen⟩, ⟨_, _, o_draw, g_draw, k_draw, b_draw⟩, ⟨_, _, o_pick, g_pick, k_pick, b_pick⟩, ⟨_, _, o_due, g_due, k_due, b_due⟩, CC, CT, CB, ⟨_, _, o_readP, g_readP, k_readP, b_readP⟩, ⟨_, _, o_readV, g_readV, k_readV, b_readV⟩, f_heard, _, F_heard, g_heard, b_heard, HT_, TB⟩
  have cHd := PySem.W.codeHd_of_K X cH
  refine ⟨PySem.W.fnOf "law" "law" (defArgs sLaw) (defBody sLaw) (defScope sLaw) .none kV_law dc_law pm_law an_law (.ref cL) ct_law, [(cL, tP)], spLaw K tP, fun p hp => ?_, fun p hp => ?_, fun p hp => ?_, fun s u => .of_eq rfl, fun H a ns hl _ hH hS => ⟨a, ns, rfl, hS, hl, fun p hp => ?_, fun _ => rfl⟩, fun base _ _ TB => ok_law (LDof base (TB _ (List.mem_singleton.mpr rfl))) l_law c_law⟩
  · cases List.mem_singleton.mp hp
    exact tab
  · cases List.mem_singleton.mp hp
    exact noT
  · cases List.mem_singleton.mp hp
    exact cHd
  · cases List.mem_singleton.mp hp
    exact TabS.nil (hH _ (List.mem_singleton.mpr rfl))
theorem xc_mk {K : PySem.W.Frag} {CB : Addr} {nm q N bs bm sn sub ab col dd k0 k1 k2 k3 k5} (p : K.lookup CB = some (excClassObj nm q CB N bs bm true sn sub ab col dd k0 k1 k2 k3 k5 "ValueError.__new__")) (r : PySem.HandSPX.refsVE bm = true) :
    ∃ nm q N bs bm sn sub ab col dd k0 k1 k2 k3 k5, K.lookup CB = some (excClassObj nm q CB N bs bm true sn sub ab col dd k0 k1 k2 k3 k5 "ValueError.__new__") ∧ PySem.HandSPX.refsVE bm = true := ⟨_, _, _, _, _, _, _, _, _, _, _, _, _, _, _, p, r⟩
theorem xf_mk {l : PySem.W.OpenLaw} {K : PySem.W.Frag} {CB fB : Addr} {oc : Value} {od : Option Addr} {kV doc pm : Value} {an : Option Addr} {cda : Addr} {ct : Value} {osl : Array (Option Value)} {cc : Addr} {cl : Value} {cld : Option Addr} {csl : Array (Option Value)} {ccl : Value} {cdd : Option Addr} {vs : Array Value} {ccs : Array (Option Value)} {fl : Str} {tf : Tok}
    (p1 : K.lookup fB = some ⟨oc, od, .func (PySem.W.ksFn "__init__" "BadText.__init__" (defArgs sBadText) (defBody sBadText) (defScope sBadText) .none kV doc pm an (.ref cda) ct cc), osl⟩) (p2 : PySem.W.codeIn K (.ref cda) "BadText.__init__" = true) (p3 : K.lookup cc = some ⟨cl, cld, .cell (some (.ref CB)), csl⟩) (p4 : K.lookup cda = some ⟨ccl, cdd, .fields vs, ccs⟩) (p5 : vs[2]? = some (.str fl tf)) (p6 : ((l.prog.main.file : Str) == fl) = true) :
    ∃ (oc : Value) (od : Option Addr) (kV doc pm : Value) (an : Option Addr) (cda : Addr) (ct : Value) (osl : Array (Option Value)) (cc : Addr) (cl : Value) (cld : Option Addr) (csl : Array (Option Value)) (ccl : Value) (cdd : Option Addr) (vs : Array Value) (ccs : Array (Option Value)) (fl : Str) (tf : Tok), K.lookup fB = some ⟨oc, od, .func (PySem.W.ksFn "__init__" "BadText.__init__" (defArgs sBadText) (defBody sBadText) (defScope sBadText) .none kV doc pm an (.ref cda) ct cc), osl⟩ ∧ PySem.W.codeIn K (.ref cda) "BadText.__init__" = true ∧ K.lookup cc = some ⟨cl, cld, .cell (some (.ref CB)), csl⟩ ∧ K.lookup cda = some ⟨ccl, cdd, .fields vs, ccs⟩ ∧ vs[2]? = some (.str fl tf) ∧ ((l.prog.main.file : Str) == fl) = true := ⟨_, _, _, _, _, _, _, _, _, _, _, _, _, _, _, _, _, _, _, p1, p2, p3, p4, p5, p6⟩
theorem int_lit {mg : Str → Option Value} {h : Heap} {N : Int} {p : Program} {lv : List (Str × PySem.W.WData)} {x : Str} (X : PySem.W.XL p lv mg h) (m : (x, PySem.W.WData.int N) ∈ lv) : ∃ t, mg x = some (.int N t) := by
  obtain ⟨v, e, r⟩ := X.2.val _ m
  cases r
  exact ⟨_, e⟩
theorem walk {l : PySem.W.OpenLaw} {q : Program} {loose : List Str} {XP : (Str → Option Value) → Heap → Prop} {YP : World → Heap → Prop} {d : DefRec} {K : Params → PySem.W.Frag} (hn : l.most = some 63) (hdf : d.params.defaults = []) (hY : ∀ (w : World) (h : Heap), YP w h → (K w.params).In h)
    (F : ∀ (w : World) (mg : Str → Option Value) (fa : Addr) (h : Heap), YP w h → (K w.params).In h → h.Ns mainGlobals mg → mg d.name = some (.ref fa) → XP mg h → LawAtS l w (K w.params) CX0 10 63 "script" mg fa h) :
    PySem.W.WalkO q loose XP YP l.row.toRowW d [] (fun f vs => PySem.call f vs) := by
  refine _root_.Att.attach_callB hn hdf fun w s₀ s₁ mg mb fa o pm cd doc a vs ns G Y ho hd hcd hmg hobj hints hlen hbits hg => ?_
  have KX := hY w _ Y
  obtain ⟨fd, cs, sp, hT, nT, C, hb, hsp, hF⟩ := F w mg fa _ Y KX G.T.g hmg G.X
  exact law_callTs KX G.T.g G.T.b G.T.builtins G.T.nolimit hg hT nT C G.T.bmain hobj hints (Nat.le_trans hlen (by decide)) ⟨rfl, by decide, by decide⟩ hF hb (fun H hH hS => hsp H a ns hlen hbits hH hS) fun H e s' z => z

end C94
end

section
set_option Elab.async false
set_option linter.all false
set_option maxRecDepth 100000

open PySem PySem.W PyProof.Rows in
set_option maxRecDepth 100000 in
set_option maxHeartbeats 0 in
theorem PySem.Challenge.cw_slidercuts_k94_texts_of_values_and_point_holds : PySem.Challenge.rw_slidercuts_k94_texts_of_values_and_point.Holds := by
  w_on; o_law; k_head; (case hw => w_witness2)
  k_fill
  refine C94.walk (l := PySem.Challenge.rw_slidercuts_k94_texts_of_values_and_point) rfl rfl (fun w h Y => PySem.W.km_in_of Y) ?F
  case F =>
    intro w mg fa h Y KX G hmg XP
    refine' C94.all_mk KX G hmg ?part ?a_C ?a_CB ?a_CC ?a_CT ?a_isFrac ?l_isFrac ?c_isFrac ?k_isFrac ?a_isInt ?l_isInt ?c_isInt ?k_isInt ?a_within ?l_within ?c_within ?k_within ?a_needNum ?l_needNum ?c_needNum ?k_needNum ?a_intOf ?l_intOf ?c_intOf ?k_intOf ?a_fracOf ?l_fracOf ?c_fracOf ?k_fracOf ?a_take ?l_take ?c_take ?k_take ?a_point ?l_point ?c_point ?k_point ?a_values ?l_values ?c_values ?k_values ?a_readV ?l_readV ?c_readV ?k_readV ?a_readP ?l_readP ?c_readP ?k_readP ?a_pen ?l_pen ?c_pen ?k_pen ?a_draw ?l_draw ?c_draw ?k_draw ?a_pick ?l_pick ?c_pick ?k_pick ?a_gcd ?l_gcd ?c_gcd ?k_gcd ?a_heard ?l_heard ?c_heard ?k_heard ?a_whole ?l_whole ?c_whole ?k_whole ?a_lfrac ?l_lfrac ?c_lfrac ?k_lfrac ?a_due ?l_due ?c_due ?k_due ?a_init ?i_init ?l_init ?c_init ?k_init ?a_refuse ?i_refuse ?l_refuse ?c_refuse ?k_refuse ?a_next ?i_next ?l_next ?c_next ?k_next ?a_need ?i_need ?l_need ?c_need ?k_need ?a_frac ?i_frac ?l_frac ?c_frac ?k_frac ?a_end ?i_end ?l_end ?c_end ?k_end ?a_law ?l_law ?c_law ?lc_law ?pg ?hd ?po ?sa ?mk ?kC ?n_words ?n_line ?n_many ?z_isinstance ?z_len ?z_list ?z_tuple ?z_all ?z_int ?z_bool ?z_str ?z_abs ?z_range ?z_enumerate ?z_sum ?z_super ?v_gcd ?v_signs ?v_digits ?v_nowhere ?kB ?eB ?tB ?nBL ?nBW ?bsa ?bga ?bgg ?bca ?bnn ?btk ?bmr ?bhd ?eC ?hC ?tC_ ?sBC ?hT ?tT ?sBT ?xI ?xT ?xTP ?xC ?xU ?xS ?xF ?tab ?noT ?cH ?vT ?neT
    (case a_C => k_is)
    (case a_CB => k_is)
    (case a_CC => k_is)
    (case a_CT => k_is)
    (case a_isFrac => k_is)
    (case l_isFrac => k_is)
    (case c_isFrac => k_is)
    (case k_isFrac => k_is)
    (case a_isInt => k_is)
    (case l_isInt => k_is)
    (case c_isInt => k_is)
    (case k_isInt => k_is)
    (case a_within => k_is)
    (case l_within => k_is)
    (case c_within => k_is)
    (case k_within => k_is)
    (case a_needNum => k_is)
    (case l_needNum => k_is)
    (case c_needNum => k_is)
    (case k_needNum => k_is)
    (case a_intOf => k_is)
    (case l_intOf => k_is)
    (case c_intOf => k_is)
    (case k_intOf => k_is)
    (case a_fracOf => k_is)
    (case l_fracOf => k_is)
    (case c_fracOf => k_is)
    (case k_fracOf => k_is)
    (case a_take => k_is)
    (case l_take => k_is)
    (case c_take => k_is)
    (case k_take => k_is)
    (case a_point => k_is)
    (case l_point => k_is)
    (case c_point => k_is)
    (case k_point => k_is)
    (case a_values => k_is)
    (case l_values => k_is)
    (case c_values => k_is)
    (case k_values => k_is)
    (case a_readV => k_is)
    (case l_readV => k_is)
    (case c_readV => k_is)
    (case k_readV => k_is)
    (case a_readP => k_is)
    (case l_readP => k_is)
    (case c_readP => k_is)
    (case k_readP => k_is)
    (case a_pen => k_is)
    (case l_pen => k_is)
    (case c_pen => k_is)
    (case k_pen => k_is)
    (case a_draw => k_is)
    (case l_draw => k_is)
    (case c_draw => k_is)
    (case k_draw => k_is)
    (case a_pick => k_is)
    (case l_pick => k_is)
    (case c_pick => k_is)
    (case k_pick => k_is)
    (case a_gcd => k_is)
    (case l_gcd => k_is)
    (case c_gcd => k_is)
    (case k_gcd => k_is)
    (case a_heard => k_is)
    (case l_heard => k_is)
    (case c_heard => k_is)
    (case k_heard => k_is)
    (case a_whole => k_is)
    (case l_whole => k_is)
    (case c_whole => k_is)
    (case k_whole => k_is)
    (case a_lfrac => k_is)
    (case l_lfrac => k_is)
    (case c_lfrac => k_is)
    (case k_lfrac => k_is)
    (case a_due => k_is)
    (case l_due => k_is)
    (case c_due => k_is)
    (case k_due => k_is)
    (case a_init => k_is)
    (case i_init => k_is)
    (case l_init => k_is)
    (case c_init => k_is)
    (case k_init => k_is)
    (case a_refuse => k_is)
    (case i_refuse => k_is)
    (case l_refuse => k_is)
    (case c_refuse => k_is)
    (case k_refuse => k_is)
    (case a_next => k_is)
    (case i_next => k_is)
    (case l_next => k_is)
    (case c_next => k_is)
    (case k_next => k_is)
    (case a_need => k_is)
    (case i_need => k_is)
    (case l_need => k_is)
    (case c_need => k_is)
    (case k_need => k_is)
    (case a_frac => k_is)
    (case i_frac => k_is)
    (case l_frac => k_is)
    (case c_frac => k_is)
    (case k_frac => k_is)
    (case a_end => k_is)
    (case i_end => k_is)
    (case l_end => k_is)
    (case c_end => k_is)
    (case k_end => k_is)
    (case a_law => k_is)
    (case l_law => k_is)
    (case c_law => k_is)
    (case lc_law => k_is)
    (case pg => k_is)
    (case hd => k_is)
    (case po => k_is)
    (case sa => k_is)
    (case mk => k_is)
    (case kC => k_is)
    (case n_words => k_is)
    (case n_line => k_is)
    (case n_many => k_is)
    (case z_isinstance => k_is)
    (case z_len => k_is)
    (case z_list => k_is)
    (case z_tuple => k_is)
    (case z_all => k_is)
    (case z_int => k_is)
    (case z_bool => k_is)
    (case z_str => k_is)
    (case z_abs => k_is)
    (case z_range => k_is)
    (case z_enumerate => k_is)
    (case z_sum => k_is)
    (case z_super => k_is)
    (case v_gcd => k_is)
    (case v_signs => k_is)
    (case v_digits => k_is)
    (case v_nowhere => k_is)
    (case kB => k_is)
    (case eB => k_is)
    (case tB => k_is)
    (case nBL => k_is)
    (case nBW => k_is)
    (case bsa => k_is)
    (case bga => k_is)
    (case bgg => k_is)
    (case bca => k_is)
    (case bnn => k_is)
    (case btk => k_is)
    (case bmr => k_is)
    (case bhd => k_is)
    (case eC => k_is)
    (case hC => k_is)
    (case tC_ => k_is)
    (case sBC => k_is)
    (case hT => k_is)
    (case tT => k_is)
    (case sBT => k_is)
    (case xI => k_is)
    (case xT => k_is)
    (case xTP => k_is)
    (case part => exact C94.int_lit (N := (10 ^ 50) ^ 8) XP (List.mem_singleton.mpr (by rfl)))
    (case vT => rfl)
    (case xC =>
      refine' C94.xc_mk ?xc1 ?xc2
      (case xc1 => k_is)
      (case xc2 => rfl))
    (case xU => kernel_rfl)
    (case xS => rfl)
    (case xF =>
      refine' C94.xf_mk ?xf1 ?xf2 ?xf3 ?xf4 ?xf5 ?xf6
      (case xf1 => k_is)
      (case xf2 => k_is)
      (case xf3 => k_is)
      (case xf4 => k_is)
      (case xf5 => rfl)
      (case xf6 => rfl))
    (case tab => exact PySem.W.km_tabs_of Y _ (List.mem_singleton.mpr rfl))
    (case noT => kernel_rfl)
    (case cH => kernel_rfl)
    (case neT => decide)
end
